/- Walks. -/
import Derived.Test.YtlcpdlngbofgcaaM1
set_option linter.unusedVariables false
set_option linter.unusedSimpArgs false
set_option maxRecDepth 4000
namespace Go.Proofs.Ytlcpdlngbofgcaa
open Go Go.Proofs Go.Sep
set_option maxHeartbeats 1000000 in
/-- laws.szRelation -/
theorem m_laws_szRelation_ok (a0 : Relation) (left1 : Int) (r : Int) (H : m_laws_szRelation a0 left1 = some r) : FnV prg 91 [(.g (tRelation.enc a0)), (intA left1)] (intA r) := by
  unfold m_laws_szRelation at H
  refine fnV_of_T Try.func91 rfl rfl (Nat.le_of_ble_eq_true rfl) ?_
  refine T_env (E' := [(0, (.g (tRelation.enc a0))), (1, (intA left1))]) ⟨rfl, rfl, trivial⟩ ?_
  refine T_seq ?_
  refine T_region ?_
  refine TO_cons rfl (TOp_box rfl (boxAll rfl) rfl rfl ?_)
  refine TO_cons rfl (TOp_pure (pur_assign rfl) rfl ?_)
  refine TO_nil ?_
  refine T_env (E' := [(1, (intA left1)), (2, (.b 0 0))]) ⟨rfl, rfl, trivial⟩ ?_
  refine T_seq ?_
  refine T_region ?_
  refine TO_cons rfl (TOp_pure (pur_move rfl) rfl ?_)
  refine TO_cons rfl (TOp_pure (pur_fa_b fld99_0 rfl rfl) rfl ?_)
  refine TO_cons rfl (TOp_pure (pur_ld_b one9 rfl rfl rfl rfl) rfl ?_)
  refine TO_cons rfl (TOp_pure (pur_len_s (by kernel_rfl) rfl rfl) rfl ?_)
  refine TO_cons rfl (TOp_pure (pur_wsub rfl rfl rfl) rfl ?_)
  refine TO_cons rfl (TOp_pure (pur_assign rfl) rfl ?_)
  refine TO_nil ?_
  refine T_env (E' := [(1, (intA (w64 (left1 - (a0.name.size : Int)))))]) ⟨rfl, trivial⟩ ?_
  refine T_seq ?_
  refine T_seq ?_
  refine T_region ?_
  refine TO_cons rfl (TOp_pure (pur_move rfl) rfl ?_)
  refine TO_cons rfl (TOp_pure (pur_lss rfl rfl rfl) rfl ?_)
  refine TO_nil ?_
  refine T_env (E' := [(1, (intA (w64 (left1 - (a0.name.size : Int))))), (11, (boolA (decide ((w64 (left1 - (a0.name.size : Int))) < 0))))]) ⟨rfl, rfl, trivial⟩ ?_
  refine T_cond (t := decide ((w64 (left1 - (a0.name.size : Int))) < 0)) rfl (fun c_1 => ?_) (fun c_1 => ?_)
  · replace H := cond_t c_1 H
    refine T_seq ?_
    refine T_region ?_
    refine TO_cons rfl (TOp_pure (pur_assign rfl) rfl ?_)
    refine TO_nil ?_
    refine T_env (E' := [(4, (intA (-1)))]) ⟨rfl, trivial⟩ ?_
    refine T_ret ?_
    refine then_ret ?_
    obtain rfl := some_inj H
    refine end_ret (.tmp .nil) rfl rfl ⟨?_, rfl⟩
    rfl
  · replace H := cond_f c_1 H
    refine T_skip ?_
    refine T_env (E' := [(1, (intA (w64 (left1 - (a0.name.size : Int)))))]) ⟨rfl, trivial⟩ ?_
    refine T_seq ?_
    refine T_region ?_
    refine TO_cons rfl (TOp_pure (pur_move rfl) rfl ?_)
    refine TO_cons rfl (TOp_pure (pur_assign rfl) rfl ?_)
    refine TO_nil ?_
    refine T_env (E' := [(4, (intA (w64 (left1 - (a0.name.size : Int)))))]) ⟨rfl, trivial⟩ ?_
    refine T_ret ?_
    obtain rfl := some_inj H
    refine end_ret (.tmp .nil) rfl rfl ⟨?_, rfl⟩
    rfl

set_option maxHeartbeats 1000000 in
/-- laws.szRelationS -/
theorem m_laws_szRelationS_ok (a0 : (List Relation)) (left1 : Int) (r : Int) (H : m_laws_szRelationS a0 left1 = some r) : FnV prg 62 [(sl tRelation a0), (intA left1)] (intA r) := by
  unfold m_laws_szRelationS at H
  refine fnV_of_T Try.func62 rfl rfl (Nat.le_of_ble_eq_true rfl) ?_
  refine T_env (E' := [(0, (sl tRelation a0)), (1, (intA left1))]) ⟨rfl, rfl, trivial⟩ ?_
  refine T_seq ?_
  refine T_region ?_
  refine TO_cons rfl (TOp_pure (pur_assign rfl) rfl ?_)
  refine TO_nil ?_
  refine T_env (E' := [(0, (sl tRelation a0)), (1, (intA left1))]) ⟨rfl, rfl, trivial⟩ ?_
  refine T_seq ?_
  refine T_region ?_
  refine TO_cons rfl (TOp_pure (pur_move rfl) rfl ?_)
  refine TO_cons rfl (TOp_pure (pur_move rfl) rfl ?_)
  refine TO_cons rfl (TOp_pure (pur_lenT (T := tRelation) sl38 rfl rfl) rfl ?_)
  refine TO_cons rfl (TOp_pure (pur_wsub rfl rfl rfl) rfl ?_)
  refine TO_cons rfl (TOp_pure (pur_assign rfl) rfl ?_)
  refine TO_nil ?_
  refine T_env (E' := [(0, (sl tRelation a0)), (1, (intA (w64 (left1 - (a0.length : Int)))))]) ⟨rfl, rfl, trivial⟩ ?_
  refine T_seq ?_
  refine T_seq ?_
  refine T_region ?_
  refine TO_cons rfl (TOp_pure (pur_move rfl) rfl ?_)
  refine TO_cons rfl (TOp_pure (pur_lss rfl rfl rfl) rfl ?_)
  refine TO_nil ?_
  refine T_env (E' := [(0, (sl tRelation a0)), (1, (intA (w64 (left1 - (a0.length : Int))))), (11, (boolA (decide ((w64 (left1 - (a0.length : Int))) < 0))))]) ⟨rfl, rfl, rfl, trivial⟩ ?_
  refine T_cond (t := decide ((w64 (left1 - (a0.length : Int))) < 0)) rfl (fun c_1 => ?_) (fun c_1 => ?_)
  · replace H := cond_t c_1 H
    refine T_seq ?_
    refine T_region ?_
    refine TO_cons rfl (TOp_pure (pur_assign rfl) rfl ?_)
    refine TO_nil ?_
    refine T_env (E' := [(4, (intA (-1)))]) ⟨rfl, trivial⟩ ?_
    refine T_ret ?_
    refine then_ret ?_
    obtain rfl := some_inj H
    refine end_ret (.tmp .nil) rfl rfl ⟨?_, rfl⟩
    rfl
  · replace H := cond_f c_1 H
    refine T_skip ?_
    refine T_env (E' := [(0, (sl tRelation a0)), (1, (intA (w64 (left1 - (a0.length : Int)))))]) ⟨rfl, rfl, trivial⟩ ?_
    refine T_seq ?_
    refine T_seq ?_
    refine T_region ?_
    refine TO_cons rfl (TOp_pure (pur_assign rfl) rfl ?_)
    refine TO_nil ?_
    refine T_env (E' := [(0, (sl tRelation a0)), (1, (intA (w64 (left1 - (a0.length : Int))))), (5, (intA 0))]) ⟨rfl, rfl, rfl, trivial⟩ ?_
    obtain ⟨O3_, L3_, N3_⟩ := bind_inv H
    clear H
    obtain ⟨B3_, hb3, L3_⟩ := gen_forL L3_
    refine T_block ?_
    refine T_loopX (fun k => fun (x_ : Nat × Int) => k = a0.length - x_.1 ∧ forL B3_ (a0.drop x_.1) (x_.1 : Int) x_.2 = some O3_) (fun (x_ : Nat × Int) => [(0, (sl tRelation a0)), (1, (intA x_.2)), (5, (intA (x_.1 : Int)))]) (fun (x_ : Nat × Int) => []) _ (0, (w64 (left1 - (a0.length : Int)))) (WeakL.to 0 (Nat.le_of_ble_eq_true rfl) rfl rfl rfl rfl ⟨leR rfl, leR rfl, leR rfl, trivial⟩) ⟨rfl, L3_⟩ ?_
    rintro _ ⟨i_2, left1⟩ ⟨rfl, L3_⟩
    refine T_env (E' := [(0, (sl tRelation a0)), (1, (intA left1)), (5, (intA (i_2 : Int)))]) ⟨rfl, rfl, rfl, trivial⟩ ?_
    refine T_st (σ' := []) rfl ?_
    refine T_fact (len_sl (T := tRelation) (.tmp 0) rfl) (fun hl3 => ?_)
    refine T_seq ?_
    refine T_seq ?_
    refine T_region ?_
    refine TO_cons rfl (TOp_pure (pur_move rfl) rfl ?_)
    refine TO_cons rfl (TOp_pure (pur_move rfl) rfl ?_)
    refine TO_cons rfl (TOp_pure (pur_lenT (T := tRelation) sl38 rfl rfl) rfl ?_)
    refine TO_cons rfl (TOp_pure (pur_lss rfl rfl rfl) rfl ?_)
    refine TO_nil ?_
    refine T_env (E' := [(0, (sl tRelation a0)), (1, (intA left1)), (5, (intA (i_2 : Int))), (15, (boolA (decide ((i_2 : Int) < (a0.length : Int)))))]) ⟨rfl, rfl, rfl, rfl, trivial⟩ ?_
    refine T_cond (t := decide ((i_2 : Int) < (a0.length : Int))) rfl (fun d3 => ?_) (fun d3 => ?_)
    · replace d3 := of_decide_eq_true d3
      obtain ⟨x_i_2, hx_i_2⟩ : ∃ v, (a0)[i_2]? = some v := ⟨_, List.getElem?_eq_getElem (by omega)⟩
      obtain ⟨C3_, H, K3_⟩ := forL_step L3_ hx_i_2
      rw [hb3] at H
      refine T_skip ?_
      refine T_env (E' := [(0, (sl tRelation a0)), (1, (intA left1)), (5, (intA (i_2 : Int)))]) ⟨rfl, rfl, rfl, trivial⟩ ?_
      refine T_seq ?_
      refine T_block ?_
      refine T_seq ?_
      refine T_region ?_
      refine TO_cons rfl (TOp_pure (pur_move rfl) rfl ?_)
      refine TO_cons rfl (TOp_pure (pur_move rfl) rfl ?_)
      refine TO_cons rfl (TOp_pure (pur_ixT (T := tRelation) sl38 rfl rfl rfl hx_i_2 rfl) rfl ?_)
      refine TO_cons rfl (TOp_pure (pur_ldTK (T := tRelation) (i := i_2) (off := 0) rfl agg99 rfl rfl hx_i_2 (by decide) rfl) rfl ?_)
      refine TO_cons rfl (TOp_pure (pur_move rfl) rfl ?_)
      obtain ⟨r_4, h_5, H⟩ := bind_inv H
      refine TO_cons rfl (TOp_callV (call_static ent91 rfl) (m_laws_szRelation_ok _ _ _ h_5) rfl rfl rfl ?_)
      refine TO_cons rfl (TOp_pure (pur_assign rfl) rfl ?_)
      refine TO_nil ?_
      refine T_env (E' := [(0, (sl tRelation a0)), (1, (intA r_4)), (5, (intA (i_2 : Int)))]) ⟨rfl, rfl, rfl, trivial⟩ ?_
      refine T_seq ?_
      refine T_region ?_
      refine TO_cons rfl (TOp_pure (pur_move rfl) rfl ?_)
      refine TO_cons rfl (TOp_pure (pur_lss rfl rfl rfl) rfl ?_)
      refine TO_nil ?_
      refine T_env (E' := [(0, (sl tRelation a0)), (1, (intA r_4)), (5, (intA (i_2 : Int))), (25, (boolA (decide (r_4 < 0))))]) ⟨rfl, rfl, rfl, rfl, trivial⟩ ?_
      refine T_cond (t := decide (r_4 < 0)) rfl (fun c_6 => ?_) (fun c_6 => ?_)
      · replace H := cond_t c_6 H
        refine T_seq ?_
        refine T_region ?_
        refine TO_cons rfl (TOp_pure (pur_assign rfl) rfl ?_)
        refine TO_nil ?_
        refine T_env (E' := [(4, (intA (-1)))]) ⟨rfl, trivial⟩ ?_
        refine T_ret ?_
        refine block_ret ?_
        refine then_ret ?_
        refine then_ret ?_
        refine block_ret ?_
        refine then_ret ?_
        obtain rfl := some_inj H
        obtain rfl := some_inj K3_
        replace H := onS_r N3_
        obtain rfl := some_inj H
        refine end_ret (.tmp .nil) rfl rfl ⟨?_, rfl⟩
        rfl
      · replace H := cond_f c_6 H
        refine T_skip ?_
        refine T_env (E' := [(0, (sl tRelation a0)), (1, (intA r_4)), (5, (intA (i_2 : Int)))]) ⟨rfl, rfl, rfl, trivial⟩ ?_
        refine T_region ?_
        refine TO_cons rfl (TOp_pure (pur_move rfl) rfl ?_)
        refine TO_cons rfl (TOp_pure (pur_add rfl rfl rfl (fits64 (by omega) (by omega))) rfl ?_)
        refine TO_cons rfl (TOp_pure (pur_assign rfl) rfl ?_)
        refine TO_nil ?_
        obtain rfl := some_inj H
        exact again (a0.length - (i_2 + 1)) (i_2 + 1, r_4) (by omega) (WeakL.to 0 (Nat.le_of_ble_eq_true rfl) rfl rfl rfl rfl ⟨leR rfl, leR rfl, leR rfl, trivial⟩) ⟨rfl, K3_⟩
    · replace d3 := of_decide_eq_false d3
      obtain rfl := forL_end L3_ (by omega)
      refine T_exit ?_
      refine then_exit ?_
      refine then_exit ?_
      refine block_exit ?_
      replace H := onS_l N3_
      refine T_env (E' := [(1, (intA left1))]) ⟨rfl, trivial⟩ ?_
      refine T_seq ?_
      refine T_region ?_
      refine TO_cons rfl (TOp_pure (pur_move rfl) rfl ?_)
      refine TO_cons rfl (TOp_pure (pur_assign rfl) rfl ?_)
      refine TO_nil ?_
      refine T_env (E' := [(4, (intA left1))]) ⟨rfl, trivial⟩ ?_
      refine T_ret ?_
      obtain rfl := some_inj H
      refine end_ret (.tmp .nil) rfl rfl ⟨?_, rfl⟩
      rfl

set_option maxHeartbeats 1000000 in
/-- laws.szIntS -/
theorem m_laws_szIntS_ok (a0 : (List Int)) (left1 : Int) (r : Int) (H : m_laws_szIntS a0 left1 = some r) : FnV prg 46 [(sl tInt a0), (intA left1)] (intA r) := by
  unfold m_laws_szIntS at H
  refine fnV_of_T Try.func46 rfl rfl (Nat.le_of_ble_eq_true rfl) ?_
  refine T_env (E' := [(0, (sl tInt a0)), (1, (intA left1))]) ⟨rfl, rfl, trivial⟩ ?_
  refine T_seq ?_
  refine T_region ?_
  refine TO_cons rfl (TOp_pure (pur_assign rfl) rfl ?_)
  refine TO_nil ?_
  refine T_env (E' := [(0, (sl tInt a0)), (1, (intA left1))]) ⟨rfl, rfl, trivial⟩ ?_
  refine T_seq ?_
  refine T_region ?_
  refine TO_cons rfl (TOp_pure (pur_move rfl) rfl ?_)
  refine TO_cons rfl (TOp_pure (pur_move rfl) rfl ?_)
  refine TO_cons rfl (TOp_pure (pur_lenT (T := tInt) sl33 rfl rfl) rfl ?_)
  refine TO_cons rfl (TOp_pure (pur_wsub rfl rfl rfl) rfl ?_)
  refine TO_cons rfl (TOp_pure (pur_assign rfl) rfl ?_)
  refine TO_nil ?_
  refine T_env (E' := [(1, (intA (w64 (left1 - (a0.length : Int)))))]) ⟨rfl, trivial⟩ ?_
  refine T_seq ?_
  refine T_seq ?_
  refine T_region ?_
  refine TO_cons rfl (TOp_pure (pur_move rfl) rfl ?_)
  refine TO_cons rfl (TOp_pure (pur_lss rfl rfl rfl) rfl ?_)
  refine TO_nil ?_
  refine T_env (E' := [(1, (intA (w64 (left1 - (a0.length : Int))))), (10, (boolA (decide ((w64 (left1 - (a0.length : Int))) < 0))))]) ⟨rfl, rfl, trivial⟩ ?_
  refine T_cond (t := decide ((w64 (left1 - (a0.length : Int))) < 0)) rfl (fun c_1 => ?_) (fun c_1 => ?_)
  · replace H := cond_t c_1 H
    refine T_seq ?_
    refine T_region ?_
    refine TO_cons rfl (TOp_pure (pur_assign rfl) rfl ?_)
    refine TO_nil ?_
    refine T_env (E' := [(4, (intA (-1)))]) ⟨rfl, trivial⟩ ?_
    refine T_ret ?_
    refine then_ret ?_
    obtain rfl := some_inj H
    refine end_ret (.tmp .nil) rfl rfl ⟨?_, rfl⟩
    rfl
  · replace H := cond_f c_1 H
    refine T_skip ?_
    refine T_env (E' := [(1, (intA (w64 (left1 - (a0.length : Int)))))]) ⟨rfl, trivial⟩ ?_
    refine T_seq ?_
    refine T_region ?_
    refine TO_cons rfl (TOp_pure (pur_move rfl) rfl ?_)
    refine TO_cons rfl (TOp_pure (pur_assign rfl) rfl ?_)
    refine TO_nil ?_
    refine T_env (E' := [(4, (intA (w64 (left1 - (a0.length : Int)))))]) ⟨rfl, trivial⟩ ?_
    refine T_ret ?_
    obtain rfl := some_inj H
    refine end_ret (.tmp .nil) rfl rfl ⟨?_, rfl⟩
    rfl

set_option maxHeartbeats 1000000 in
/-- laws.szFact -/
theorem m_laws_szFact_ok (a0 : Fact) (left1 : Int) (r : Int) (H : m_laws_szFact a0 left1 = some r) : FnV prg 92 [(.g (tFact.enc a0)), (intA left1)] (intA r) := by
  unfold m_laws_szFact at H
  refine fnV_of_T Try.func92 rfl rfl (Nat.le_of_ble_eq_true rfl) ?_
  refine T_env (E' := [(0, (.g (tFact.enc a0))), (1, (intA left1))]) ⟨rfl, rfl, trivial⟩ ?_
  refine T_seq ?_
  refine T_region ?_
  refine TO_cons rfl (TOp_box rfl (boxAll rfl) rfl rfl ?_)
  refine TO_cons rfl (TOp_pure (pur_assign rfl) rfl ?_)
  refine TO_nil ?_
  refine T_env (E' := [(1, (intA left1)), (2, (.b 0 0))]) ⟨rfl, rfl, trivial⟩ ?_
  refine T_seq ?_
  refine T_region ?_
  refine TO_cons rfl (TOp_pure (pur_fa_b fld101_1 rfl rfl) rfl ?_)
  refine TO_cons rfl (TOp_pure (pur_ld_b one33 rfl rfl rfl rfl) rfl ?_)
  refine TO_cons rfl (TOp_pure (pur_move rfl) rfl ?_)
  obtain ⟨r_1, h_2, H⟩ := bind_inv H
  refine TO_cons rfl (TOp_callV (call_static ent46 rfl) (m_laws_szIntS_ok _ _ _ h_2) rfl rfl rfl ?_)
  refine TO_cons rfl (TOp_pure (pur_assign rfl) rfl ?_)
  refine TO_nil ?_
  refine T_env (E' := [(1, (intA r_1))]) ⟨rfl, trivial⟩ ?_
  refine T_seq ?_
  refine T_seq ?_
  refine T_region ?_
  refine TO_cons rfl (TOp_pure (pur_move rfl) rfl ?_)
  refine TO_cons rfl (TOp_pure (pur_lss rfl rfl rfl) rfl ?_)
  refine TO_nil ?_
  refine T_env (E' := [(1, (intA r_1)), (10, (boolA (decide (r_1 < 0))))]) ⟨rfl, rfl, trivial⟩ ?_
  refine T_cond (t := decide (r_1 < 0)) rfl (fun c_3 => ?_) (fun c_3 => ?_)
  · replace H := cond_t c_3 H
    refine T_seq ?_
    refine T_region ?_
    refine TO_cons rfl (TOp_pure (pur_assign rfl) rfl ?_)
    refine TO_nil ?_
    refine T_env (E' := [(4, (intA (-1)))]) ⟨rfl, trivial⟩ ?_
    refine T_ret ?_
    refine then_ret ?_
    obtain rfl := some_inj H
    refine end_ret (.tmp .nil) rfl rfl ⟨?_, rfl⟩
    rfl
  · replace H := cond_f c_3 H
    refine T_skip ?_
    refine T_env (E' := [(1, (intA r_1))]) ⟨rfl, trivial⟩ ?_
    refine T_seq ?_
    refine T_region ?_
    refine TO_cons rfl (TOp_pure (pur_move rfl) rfl ?_)
    refine TO_cons rfl (TOp_pure (pur_assign rfl) rfl ?_)
    refine TO_nil ?_
    refine T_env (E' := [(4, (intA r_1))]) ⟨rfl, trivial⟩ ?_
    refine T_ret ?_
    obtain rfl := some_inj H
    refine end_ret (.tmp .nil) rfl rfl ⟨?_, rfl⟩
    rfl

set_option maxHeartbeats 1000000 in
/-- laws.szFactS -/
theorem m_laws_szFactS_ok (a0 : (List Fact)) (left1 : Int) (r : Int) (H : m_laws_szFactS a0 left1 = some r) : FnV prg 63 [(sl tFact a0), (intA left1)] (intA r) := by
  unfold m_laws_szFactS at H
  refine fnV_of_T Try.func63 rfl rfl (Nat.le_of_ble_eq_true rfl) ?_
  refine T_env (E' := [(0, (sl tFact a0)), (1, (intA left1))]) ⟨rfl, rfl, trivial⟩ ?_
  refine T_seq ?_
  refine T_region ?_
  refine TO_cons rfl (TOp_pure (pur_assign rfl) rfl ?_)
  refine TO_nil ?_
  refine T_env (E' := [(0, (sl tFact a0)), (1, (intA left1))]) ⟨rfl, rfl, trivial⟩ ?_
  refine T_seq ?_
  refine T_region ?_
  refine TO_cons rfl (TOp_pure (pur_move rfl) rfl ?_)
  refine TO_cons rfl (TOp_pure (pur_move rfl) rfl ?_)
  refine TO_cons rfl (TOp_pure (pur_lenT (T := tFact) sl39 rfl rfl) rfl ?_)
  refine TO_cons rfl (TOp_pure (pur_wsub rfl rfl rfl) rfl ?_)
  refine TO_cons rfl (TOp_pure (pur_assign rfl) rfl ?_)
  refine TO_nil ?_
  refine T_env (E' := [(0, (sl tFact a0)), (1, (intA (w64 (left1 - (a0.length : Int)))))]) ⟨rfl, rfl, trivial⟩ ?_
  refine T_seq ?_
  refine T_seq ?_
  refine T_region ?_
  refine TO_cons rfl (TOp_pure (pur_move rfl) rfl ?_)
  refine TO_cons rfl (TOp_pure (pur_lss rfl rfl rfl) rfl ?_)
  refine TO_nil ?_
  refine T_env (E' := [(0, (sl tFact a0)), (1, (intA (w64 (left1 - (a0.length : Int))))), (11, (boolA (decide ((w64 (left1 - (a0.length : Int))) < 0))))]) ⟨rfl, rfl, rfl, trivial⟩ ?_
  refine T_cond (t := decide ((w64 (left1 - (a0.length : Int))) < 0)) rfl (fun c_1 => ?_) (fun c_1 => ?_)
  · replace H := cond_t c_1 H
    refine T_seq ?_
    refine T_region ?_
    refine TO_cons rfl (TOp_pure (pur_assign rfl) rfl ?_)
    refine TO_nil ?_
    refine T_env (E' := [(4, (intA (-1)))]) ⟨rfl, trivial⟩ ?_
    refine T_ret ?_
    refine then_ret ?_
    obtain rfl := some_inj H
    refine end_ret (.tmp .nil) rfl rfl ⟨?_, rfl⟩
    rfl
  · replace H := cond_f c_1 H
    refine T_skip ?_
    refine T_env (E' := [(0, (sl tFact a0)), (1, (intA (w64 (left1 - (a0.length : Int)))))]) ⟨rfl, rfl, trivial⟩ ?_
    refine T_seq ?_
    refine T_seq ?_
    refine T_region ?_
    refine TO_cons rfl (TOp_pure (pur_assign rfl) rfl ?_)
    refine TO_nil ?_
    refine T_env (E' := [(0, (sl tFact a0)), (1, (intA (w64 (left1 - (a0.length : Int))))), (5, (intA 0))]) ⟨rfl, rfl, rfl, trivial⟩ ?_
    obtain ⟨O3_, L3_, N3_⟩ := bind_inv H
    clear H
    obtain ⟨B3_, hb3, L3_⟩ := gen_forL L3_
    refine T_block ?_
    refine T_loopX (fun k => fun (x_ : Nat × Int) => k = a0.length - x_.1 ∧ forL B3_ (a0.drop x_.1) (x_.1 : Int) x_.2 = some O3_) (fun (x_ : Nat × Int) => [(0, (sl tFact a0)), (1, (intA x_.2)), (5, (intA (x_.1 : Int)))]) (fun (x_ : Nat × Int) => []) _ (0, (w64 (left1 - (a0.length : Int)))) (WeakL.to 0 (Nat.le_of_ble_eq_true rfl) rfl rfl rfl rfl ⟨leR rfl, leR rfl, leR rfl, trivial⟩) ⟨rfl, L3_⟩ ?_
    rintro _ ⟨i_2, left1⟩ ⟨rfl, L3_⟩
    refine T_env (E' := [(0, (sl tFact a0)), (1, (intA left1)), (5, (intA (i_2 : Int)))]) ⟨rfl, rfl, rfl, trivial⟩ ?_
    refine T_st (σ' := []) rfl ?_
    refine T_fact (len_sl (T := tFact) (.tmp 0) rfl) (fun hl3 => ?_)
    refine T_seq ?_
    refine T_seq ?_
    refine T_region ?_
    refine TO_cons rfl (TOp_pure (pur_move rfl) rfl ?_)
    refine TO_cons rfl (TOp_pure (pur_move rfl) rfl ?_)
    refine TO_cons rfl (TOp_pure (pur_lenT (T := tFact) sl39 rfl rfl) rfl ?_)
    refine TO_cons rfl (TOp_pure (pur_lss rfl rfl rfl) rfl ?_)
    refine TO_nil ?_
    refine T_env (E' := [(0, (sl tFact a0)), (1, (intA left1)), (5, (intA (i_2 : Int))), (15, (boolA (decide ((i_2 : Int) < (a0.length : Int)))))]) ⟨rfl, rfl, rfl, rfl, trivial⟩ ?_
    refine T_cond (t := decide ((i_2 : Int) < (a0.length : Int))) rfl (fun d3 => ?_) (fun d3 => ?_)
    · replace d3 := of_decide_eq_true d3
      obtain ⟨x_i_2, hx_i_2⟩ : ∃ v, (a0)[i_2]? = some v := ⟨_, List.getElem?_eq_getElem (by omega)⟩
      obtain ⟨C3_, H, K3_⟩ := forL_step L3_ hx_i_2
      rw [hb3] at H
      refine T_skip ?_
      refine T_env (E' := [(0, (sl tFact a0)), (1, (intA left1)), (5, (intA (i_2 : Int)))]) ⟨rfl, rfl, rfl, trivial⟩ ?_
      refine T_seq ?_
      refine T_block ?_
      refine T_seq ?_
      refine T_region ?_
      refine TO_cons rfl (TOp_pure (pur_move rfl) rfl ?_)
      refine TO_cons rfl (TOp_pure (pur_move rfl) rfl ?_)
      refine TO_cons rfl (TOp_pure (pur_ixT (T := tFact) sl39 rfl rfl rfl hx_i_2 rfl) rfl ?_)
      refine TO_cons rfl (TOp_pure (pur_ldTK (T := tFact) (i := i_2) (off := 0) rfl agg101 rfl rfl hx_i_2 (by decide) rfl) rfl ?_)
      refine TO_cons rfl (TOp_pure (pur_move rfl) rfl ?_)
      obtain ⟨r_4, h_5, H⟩ := bind_inv H
      refine TO_cons rfl (TOp_callV (call_static ent92 rfl) (m_laws_szFact_ok _ _ _ h_5) rfl rfl rfl ?_)
      refine TO_cons rfl (TOp_pure (pur_assign rfl) rfl ?_)
      refine TO_nil ?_
      refine T_env (E' := [(0, (sl tFact a0)), (1, (intA r_4)), (5, (intA (i_2 : Int)))]) ⟨rfl, rfl, rfl, trivial⟩ ?_
      refine T_seq ?_
      refine T_region ?_
      refine TO_cons rfl (TOp_pure (pur_move rfl) rfl ?_)
      refine TO_cons rfl (TOp_pure (pur_lss rfl rfl rfl) rfl ?_)
      refine TO_nil ?_
      refine T_env (E' := [(0, (sl tFact a0)), (1, (intA r_4)), (5, (intA (i_2 : Int))), (25, (boolA (decide (r_4 < 0))))]) ⟨rfl, rfl, rfl, rfl, trivial⟩ ?_
      refine T_cond (t := decide (r_4 < 0)) rfl (fun c_6 => ?_) (fun c_6 => ?_)
      · replace H := cond_t c_6 H
        refine T_seq ?_
        refine T_region ?_
        refine TO_cons rfl (TOp_pure (pur_assign rfl) rfl ?_)
        refine TO_nil ?_
        refine T_env (E' := [(4, (intA (-1)))]) ⟨rfl, trivial⟩ ?_
        refine T_ret ?_
        refine block_ret ?_
        refine then_ret ?_
        refine then_ret ?_
        refine block_ret ?_
        refine then_ret ?_
        obtain rfl := some_inj H
        obtain rfl := some_inj K3_
        replace H := onS_r N3_
        obtain rfl := some_inj H
        refine end_ret (.tmp .nil) rfl rfl ⟨?_, rfl⟩
        rfl
      · replace H := cond_f c_6 H
        refine T_skip ?_
        refine T_env (E' := [(0, (sl tFact a0)), (1, (intA r_4)), (5, (intA (i_2 : Int)))]) ⟨rfl, rfl, rfl, trivial⟩ ?_
        refine T_region ?_
        refine TO_cons rfl (TOp_pure (pur_move rfl) rfl ?_)
        refine TO_cons rfl (TOp_pure (pur_add rfl rfl rfl (fits64 (by omega) (by omega))) rfl ?_)
        refine TO_cons rfl (TOp_pure (pur_assign rfl) rfl ?_)
        refine TO_nil ?_
        obtain rfl := some_inj H
        exact again (a0.length - (i_2 + 1)) (i_2 + 1, r_4) (by omega) (WeakL.to 0 (Nat.le_of_ble_eq_true rfl) rfl rfl rfl rfl ⟨leR rfl, leR rfl, leR rfl, trivial⟩) ⟨rfl, K3_⟩
    · replace d3 := of_decide_eq_false d3
      obtain rfl := forL_end L3_ (by omega)
      refine T_exit ?_
      refine then_exit ?_
      refine then_exit ?_
      refine block_exit ?_
      replace H := onS_l N3_
      refine T_env (E' := [(1, (intA left1))]) ⟨rfl, trivial⟩ ?_
      refine T_seq ?_
      refine T_region ?_
      refine TO_cons rfl (TOp_pure (pur_move rfl) rfl ?_)
      refine TO_cons rfl (TOp_pure (pur_assign rfl) rfl ?_)
      refine TO_nil ?_
      refine T_env (E' := [(4, (intA left1))]) ⟨rfl, trivial⟩ ?_
      refine T_ret ?_
      obtain rfl := some_inj H
      refine end_ret (.tmp .nil) rfl rfl ⟨?_, rfl⟩
      rfl

set_option maxHeartbeats 1000000 in
/-- laws.szDatabase -/
theorem m_laws_szDatabase_ok (a0 : Database) (left1 : Int) (r : Int) (H : m_laws_szDatabase a0 left1 = some r) : FnV prg 26 [(.g (tDatabase.enc a0)), (intA left1)] (intA r) := by
  unfold m_laws_szDatabase at H
  refine fnV_of_T Try.func26 rfl rfl (Nat.le_of_ble_eq_true rfl) ?_
  refine T_env (E' := [(0, (.g (tDatabase.enc a0))), (1, (intA left1))]) ⟨rfl, rfl, trivial⟩ ?_
  refine T_seq ?_
  refine T_region ?_
  refine TO_cons rfl (TOp_box rfl (boxAll rfl) rfl rfl ?_)
  refine TO_cons rfl (TOp_pure (pur_assign rfl) rfl ?_)
  refine TO_nil ?_
  refine T_env (E' := [(1, (intA left1)), (2, (.b 0 0))]) ⟨rfl, rfl, trivial⟩ ?_
  refine T_seq ?_
  refine T_region ?_
  refine TO_cons rfl (TOp_pure (pur_fa_b fld41_0 rfl rfl) rfl ?_)
  refine TO_cons rfl (TOp_pure (pur_ld_b one38 rfl rfl rfl rfl) rfl ?_)
  refine TO_cons rfl (TOp_pure (pur_move rfl) rfl ?_)
  obtain ⟨r_1, h_2, H⟩ := bind_inv H
  refine TO_cons rfl (TOp_callV (call_static ent62 rfl) (m_laws_szRelationS_ok _ _ _ h_2) rfl rfl rfl ?_)
  refine TO_cons rfl (TOp_pure (pur_assign rfl) rfl ?_)
  refine TO_nil ?_
  refine T_env (E' := [(1, (intA r_1)), (2, (.b 0 0))]) ⟨rfl, rfl, trivial⟩ ?_
  refine T_seq ?_
  refine T_seq ?_
  refine T_region ?_
  refine TO_cons rfl (TOp_pure (pur_move rfl) rfl ?_)
  refine TO_cons rfl (TOp_pure (pur_lss rfl rfl rfl) rfl ?_)
  refine TO_nil ?_
  refine T_env (E' := [(1, (intA r_1)), (2, (.b 0 0)), (10, (boolA (decide (r_1 < 0))))]) ⟨rfl, rfl, rfl, trivial⟩ ?_
  refine T_cond (t := decide (r_1 < 0)) rfl (fun c_3 => ?_) (fun c_3 => ?_)
  · replace H := cond_t c_3 H
    refine T_seq ?_
    refine T_region ?_
    refine TO_cons rfl (TOp_pure (pur_assign rfl) rfl ?_)
    refine TO_nil ?_
    refine T_env (E' := [(4, (intA (-1)))]) ⟨rfl, trivial⟩ ?_
    refine T_ret ?_
    refine then_ret ?_
    obtain rfl := some_inj H
    refine end_ret (.tmp .nil) rfl rfl ⟨?_, rfl⟩
    rfl
  · replace H := cond_f c_3 H
    refine T_skip ?_
    refine T_env (E' := [(1, (intA r_1)), (2, (.b 0 0))]) ⟨rfl, rfl, trivial⟩ ?_
    refine T_seq ?_
    refine T_region ?_
    refine TO_cons rfl (TOp_pure (pur_fa_b fld41_1 rfl rfl) rfl ?_)
    refine TO_cons rfl (TOp_pure (pur_ld_b one39 rfl rfl rfl rfl) rfl ?_)
    refine TO_cons rfl (TOp_pure (pur_move rfl) rfl ?_)
    obtain ⟨r_4, h_5, H⟩ := bind_inv H
    refine TO_cons rfl (TOp_callV (call_static ent63 rfl) (m_laws_szFactS_ok _ _ _ h_5) rfl rfl rfl ?_)
    refine TO_cons rfl (TOp_pure (pur_assign rfl) rfl ?_)
    refine TO_nil ?_
    refine T_env (E' := [(1, (intA r_4))]) ⟨rfl, trivial⟩ ?_
    refine T_seq ?_
    refine T_seq ?_
    refine T_region ?_
    refine TO_cons rfl (TOp_pure (pur_move rfl) rfl ?_)
    refine TO_cons rfl (TOp_pure (pur_lss rfl rfl rfl) rfl ?_)
    refine TO_nil ?_
    refine T_env (E' := [(1, (intA r_4)), (16, (boolA (decide (r_4 < 0))))]) ⟨rfl, rfl, trivial⟩ ?_
    refine T_cond (t := decide (r_4 < 0)) rfl (fun c_6 => ?_) (fun c_6 => ?_)
    · replace H := cond_t c_6 H
      refine T_seq ?_
      refine T_region ?_
      refine TO_cons rfl (TOp_pure (pur_assign rfl) rfl ?_)
      refine TO_nil ?_
      refine T_env (E' := [(4, (intA (-1)))]) ⟨rfl, trivial⟩ ?_
      refine T_ret ?_
      refine then_ret ?_
      obtain rfl := some_inj H
      refine end_ret (.tmp .nil) rfl rfl ⟨?_, rfl⟩
      rfl
    · replace H := cond_f c_6 H
      refine T_skip ?_
      refine T_env (E' := [(1, (intA r_4))]) ⟨rfl, trivial⟩ ?_
      refine T_seq ?_
      refine T_region ?_
      refine TO_cons rfl (TOp_pure (pur_move rfl) rfl ?_)
      refine TO_cons rfl (TOp_pure (pur_assign rfl) rfl ?_)
      refine TO_nil ?_
      refine T_env (E' := [(4, (intA r_4))]) ⟨rfl, trivial⟩ ?_
      refine T_ret ?_
      obtain rfl := some_inj H
      refine end_ret (.tmp .nil) rfl rfl ⟨?_, rfl⟩
      rfl

set_option maxHeartbeats 1000000 in
/-- laws.toRelation -/
theorem m_laws_toRelation_ok (a0 : Relation) (r : Relation) (H : m_laws_toRelation a0 = some r) : FnV prg 93 [(.g (tRelation.enc a0))] (.g (tRelation.enc r)) := by
  unfold m_laws_toRelation at H
  refine fnV_of_T Try.func93 rfl rfl (Nat.le_of_ble_eq_true rfl) ?_
  refine T_env (E' := [(0, (.g (tRelation.enc a0)))]) ⟨rfl, trivial⟩ ?_
  refine T_seq ?_
  refine T_region ?_
  refine TO_cons rfl (TOp_box rfl (boxAll rfl) rfl rfl ?_)
  refine TO_cons rfl (TOp_alloc zero97 rfl rfl ?_)
  refine TO_nil ?_
  refine T_env (E' := [(1, (.b 0 0)), (2, (.b 1 0))]) ⟨rfl, rfl, trivial⟩ ?_
  refine T_seq ?_
  refine T_region ?_
  refine TO_cons rfl (TOp_alloc zero97 rfl rfl ?_)
  refine TO_nil ?_
  refine T_env (E' := [(1, (.b 0 0)), (2, (.b 1 0)), (3, (.b 2 0))]) ⟨rfl, rfl, rfl, trivial⟩ ?_
  refine T_seq ?_
  refine T_region ?_
  refine TO_cons rfl (TOp_pure (pur_fa_b fld99_0 rfl rfl) rfl ?_)
  refine TO_cons rfl (TOp_pure (pur_ld_b one9 rfl rfl rfl rfl) rfl ?_)
  refine TO_cons rfl (TOp_pure (pur_fa_b fld97_0 rfl rfl) rfl ?_)
  refine TO_cons rfl (TOp_storeB sz9 rfl rfl rfl rfl rfl rfl rfl (by decide) (Nat.le_of_ble_eq_true rfl) rfl ?_)
  refine TO_st (σ' := [.box [(strA a0.name), (intA a0.arity), (intA a0.keyLength)], .box [(strA ByteArray.empty), (intA 0), (intA 0)], .box [(strA a0.name), (intA 0), (intA 0)]]) rfl ?_
  refine TO_nil ?_
  refine T_env (E' := [(1, (.b 0 0)), (2, (.b 1 0)), (3, (.b 2 0))]) ⟨rfl, rfl, rfl, trivial⟩ ?_
  refine T_seq ?_
  refine T_region ?_
  refine TO_cons rfl (TOp_pure (pur_fa_b fld99_1 rfl rfl) rfl ?_)
  refine TO_cons rfl (TOp_pure (pur_ld_b one3 rfl rfl rfl rfl) rfl ?_)
  refine TO_cons rfl (TOp_pure (pur_fa_b fld97_1 rfl rfl) rfl ?_)
  refine TO_cons rfl (TOp_storeB sz3 rfl rfl rfl rfl rfl rfl rfl (by decide) (Nat.le_of_ble_eq_true rfl) rfl ?_)
  refine TO_st (σ' := [.box [(strA a0.name), (intA a0.arity), (intA a0.keyLength)], .box [(strA ByteArray.empty), (intA 0), (intA 0)], .box [(strA a0.name), (intA a0.arity), (intA 0)]]) rfl ?_
  refine TO_nil ?_
  refine T_env (E' := [(1, (.b 0 0)), (2, (.b 1 0)), (3, (.b 2 0))]) ⟨rfl, rfl, rfl, trivial⟩ ?_
  refine T_seq ?_
  refine T_region ?_
  refine TO_cons rfl (TOp_pure (pur_fa_b fld99_2 rfl rfl) rfl ?_)
  refine TO_cons rfl (TOp_pure (pur_ld_b one3 rfl rfl rfl rfl) rfl ?_)
  refine TO_cons rfl (TOp_pure (pur_fa_b fld97_2 rfl rfl) rfl ?_)
  refine TO_cons rfl (TOp_storeB sz3 rfl rfl rfl rfl rfl rfl rfl (by decide) (Nat.le_of_ble_eq_true rfl) rfl ?_)
  refine TO_st (σ' := [.box [(strA a0.name), (intA a0.arity), (intA a0.keyLength)], .box [(strA ByteArray.empty), (intA 0), (intA 0)], .box [(strA a0.name), (intA a0.arity), (intA a0.keyLength)]]) rfl ?_
  refine TO_nil ?_
  refine T_env (E' := [(2, (.b 1 0)), (3, (.b 2 0))]) ⟨rfl, rfl, trivial⟩ ?_
  refine T_seq ?_
  refine T_region ?_
  refine TO_cons rfl (TOp_pure (pur_ldK_b agg97 rfl rfl (Nat.le_of_ble_eq_true rfl) rfl) rfl ?_)
  refine TO_cons rfl (TOp_storeB sz97 rfl rfl rfl rfl rfl rfl rfl (by decide) (Nat.le_of_ble_eq_true rfl) rfl ?_)
  refine TO_st (σ' := [.box [(strA a0.name), (intA a0.arity), (intA a0.keyLength)], .box [(strA a0.name), (intA a0.arity), (intA a0.keyLength)], .box [(strA a0.name), (intA a0.arity), (intA a0.keyLength)]]) rfl ?_
  refine TO_nil ?_
  refine T_env (E' := [(2, (.b 1 0))]) ⟨rfl, trivial⟩ ?_
  refine T_ret ?_
  obtain rfl := some_inj H
  refine end_ret (.cellK rfl agg97 rfl (Nat.le_of_ble_eq_true rfl) .nil) rfl rfl ⟨?_, rfl⟩
  rfl

set_option maxHeartbeats 1000000 in
/-- laws.toRelationS -/
theorem m_laws_toRelationS_own (a0 : (List Relation)) (r : (List Relation)) (H : m_laws_toRelationS a0 = some r) : FnO prg 64 [(sl tRelation a0)] (.m [0] 0 r.length tRelation.k) [.row (flat tRelation.own r)] := by
  unfold m_laws_toRelationS at H
  refine fnO_of_T Try.func64 rfl rfl (Nat.le_of_ble_eq_true rfl) ?_
  refine T_env (E' := [(0, (sl tRelation a0))]) ⟨rfl, trivial⟩ ?_
  refine T_seq ?_
  refine T_region ?_
  refine TO_cons rfl (TOp_pure (pur_assign rfl) rfl ?_)
  refine TO_nil ?_
  refine T_env (E' := [(0, (sl tRelation a0))]) ⟨rfl, trivial⟩ ?_
  refine T_seq ?_
  refine T_region ?_
  refine TO_cons rfl (TOp_pure (pur_move rfl) rfl ?_)
  refine TO_cons rfl (TOp_pure (pur_lenT (T := tRelation) sl38 rfl rfl) rfl ?_)
  obtain ⟨us_1, h_2, H⟩ := bind_inv H
  refine TO_cons rfl (TOp_makeT (T := tRelation) (z := (default : Relation)) rfl sl29 zero97 rfl bytes97 rfl rfl rfl rfl h_2 ?_)
  refine TO_cons rfl (TOp_pure (pur_assign rfl) rfl ?_)
  refine TO_nil ?_
  refine T_env (E' := [(0, (sl tRelation a0)), (3, (.m [0] 0 us_1.length tRelation.k))]) ⟨rfl, rfl, trivial⟩ ?_
  refine T_seq ?_
  refine T_seq ?_
  refine T_region ?_
  refine TO_cons rfl (TOp_pure (pur_assign rfl) rfl ?_)
  refine TO_nil ?_
  refine T_env (E' := [(0, (sl tRelation a0)), (3, (.m [0] 0 us_1.length tRelation.k)), (4, (intA 0))]) ⟨rfl, rfl, rfl, trivial⟩ ?_
  obtain ⟨O4_, L4_, N4_⟩ := bind_inv H
  clear H
  obtain ⟨B4_, hb4, L4_⟩ := gen_forS L4_
  refine T_block ?_
  refine T_loopX (fun k => fun (x_ : Nat × (List Relation)) => k = a0.length - x_.1 ∧ forS B4_ (a0.drop x_.1) (x_.1 : Int) x_.2 = some O4_) (fun (x_ : Nat × (List Relation)) => [(0, (sl tRelation a0)), (3, (.m [0] 0 x_.2.length tRelation.k)), (4, (intA (x_.1 : Int)))]) (fun (x_ : Nat × (List Relation)) => [.row (flat tRelation.enc x_.2)]) _ (0, us_1) (WeakL.to 1 (Nat.le_of_ble_eq_true rfl) rfl rfl rfl rfl ⟨leR rfl, leR rfl, leR rfl, trivial⟩) ⟨rfl, L4_⟩ ?_
  rintro _ ⟨i_3, out3⟩ ⟨rfl, L4_⟩
  refine T_env (E' := [(0, (sl tRelation a0)), (3, (.m [0] 0 out3.length tRelation.k)), (4, (intA (i_3 : Int)))]) ⟨rfl, rfl, rfl, trivial⟩ ?_
  refine T_st (σ' := [.row (flat tRelation.enc out3)]) rfl ?_
  refine T_fact (len_sl (T := tRelation) (.tmp 0) rfl) (fun hl4 => ?_)
  refine T_seq ?_
  refine T_seq ?_
  refine T_region ?_
  refine TO_cons rfl (TOp_pure (pur_move rfl) rfl ?_)
  refine TO_cons rfl (TOp_pure (pur_move rfl) rfl ?_)
  refine TO_cons rfl (TOp_pure (pur_lenT (T := tRelation) sl38 rfl rfl) rfl ?_)
  refine TO_cons rfl (TOp_pure (pur_lss rfl rfl rfl) rfl ?_)
  refine TO_nil ?_
  refine T_env (E' := [(0, (sl tRelation a0)), (3, (.m [0] 0 out3.length tRelation.k)), (4, (intA (i_3 : Int))), (11, (boolA (decide ((i_3 : Int) < (a0.length : Int)))))]) ⟨rfl, rfl, rfl, rfl, trivial⟩ ?_
  refine T_cond (t := decide ((i_3 : Int) < (a0.length : Int))) rfl (fun d4 => ?_) (fun d4 => ?_)
  · replace d4 := of_decide_eq_true d4
    obtain ⟨x_i_3, hx_i_3⟩ : ∃ v, (a0)[i_3]? = some v := ⟨_, List.getElem?_eq_getElem (by omega)⟩
    obtain ⟨C4_, H, K4_⟩ := forS_step L4_ hx_i_3
    rw [hb4] at H
    refine T_skip ?_
    refine T_env (E' := [(0, (sl tRelation a0)), (3, (.m [0] 0 out3.length tRelation.k)), (4, (intA (i_3 : Int)))]) ⟨rfl, rfl, rfl, trivial⟩ ?_
    refine T_seq ?_
    refine T_block ?_
    refine T_region ?_
    refine TO_cons rfl (TOp_pure (pur_move rfl) rfl ?_)
    refine TO_cons rfl (TOp_pure (pur_move rfl) rfl ?_)
    refine TO_cons rfl (TOp_pure (pur_move rfl) rfl ?_)
    refine TO_cons rfl (TOp_pure (pur_move rfl) rfl ?_)
    refine TO_cons rfl (TOp_pure (pur_ixT (T := tRelation) sl38 rfl rfl rfl hx_i_3 rfl) rfl ?_)
    refine TO_cons rfl (TOp_pure (pur_ldTK (T := tRelation) (i := i_3) (off := 0) rfl agg99 rfl rfl hx_i_3 (by decide) rfl) rfl ?_)
    obtain ⟨r_5, h_6, H⟩ := bind_inv H
    refine TO_cons rfl (TOp_callV (call_static ent93 rfl) (m_laws_toRelation_ok _ _ h_6) rfl rfl rfl ?_)
    obtain ⟨v_7, h_8, H⟩ := bind_inv H
    obtain ⟨n_9, hz_10, hv_11⟩ := getI_inv h_8
    refine TO_cons rfl (TOp_pure (pur_ixM (T := tRelation) sl29 rfl rfl hz_10 hv_11 rfl) rfl ?_)
    refine TO_cons rfl (TOp_setT (f := tRelation.enc) (z := (i_3 : Int)) (y := r_5) tRelation.len tRelation.pos hz_10 sz97 rfl rfl rfl rfl rfl hv_11 rfl rfl ?_)
    refine TO_env (E' := [(0, (sl tRelation a0)), (3, (.m [0] 0 (out3.set ((i_3 : Int)).toNat r_5).length tRelation.k)), (4, (intA (i_3 : Int))), (14, (.m [0] 0 (out3.set ((i_3 : Int)).toNat r_5).length tRelation.k)), (15, (intA (i_3 : Int))), (16, (sl tRelation a0)), (17, (intA (i_3 : Int))), (18, (.q (flat tRelation.enc a0) (i_3 * tRelation.k))), (19, (.g (tRelation.enc x_i_3))), (20, (.g (tRelation.enc r_5)))]) ⟨rfl, (congrArg (fun q => A.m [0] 0 q tRelation.k) (List.length_set ..).symm), rfl, (congrArg (fun q => A.m [0] 0 q tRelation.k) (List.length_set ..).symm), rfl, rfl, rfl, rfl, rfl, rfl, trivial⟩ ?_
    refine TO_st (σ' := [.row (flat tRelation.enc (out3.set ((i_3 : Int)).toNat r_5))]) rfl ?_
    refine TO_nil ?_
    refine T_env (E' := [(0, (sl tRelation a0)), (3, (.m [0] 0 (out3.set ((i_3 : Int)).toNat r_5).length tRelation.k)), (4, (intA (i_3 : Int)))]) ⟨rfl, rfl, rfl, trivial⟩ ?_
    refine T_region ?_
    refine TO_cons rfl (TOp_pure (pur_move rfl) rfl ?_)
    refine TO_cons rfl (TOp_pure (pur_add rfl rfl rfl (fits64 (by omega) (by omega))) rfl ?_)
    refine TO_cons rfl (TOp_pure (pur_assign rfl) rfl ?_)
    refine TO_nil ?_
    obtain rfl := some_inj H
    exact again (a0.length - (i_3 + 1)) (i_3 + 1, (out3.set ((i_3 : Int)).toNat r_5)) (by omega) (WeakL.to 1 (Nat.le_of_ble_eq_true rfl) rfl rfl rfl rfl ⟨leR rfl, leR rfl, leR rfl, trivial⟩) ⟨rfl, K4_⟩
  · replace d4 := of_decide_eq_false d4
    obtain rfl := forS_end L4_ (by omega)
    refine T_exit ?_
    refine then_exit ?_
    refine then_exit ?_
    refine block_exit ?_
    replace H := N4_
    refine T_env (E' := [(3, (.m [0] 0 out3.length tRelation.k))]) ⟨rfl, trivial⟩ ?_
    refine T_seq ?_
    refine T_region ?_
    refine TO_cons rfl (TOp_pure (pur_move rfl) rfl ?_)
    refine TO_cons rfl (TOp_pure (pur_assign rfl) rfl ?_)
    refine TO_nil ?_
    refine T_env (E' := [(2, (.m [0] 0 out3.length tRelation.k))]) ⟨rfl, trivial⟩ ?_
    refine T_ret ?_
    obtain rfl := some_inj H
    exact end_pick (.tmp .nil) rfl [0] (by decide) rfl rfl rfl rfl rfl rfl
theorem m_laws_toRelationS_ok (a0 : (List Relation)) (r : (List Relation)) (H : m_laws_toRelationS a0 = some r) : FnV prg 64 [(sl tRelation a0)] (sl tRelation r) := (m_laws_toRelationS_own a0 r H).frz (frzT (T := tRelation) rfl)

set_option maxHeartbeats 1000000 in
/-- laws.toIntS -/
theorem m_laws_toIntS_own (a0 : (List Int)) (r : (List Int)) (H : m_laws_toIntS a0 = some r) : FnO prg 28 [(sl tInt a0)] (.m [0] 0 r.length tInt.k) [.row (flat tInt.own r)] := by
  unfold m_laws_toIntS at H
  refine fnO_of_T Try.func28 rfl rfl (Nat.le_of_ble_eq_true rfl) ?_
  refine T_env (E' := [(0, (sl tInt a0))]) ⟨rfl, trivial⟩ ?_
  refine T_seq ?_
  refine T_region ?_
  refine TO_cons rfl (TOp_pure (pur_assign rfl) rfl ?_)
  refine TO_nil ?_
  refine T_env (E' := [(0, (sl tInt a0))]) ⟨rfl, trivial⟩ ?_
  refine T_seq ?_
  refine T_region ?_
  refine TO_cons rfl (TOp_pure (pur_move rfl) rfl ?_)
  refine TO_cons rfl (TOp_pure (pur_lenT (T := tInt) sl33 rfl rfl) rfl ?_)
  obtain ⟨us_1, h_2, H⟩ := bind_inv H
  refine TO_cons rfl (TOp_makeT (T := tInt) (z := (0 : Int)) rfl sl33 zero3 rfl bytes3 rfl rfl rfl rfl h_2 ?_)
  refine TO_cons rfl (TOp_pure (pur_assign rfl) rfl ?_)
  refine TO_nil ?_
  refine T_env (E' := [(0, (sl tInt a0)), (3, (.m [0] 0 us_1.length tInt.k))]) ⟨rfl, rfl, trivial⟩ ?_
  refine T_seq ?_
  refine T_seq ?_
  refine T_region ?_
  refine TO_cons rfl (TOp_pure (pur_assign rfl) rfl ?_)
  refine TO_nil ?_
  refine T_env (E' := [(0, (sl tInt a0)), (3, (.m [0] 0 us_1.length tInt.k)), (4, (intA 0))]) ⟨rfl, rfl, rfl, trivial⟩ ?_
  obtain ⟨O4_, L4_, N4_⟩ := bind_inv H
  clear H
  obtain ⟨B4_, hb4, L4_⟩ := gen_forS L4_
  refine T_block ?_
  refine T_loopX (fun k => fun (x_ : Nat × (List Int)) => k = a0.length - x_.1 ∧ forS B4_ (a0.drop x_.1) (x_.1 : Int) x_.2 = some O4_) (fun (x_ : Nat × (List Int)) => [(0, (sl tInt a0)), (3, (.m [0] 0 x_.2.length tInt.k)), (4, (intA (x_.1 : Int)))]) (fun (x_ : Nat × (List Int)) => [.row (flat tInt.enc x_.2)]) _ (0, us_1) (WeakL.to 1 (Nat.le_of_ble_eq_true rfl) rfl rfl rfl rfl ⟨leR rfl, leR rfl, leR rfl, trivial⟩) ⟨rfl, L4_⟩ ?_
  rintro _ ⟨i_3, out3⟩ ⟨rfl, L4_⟩
  refine T_env (E' := [(0, (sl tInt a0)), (3, (.m [0] 0 out3.length tInt.k)), (4, (intA (i_3 : Int)))]) ⟨rfl, rfl, rfl, trivial⟩ ?_
  refine T_st (σ' := [.row (flat tInt.enc out3)]) rfl ?_
  refine T_fact (len_sl (T := tInt) (.tmp 0) rfl) (fun hl4 => ?_)
  refine T_seq ?_
  refine T_seq ?_
  refine T_region ?_
  refine TO_cons rfl (TOp_pure (pur_move rfl) rfl ?_)
  refine TO_cons rfl (TOp_pure (pur_move rfl) rfl ?_)
  refine TO_cons rfl (TOp_pure (pur_lenT (T := tInt) sl33 rfl rfl) rfl ?_)
  refine TO_cons rfl (TOp_pure (pur_lss rfl rfl rfl) rfl ?_)
  refine TO_nil ?_
  refine T_env (E' := [(0, (sl tInt a0)), (3, (.m [0] 0 out3.length tInt.k)), (4, (intA (i_3 : Int))), (11, (boolA (decide ((i_3 : Int) < (a0.length : Int)))))]) ⟨rfl, rfl, rfl, rfl, trivial⟩ ?_
  refine T_cond (t := decide ((i_3 : Int) < (a0.length : Int))) rfl (fun d4 => ?_) (fun d4 => ?_)
  · replace d4 := of_decide_eq_true d4
    obtain ⟨x_i_3, hx_i_3⟩ : ∃ v, (a0)[i_3]? = some v := ⟨_, List.getElem?_eq_getElem (by omega)⟩
    obtain ⟨C4_, H, K4_⟩ := forS_step L4_ hx_i_3
    rw [hb4] at H
    refine T_skip ?_
    refine T_env (E' := [(0, (sl tInt a0)), (3, (.m [0] 0 out3.length tInt.k)), (4, (intA (i_3 : Int)))]) ⟨rfl, rfl, rfl, trivial⟩ ?_
    refine T_seq ?_
    refine T_block ?_
    refine T_region ?_
    refine TO_cons rfl (TOp_pure (pur_move rfl) rfl ?_)
    refine TO_cons rfl (TOp_pure (pur_move rfl) rfl ?_)
    refine TO_cons rfl (TOp_pure (pur_move rfl) rfl ?_)
    refine TO_cons rfl (TOp_pure (pur_move rfl) rfl ?_)
    refine TO_cons rfl (TOp_pure (pur_ixT (T := tInt) sl33 rfl rfl rfl hx_i_3 rfl) rfl ?_)
    refine TO_cons rfl (TOp_pure (pur_ldT (T := tInt) (i := i_3) (off := 0) rfl one3 rfl rfl hx_i_3 rfl) rfl ?_)
    obtain ⟨v_5, h_6, H⟩ := bind_inv H
    obtain ⟨n_7, hz_8, hv_9⟩ := getI_inv h_6
    refine TO_cons rfl (TOp_pure (pur_ixM (T := tInt) sl33 rfl rfl hz_8 hv_9 rfl) rfl ?_)
    refine TO_cons rfl (TOp_setT (f := tInt.enc) (z := (i_3 : Int)) (y := x_i_3) tInt.len tInt.pos hz_8 sz3 rfl rfl rfl rfl rfl hv_9 rfl rfl ?_)
    refine TO_env (E' := [(0, (sl tInt a0)), (3, (.m [0] 0 (out3.set ((i_3 : Int)).toNat x_i_3).length tInt.k)), (4, (intA (i_3 : Int))), (14, (.m [0] 0 (out3.set ((i_3 : Int)).toNat x_i_3).length tInt.k)), (15, (intA (i_3 : Int))), (16, (sl tInt a0)), (17, (intA (i_3 : Int))), (18, (.q (flat tInt.enc a0) (i_3 * tInt.k))), (19, (intA x_i_3))]) ⟨rfl, (congrArg (fun q => A.m [0] 0 q tInt.k) (List.length_set ..).symm), rfl, (congrArg (fun q => A.m [0] 0 q tInt.k) (List.length_set ..).symm), rfl, rfl, rfl, rfl, rfl, trivial⟩ ?_
    refine TO_st (σ' := [.row (flat tInt.enc (out3.set ((i_3 : Int)).toNat x_i_3))]) rfl ?_
    refine TO_nil ?_
    refine T_env (E' := [(0, (sl tInt a0)), (3, (.m [0] 0 (out3.set ((i_3 : Int)).toNat x_i_3).length tInt.k)), (4, (intA (i_3 : Int)))]) ⟨rfl, rfl, rfl, trivial⟩ ?_
    refine T_region ?_
    refine TO_cons rfl (TOp_pure (pur_move rfl) rfl ?_)
    refine TO_cons rfl (TOp_pure (pur_add rfl rfl rfl (fits64 (by omega) (by omega))) rfl ?_)
    refine TO_cons rfl (TOp_pure (pur_assign rfl) rfl ?_)
    refine TO_nil ?_
    obtain rfl := some_inj H
    exact again (a0.length - (i_3 + 1)) (i_3 + 1, (out3.set ((i_3 : Int)).toNat x_i_3)) (by omega) (WeakL.to 1 (Nat.le_of_ble_eq_true rfl) rfl rfl rfl rfl ⟨leR rfl, leR rfl, leR rfl, trivial⟩) ⟨rfl, K4_⟩
  · replace d4 := of_decide_eq_false d4
    obtain rfl := forS_end L4_ (by omega)
    refine T_exit ?_
    refine then_exit ?_
    refine then_exit ?_
    refine block_exit ?_
    replace H := N4_
    refine T_env (E' := [(3, (.m [0] 0 out3.length tInt.k))]) ⟨rfl, trivial⟩ ?_
    refine T_seq ?_
    refine T_region ?_
    refine TO_cons rfl (TOp_pure (pur_move rfl) rfl ?_)
    refine TO_cons rfl (TOp_pure (pur_assign rfl) rfl ?_)
    refine TO_nil ?_
    refine T_env (E' := [(2, (.m [0] 0 out3.length tInt.k))]) ⟨rfl, trivial⟩ ?_
    refine T_ret ?_
    obtain rfl := some_inj H
    exact end_pick (.tmp .nil) rfl [0] (by decide) rfl rfl rfl rfl rfl rfl
theorem m_laws_toIntS_ok (a0 : (List Int)) (r : (List Int)) (H : m_laws_toIntS a0 = some r) : FnV prg 28 [(sl tInt a0)] (sl tInt r) := (m_laws_toIntS_own a0 r H).frz (frzT (T := tInt) rfl)

set_option maxHeartbeats 1000000 in
/-- laws.toFact -/
theorem m_laws_toFact_own (a0 : Fact) (r : Fact) (H : m_laws_toFact a0 = some r) : FnO prg 94 [(.g (tFact.enc a0))] (.g [(intA r.relation), (.m [0] 0 r.values.length tInt.k)]) [.row (flat tInt.own r.values)] := by
  unfold m_laws_toFact at H
  refine fnO_of_T Try.func94 rfl rfl (Nat.le_of_ble_eq_true rfl) ?_
  refine T_env (E' := [(0, (.g (tFact.enc a0)))]) ⟨rfl, trivial⟩ ?_
  refine T_seq ?_
  refine T_region ?_
  refine TO_cons rfl (TOp_box rfl (boxAll rfl) rfl rfl ?_)
  refine TO_cons rfl (TOp_alloc zero60 rfl rfl ?_)
  refine TO_nil ?_
  refine T_env (E' := [(1, (.b 0 0)), (2, (.b 1 0))]) ⟨rfl, rfl, trivial⟩ ?_
  refine T_seq ?_
  refine T_region ?_
  refine TO_cons rfl (TOp_alloc zero60 rfl rfl ?_)
  refine TO_nil ?_
  refine T_env (E' := [(1, (.b 0 0)), (2, (.b 1 0)), (3, (.b 2 0))]) ⟨rfl, rfl, rfl, trivial⟩ ?_
  refine T_seq ?_
  refine T_region ?_
  refine TO_cons rfl (TOp_pure (pur_fa_b fld101_0 rfl rfl) rfl ?_)
  refine TO_cons rfl (TOp_pure (pur_ld_b one3 rfl rfl rfl rfl) rfl ?_)
  refine TO_cons rfl (TOp_pure (pur_fa_b fld60_0 rfl rfl) rfl ?_)
  refine TO_cons rfl (TOp_storeB sz3 rfl rfl rfl rfl rfl rfl rfl (by decide) (Nat.le_of_ble_eq_true rfl) rfl ?_)
  refine TO_st (σ' := [.box [(intA a0.relation), (sl tInt a0.values)], .box [(intA 0), .n], .box [(intA a0.relation), .n]]) rfl ?_
  refine TO_nil ?_
  refine T_env (E' := [(1, (.b 0 0)), (2, (.b 1 0)), (3, (.b 2 0))]) ⟨rfl, rfl, rfl, trivial⟩ ?_
  refine T_seq ?_
  refine T_region ?_
  refine TO_cons rfl (TOp_pure (pur_fa_b fld101_1 rfl rfl) rfl ?_)
  refine TO_cons rfl (TOp_pure (pur_ld_b one33 rfl rfl rfl rfl) rfl ?_)
  obtain ⟨r_1, h_2, H⟩ := bind_inv H
  refine TO_cons rfl (TOp_callO (call_static ent28 rfl) rfl (m_laws_toIntS_own _ _ h_2) rfl rfl rfl ?_)
  refine TO_env (E' := [(1, (.b 0 0)), (2, (.b 1 0)), (3, (.b 2 0)), (7, (.b 0 1)), (8, (sl tInt a0.values)), (9, (.m [3] 0 r_1.length tInt.k))]) ⟨rfl, rfl, rfl, rfl, rfl, rfl, trivial⟩ ?_
  refine TO_st (σ' := [.box [(intA a0.relation), (sl tInt a0.values)], .box [(intA 0), .n], .box [(intA a0.relation), .n], .row (flat tInt.own r_1)]) rfl ?_
  refine TO_cons rfl (TOp_pure (pur_fa_b fld60_1 rfl rfl) rfl ?_)
  refine TO_cons rfl (TOp_storeB sz33 rfl rfl rfl rfl rfl rfl rfl (by decide) (Nat.le_of_ble_eq_true rfl) rfl ?_)
  refine TO_st (σ' := [.box [(intA a0.relation), (sl tInt a0.values)], .box [(intA 0), .n], .box [(intA a0.relation), (.m [3] 0 r_1.length tInt.k)], .row (flat tInt.own r_1)]) rfl ?_
  refine TO_nil ?_
  refine T_env (E' := [(2, (.b 1 0)), (3, (.b 2 0))]) ⟨rfl, rfl, trivial⟩ ?_
  refine T_seq ?_
  refine T_region ?_
  refine TO_cons rfl (TOp_pure (pur_ldK_b agg60 rfl rfl (Nat.le_of_ble_eq_true rfl) rfl) rfl ?_)
  refine TO_cons rfl (TOp_storeB sz60 rfl rfl rfl rfl rfl rfl rfl (by decide) (Nat.le_of_ble_eq_true rfl) rfl ?_)
  refine TO_st (σ' := [.box [(intA a0.relation), (sl tInt a0.values)], .box [(intA a0.relation), (.m [3] 0 r_1.length tInt.k)], .box [(intA a0.relation), (.m [3] 0 r_1.length tInt.k)], .row (flat tInt.own r_1)]) rfl ?_
  refine TO_nil ?_
  refine T_env (E' := [(2, (.b 1 0))]) ⟨rfl, trivial⟩ ?_
  refine T_ret ?_
  obtain rfl := some_inj H
  exact end_pick (.cellK rfl agg60 rfl (Nat.le_of_ble_eq_true rfl) .nil) rfl [3] (by decide) rfl rfl rfl rfl rfl rfl
theorem m_laws_toFact_ok (a0 : Fact) (r : Fact) (H : m_laws_toFact a0 = some r) : FnV prg 94 [(.g (tFact.enc a0))] (.g (tFact.enc r)) := (m_laws_toFact_own a0 r H).frz (frzOK_g (frz_cons (frz_loose rfl) (frz_cons (frzT (T := tInt) rfl) frz_nil)).1 (frz_cons (frz_loose rfl) (frz_cons (frzT (T := tInt) rfl) frz_nil)).2)

set_option maxHeartbeats 1000000 in
/-- laws.toFactS -/
theorem m_laws_toFactS_own (a0 : (List Fact)) (r : (List Fact)) (H : m_laws_toFactS a0 = some r) : FnO prg 65 [(sl tFact a0)] (.m [0] 0 r.length tFact.k) [.row (flat tFact.own r)] := by
  unfold m_laws_toFactS at H
  refine fnO_of_T Try.func65 rfl rfl (Nat.le_of_ble_eq_true rfl) ?_
  refine T_env (E' := [(0, (sl tFact a0))]) ⟨rfl, trivial⟩ ?_
  refine T_seq ?_
  refine T_region ?_
  refine TO_cons rfl (TOp_pure (pur_assign rfl) rfl ?_)
  refine TO_nil ?_
  refine T_env (E' := [(0, (sl tFact a0))]) ⟨rfl, trivial⟩ ?_
  refine T_seq ?_
  refine T_region ?_
  refine TO_cons rfl (TOp_pure (pur_move rfl) rfl ?_)
  refine TO_cons rfl (TOp_pure (pur_lenT (T := tFact) sl39 rfl rfl) rfl ?_)
  obtain ⟨us_1, h_2, H⟩ := bind_inv H
  refine TO_cons rfl (TOp_makeN (T := tFact) (f := tFact.own) (zs := [.int .i64 0, .slice none 0 0]) (z := (default : Fact)) tFact.lenO (nilL_cons nilS (nilL_cons nilO nilL_nil)) rfl sl30 zero60 bytes60 rfl rfl rfl rfl h_2 ?_)
  refine TO_st (σ' := [.row (flat tFact.own us_1)]) rfl ?_
  refine TO_cons rfl (TOp_pure (pur_assign rfl) rfl ?_)
  refine TO_nil ?_
  refine T_env (E' := [(0, (sl tFact a0)), (3, (.m [0] 0 us_1.length tFact.k))]) ⟨rfl, rfl, trivial⟩ ?_
  refine T_seq ?_
  refine T_seq ?_
  refine T_region ?_
  refine TO_cons rfl (TOp_pure (pur_assign rfl) rfl ?_)
  refine TO_nil ?_
  refine T_env (E' := [(0, (sl tFact a0)), (3, (.m [0] 0 us_1.length tFact.k)), (4, (intA 0))]) ⟨rfl, rfl, rfl, trivial⟩ ?_
  obtain ⟨O4_, L4_, N4_⟩ := bind_inv H
  clear H
  obtain ⟨B4_, hb4, L4_⟩ := gen_forS L4_
  refine T_block ?_
  refine T_loopX (fun k => fun (x_ : Nat × (List Fact)) => k = a0.length - x_.1 ∧ forS B4_ (a0.drop x_.1) (x_.1 : Int) x_.2 = some O4_) (fun (x_ : Nat × (List Fact)) => [(0, (sl tFact a0)), (3, (.m [0] 0 x_.2.length tFact.k)), (4, (intA (x_.1 : Int)))]) (fun (x_ : Nat × (List Fact)) => [.row (flat tFact.own x_.2)]) _ (0, us_1) (WeakL.to 1 (Nat.le_of_ble_eq_true rfl) rfl rfl rfl rfl ⟨leR rfl, leR rfl, leR rfl, trivial⟩) ⟨rfl, L4_⟩ ?_
  rintro _ ⟨i_3, out3⟩ ⟨rfl, L4_⟩
  refine T_env (E' := [(0, (sl tFact a0)), (3, (.m [0] 0 out3.length tFact.k)), (4, (intA (i_3 : Int)))]) ⟨rfl, rfl, rfl, trivial⟩ ?_
  refine T_st (σ' := [.row (flat tFact.own out3)]) rfl ?_
  refine T_fact (len_sl (T := tFact) (.tmp 0) rfl) (fun hl4 => ?_)
  refine T_seq ?_
  refine T_seq ?_
  refine T_region ?_
  refine TO_cons rfl (TOp_pure (pur_move rfl) rfl ?_)
  refine TO_cons rfl (TOp_pure (pur_move rfl) rfl ?_)
  refine TO_cons rfl (TOp_pure (pur_lenT (T := tFact) sl39 rfl rfl) rfl ?_)
  refine TO_cons rfl (TOp_pure (pur_lss rfl rfl rfl) rfl ?_)
  refine TO_nil ?_
  refine T_env (E' := [(0, (sl tFact a0)), (3, (.m [0] 0 out3.length tFact.k)), (4, (intA (i_3 : Int))), (11, (boolA (decide ((i_3 : Int) < (a0.length : Int)))))]) ⟨rfl, rfl, rfl, rfl, trivial⟩ ?_
  refine T_cond (t := decide ((i_3 : Int) < (a0.length : Int))) rfl (fun d4 => ?_) (fun d4 => ?_)
  · replace d4 := of_decide_eq_true d4
    obtain ⟨x_i_3, hx_i_3⟩ : ∃ v, (a0)[i_3]? = some v := ⟨_, List.getElem?_eq_getElem (by omega)⟩
    obtain ⟨C4_, H, K4_⟩ := forS_step L4_ hx_i_3
    rw [hb4] at H
    refine T_skip ?_
    refine T_env (E' := [(0, (sl tFact a0)), (3, (.m [0] 0 out3.length tFact.k)), (4, (intA (i_3 : Int)))]) ⟨rfl, rfl, rfl, trivial⟩ ?_
    refine T_seq ?_
    refine T_block ?_
    refine T_region ?_
    refine TO_cons rfl (TOp_pure (pur_move rfl) rfl ?_)
    refine TO_cons rfl (TOp_pure (pur_move rfl) rfl ?_)
    refine TO_cons rfl (TOp_pure (pur_move rfl) rfl ?_)
    refine TO_cons rfl (TOp_pure (pur_move rfl) rfl ?_)
    refine TO_cons rfl (TOp_pure (pur_ixT (T := tFact) sl39 rfl rfl rfl hx_i_3 rfl) rfl ?_)
    refine TO_cons rfl (TOp_pure (pur_ldTK (T := tFact) (i := i_3) (off := 0) rfl agg101 rfl rfl hx_i_3 (by decide) rfl) rfl ?_)
    obtain ⟨r_5, h_6, H⟩ := bind_inv H
    refine TO_cons rfl (TOp_callO (call_static ent94 rfl) rfl (m_laws_toFact_own _ _ h_6) rfl rfl rfl ?_)
    refine TO_env (E' := [(0, (sl tFact a0)), (3, (.m [0] 0 out3.length tFact.k)), (4, (intA (i_3 : Int))), (14, (.m [0] 0 out3.length tFact.k)), (15, (intA (i_3 : Int))), (16, (sl tFact a0)), (17, (intA (i_3 : Int))), (18, (.q (flat tFact.enc a0) (i_3 * tFact.k))), (19, (.g (tFact.enc x_i_3))), (20, (.g [(intA r_5.relation), (.m [1] 0 r_5.values.length tInt.k)]))]) ⟨rfl, rfl, rfl, rfl, rfl, rfl, rfl, rfl, rfl, rfl, trivial⟩ ?_
    refine TO_st (σ' := [.row (flat tFact.own out3), .row (flat tInt.own r_5.values)]) rfl ?_
    obtain ⟨v_7, h_8, H⟩ := bind_inv H
    obtain ⟨n_9, hz_10, hv_11⟩ := getI_inv h_8
    refine TO_cons rfl (TOp_pure (pur_ixM (T := tFact) sl30 rfl rfl hz_10 hv_11 rfl) rfl ?_)
    refine TO_boxify 0 rfl (Nat.le_of_ble_eq_true rfl) ?_
    refine TO_cons rfl (TOp_setN (T := tFact) (i := n_9) (off := 0) (xs := out3) (v := v_7) hz_10 sz60 (by decide) rfl rfl rfl rfl rfl hv_11 rfl rfl (Nat.le_of_ble_eq_true rfl) rfl ?_)
    refine TO_env (E' := [(0, (sl tFact a0)), (3, (.m [0] 0 out3.length tFact.k)), (4, (intA (i_3 : Int))), (14, (.m [0] 0 out3.length tFact.k)), (15, (intA (i_3 : Int))), (16, (sl tFact a0)), (17, (intA (i_3 : Int))), (18, (.q (flat tFact.enc a0) (i_3 * tFact.k))), (19, (.g (tFact.enc x_i_3)))]) ⟨rfl, rfl, rfl, rfl, rfl, rfl, rfl, rfl, rfl, trivial⟩ ?_
    refine TO_st (σ' := [.box (spl (flat tFact.own out3) (n_9 * tFact.k) [(intA r_5.relation), (.m [1] 0 r_5.values.length tInt.k)]), .row (flat tInt.own r_5.values)]) rfl ?_
    refine TO_absorbS (T := tFact) (i := n_9) (xs := out3) (v := v_7) 0 1 1 rfl hv_11 rfl rfl rfl (by decide) tInt.pos (flat_len tInt.lenO _) (Nat.le_of_ble_eq_true rfl) (Nat.le_of_ble_eq_true rfl) rfl (nms_box (namesL_spl namesL_own rfl) (nms_row nms_nil)) ?_
    refine TO_st (σ' := [.box (spl (flat tFact.own out3) (n_9 * tFact.k) [(intA r_5.relation), .o tInt.k (flat tInt.own r_5.values)]), .dead]) rfl ?_
    refine TO_rowifyS (T := tFact) (i := n_9) (xs := out3) 0 r_5 hz_10 rfl hv_11 rfl (Nat.le_of_ble_eq_true rfl) ?_
    refine TO_env (E' := [(0, (sl tFact a0)), (3, (.m [0] 0 (out3.set ((i_3 : Int)).toNat r_5).length tFact.k)), (4, (intA (i_3 : Int))), (14, (.m [0] 0 (out3.set ((i_3 : Int)).toNat r_5).length tFact.k)), (15, (intA (i_3 : Int))), (16, (sl tFact a0)), (17, (intA (i_3 : Int))), (18, (.q (flat tFact.enc a0) (i_3 * tFact.k))), (19, (.g (tFact.enc x_i_3)))]) ⟨rfl, (congrArg (fun q => A.m [0] 0 q tFact.k) (List.length_set ..).symm), rfl, (congrArg (fun q => A.m [0] 0 q tFact.k) (List.length_set ..).symm), rfl, rfl, rfl, rfl, rfl, trivial⟩ ?_
    refine TO_st (σ' := [.row (flat tFact.own (out3.set ((i_3 : Int)).toNat r_5)), .dead]) rfl ?_
    refine TO_nil ?_
    refine T_env (E' := [(0, (sl tFact a0)), (3, (.m [0] 0 (out3.set ((i_3 : Int)).toNat r_5).length tFact.k)), (4, (intA (i_3 : Int)))]) ⟨rfl, rfl, rfl, trivial⟩ ?_
    refine T_region ?_
    refine TO_cons rfl (TOp_pure (pur_move rfl) rfl ?_)
    refine TO_cons rfl (TOp_pure (pur_add rfl rfl rfl (fits64 (by omega) (by omega))) rfl ?_)
    refine TO_cons rfl (TOp_pure (pur_assign rfl) rfl ?_)
    refine TO_nil ?_
    obtain rfl := some_inj H
    exact again (a0.length - (i_3 + 1)) (i_3 + 1, (out3.set ((i_3 : Int)).toNat r_5)) (by omega) (WeakL.to 1 (Nat.le_of_ble_eq_true rfl) rfl rfl rfl rfl ⟨leR rfl, leR rfl, leR rfl, trivial⟩) ⟨rfl, K4_⟩
  · replace d4 := of_decide_eq_false d4
    obtain rfl := forS_end L4_ (by omega)
    refine T_exit ?_
    refine then_exit ?_
    refine then_exit ?_
    refine block_exit ?_
    replace H := N4_
    refine T_env (E' := [(3, (.m [0] 0 out3.length tFact.k))]) ⟨rfl, trivial⟩ ?_
    refine T_seq ?_
    refine T_region ?_
    refine TO_cons rfl (TOp_pure (pur_move rfl) rfl ?_)
    refine TO_cons rfl (TOp_pure (pur_assign rfl) rfl ?_)
    refine TO_nil ?_
    refine T_env (E' := [(2, (.m [0] 0 out3.length tFact.k))]) ⟨rfl, trivial⟩ ?_
    refine T_ret ?_
    obtain rfl := some_inj H
    exact end_pick (.tmp .nil) rfl [0] (by decide) rfl rfl rfl rfl rfl rfl
theorem m_laws_toFactS_ok (a0 : (List Fact)) (r : (List Fact)) (H : m_laws_toFactS a0 = some r) : FnV prg 65 [(sl tFact a0)] (sl tFact r) := (m_laws_toFactS_own a0 r H).frz (frzT (T := tFact) rfl)

set_option maxHeartbeats 1000000 in
/-- laws.toDatabase -/
theorem m_laws_toDatabase_own (a0 : Database) (r : Database) (H : m_laws_toDatabase a0 = some r) : FnO prg 27 [(.g (tDatabase.enc a0))] (.g [(.m [0] 0 r.relations.length tRelation.k), (.m [1] 0 r.facts.length tFact.k)]) [.row (flat tRelation.own r.relations), .row (flat tFact.own r.facts)] := by
  unfold m_laws_toDatabase at H
  refine fnO_of_T Try.func27 rfl rfl (Nat.le_of_ble_eq_true rfl) ?_
  refine T_env (E' := [(0, (.g (tDatabase.enc a0)))]) ⟨rfl, trivial⟩ ?_
  refine T_seq ?_
  refine T_region ?_
  refine TO_cons rfl (TOp_box rfl (boxAll rfl) rfl rfl ?_)
  refine TO_cons rfl (TOp_alloc zero32 rfl rfl ?_)
  refine TO_nil ?_
  refine T_env (E' := [(1, (.b 0 0)), (2, (.b 1 0))]) ⟨rfl, rfl, trivial⟩ ?_
  refine T_seq ?_
  refine T_region ?_
  refine TO_cons rfl (TOp_alloc zero32 rfl rfl ?_)
  refine TO_nil ?_
  refine T_env (E' := [(1, (.b 0 0)), (2, (.b 1 0)), (3, (.b 2 0))]) ⟨rfl, rfl, rfl, trivial⟩ ?_
  refine T_seq ?_
  refine T_region ?_
  refine TO_cons rfl (TOp_pure (pur_fa_b fld41_0 rfl rfl) rfl ?_)
  refine TO_cons rfl (TOp_pure (pur_ld_b one38 rfl rfl rfl rfl) rfl ?_)
  obtain ⟨r_1, h_2, H⟩ := bind_inv H
  refine TO_cons rfl (TOp_callO (call_static ent64 rfl) rfl (m_laws_toRelationS_own _ _ h_2) rfl rfl rfl ?_)
  refine TO_env (E' := [(1, (.b 0 0)), (2, (.b 1 0)), (3, (.b 2 0)), (4, (.b 0 0)), (5, (sl tRelation a0.relations)), (6, (.m [3] 0 r_1.length tRelation.k))]) ⟨rfl, rfl, rfl, rfl, rfl, rfl, trivial⟩ ?_
  refine TO_st (σ' := [.box [(sl tRelation a0.relations), (sl tFact a0.facts)], .box [.n, .n], .box [.n, .n], .row (flat tRelation.own r_1)]) rfl ?_
  refine TO_cons rfl (TOp_pure (pur_fa_b fld32_0 rfl rfl) rfl ?_)
  refine TO_cons rfl (TOp_storeB sz29 rfl rfl rfl rfl rfl rfl rfl (by decide) (Nat.le_of_ble_eq_true rfl) rfl ?_)
  refine TO_st (σ' := [.box [(sl tRelation a0.relations), (sl tFact a0.facts)], .box [.n, .n], .box [(.m [3] 0 r_1.length tRelation.k), .n], .row (flat tRelation.own r_1)]) rfl ?_
  refine TO_nil ?_
  refine T_env (E' := [(1, (.b 0 0)), (2, (.b 1 0)), (3, (.b 2 0))]) ⟨rfl, rfl, rfl, trivial⟩ ?_
  refine T_seq ?_
  refine T_region ?_
  refine TO_cons rfl (TOp_pure (pur_fa_b fld41_1 rfl rfl) rfl ?_)
  refine TO_cons rfl (TOp_pure (pur_ld_b one39 rfl rfl rfl rfl) rfl ?_)
  obtain ⟨r_3, h_4, H⟩ := bind_inv H
  refine TO_cons rfl (TOp_callO (call_static ent65 rfl) rfl (m_laws_toFactS_own _ _ h_4) rfl rfl rfl ?_)
  refine TO_env (E' := [(1, (.b 0 0)), (2, (.b 1 0)), (3, (.b 2 0)), (8, (.b 0 1)), (9, (sl tFact a0.facts)), (10, (.m [4] 0 r_3.length tFact.k))]) ⟨rfl, rfl, rfl, rfl, rfl, rfl, trivial⟩ ?_
  refine TO_st (σ' := [.box [(sl tRelation a0.relations), (sl tFact a0.facts)], .box [.n, .n], .box [(.m [3] 0 r_1.length tRelation.k), .n], .row (flat tRelation.own r_1), .row (flat tFact.own r_3)]) rfl ?_
  refine TO_cons rfl (TOp_pure (pur_fa_b fld32_1 rfl rfl) rfl ?_)
  refine TO_cons rfl (TOp_storeB sz30 rfl rfl rfl rfl rfl rfl rfl (by decide) (Nat.le_of_ble_eq_true rfl) rfl ?_)
  refine TO_st (σ' := [.box [(sl tRelation a0.relations), (sl tFact a0.facts)], .box [.n, .n], .box [(.m [3] 0 r_1.length tRelation.k), (.m [4] 0 r_3.length tFact.k)], .row (flat tRelation.own r_1), .row (flat tFact.own r_3)]) rfl ?_
  refine TO_nil ?_
  refine T_env (E' := [(2, (.b 1 0)), (3, (.b 2 0))]) ⟨rfl, rfl, trivial⟩ ?_
  refine T_seq ?_
  refine T_region ?_
  refine TO_cons rfl (TOp_pure (pur_ldK_b agg32 rfl rfl (Nat.le_of_ble_eq_true rfl) rfl) rfl ?_)
  refine TO_cons rfl (TOp_storeB sz32 rfl rfl rfl rfl rfl rfl rfl (by decide) (Nat.le_of_ble_eq_true rfl) rfl ?_)
  refine TO_st (σ' := [.box [(sl tRelation a0.relations), (sl tFact a0.facts)], .box [(.m [3] 0 r_1.length tRelation.k), (.m [4] 0 r_3.length tFact.k)], .box [(.m [3] 0 r_1.length tRelation.k), (.m [4] 0 r_3.length tFact.k)], .row (flat tRelation.own r_1), .row (flat tFact.own r_3)]) rfl ?_
  refine TO_nil ?_
  refine T_env (E' := [(2, (.b 1 0))]) ⟨rfl, trivial⟩ ?_
  refine T_ret ?_
  obtain rfl := some_inj H
  exact end_pick (.cellK rfl agg32 rfl (Nat.le_of_ble_eq_true rfl) .nil) rfl [3, 4] (by decide) rfl rfl rfl rfl rfl rfl
theorem m_laws_toDatabase_ok (a0 : Database) (r : Database) (H : m_laws_toDatabase a0 = some r) : FnV prg 27 [(.g (tDatabase.enc a0))] (.g (tDatabase.enc r)) := (m_laws_toDatabase_own a0 r H).frz (frzOK_g (frz_cons (frzT (T := tRelation) rfl) (frz_cons (frzT (T := tFact) rfl) frz_nil)).1 (frz_cons (frzT (T := tRelation) rfl) (frz_cons (frzT (T := tFact) rfl) frz_nil)).2)

set_option maxHeartbeats 1000000 in
/-- laws.eqRelation -/
theorem m_laws_eqRelation_ok (a0 : Relation) (b1 : Relation) (r : Bool) (H : m_laws_eqRelation a0 b1 = some r) : FnV prg 95 [(.g (tRelation.enc a0)), (.g (tRelation.enc b1))] (boolA r) := by
  unfold m_laws_eqRelation at H
  refine fnV_of_T Try.func95 rfl rfl (Nat.le_of_ble_eq_true rfl) ?_
  refine T_env (E' := [(0, (.g (tRelation.enc a0))), (1, (.g (tRelation.enc b1)))]) ⟨rfl, rfl, trivial⟩ ?_
  refine T_seq ?_
  refine T_region ?_
  refine TO_cons rfl (TOp_box rfl (boxAll rfl) rfl rfl ?_)
  refine TO_cons rfl (TOp_box rfl (boxAll rfl) rfl rfl ?_)
  refine TO_cons rfl (TOp_pure (pur_assign rfl) rfl ?_)
  refine TO_nil ?_
  refine T_env (E' := [(2, (.b 0 0)), (3, (.b 1 0))]) ⟨rfl, rfl, trivial⟩ ?_
  refine T_seq ?_
  refine T_seq ?_
  refine T_region ?_
  refine TO_cons rfl (TOp_pure (pur_fa_b fld97_0 rfl rfl) rfl ?_)
  refine TO_cons rfl (TOp_pure (pur_ld_b one9 rfl rfl rfl rfl) rfl ?_)
  refine TO_cons rfl (TOp_pure (pur_fa_b fld97_0 rfl rfl) rfl ?_)
  refine TO_cons rfl (TOp_pure (pur_ld_b one9 rfl rfl rfl rfl) rfl ?_)
  refine TO_cons rfl (TOp_pure (pur_neqS rfl rfl rfl) rfl ?_)
  refine TO_nil ?_
  refine T_env (E' := [(2, (.b 0 0)), (3, (.b 1 0)), (9, (boolA (decide (a0.name ≠ b1.name))))]) ⟨rfl, rfl, rfl, trivial⟩ ?_
  refine T_cond (t := decide (a0.name ≠ b1.name)) rfl (fun c_1 => ?_) (fun c_1 => ?_)
  · replace H := cond_t c_1 H
    refine T_seq ?_
    refine T_region ?_
    refine TO_cons rfl (TOp_pure (pur_assign rfl) rfl ?_)
    refine TO_nil ?_
    refine T_env (E' := [(4, (boolA false))]) ⟨rfl, trivial⟩ ?_
    refine T_ret ?_
    refine then_ret ?_
    obtain rfl := some_inj H
    refine end_ret (.tmp .nil) rfl rfl ⟨?_, rfl⟩
    rfl
  · replace H := cond_f c_1 H
    refine T_skip ?_
    refine T_env (E' := [(2, (.b 0 0)), (3, (.b 1 0))]) ⟨rfl, rfl, trivial⟩ ?_
    refine T_seq ?_
    refine T_seq ?_
    refine T_region ?_
    refine TO_cons rfl (TOp_pure (pur_fa_b fld97_1 rfl rfl) rfl ?_)
    refine TO_cons rfl (TOp_pure (pur_ld_b one3 rfl rfl rfl rfl) rfl ?_)
    refine TO_cons rfl (TOp_pure (pur_fa_b fld97_1 rfl rfl) rfl ?_)
    refine TO_cons rfl (TOp_pure (pur_ld_b one3 rfl rfl rfl rfl) rfl ?_)
    refine TO_cons rfl (TOp_pure (pur_neq rfl rfl rfl) rfl ?_)
    refine TO_nil ?_
    refine T_env (E' := [(2, (.b 0 0)), (3, (.b 1 0)), (14, (boolA (decide (a0.arity ≠ b1.arity))))]) ⟨rfl, rfl, rfl, trivial⟩ ?_
    refine T_cond (t := decide (a0.arity ≠ b1.arity)) rfl (fun c_2 => ?_) (fun c_2 => ?_)
    · replace H := cond_t c_2 H
      refine T_seq ?_
      refine T_region ?_
      refine TO_cons rfl (TOp_pure (pur_assign rfl) rfl ?_)
      refine TO_nil ?_
      refine T_env (E' := [(4, (boolA false))]) ⟨rfl, trivial⟩ ?_
      refine T_ret ?_
      refine then_ret ?_
      obtain rfl := some_inj H
      refine end_ret (.tmp .nil) rfl rfl ⟨?_, rfl⟩
      rfl
    · replace H := cond_f c_2 H
      refine T_skip ?_
      refine T_env (E' := [(2, (.b 0 0)), (3, (.b 1 0))]) ⟨rfl, rfl, trivial⟩ ?_
      refine T_seq ?_
      refine T_seq ?_
      refine T_region ?_
      refine TO_cons rfl (TOp_pure (pur_fa_b fld97_2 rfl rfl) rfl ?_)
      refine TO_cons rfl (TOp_pure (pur_ld_b one3 rfl rfl rfl rfl) rfl ?_)
      refine TO_cons rfl (TOp_pure (pur_fa_b fld97_2 rfl rfl) rfl ?_)
      refine TO_cons rfl (TOp_pure (pur_ld_b one3 rfl rfl rfl rfl) rfl ?_)
      refine TO_cons rfl (TOp_pure (pur_neq rfl rfl rfl) rfl ?_)
      refine TO_nil ?_
      refine T_env (E' := [(19, (boolA (decide (a0.keyLength ≠ b1.keyLength))))]) ⟨rfl, trivial⟩ ?_
      refine T_cond (t := decide (a0.keyLength ≠ b1.keyLength)) rfl (fun c_3 => ?_) (fun c_3 => ?_)
      · replace H := cond_t c_3 H
        refine T_seq ?_
        refine T_region ?_
        refine TO_cons rfl (TOp_pure (pur_assign rfl) rfl ?_)
        refine TO_nil ?_
        refine T_env (E' := [(4, (boolA false))]) ⟨rfl, trivial⟩ ?_
        refine T_ret ?_
        refine then_ret ?_
        obtain rfl := some_inj H
        refine end_ret (.tmp .nil) rfl rfl ⟨?_, rfl⟩
        rfl
      · replace H := cond_f c_3 H
        refine T_skip ?_
        refine T_env (E' := []) trivial ?_
        refine T_seq ?_
        refine T_region ?_
        refine TO_cons rfl (TOp_pure (pur_assign rfl) rfl ?_)
        refine TO_nil ?_
        refine T_env (E' := [(4, (boolA true))]) ⟨rfl, trivial⟩ ?_
        refine T_ret ?_
        obtain rfl := some_inj H
        refine end_ret (.tmp .nil) rfl rfl ⟨?_, rfl⟩
        rfl

set_option maxHeartbeats 1000000 in
/-- laws.eqRelationS -/
theorem m_laws_eqRelationS_ok (a0 : (List Relation)) (b1 : (List Relation)) (r : Bool) (H : m_laws_eqRelationS a0 b1 = some r) : FnV prg 66 [(sl tRelation a0), (sl tRelation b1)] (boolA r) := by
  unfold m_laws_eqRelationS at H
  refine fnV_of_T Try.func66 rfl rfl (Nat.le_of_ble_eq_true rfl) ?_
  refine T_env (E' := [(0, (sl tRelation a0)), (1, (sl tRelation b1))]) ⟨rfl, rfl, trivial⟩ ?_
  refine T_seq ?_
  refine T_region ?_
  refine TO_cons rfl (TOp_pure (pur_assign rfl) rfl ?_)
  refine TO_nil ?_
  refine T_env (E' := [(0, (sl tRelation a0)), (1, (sl tRelation b1))]) ⟨rfl, rfl, trivial⟩ ?_
  refine T_seq ?_
  refine T_seq ?_
  refine T_region ?_
  refine TO_cons rfl (TOp_pure (pur_move rfl) rfl ?_)
  refine TO_cons rfl (TOp_pure (pur_lenT (T := tRelation) sl29 rfl rfl) rfl ?_)
  refine TO_cons rfl (TOp_pure (pur_move rfl) rfl ?_)
  refine TO_cons rfl (TOp_pure (pur_lenT (T := tRelation) sl29 rfl rfl) rfl ?_)
  refine TO_cons rfl (TOp_pure (pur_neq rfl rfl rfl) rfl ?_)
  refine TO_nil ?_
  refine T_env (E' := [(0, (sl tRelation a0)), (1, (sl tRelation b1)), (10, (boolA (decide ((a0.length : Int) ≠ (b1.length : Int)))))]) ⟨rfl, rfl, rfl, trivial⟩ ?_
  refine T_cond (t := decide ((a0.length : Int) ≠ (b1.length : Int))) rfl (fun c_1 => ?_) (fun c_1 => ?_)
  · replace H := cond_t c_1 H
    refine T_seq ?_
    refine T_region ?_
    refine TO_cons rfl (TOp_pure (pur_assign rfl) rfl ?_)
    refine TO_nil ?_
    refine T_env (E' := [(4, (boolA false))]) ⟨rfl, trivial⟩ ?_
    refine T_ret ?_
    refine then_ret ?_
    obtain rfl := some_inj H
    refine end_ret (.tmp .nil) rfl rfl ⟨?_, rfl⟩
    rfl
  · replace H := cond_f c_1 H
    refine T_skip ?_
    refine T_env (E' := [(0, (sl tRelation a0)), (1, (sl tRelation b1))]) ⟨rfl, rfl, trivial⟩ ?_
    refine T_seq ?_
    refine T_seq ?_
    refine T_region ?_
    refine TO_cons rfl (TOp_pure (pur_assign rfl) rfl ?_)
    refine TO_nil ?_
    refine T_env (E' := [(0, (sl tRelation a0)), (1, (sl tRelation b1)), (5, (intA 0))]) ⟨rfl, rfl, rfl, trivial⟩ ?_
    obtain ⟨O3_, L3_, N3_⟩ := bind_inv H
    clear H
    obtain ⟨B3_, hb3, L3_⟩ := gen_forL L3_
    refine T_block ?_
    refine T_loopX (fun k => fun (i_2 : Nat) => k = a0.length - i_2 ∧ forL B3_ (a0.drop i_2) (i_2 : Int) () = some O3_) (fun (i_2 : Nat) => [(0, (sl tRelation a0)), (1, (sl tRelation b1)), (5, (intA (i_2 : Int)))]) (fun (i_2 : Nat) => []) _ (0 : Nat) (WeakL.to 0 (Nat.le_of_ble_eq_true rfl) rfl rfl rfl rfl ⟨leR rfl, leR rfl, leR rfl, trivial⟩) ⟨rfl, L3_⟩ ?_
    rintro _ i_2 ⟨rfl, L3_⟩
    refine T_env (E' := [(0, (sl tRelation a0)), (1, (sl tRelation b1)), (5, (intA (i_2 : Int)))]) ⟨rfl, rfl, rfl, trivial⟩ ?_
    refine T_st (σ' := []) rfl ?_
    refine T_fact (len_sl (T := tRelation) (.tmp 0) rfl) (fun hl3 => ?_)
    refine T_seq ?_
    refine T_seq ?_
    refine T_region ?_
    refine TO_cons rfl (TOp_pure (pur_move rfl) rfl ?_)
    refine TO_cons rfl (TOp_pure (pur_move rfl) rfl ?_)
    refine TO_cons rfl (TOp_pure (pur_lenT (T := tRelation) sl29 rfl rfl) rfl ?_)
    refine TO_cons rfl (TOp_pure (pur_lss rfl rfl rfl) rfl ?_)
    refine TO_nil ?_
    refine T_env (E' := [(0, (sl tRelation a0)), (1, (sl tRelation b1)), (5, (intA (i_2 : Int))), (14, (boolA (decide ((i_2 : Int) < (a0.length : Int)))))]) ⟨rfl, rfl, rfl, rfl, trivial⟩ ?_
    refine T_cond (t := decide ((i_2 : Int) < (a0.length : Int))) rfl (fun d3 => ?_) (fun d3 => ?_)
    · replace d3 := of_decide_eq_true d3
      obtain ⟨x_i_2, hx_i_2⟩ : ∃ v, (a0)[i_2]? = some v := ⟨_, List.getElem?_eq_getElem (by omega)⟩
      obtain ⟨C3_, H, K3_⟩ := forL_step L3_ hx_i_2
      rw [hb3] at H
      refine T_skip ?_
      refine T_env (E' := [(0, (sl tRelation a0)), (1, (sl tRelation b1)), (5, (intA (i_2 : Int)))]) ⟨rfl, rfl, rfl, trivial⟩ ?_
      refine T_seq ?_
      refine T_block ?_
      refine T_seq ?_
      refine T_regionD mixed (by kernel_rfl) ?_
      refine TQ_pure rfl (pur_move rfl) rfl ?_
      refine TQ_pure rfl (pur_move rfl) rfl ?_
      refine TQ_pure rfl (pur_ixT (T := tRelation) sl29 rfl rfl rfl hx_i_2 rfl) rfl ?_
      refine TQ_pure rfl (pur_ldTK (T := tRelation) (i := i_2) (off := 0) rfl agg97 rfl rfl hx_i_2 (by decide) rfl) rfl ?_
      refine TQ_pure rfl (pur_move rfl) rfl ?_
      refine TQ_pure rfl (pur_move rfl) rfl ?_
      obtain ⟨v_4, h_5, H⟩ := bind_inv H
      obtain ⟨n_6, hz_7, hv_8⟩ := getI_inv h_5
      refine TQ_pure rfl (pur_ixT (T := tRelation) sl29 rfl rfl hz_7 hv_8 rfl) rfl ?_
      refine TQ_pure rfl (pur_ldTK (T := tRelation) (i := n_6) (off := 0) rfl agg97 rfl rfl hv_8 (by decide) rfl) rfl ?_
      obtain ⟨r_9, h_10, H⟩ := bind_inv H
      refine TQ_callV rfl (call_static ent95 rfl) (m_laws_eqRelation_ok _ _ _ h_10) rfl rfl ?_
      refine TQ_pure rfl (pur_not rfl rfl) rfl ?_
      refine TQ_nil ?_
      refine T_env (E' := [(0, (sl tRelation a0)), (1, (sl tRelation b1)), (5, (intA (i_2 : Int))), (26, (boolA (!r_9)))]) ⟨rfl, rfl, rfl, rfl, trivial⟩ ?_
      refine T_cond (t := (!r_9)) rfl (fun c_11 => ?_) (fun c_11 => ?_)
      · replace H := cond_t c_11 H
        refine T_seq ?_
        refine T_region ?_
        refine TO_cons rfl (TOp_pure (pur_assign rfl) rfl ?_)
        refine TO_nil ?_
        refine T_env (E' := [(4, (boolA false))]) ⟨rfl, trivial⟩ ?_
        refine T_ret ?_
        refine block_ret ?_
        refine then_ret ?_
        refine then_ret ?_
        refine block_ret ?_
        refine then_ret ?_
        obtain rfl := some_inj H
        obtain rfl := some_inj K3_
        replace H := onS_r N3_
        obtain rfl := some_inj H
        refine end_ret (.tmp .nil) rfl rfl ⟨?_, rfl⟩
        rfl
      · replace H := cond_f c_11 H
        refine T_skip ?_
        refine T_env (E' := [(0, (sl tRelation a0)), (1, (sl tRelation b1)), (5, (intA (i_2 : Int)))]) ⟨rfl, rfl, rfl, trivial⟩ ?_
        refine T_region ?_
        refine TO_cons rfl (TOp_pure (pur_move rfl) rfl ?_)
        refine TO_cons rfl (TOp_pure (pur_add rfl rfl rfl (fits64 (by omega) (by omega))) rfl ?_)
        refine TO_cons rfl (TOp_pure (pur_assign rfl) rfl ?_)
        refine TO_nil ?_
        obtain rfl := some_inj H
        exact again (a0.length - (i_2 + 1)) (i_2 + 1) (by omega) (WeakL.to 0 (Nat.le_of_ble_eq_true rfl) rfl rfl rfl rfl ⟨leR rfl, leR rfl, leR rfl, trivial⟩) ⟨rfl, K3_⟩
    · replace d3 := of_decide_eq_false d3
      obtain rfl := forL_end L3_ (by omega)
      refine T_exit ?_
      refine then_exit ?_
      refine then_exit ?_
      refine block_exit ?_
      replace H := onS_l N3_
      refine T_env (E' := []) trivial ?_
      refine T_seq ?_
      refine T_region ?_
      refine TO_cons rfl (TOp_pure (pur_assign rfl) rfl ?_)
      refine TO_nil ?_
      refine T_env (E' := [(4, (boolA true))]) ⟨rfl, trivial⟩ ?_
      refine T_ret ?_
      obtain rfl := some_inj H
      refine end_ret (.tmp .nil) rfl rfl ⟨?_, rfl⟩
      rfl

set_option maxHeartbeats 1000000 in
/-- laws.eqIntS -/
theorem m_laws_eqIntS_ok (a0 : (List Int)) (b1 : (List Int)) (r : Bool) (H : m_laws_eqIntS a0 b1 = some r) : FnV prg 30 [(sl tInt a0), (sl tInt b1)] (boolA r) := by
  unfold m_laws_eqIntS at H
  refine fnV_of_T Try.func30 rfl rfl (Nat.le_of_ble_eq_true rfl) ?_
  refine T_env (E' := [(0, (sl tInt a0)), (1, (sl tInt b1))]) ⟨rfl, rfl, trivial⟩ ?_
  refine T_seq ?_
  refine T_region ?_
  refine TO_cons rfl (TOp_pure (pur_assign rfl) rfl ?_)
  refine TO_nil ?_
  refine T_env (E' := [(0, (sl tInt a0)), (1, (sl tInt b1))]) ⟨rfl, rfl, trivial⟩ ?_
  refine T_seq ?_
  refine T_seq ?_
  refine T_region ?_
  refine TO_cons rfl (TOp_pure (pur_move rfl) rfl ?_)
  refine TO_cons rfl (TOp_pure (pur_lenT (T := tInt) sl33 rfl rfl) rfl ?_)
  refine TO_cons rfl (TOp_pure (pur_move rfl) rfl ?_)
  refine TO_cons rfl (TOp_pure (pur_lenT (T := tInt) sl33 rfl rfl) rfl ?_)
  refine TO_cons rfl (TOp_pure (pur_neq rfl rfl rfl) rfl ?_)
  refine TO_nil ?_
  refine T_env (E' := [(0, (sl tInt a0)), (1, (sl tInt b1)), (10, (boolA (decide ((a0.length : Int) ≠ (b1.length : Int)))))]) ⟨rfl, rfl, rfl, trivial⟩ ?_
  refine T_cond (t := decide ((a0.length : Int) ≠ (b1.length : Int))) rfl (fun c_1 => ?_) (fun c_1 => ?_)
  · replace H := cond_t c_1 H
    refine T_seq ?_
    refine T_region ?_
    refine TO_cons rfl (TOp_pure (pur_assign rfl) rfl ?_)
    refine TO_nil ?_
    refine T_env (E' := [(4, (boolA false))]) ⟨rfl, trivial⟩ ?_
    refine T_ret ?_
    refine then_ret ?_
    obtain rfl := some_inj H
    refine end_ret (.tmp .nil) rfl rfl ⟨?_, rfl⟩
    rfl
  · replace H := cond_f c_1 H
    refine T_skip ?_
    refine T_env (E' := [(0, (sl tInt a0)), (1, (sl tInt b1))]) ⟨rfl, rfl, trivial⟩ ?_
    refine T_seq ?_
    refine T_seq ?_
    refine T_region ?_
    refine TO_cons rfl (TOp_pure (pur_assign rfl) rfl ?_)
    refine TO_nil ?_
    refine T_env (E' := [(0, (sl tInt a0)), (1, (sl tInt b1)), (5, (intA 0))]) ⟨rfl, rfl, rfl, trivial⟩ ?_
    obtain ⟨O3_, L3_, N3_⟩ := bind_inv H
    clear H
    obtain ⟨B3_, hb3, L3_⟩ := gen_forL L3_
    refine T_block ?_
    refine T_loopX (fun k => fun (i_2 : Nat) => k = a0.length - i_2 ∧ forL B3_ (a0.drop i_2) (i_2 : Int) () = some O3_) (fun (i_2 : Nat) => [(0, (sl tInt a0)), (1, (sl tInt b1)), (5, (intA (i_2 : Int)))]) (fun (i_2 : Nat) => []) _ (0 : Nat) (WeakL.to 0 (Nat.le_of_ble_eq_true rfl) rfl rfl rfl rfl ⟨leR rfl, leR rfl, leR rfl, trivial⟩) ⟨rfl, L3_⟩ ?_
    rintro _ i_2 ⟨rfl, L3_⟩
    refine T_env (E' := [(0, (sl tInt a0)), (1, (sl tInt b1)), (5, (intA (i_2 : Int)))]) ⟨rfl, rfl, rfl, trivial⟩ ?_
    refine T_st (σ' := []) rfl ?_
    refine T_fact (len_sl (T := tInt) (.tmp 0) rfl) (fun hl3 => ?_)
    refine T_seq ?_
    refine T_seq ?_
    refine T_region ?_
    refine TO_cons rfl (TOp_pure (pur_move rfl) rfl ?_)
    refine TO_cons rfl (TOp_pure (pur_move rfl) rfl ?_)
    refine TO_cons rfl (TOp_pure (pur_lenT (T := tInt) sl33 rfl rfl) rfl ?_)
    refine TO_cons rfl (TOp_pure (pur_lss rfl rfl rfl) rfl ?_)
    refine TO_nil ?_
    refine T_env (E' := [(0, (sl tInt a0)), (1, (sl tInt b1)), (5, (intA (i_2 : Int))), (14, (boolA (decide ((i_2 : Int) < (a0.length : Int)))))]) ⟨rfl, rfl, rfl, rfl, trivial⟩ ?_
    refine T_cond (t := decide ((i_2 : Int) < (a0.length : Int))) rfl (fun d3 => ?_) (fun d3 => ?_)
    · replace d3 := of_decide_eq_true d3
      obtain ⟨x_i_2, hx_i_2⟩ : ∃ v, (a0)[i_2]? = some v := ⟨_, List.getElem?_eq_getElem (by omega)⟩
      obtain ⟨C3_, H, K3_⟩ := forL_step L3_ hx_i_2
      rw [hb3] at H
      refine T_skip ?_
      refine T_env (E' := [(0, (sl tInt a0)), (1, (sl tInt b1)), (5, (intA (i_2 : Int)))]) ⟨rfl, rfl, rfl, trivial⟩ ?_
      refine T_seq ?_
      refine T_block ?_
      refine T_seq ?_
      refine T_regionD mixed (by kernel_rfl) ?_
      refine TQ_pure rfl (pur_move rfl) rfl ?_
      refine TQ_pure rfl (pur_move rfl) rfl ?_
      refine TQ_pure rfl (pur_ixT (T := tInt) sl33 rfl rfl rfl hx_i_2 rfl) rfl ?_
      refine TQ_pure rfl (pur_ldT (T := tInt) (i := i_2) (off := 0) rfl one3 rfl rfl hx_i_2 rfl) rfl ?_
      refine TQ_pure rfl (pur_move rfl) rfl ?_
      refine TQ_pure rfl (pur_move rfl) rfl ?_
      obtain ⟨v_4, h_5, H⟩ := bind_inv H
      obtain ⟨n_6, hz_7, hv_8⟩ := getI_inv h_5
      refine TQ_pure rfl (pur_ixT (T := tInt) sl33 rfl rfl hz_7 hv_8 rfl) rfl ?_
      refine TQ_pure rfl (pur_ldT (T := tInt) (i := n_6) (off := 0) rfl one3 rfl rfl hv_8 rfl) rfl ?_
      refine TQ_pure rfl (pur_neq rfl rfl rfl) rfl ?_
      refine TQ_nil ?_
      refine T_env (E' := [(0, (sl tInt a0)), (1, (sl tInt b1)), (5, (intA (i_2 : Int))), (25, (boolA (decide (x_i_2 ≠ v_4))))]) ⟨rfl, rfl, rfl, rfl, trivial⟩ ?_
      refine T_cond (t := decide (x_i_2 ≠ v_4)) rfl (fun c_9 => ?_) (fun c_9 => ?_)
      · replace H := cond_t c_9 H
        refine T_seq ?_
        refine T_region ?_
        refine TO_cons rfl (TOp_pure (pur_assign rfl) rfl ?_)
        refine TO_nil ?_
        refine T_env (E' := [(4, (boolA false))]) ⟨rfl, trivial⟩ ?_
        refine T_ret ?_
        refine block_ret ?_
        refine then_ret ?_
        refine then_ret ?_
        refine block_ret ?_
        refine then_ret ?_
        obtain rfl := some_inj H
        obtain rfl := some_inj K3_
        replace H := onS_r N3_
        obtain rfl := some_inj H
        refine end_ret (.tmp .nil) rfl rfl ⟨?_, rfl⟩
        rfl
      · replace H := cond_f c_9 H
        refine T_skip ?_
        refine T_env (E' := [(0, (sl tInt a0)), (1, (sl tInt b1)), (5, (intA (i_2 : Int)))]) ⟨rfl, rfl, rfl, trivial⟩ ?_
        refine T_region ?_
        refine TO_cons rfl (TOp_pure (pur_move rfl) rfl ?_)
        refine TO_cons rfl (TOp_pure (pur_add rfl rfl rfl (fits64 (by omega) (by omega))) rfl ?_)
        refine TO_cons rfl (TOp_pure (pur_assign rfl) rfl ?_)
        refine TO_nil ?_
        obtain rfl := some_inj H
        exact again (a0.length - (i_2 + 1)) (i_2 + 1) (by omega) (WeakL.to 0 (Nat.le_of_ble_eq_true rfl) rfl rfl rfl rfl ⟨leR rfl, leR rfl, leR rfl, trivial⟩) ⟨rfl, K3_⟩
    · replace d3 := of_decide_eq_false d3
      obtain rfl := forL_end L3_ (by omega)
      refine T_exit ?_
      refine then_exit ?_
      refine then_exit ?_
      refine block_exit ?_
      replace H := onS_l N3_
      refine T_env (E' := []) trivial ?_
      refine T_seq ?_
      refine T_region ?_
      refine TO_cons rfl (TOp_pure (pur_assign rfl) rfl ?_)
      refine TO_nil ?_
      refine T_env (E' := [(4, (boolA true))]) ⟨rfl, trivial⟩ ?_
      refine T_ret ?_
      obtain rfl := some_inj H
      refine end_ret (.tmp .nil) rfl rfl ⟨?_, rfl⟩
      rfl

set_option maxHeartbeats 1000000 in
/-- laws.eqFact -/
theorem m_laws_eqFact_ok (a0 : Fact) (b1 : Fact) (r : Bool) (H : m_laws_eqFact a0 b1 = some r) : FnV prg 96 [(.g (tFact.enc a0)), (.g (tFact.enc b1))] (boolA r) := by
  unfold m_laws_eqFact at H
  refine fnV_of_T Try.func96 rfl rfl (Nat.le_of_ble_eq_true rfl) ?_
  refine T_env (E' := [(0, (.g (tFact.enc a0))), (1, (.g (tFact.enc b1)))]) ⟨rfl, rfl, trivial⟩ ?_
  refine T_seq ?_
  refine T_region ?_
  refine TO_cons rfl (TOp_box rfl (boxAll rfl) rfl rfl ?_)
  refine TO_cons rfl (TOp_box rfl (boxAll rfl) rfl rfl ?_)
  refine TO_cons rfl (TOp_pure (pur_assign rfl) rfl ?_)
  refine TO_nil ?_
  refine T_env (E' := [(2, (.b 0 0)), (3, (.b 1 0))]) ⟨rfl, rfl, trivial⟩ ?_
  refine T_seq ?_
  refine T_seq ?_
  refine T_region ?_
  refine TO_cons rfl (TOp_pure (pur_fa_b fld60_0 rfl rfl) rfl ?_)
  refine TO_cons rfl (TOp_pure (pur_ld_b one3 rfl rfl rfl rfl) rfl ?_)
  refine TO_cons rfl (TOp_pure (pur_fa_b fld60_0 rfl rfl) rfl ?_)
  refine TO_cons rfl (TOp_pure (pur_ld_b one3 rfl rfl rfl rfl) rfl ?_)
  refine TO_cons rfl (TOp_pure (pur_neq rfl rfl rfl) rfl ?_)
  refine TO_nil ?_
  refine T_env (E' := [(2, (.b 0 0)), (3, (.b 1 0)), (9, (boolA (decide (a0.relation ≠ b1.relation))))]) ⟨rfl, rfl, rfl, trivial⟩ ?_
  refine T_cond (t := decide (a0.relation ≠ b1.relation)) rfl (fun c_1 => ?_) (fun c_1 => ?_)
  · replace H := cond_t c_1 H
    refine T_seq ?_
    refine T_region ?_
    refine TO_cons rfl (TOp_pure (pur_assign rfl) rfl ?_)
    refine TO_nil ?_
    refine T_env (E' := [(4, (boolA false))]) ⟨rfl, trivial⟩ ?_
    refine T_ret ?_
    refine then_ret ?_
    obtain rfl := some_inj H
    refine end_ret (.tmp .nil) rfl rfl ⟨?_, rfl⟩
    rfl
  · replace H := cond_f c_1 H
    refine T_skip ?_
    refine T_env (E' := [(2, (.b 0 0)), (3, (.b 1 0))]) ⟨rfl, rfl, trivial⟩ ?_
    refine T_seq ?_
    refine T_seq ?_
    refine T_region ?_
    refine TO_cons rfl (TOp_pure (pur_fa_b fld60_1 rfl rfl) rfl ?_)
    refine TO_cons rfl (TOp_pure (pur_ld_b one33 rfl rfl rfl rfl) rfl ?_)
    refine TO_cons rfl (TOp_pure (pur_fa_b fld60_1 rfl rfl) rfl ?_)
    refine TO_cons rfl (TOp_pure (pur_ld_b one33 rfl rfl rfl rfl) rfl ?_)
    obtain ⟨r_2, h_3, H⟩ := bind_inv H
    refine TO_cons rfl (TOp_callV (call_static ent30 rfl) (m_laws_eqIntS_ok _ _ _ h_3) rfl rfl rfl ?_)
    refine TO_cons rfl (TOp_pure (pur_not rfl rfl) rfl ?_)
    refine TO_nil ?_
    refine T_env (E' := [(15, (boolA (!r_2)))]) ⟨rfl, trivial⟩ ?_
    refine T_cond (t := (!r_2)) rfl (fun c_4 => ?_) (fun c_4 => ?_)
    · replace H := cond_t c_4 H
      refine T_seq ?_
      refine T_region ?_
      refine TO_cons rfl (TOp_pure (pur_assign rfl) rfl ?_)
      refine TO_nil ?_
      refine T_env (E' := [(4, (boolA false))]) ⟨rfl, trivial⟩ ?_
      refine T_ret ?_
      refine then_ret ?_
      obtain rfl := some_inj H
      refine end_ret (.tmp .nil) rfl rfl ⟨?_, rfl⟩
      rfl
    · replace H := cond_f c_4 H
      refine T_skip ?_
      refine T_env (E' := []) trivial ?_
      refine T_seq ?_
      refine T_region ?_
      refine TO_cons rfl (TOp_pure (pur_assign rfl) rfl ?_)
      refine TO_nil ?_
      refine T_env (E' := [(4, (boolA true))]) ⟨rfl, trivial⟩ ?_
      refine T_ret ?_
      obtain rfl := some_inj H
      refine end_ret (.tmp .nil) rfl rfl ⟨?_, rfl⟩
      rfl

set_option maxHeartbeats 1000000 in
/-- laws.eqFactS -/
theorem m_laws_eqFactS_ok (a0 : (List Fact)) (b1 : (List Fact)) (r : Bool) (H : m_laws_eqFactS a0 b1 = some r) : FnV prg 67 [(sl tFact a0), (sl tFact b1)] (boolA r) := by
  unfold m_laws_eqFactS at H
  refine fnV_of_T Try.func67 rfl rfl (Nat.le_of_ble_eq_true rfl) ?_
  refine T_env (E' := [(0, (sl tFact a0)), (1, (sl tFact b1))]) ⟨rfl, rfl, trivial⟩ ?_
  refine T_seq ?_
  refine T_region ?_
  refine TO_cons rfl (TOp_pure (pur_assign rfl) rfl ?_)
  refine TO_nil ?_
  refine T_env (E' := [(0, (sl tFact a0)), (1, (sl tFact b1))]) ⟨rfl, rfl, trivial⟩ ?_
  refine T_seq ?_
  refine T_seq ?_
  refine T_region ?_
  refine TO_cons rfl (TOp_pure (pur_move rfl) rfl ?_)
  refine TO_cons rfl (TOp_pure (pur_lenT (T := tFact) sl30 rfl rfl) rfl ?_)
  refine TO_cons rfl (TOp_pure (pur_move rfl) rfl ?_)
  refine TO_cons rfl (TOp_pure (pur_lenT (T := tFact) sl30 rfl rfl) rfl ?_)
  refine TO_cons rfl (TOp_pure (pur_neq rfl rfl rfl) rfl ?_)
  refine TO_nil ?_
  refine T_env (E' := [(0, (sl tFact a0)), (1, (sl tFact b1)), (10, (boolA (decide ((a0.length : Int) ≠ (b1.length : Int)))))]) ⟨rfl, rfl, rfl, trivial⟩ ?_
  refine T_cond (t := decide ((a0.length : Int) ≠ (b1.length : Int))) rfl (fun c_1 => ?_) (fun c_1 => ?_)
  · replace H := cond_t c_1 H
    refine T_seq ?_
    refine T_region ?_
    refine TO_cons rfl (TOp_pure (pur_assign rfl) rfl ?_)
    refine TO_nil ?_
    refine T_env (E' := [(4, (boolA false))]) ⟨rfl, trivial⟩ ?_
    refine T_ret ?_
    refine then_ret ?_
    obtain rfl := some_inj H
    refine end_ret (.tmp .nil) rfl rfl ⟨?_, rfl⟩
    rfl
  · replace H := cond_f c_1 H
    refine T_skip ?_
    refine T_env (E' := [(0, (sl tFact a0)), (1, (sl tFact b1))]) ⟨rfl, rfl, trivial⟩ ?_
    refine T_seq ?_
    refine T_seq ?_
    refine T_region ?_
    refine TO_cons rfl (TOp_pure (pur_assign rfl) rfl ?_)
    refine TO_nil ?_
    refine T_env (E' := [(0, (sl tFact a0)), (1, (sl tFact b1)), (5, (intA 0))]) ⟨rfl, rfl, rfl, trivial⟩ ?_
    obtain ⟨O3_, L3_, N3_⟩ := bind_inv H
    clear H
    obtain ⟨B3_, hb3, L3_⟩ := gen_forL L3_
    refine T_block ?_
    refine T_loopX (fun k => fun (i_2 : Nat) => k = a0.length - i_2 ∧ forL B3_ (a0.drop i_2) (i_2 : Int) () = some O3_) (fun (i_2 : Nat) => [(0, (sl tFact a0)), (1, (sl tFact b1)), (5, (intA (i_2 : Int)))]) (fun (i_2 : Nat) => []) _ (0 : Nat) (WeakL.to 0 (Nat.le_of_ble_eq_true rfl) rfl rfl rfl rfl ⟨leR rfl, leR rfl, leR rfl, trivial⟩) ⟨rfl, L3_⟩ ?_
    rintro _ i_2 ⟨rfl, L3_⟩
    refine T_env (E' := [(0, (sl tFact a0)), (1, (sl tFact b1)), (5, (intA (i_2 : Int)))]) ⟨rfl, rfl, rfl, trivial⟩ ?_
    refine T_st (σ' := []) rfl ?_
    refine T_fact (len_sl (T := tFact) (.tmp 0) rfl) (fun hl3 => ?_)
    refine T_seq ?_
    refine T_seq ?_
    refine T_region ?_
    refine TO_cons rfl (TOp_pure (pur_move rfl) rfl ?_)
    refine TO_cons rfl (TOp_pure (pur_move rfl) rfl ?_)
    refine TO_cons rfl (TOp_pure (pur_lenT (T := tFact) sl30 rfl rfl) rfl ?_)
    refine TO_cons rfl (TOp_pure (pur_lss rfl rfl rfl) rfl ?_)
    refine TO_nil ?_
    refine T_env (E' := [(0, (sl tFact a0)), (1, (sl tFact b1)), (5, (intA (i_2 : Int))), (14, (boolA (decide ((i_2 : Int) < (a0.length : Int)))))]) ⟨rfl, rfl, rfl, rfl, trivial⟩ ?_
    refine T_cond (t := decide ((i_2 : Int) < (a0.length : Int))) rfl (fun d3 => ?_) (fun d3 => ?_)
    · replace d3 := of_decide_eq_true d3
      obtain ⟨x_i_2, hx_i_2⟩ : ∃ v, (a0)[i_2]? = some v := ⟨_, List.getElem?_eq_getElem (by omega)⟩
      obtain ⟨C3_, H, K3_⟩ := forL_step L3_ hx_i_2
      rw [hb3] at H
      refine T_skip ?_
      refine T_env (E' := [(0, (sl tFact a0)), (1, (sl tFact b1)), (5, (intA (i_2 : Int)))]) ⟨rfl, rfl, rfl, trivial⟩ ?_
      refine T_seq ?_
      refine T_block ?_
      refine T_seq ?_
      refine T_regionD mixed (by kernel_rfl) ?_
      refine TQ_pure rfl (pur_move rfl) rfl ?_
      refine TQ_pure rfl (pur_move rfl) rfl ?_
      refine TQ_pure rfl (pur_ixT (T := tFact) sl30 rfl rfl rfl hx_i_2 rfl) rfl ?_
      refine TQ_pure rfl (pur_ldTK (T := tFact) (i := i_2) (off := 0) rfl agg60 rfl rfl hx_i_2 (by decide) rfl) rfl ?_
      refine TQ_pure rfl (pur_move rfl) rfl ?_
      refine TQ_pure rfl (pur_move rfl) rfl ?_
      obtain ⟨v_4, h_5, H⟩ := bind_inv H
      obtain ⟨n_6, hz_7, hv_8⟩ := getI_inv h_5
      refine TQ_pure rfl (pur_ixT (T := tFact) sl30 rfl rfl hz_7 hv_8 rfl) rfl ?_
      refine TQ_pure rfl (pur_ldTK (T := tFact) (i := n_6) (off := 0) rfl agg60 rfl rfl hv_8 (by decide) rfl) rfl ?_
      obtain ⟨r_9, h_10, H⟩ := bind_inv H
      refine TQ_callV rfl (call_static ent96 rfl) (m_laws_eqFact_ok _ _ _ h_10) rfl rfl ?_
      refine TQ_pure rfl (pur_not rfl rfl) rfl ?_
      refine TQ_nil ?_
      refine T_env (E' := [(0, (sl tFact a0)), (1, (sl tFact b1)), (5, (intA (i_2 : Int))), (26, (boolA (!r_9)))]) ⟨rfl, rfl, rfl, rfl, trivial⟩ ?_
      refine T_cond (t := (!r_9)) rfl (fun c_11 => ?_) (fun c_11 => ?_)
      · replace H := cond_t c_11 H
        refine T_seq ?_
        refine T_region ?_
        refine TO_cons rfl (TOp_pure (pur_assign rfl) rfl ?_)
        refine TO_nil ?_
        refine T_env (E' := [(4, (boolA false))]) ⟨rfl, trivial⟩ ?_
        refine T_ret ?_
        refine block_ret ?_
        refine then_ret ?_
        refine then_ret ?_
        refine block_ret ?_
        refine then_ret ?_
        obtain rfl := some_inj H
        obtain rfl := some_inj K3_
        replace H := onS_r N3_
        obtain rfl := some_inj H
        refine end_ret (.tmp .nil) rfl rfl ⟨?_, rfl⟩
        rfl
      · replace H := cond_f c_11 H
        refine T_skip ?_
        refine T_env (E' := [(0, (sl tFact a0)), (1, (sl tFact b1)), (5, (intA (i_2 : Int)))]) ⟨rfl, rfl, rfl, trivial⟩ ?_
        refine T_region ?_
        refine TO_cons rfl (TOp_pure (pur_move rfl) rfl ?_)
        refine TO_cons rfl (TOp_pure (pur_add rfl rfl rfl (fits64 (by omega) (by omega))) rfl ?_)
        refine TO_cons rfl (TOp_pure (pur_assign rfl) rfl ?_)
        refine TO_nil ?_
        obtain rfl := some_inj H
        exact again (a0.length - (i_2 + 1)) (i_2 + 1) (by omega) (WeakL.to 0 (Nat.le_of_ble_eq_true rfl) rfl rfl rfl rfl ⟨leR rfl, leR rfl, leR rfl, trivial⟩) ⟨rfl, K3_⟩
    · replace d3 := of_decide_eq_false d3
      obtain rfl := forL_end L3_ (by omega)
      refine T_exit ?_
      refine then_exit ?_
      refine then_exit ?_
      refine block_exit ?_
      replace H := onS_l N3_
      refine T_env (E' := []) trivial ?_
      refine T_seq ?_
      refine T_region ?_
      refine TO_cons rfl (TOp_pure (pur_assign rfl) rfl ?_)
      refine TO_nil ?_
      refine T_env (E' := [(4, (boolA true))]) ⟨rfl, trivial⟩ ?_
      refine T_ret ?_
      obtain rfl := some_inj H
      refine end_ret (.tmp .nil) rfl rfl ⟨?_, rfl⟩
      rfl

set_option maxHeartbeats 1000000 in
/-- laws.eqDatabase -/
theorem m_laws_eqDatabase_ok (a0 : Database) (b1 : Database) (r : Bool) (H : m_laws_eqDatabase a0 b1 = some r) : FnV prg 29 [(.g (tDatabase.enc a0)), (.g (tDatabase.enc b1))] (boolA r) := by
  unfold m_laws_eqDatabase at H
  refine fnV_of_T Try.func29 rfl rfl (Nat.le_of_ble_eq_true rfl) ?_
  refine T_env (E' := [(0, (.g (tDatabase.enc a0))), (1, (.g (tDatabase.enc b1)))]) ⟨rfl, rfl, trivial⟩ ?_
  refine T_seq ?_
  refine T_region ?_
  refine TO_cons rfl (TOp_box rfl (boxAll rfl) rfl rfl ?_)
  refine TO_cons rfl (TOp_box rfl (boxAll rfl) rfl rfl ?_)
  refine TO_cons rfl (TOp_pure (pur_assign rfl) rfl ?_)
  refine TO_nil ?_
  refine T_env (E' := [(2, (.b 0 0)), (3, (.b 1 0))]) ⟨rfl, rfl, trivial⟩ ?_
  refine T_seq ?_
  refine T_seq ?_
  refine T_region ?_
  refine TO_cons rfl (TOp_pure (pur_fa_b fld32_0 rfl rfl) rfl ?_)
  refine TO_cons rfl (TOp_pure (pur_ld_b one29 rfl rfl rfl rfl) rfl ?_)
  refine TO_cons rfl (TOp_pure (pur_fa_b fld32_0 rfl rfl) rfl ?_)
  refine TO_cons rfl (TOp_pure (pur_ld_b one29 rfl rfl rfl rfl) rfl ?_)
  obtain ⟨r_1, h_2, H⟩ := bind_inv H
  refine TO_cons rfl (TOp_callV (call_static ent66 rfl) (m_laws_eqRelationS_ok _ _ _ h_2) rfl rfl rfl ?_)
  refine TO_cons rfl (TOp_pure (pur_not rfl rfl) rfl ?_)
  refine TO_nil ?_
  refine T_env (E' := [(2, (.b 0 0)), (3, (.b 1 0)), (10, (boolA (!r_1)))]) ⟨rfl, rfl, rfl, trivial⟩ ?_
  refine T_cond (t := (!r_1)) rfl (fun c_3 => ?_) (fun c_3 => ?_)
  · replace H := cond_t c_3 H
    refine T_seq ?_
    refine T_region ?_
    refine TO_cons rfl (TOp_pure (pur_assign rfl) rfl ?_)
    refine TO_nil ?_
    refine T_env (E' := [(4, (boolA false))]) ⟨rfl, trivial⟩ ?_
    refine T_ret ?_
    refine then_ret ?_
    obtain rfl := some_inj H
    refine end_ret (.tmp .nil) rfl rfl ⟨?_, rfl⟩
    rfl
  · replace H := cond_f c_3 H
    refine T_skip ?_
    refine T_env (E' := [(2, (.b 0 0)), (3, (.b 1 0))]) ⟨rfl, rfl, trivial⟩ ?_
    refine T_seq ?_
    refine T_seq ?_
    refine T_region ?_
    refine TO_cons rfl (TOp_pure (pur_fa_b fld32_1 rfl rfl) rfl ?_)
    refine TO_cons rfl (TOp_pure (pur_ld_b one30 rfl rfl rfl rfl) rfl ?_)
    refine TO_cons rfl (TOp_pure (pur_fa_b fld32_1 rfl rfl) rfl ?_)
    refine TO_cons rfl (TOp_pure (pur_ld_b one30 rfl rfl rfl rfl) rfl ?_)
    obtain ⟨r_4, h_5, H⟩ := bind_inv H
    refine TO_cons rfl (TOp_callV (call_static ent67 rfl) (m_laws_eqFactS_ok _ _ _ h_5) rfl rfl rfl ?_)
    refine TO_cons rfl (TOp_pure (pur_not rfl rfl) rfl ?_)
    refine TO_nil ?_
    refine T_env (E' := [(16, (boolA (!r_4)))]) ⟨rfl, trivial⟩ ?_
    refine T_cond (t := (!r_4)) rfl (fun c_6 => ?_) (fun c_6 => ?_)
    · replace H := cond_t c_6 H
      refine T_seq ?_
      refine T_region ?_
      refine TO_cons rfl (TOp_pure (pur_assign rfl) rfl ?_)
      refine TO_nil ?_
      refine T_env (E' := [(4, (boolA false))]) ⟨rfl, trivial⟩ ?_
      refine T_ret ?_
      refine then_ret ?_
      obtain rfl := some_inj H
      refine end_ret (.tmp .nil) rfl rfl ⟨?_, rfl⟩
      rfl
    · replace H := cond_f c_6 H
      refine T_skip ?_
      refine T_env (E' := []) trivial ?_
      refine T_seq ?_
      refine T_region ?_
      refine TO_cons rfl (TOp_pure (pur_assign rfl) rfl ?_)
      refine TO_nil ?_
      refine T_env (E' := [(4, (boolA true))]) ⟨rfl, trivial⟩ ?_
      refine T_ret ?_
      obtain rfl := some_inj H
      refine end_ret (.tmp .nil) rfl rfl ⟨?_, rfl⟩
      rfl

set_option maxHeartbeats 1000000 in
/-- spec.l1In -/
theorem m_spec_l1In_ok (x0 : Int) (low1 : Int) (high2 : Int) (r : Bool) (H : m_spec_l1In x0 low1 high2 = some r) : FnV prg 78 [(intA x0), (intA low1), (intA high2)] (boolA r) := by
  unfold m_spec_l1In at H
  refine fnV_of_T Try.func78 rfl rfl (Nat.le_of_ble_eq_true rfl) ?_
  refine T_env (E' := [(0, (intA x0)), (1, (intA low1)), (2, (intA high2))]) ⟨rfl, rfl, rfl, trivial⟩ ?_
  refine T_seq ?_
  refine T_region ?_
  refine TO_cons rfl (TOp_pure (pur_assign rfl) rfl ?_)
  refine TO_nil ?_
  refine T_env (E' := [(0, (intA x0)), (1, (intA low1)), (2, (intA high2))]) ⟨rfl, rfl, rfl, trivial⟩ ?_
  refine T_cutX (fun x => ((decide (low1 ≤ x0)) && (decide (x0 ≤ high2))) = x) (fun (t6 : Bool) => [(6, (boolA t6))]) (fun (t6 : Bool) => []) ?_ ?_
  · skip
    refine T_region ?_
    refine TO_cons rfl (TOp_pure (pur_move rfl) rfl ?_)
    refine TO_cons rfl (TOp_pure (pur_move rfl) rfl ?_)
    refine TO_cons rfl (TOp_pure (pur_geq rfl rfl rfl) rfl ?_)
    refine TO_cons rfl (TOp_pure (pur_move rfl) rfl ?_)
    refine TO_split (t := decide (low1 ≤ x0)) 10 rfl (fun g_3 => ?_) (fun g_3 => ?_)
    · skip
      refine TO_on rfl rfl (by decide) rfl rfl (TOp_pure (pur_move rfl) rfl ?_)
      refine TO_on rfl rfl (by decide) rfl rfl (TOp_pure (pur_move rfl) rfl ?_)
      refine TO_on rfl rfl (by decide) rfl rfl (TOp_pure (pur_leq rfl rfl rfl) rfl ?_)
      refine TO_cons rfl (TOp_pure (pur_pick (t := true) rfl rfl rfl) rfl ?_)
      refine TO_cons rfl (TOp_pure (pur_assign rfl) rfl ?_)
      refine TO_nil ?_
      exact joined (decide (x0 ≤ high2)) (WeakL.to 0 (Nat.le_of_ble_eq_true rfl) rfl rfl rfl rfl ⟨leR rfl, trivial⟩) (by first | exact Eq.symm ((and_T g_3 rfl)))
    · skip
      refine TO_off rfl rfl (by decide) rfl rfl rfl ?_
      refine TO_off rfl rfl (by decide) rfl rfl rfl ?_
      refine TO_off rfl rfl (by decide) rfl rfl rfl ?_
      refine TO_cons rfl (TOp_pure (pur_pick (t := false) rfl rfl rfl) rfl ?_)
      refine TO_cons rfl (TOp_pure (pur_assign rfl) rfl ?_)
      refine TO_nil ?_
      exact joined false (WeakL.to 0 (Nat.le_of_ble_eq_true rfl) rfl rfl rfl rfl ⟨leR rfl, trivial⟩) (by first | exact Eq.symm ((and_F g_3 rfl)))
  · rintro _ rfl
    refine T_env (E' := [(6, (boolA ((decide (low1 ≤ x0)) && (decide (x0 ≤ high2)))))]) ⟨rfl, trivial⟩ ?_
    refine T_ret ?_
    obtain rfl := some_inj H
    refine end_ret (.tmp .nil) rfl rfl ⟨?_, rfl⟩
    rfl

set_option maxHeartbeats 1000000 in
/-- spec.IsValidRelation -/
theorem m_spec_IsValidRelation_ok (s0 : Relation) (r : Bool) (H : m_spec_IsValidRelation s0 = some r) : FnV prg 121 [(.g (tRelation.enc s0))] (boolA r) := by
  unfold m_spec_IsValidRelation at H
  refine fnV_of_T Try.func121 rfl rfl (Nat.le_of_ble_eq_true rfl) ?_
  refine T_env (E' := [(0, (.g (tRelation.enc s0)))]) ⟨rfl, trivial⟩ ?_
  refine T_seq ?_
  refine T_region ?_
  refine TO_cons rfl (TOp_box rfl (boxAll rfl) rfl rfl ?_)
  refine TO_cons rfl (TOp_pure (pur_assign rfl) rfl ?_)
  refine TO_nil ?_
  refine T_env (E' := [(1, (.b 0 0))]) ⟨rfl, trivial⟩ ?_
  obtain ⟨t2, J_1, H_2⟩ := bind_inv H
  refine T_cutX (fun x => t2 = x) (fun (t2 : Bool) => [(2, (boolA t2))]) (fun (t2 : Bool) => []) ?_ ?_
  · replace H := J_1
    refine T_region ?_
    refine TO_cons rfl (TOp_pure (pur_fa_b fld97_0 rfl rfl) rfl ?_)
    refine TO_cons rfl (TOp_pure (pur_ld_b one9 rfl rfl rfl rfl) rfl ?_)
    refine TO_cons rfl (TOp_pure (pur_len_s (by kernel_rfl) rfl rfl) rfl ?_)
    refine TO_cons rfl (TOp_pure (pur_eql rfl rfl rfl) rfl ?_)
    refine TO_cons rfl (TOp_pure (pur_move rfl) rfl ?_)
    refine TO_split (t := decide ((s0.name.size : Int) = 1)) 7 rfl (fun g_3 => ?_) (fun g_3 => ?_)
    · replace H := cond_t g_3 H
      refine TO_on rfl rfl (by decide) rfl rfl (TOp_pure (pur_fa_b fld97_0 rfl rfl) rfl ?_)
      refine TO_on rfl rfl (by decide) rfl rfl (TOp_pure (pur_ld_b one9 rfl rfl rfl rfl) rfl ?_)
      obtain ⟨b_4, h_5, H⟩ := bind_inv H
      refine TO_on rfl rfl (by decide) rfl rfl (TOp_pure (pur_ixS (by kernel_rfl) rfl rfl h_5 rfl) rfl ?_)
      refine TO_on rfl rfl (by decide) rfl rfl (TOp_pure (pur_geq rfl rfl rfl) rfl ?_)
      refine TO_cons rfl (TOp_pure (pur_pick (t := true) rfl rfl rfl) rfl ?_)
      refine TO_cons rfl (TOp_pure (pur_move rfl) rfl ?_)
      refine TO_split (t := decide (97 ≤ b_4)) 13 rfl (fun g_6 => ?_) (fun g_6 => ?_)
      · replace H := cond_t g_6 H
        refine TO_on rfl rfl (by decide) rfl rfl (TOp_pure (pur_fa_b fld97_0 rfl rfl) rfl ?_)
        refine TO_on rfl rfl (by decide) rfl rfl (TOp_pure (pur_ld_b one9 rfl rfl rfl rfl) rfl ?_)
        obtain ⟨b_7, h_8, H⟩ := bind_inv H
        refine TO_on rfl rfl (by decide) rfl rfl (TOp_pure (pur_ixS (by kernel_rfl) rfl rfl h_8 rfl) rfl ?_)
        refine TO_on rfl rfl (by decide) rfl rfl (TOp_pure (pur_leq rfl rfl rfl) rfl ?_)
        refine TO_cons rfl (TOp_pure (pur_pick (t := true) rfl rfl rfl) rfl ?_)
        refine TO_cons rfl (TOp_pure (pur_move rfl) rfl ?_)
        refine TO_split (t := decide (b_7 ≤ 122)) 19 rfl (fun g_9 => ?_) (fun g_9 => ?_)
        · replace H := cond_t g_9 H
          refine TO_on rfl rfl (by decide) rfl rfl (TOp_pure (pur_fa_b fld97_1 rfl rfl) rfl ?_)
          refine TO_on rfl rfl (by decide) rfl rfl (TOp_pure (pur_ld_b one3 rfl rfl rfl rfl) rfl ?_)
          obtain ⟨r_10, h_11, H⟩ := bind_inv H
          refine TO_on rfl rfl (by decide) rfl rfl (TOp_callV (call_static ent78 rfl) (m_spec_l1In_ok _ _ _ _ h_11) rfl rfl rfl ?_)
          refine TO_cons rfl (TOp_pure (pur_pick (t := true) rfl rfl rfl) rfl ?_)
          refine TO_cons rfl (TOp_pure (pur_move rfl) rfl ?_)
          refine TO_split (t := r_10) 24 rfl (fun g_12 => ?_) (fun g_12 => ?_)
          · replace H := cond_t g_12 H
            refine TO_on rfl rfl (by decide) rfl rfl (TOp_pure (pur_fa_b fld97_2 rfl rfl) rfl ?_)
            refine TO_on rfl rfl (by decide) rfl rfl (TOp_pure (pur_ld_b one3 rfl rfl rfl rfl) rfl ?_)
            refine TO_on rfl rfl (by decide) rfl rfl (TOp_pure (pur_fa_b fld97_1 rfl rfl) rfl ?_)
            refine TO_on rfl rfl (by decide) rfl rfl (TOp_pure (pur_ld_b one3 rfl rfl rfl rfl) rfl ?_)
            obtain ⟨r_13, h_14, H⟩ := bind_inv H
            refine TO_on rfl rfl (by decide) rfl rfl (TOp_callV (call_static ent78 rfl) (m_spec_l1In_ok _ _ _ _ h_14) rfl rfl rfl ?_)
            refine TO_cons rfl (TOp_pure (pur_pick (t := true) rfl rfl rfl) rfl ?_)
            refine TO_cons rfl (TOp_pure (pur_assign rfl) rfl ?_)
            refine TO_nil ?_
            exact joined r_13 (WeakL.to 0 (Nat.le_of_ble_eq_true rfl) rfl rfl rfl rfl ⟨leR rfl, trivial⟩) (some_inj H).symm
          · replace H := cond_f g_12 H
            refine TO_off rfl rfl (by decide) rfl rfl rfl ?_
            refine TO_off rfl rfl (by decide) rfl rfl rfl ?_
            refine TO_off rfl rfl (by decide) rfl rfl rfl ?_
            refine TO_off rfl rfl (by decide) rfl rfl rfl ?_
            refine TO_off rfl rfl (by decide) rfl rfl rfl ?_
            refine TO_cons rfl (TOp_pure (pur_pick (t := false) rfl rfl rfl) rfl ?_)
            refine TO_cons rfl (TOp_pure (pur_assign rfl) rfl ?_)
            refine TO_nil ?_
            exact joined false (WeakL.to 0 (Nat.le_of_ble_eq_true rfl) rfl rfl rfl rfl ⟨leR rfl, trivial⟩) (some_inj H).symm
        · replace H := cond_f g_9 H
          refine TO_off rfl rfl (by decide) rfl rfl rfl ?_
          refine TO_off rfl rfl (by decide) rfl rfl rfl ?_
          refine TO_off rfl rfl (by decide) rfl rfl rfl ?_
          refine TO_cons rfl (TOp_pure (pur_pick (t := false) rfl rfl rfl) rfl ?_)
          refine TO_cons rfl (TOp_pure (pur_move rfl) rfl ?_)
          refine TO_off rfl rfl (by decide) rfl rfl rfl ?_
          refine TO_off rfl rfl (by decide) rfl rfl rfl ?_
          refine TO_off rfl rfl (by decide) rfl rfl rfl ?_
          refine TO_env (E' := [(24, (boolA false)), (26, (.v undef)), (27, (.v undef))]) ⟨rfl, rfl, rfl, trivial⟩ ?_
          refine TO_off rfl rfl (by decide) rfl rfl rfl ?_
          refine TO_off rfl rfl (by decide) rfl rfl rfl ?_
          refine TO_cons rfl (TOp_pure (pur_pick (t := false) rfl rfl rfl) rfl ?_)
          refine TO_cons rfl (TOp_pure (pur_assign rfl) rfl ?_)
          refine TO_nil ?_
          exact joined false (WeakL.to 0 (Nat.le_of_ble_eq_true rfl) rfl rfl rfl rfl ⟨leR rfl, trivial⟩) (some_inj H).symm
      · replace H := cond_f g_6 H
        refine TO_off rfl rfl (by decide) rfl rfl rfl ?_
        refine TO_off rfl rfl (by decide) rfl rfl rfl ?_
        refine TO_off rfl rfl (by decide) rfl rfl rfl ?_
        refine TO_off rfl rfl (by decide) rfl rfl rfl ?_
        refine TO_cons rfl (TOp_pure (pur_pick (t := false) rfl rfl rfl) rfl ?_)
        refine TO_cons rfl (TOp_pure (pur_move rfl) rfl ?_)
        refine TO_off rfl rfl (by decide) rfl rfl rfl ?_
        refine TO_off rfl rfl (by decide) rfl rfl rfl ?_
        refine TO_env (E' := [(1, (.b 0 0)), (19, (boolA false)), (21, (.v undef))]) ⟨rfl, rfl, rfl, trivial⟩ ?_
        refine TO_off rfl rfl (by decide) rfl rfl rfl ?_
        refine TO_cons rfl (TOp_pure (pur_pick (t := false) rfl rfl rfl) rfl ?_)
        refine TO_cons rfl (TOp_pure (pur_move rfl) rfl ?_)
        refine TO_off rfl rfl (by decide) rfl rfl rfl ?_
        refine TO_off rfl rfl (by decide) rfl rfl rfl ?_
        refine TO_off rfl rfl (by decide) rfl rfl rfl ?_
        refine TO_off rfl rfl (by decide) rfl rfl rfl ?_
        refine TO_off rfl rfl (by decide) rfl rfl rfl ?_
        refine TO_cons rfl (TOp_pure (pur_pick (t := false) rfl rfl rfl) rfl ?_)
        refine TO_cons rfl (TOp_pure (pur_assign rfl) rfl ?_)
        refine TO_nil ?_
        exact joined false (WeakL.to 0 (Nat.le_of_ble_eq_true rfl) rfl rfl rfl rfl ⟨leR rfl, trivial⟩) (some_inj H).symm
    · replace H := cond_f g_3 H
      refine TO_off rfl rfl (by decide) rfl rfl rfl ?_
      refine TO_off rfl rfl (by decide) rfl rfl rfl ?_
      refine TO_off rfl rfl (by decide) rfl rfl rfl ?_
      refine TO_off rfl rfl (by decide) rfl rfl rfl ?_
      refine TO_cons rfl (TOp_pure (pur_pick (t := false) rfl rfl rfl) rfl ?_)
      refine TO_cons rfl (TOp_pure (pur_move rfl) rfl ?_)
      refine TO_off rfl rfl (by decide) rfl rfl rfl ?_
      refine TO_off rfl rfl (by decide) rfl rfl rfl ?_
      refine TO_env (E' := [(1, (.b 0 0)), (13, (boolA false)), (15, (.v undef))]) ⟨rfl, rfl, rfl, trivial⟩ ?_
      refine TO_off rfl rfl (by decide) rfl rfl rfl ?_
      refine TO_off rfl rfl (by decide) rfl rfl rfl ?_
      refine TO_cons rfl (TOp_pure (pur_pick (t := false) rfl rfl rfl) rfl ?_)
      refine TO_cons rfl (TOp_pure (pur_move rfl) rfl ?_)
      refine TO_off rfl rfl (by decide) rfl rfl rfl ?_
      refine TO_off rfl rfl (by decide) rfl rfl rfl ?_
      refine TO_off rfl rfl (by decide) rfl rfl rfl ?_
      refine TO_cons rfl (TOp_pure (pur_pick (t := false) rfl rfl rfl) rfl ?_)
      refine TO_env (E' := [(1, (.b 0 0)), (23, (boolA false))]) ⟨rfl, rfl, trivial⟩ ?_
      refine TO_cons rfl (TOp_pure (pur_move rfl) rfl ?_)
      refine TO_off rfl rfl (by decide) rfl rfl rfl ?_
      refine TO_off rfl rfl (by decide) rfl rfl rfl ?_
      refine TO_off rfl rfl (by decide) rfl rfl rfl ?_
      refine TO_off rfl rfl (by decide) rfl rfl rfl ?_
      refine TO_off rfl rfl (by decide) rfl rfl rfl ?_
      refine TO_cons rfl (TOp_pure (pur_pick (t := false) rfl rfl rfl) rfl ?_)
      refine TO_cons rfl (TOp_pure (pur_assign rfl) rfl ?_)
      refine TO_nil ?_
      exact joined false (WeakL.to 0 (Nat.le_of_ble_eq_true rfl) rfl rfl rfl rfl ⟨leR rfl, trivial⟩) (some_inj H).symm
  · rintro _ rfl
    replace H := H_2
    refine T_env (E' := [(2, (boolA t2))]) ⟨rfl, trivial⟩ ?_
    refine T_ret ?_
    obtain rfl := some_inj H
    refine end_ret (.tmp .nil) rfl rfl ⟨?_, rfl⟩
    rfl

set_option maxHeartbeats 1000000 in
/-- spec.AreValidRelations -/
theorem m_spec_AreValidRelations_ok (l0 : (List Relation)) (r : Bool) (H : m_spec_AreValidRelations l0 = some r) : FnV prg 104 [(sl tRelation l0)] (boolA r) := by
  unfold m_spec_AreValidRelations at H
  refine fnV_of_T Try.func104 rfl rfl (Nat.le_of_ble_eq_true rfl) ?_
  refine T_env (E' := [(0, (sl tRelation l0))]) ⟨rfl, trivial⟩ ?_
  refine T_seq ?_
  refine T_region ?_
  refine TO_cons rfl (TOp_pure (pur_assign rfl) rfl ?_)
  refine TO_nil ?_
  refine T_env (E' := [(0, (sl tRelation l0))]) ⟨rfl, trivial⟩ ?_
  refine T_seq ?_
  refine T_seq ?_
  refine T_region ?_
  refine TO_cons rfl (TOp_pure (pur_assign rfl) rfl ?_)
  refine TO_nil ?_
  refine T_env (E' := [(0, (sl tRelation l0)), (3, (intA 0))]) ⟨rfl, rfl, trivial⟩ ?_
  obtain ⟨O2_, L2_, N2_⟩ := bind_inv H
  clear H
  obtain ⟨B2_, hb2, L2_⟩ := gen_forL L2_
  refine T_block ?_
  refine T_loopX (fun k => fun (i_1 : Nat) => k = l0.length - i_1 ∧ forL B2_ (l0.drop i_1) (i_1 : Int) () = some O2_) (fun (i_1 : Nat) => [(0, (sl tRelation l0)), (3, (intA (i_1 : Int)))]) (fun (i_1 : Nat) => []) _ (0 : Nat) (WeakL.to 0 (Nat.le_of_ble_eq_true rfl) rfl rfl rfl rfl ⟨leR rfl, leR rfl, trivial⟩) ⟨rfl, L2_⟩ ?_
  rintro _ i_1 ⟨rfl, L2_⟩
  refine T_env (E' := [(0, (sl tRelation l0)), (3, (intA (i_1 : Int)))]) ⟨rfl, rfl, trivial⟩ ?_
  refine T_st (σ' := []) rfl ?_
  refine T_fact (len_sl (T := tRelation) (.tmp 0) rfl) (fun hl2 => ?_)
  refine T_seq ?_
  refine T_seq ?_
  refine T_region ?_
  refine TO_cons rfl (TOp_pure (pur_move rfl) rfl ?_)
  refine TO_cons rfl (TOp_pure (pur_move rfl) rfl ?_)
  refine TO_cons rfl (TOp_pure (pur_lenT (T := tRelation) sl29 rfl rfl) rfl ?_)
  refine TO_cons rfl (TOp_pure (pur_lss rfl rfl rfl) rfl ?_)
  refine TO_nil ?_
  refine T_env (E' := [(0, (sl tRelation l0)), (3, (intA (i_1 : Int))), (7, (boolA (decide ((i_1 : Int) < (l0.length : Int)))))]) ⟨rfl, rfl, rfl, trivial⟩ ?_
  refine T_cond (t := decide ((i_1 : Int) < (l0.length : Int))) rfl (fun d2 => ?_) (fun d2 => ?_)
  · replace d2 := of_decide_eq_true d2
    obtain ⟨x_i_1, hx_i_1⟩ : ∃ v, (l0)[i_1]? = some v := ⟨_, List.getElem?_eq_getElem (by omega)⟩
    obtain ⟨C2_, H, K2_⟩ := forL_step L2_ hx_i_1
    rw [hb2] at H
    refine T_skip ?_
    refine T_env (E' := [(0, (sl tRelation l0)), (3, (intA (i_1 : Int)))]) ⟨rfl, rfl, trivial⟩ ?_
    refine T_seq ?_
    refine T_block ?_
    obtain ⟨t33, J_3, H_4⟩ := bind_inv H
    refine T_cutX (fun x => t33 = x) (fun (t33 : Bool) => [(0, (sl tRelation l0)), (3, (intA (i_1 : Int))), (33, (boolA t33))]) (fun (t33 : Bool) => []) ?_ ?_
    · replace H := J_3
      refine T_regionD mixed (by kernel_rfl) ?_
      refine TQ_pure rfl (pur_move rfl) rfl ?_
      refine TQ_pure rfl (pur_move rfl) rfl ?_
      refine TQ_pure rfl (pur_ixT (T := tRelation) sl29 rfl rfl rfl hx_i_1 rfl) rfl ?_
      refine TQ_pure rfl (pur_ldTK (T := tRelation) (i := i_1) (off := 0) rfl agg97 rfl rfl hx_i_1 (by decide) rfl) rfl ?_
      obtain ⟨r_5, h_6, H⟩ := bind_inv H
      refine TQ_callV rfl (call_static ent121 rfl) (m_spec_IsValidRelation_ok _ _ h_6) rfl rfl ?_
      refine TQ_pure rfl (pur_not rfl rfl) rfl ?_
      refine TQ_pure rfl (pur_move rfl) rfl ?_
      refine TQ_split (t := (!r_5)) 16 rfl (fun g_7 => ?_) (fun g_7 => ?_)
      · replace H := cond_t g_7 H
        refine TQ_off rfl rfl (by decide) rfl rfl rfl ?_
        refine TQ_off rfl rfl (by decide) rfl rfl rfl ?_
        refine TQ_off rfl rfl (by decide) rfl rfl rfl ?_
        refine TQ_off rfl rfl (by decide) rfl rfl rfl ?_
        refine TQ_off rfl rfl (by decide) rfl rfl rfl ?_
        refine TQ_off rfl rfl (by decide) rfl rfl rfl ?_
        refine TQ_off rfl rfl (by decide) rfl rfl rfl ?_
        refine TQ_off rfl rfl (by decide) rfl rfl rfl ?_
        refine TQ_env (E' := [(0, (sl tRelation l0)), (3, (intA (i_1 : Int))), (16, (boolA true)), (19, (.v undef)), (24, (.v undef))]) ⟨rfl, rfl, rfl, rfl, rfl, trivial⟩ ?_
        refine TQ_off rfl rfl (by decide) rfl rfl rfl ?_
        refine TQ_off rfl rfl (by decide) rfl rfl rfl ?_
        refine TQ_off rfl rfl (by decide) rfl rfl rfl ?_
        refine TQ_off rfl rfl (by decide) rfl rfl rfl ?_
        refine TQ_off rfl rfl (by decide) rfl rfl rfl ?_
        refine TQ_off rfl rfl (by decide) rfl rfl rfl ?_
        refine TQ_off rfl rfl (by decide) rfl rfl rfl ?_
        refine TQ_off rfl rfl (by decide) rfl rfl rfl ?_
        refine TQ_pure rfl (pur_pick (t := true) rfl rfl rfl) rfl ?_
        refine TQ_nil ?_
        exact joined true (WeakL.to 0 (Nat.le_of_ble_eq_true rfl) rfl rfl rfl rfl ⟨leR rfl, leR rfl, leR rfl, trivial⟩) (some_inj H).symm
      · replace H := cond_f g_7 H
        refine TQ_on rfl rfl (by decide) rfl (pur_move rfl) rfl ?_
        refine TQ_on rfl rfl (by decide) rfl (pur_gtr rfl rfl rfl) rfl ?_
        refine TQ_on rfl rfl (by decide) rfl (pur_move rfl) rfl ?_
        refine TQ_split (t := decide (0 < (i_1 : Int))) 19 rfl (fun g_8 => ?_) (fun g_8 => ?_)
        · replace H := cond_t g_8 H
          refine TQ_on rfl rfl (by decide) rfl (pur_move rfl) rfl ?_
          refine TQ_on rfl rfl (by decide) rfl (pur_move rfl) rfl ?_
          refine TQ_on rfl rfl (by decide) rfl (pur_sub rfl rfl rfl (fits64 (by omega) (by omega))) rfl ?_
          obtain ⟨v_9, h_10, H⟩ := bind_inv H
          obtain ⟨n_11, hz_12, hv_13⟩ := getI_inv h_10
          refine TQ_on rfl rfl (by decide) rfl (pur_ixT (T := tRelation) sl29 rfl rfl hz_12 hv_13 rfl) rfl ?_
          refine TQ_on rfl rfl (by decide) rfl (pur_fa_q fld97_0 rfl rfl) rfl ?_
          refine TQ_on rfl rfl (by decide) rfl (pur_ldT (T := tRelation) (i := n_11) (off := 0) rfl one9 rfl rfl hv_13 rfl) rfl ?_
          refine TQ_on rfl rfl (by decide) rfl (pur_move rfl) rfl ?_
          refine TQ_on rfl rfl (by decide) rfl (pur_move rfl) rfl ?_
          refine TQ_env (E' := [(0, (sl tRelation l0)), (3, (intA (i_1 : Int))), (16, (boolA false)), (19, (boolA true)), (25, (strA v_9.name)), (26, (sl tRelation l0)), (27, (intA (i_1 : Int)))]) ⟨rfl, rfl, rfl, rfl, rfl, rfl, rfl, trivial⟩ ?_
          refine TQ_on rfl rfl (by decide) rfl (pur_ixT (T := tRelation) sl29 rfl rfl rfl hx_i_1 rfl) rfl ?_
          refine TQ_on rfl rfl (by decide) rfl (pur_fa_q fld97_0 rfl rfl) rfl ?_
          refine TQ_on rfl rfl (by decide) rfl (pur_ldT (T := tRelation) (i := i_1) (off := 0) rfl one9 rfl rfl hx_i_1 rfl) rfl ?_
          refine TQ_on rfl rfl (by decide) rfl (pur_geqS rfl rfl rfl) rfl ?_
          refine TQ_on rfl rfl (by decide) rfl (pur_pick (t := true) rfl rfl rfl) rfl ?_
          refine TQ_pure rfl (pur_pick (t := false) rfl rfl rfl) rfl ?_
          refine TQ_nil ?_
          exact joined (!ltS v_9.name x_i_1.name) (WeakL.to 0 (Nat.le_of_ble_eq_true rfl) rfl rfl rfl rfl ⟨leR rfl, leR rfl, leR rfl, trivial⟩) (some_inj H).symm
        · replace H := cond_f g_8 H
          refine TQ_off rfl rfl (by decide) rfl rfl rfl ?_
          refine TQ_off rfl rfl (by decide) rfl rfl rfl ?_
          refine TQ_off rfl rfl (by decide) rfl rfl rfl ?_
          refine TQ_off rfl rfl (by decide) rfl rfl rfl ?_
          refine TQ_off rfl rfl (by decide) rfl rfl rfl ?_
          refine TQ_off rfl rfl (by decide) rfl rfl rfl ?_
          refine TQ_off rfl rfl (by decide) rfl rfl rfl ?_
          refine TQ_off rfl rfl (by decide) rfl rfl rfl ?_
          refine TQ_env (E' := [(0, (sl tRelation l0)), (3, (intA (i_1 : Int))), (16, (boolA false)), (19, (boolA false)), (25, (.v undef)), (26, (.v undef)), (27, (.v undef))]) ⟨rfl, rfl, rfl, rfl, rfl, rfl, rfl, trivial⟩ ?_
          refine TQ_off rfl rfl (by decide) rfl rfl rfl ?_
          refine TQ_off rfl rfl (by decide) rfl rfl rfl ?_
          refine TQ_off rfl rfl (by decide) rfl rfl rfl ?_
          refine TQ_off rfl rfl (by decide) rfl rfl rfl ?_
          refine TQ_on rfl rfl (by decide) rfl (pur_pick (t := false) rfl rfl rfl) rfl ?_
          refine TQ_pure rfl (pur_pick (t := false) rfl rfl rfl) rfl ?_
          refine TQ_nil ?_
          exact joined false (WeakL.to 0 (Nat.le_of_ble_eq_true rfl) rfl rfl rfl rfl ⟨leR rfl, leR rfl, leR rfl, trivial⟩) (some_inj H).symm
    · rintro _ rfl
      replace H := H_4
      refine T_env (E' := [(0, (sl tRelation l0)), (3, (intA (i_1 : Int))), (33, (boolA t33))]) ⟨rfl, rfl, rfl, trivial⟩ ?_
      refine T_cond (t := t33) rfl (fun c_14 => ?_) (fun c_14 => ?_)
      · replace H := cond_t c_14 H
        refine T_seq ?_
        refine T_region ?_
        refine TO_cons rfl (TOp_pure (pur_assign rfl) rfl ?_)
        refine TO_nil ?_
        refine T_env (E' := [(2, (boolA false))]) ⟨rfl, trivial⟩ ?_
        refine T_ret ?_
        refine block_ret ?_
        refine then_ret ?_
        refine then_ret ?_
        refine block_ret ?_
        refine then_ret ?_
        obtain rfl := some_inj H
        obtain rfl := some_inj K2_
        replace H := onS_r N2_
        obtain rfl := some_inj H
        refine end_ret (.tmp .nil) rfl rfl ⟨?_, rfl⟩
        rfl
      · replace H := cond_f c_14 H
        refine T_skip ?_
        refine T_env (E' := [(0, (sl tRelation l0)), (3, (intA (i_1 : Int)))]) ⟨rfl, rfl, trivial⟩ ?_
        refine T_region ?_
        refine TO_cons rfl (TOp_pure (pur_move rfl) rfl ?_)
        refine TO_cons rfl (TOp_pure (pur_add rfl rfl rfl (fits64 (by omega) (by omega))) rfl ?_)
        refine TO_cons rfl (TOp_pure (pur_assign rfl) rfl ?_)
        refine TO_nil ?_
        obtain rfl := some_inj H
        exact again (l0.length - (i_1 + 1)) (i_1 + 1) (by omega) (WeakL.to 0 (Nat.le_of_ble_eq_true rfl) rfl rfl rfl rfl ⟨leR rfl, leR rfl, trivial⟩) ⟨rfl, K2_⟩
  · replace d2 := of_decide_eq_false d2
    obtain rfl := forL_end L2_ (by omega)
    refine T_exit ?_
    refine then_exit ?_
    refine then_exit ?_
    refine block_exit ?_
    replace H := onS_l N2_
    refine T_env (E' := [(0, (sl tRelation l0))]) ⟨rfl, trivial⟩ ?_
    refine T_seq ?_
    refine T_region ?_
    refine TO_cons rfl (TOp_pure (pur_move rfl) rfl ?_)
    refine TO_cons rfl (TOp_pure (pur_lenT (T := tRelation) sl29 rfl rfl) rfl ?_)
    refine TO_cons rfl (TOp_pure (pur_leq rfl rfl rfl) rfl ?_)
    refine TO_cons rfl (TOp_pure (pur_assign rfl) rfl ?_)
    refine TO_nil ?_
    refine T_env (E' := [(2, (boolA (decide ((l0.length : Int) ≤ 4))))]) ⟨rfl, trivial⟩ ?_
    refine T_ret ?_
    obtain rfl := some_inj H
    refine end_ret (.tmp .nil) rfl rfl ⟨?_, rfl⟩
    rfl
end Go.Proofs.Ytlcpdlngbofgcaa

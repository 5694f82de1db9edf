/- Walks. -/
import Derived.Test.YtlcpdlngbofgcaaM1
import Derived.Test.YtlcpdlngbofgcaaM7
set_option linter.unusedVariables false
set_option linter.unusedSimpArgs false
set_option maxRecDepth 4000
namespace Go.Proofs.Ytlcpdlngbofgcaa
open Go Go.Proofs Go.Sep
set_option maxHeartbeats 1000000 in
/-- laws.szFactS -/
theorem m_laws_szFactS_ok (a0 : (List Fact)) (left1 : Int) (r : Int) (H : m_laws_szFactS a0 left1 = some r) : FnV prg 63 [(sl tFact a0), (intA left1)] (intA r) := by
  unfold m_laws_szFactS at H
  refine fnV_of_T Try.func63 rfl rfl (Nat.le_of_ble_eq_true rfl) ?_
  refine T_env (E' := [(0, (sl tFact a0)), (1, (intA left1))]) ⟨rfl, rfl, trivial⟩ ?_
  refine T_seq ?_
  refine T_region ?_
  refine TO_cons rfl (TOp_pure (pur_assign rfl) rfl ?_)
  refine TO_nil ?_
  refine T_env (E' := [(0, (sl tFact a0)), (1, (intA left1))]) ⟨rfl, rfl, trivial⟩ ?_
  refine T_seq ?_
  refine T_region ?_
  refine TO_cons rfl (TOp_pure (pur_move rfl) rfl ?_)
  refine TO_cons rfl (TOp_pure (pur_move rfl) rfl ?_)
  refine TO_cons rfl (TOp_pure (pur_lenT (T := tFact) sl39 rfl rfl) rfl ?_)
  refine TO_cons rfl (TOp_pure (pur_wsub rfl rfl rfl) rfl ?_)
  refine TO_cons rfl (TOp_pure (pur_assign rfl) rfl ?_)
  refine TO_nil ?_
  refine T_env (E' := [(0, (sl tFact a0)), (1, (intA (w64 (left1 - (a0.length : Int)))))]) ⟨rfl, rfl, trivial⟩ ?_
  refine T_seq ?_
  refine T_seq ?_
  refine T_region ?_
  refine TO_cons rfl (TOp_pure (pur_move rfl) rfl ?_)
  refine TO_cons rfl (TOp_pure (pur_lss rfl rfl rfl) rfl ?_)
  refine TO_nil ?_
  refine T_env (E' := [(0, (sl tFact a0)), (1, (intA (w64 (left1 - (a0.length : Int))))), (11, (boolA (decide ((w64 (left1 - (a0.length : Int))) < 0))))]) ⟨rfl, rfl, rfl, trivial⟩ ?_
  refine T_cond (t := decide ((w64 (left1 - (a0.length : Int))) < 0)) rfl (fun c_1 => ?_) (fun c_1 => ?_)
  · replace H := cond_t c_1 H
    refine T_seq ?_
    refine T_region ?_
    refine TO_cons rfl (TOp_pure (pur_assign rfl) rfl ?_)
    refine TO_nil ?_
    refine T_env (E' := [(4, (intA (-1)))]) ⟨rfl, trivial⟩ ?_
    refine T_ret ?_
    refine then_ret ?_
    obtain rfl := some_inj H
    refine end_ret (.tmp .nil) rfl rfl ⟨?_, rfl⟩
    rfl
  · replace H := cond_f c_1 H
    refine T_skip ?_
    refine T_env (E' := [(0, (sl tFact a0)), (1, (intA (w64 (left1 - (a0.length : Int)))))]) ⟨rfl, rfl, trivial⟩ ?_
    refine T_seq ?_
    refine T_seq ?_
    refine T_region ?_
    refine TO_cons rfl (TOp_pure (pur_assign rfl) rfl ?_)
    refine TO_nil ?_
    refine T_env (E' := [(0, (sl tFact a0)), (1, (intA (w64 (left1 - (a0.length : Int))))), (5, (intA 0))]) ⟨rfl, rfl, rfl, trivial⟩ ?_
    obtain ⟨O3_, L3_, N3_⟩ := bind_inv H
    clear H
    obtain ⟨B3_, hb3, L3_⟩ := gen_forL L3_
    refine T_block ?_
    refine T_loopX (fun k => fun (x_ : Nat × Int) => k = a0.length - x_.1 ∧ forL B3_ (a0.drop x_.1) (x_.1 : Int) x_.2 = some O3_) (fun (x_ : Nat × Int) => [(0, (sl tFact a0)), (1, (intA x_.2)), (5, (intA (x_.1 : Int)))]) (fun (x_ : Nat × Int) => []) _ (0, (w64 (left1 - (a0.length : Int)))) (WeakL.to 0 (Nat.le_of_ble_eq_true rfl) rfl rfl rfl rfl ⟨leR rfl, leR rfl, leR rfl, trivial⟩) ⟨rfl, L3_⟩ ?_
    rintro _ ⟨i_2, left1⟩ ⟨rfl, L3_⟩
    refine T_env (E' := [(0, (sl tFact a0)), (1, (intA left1)), (5, (intA (i_2 : Int)))]) ⟨rfl, rfl, rfl, trivial⟩ ?_
    refine T_st (σ' := []) rfl ?_
    refine T_fact (len_sl (T := tFact) (.tmp 0) rfl) (fun hl3 => ?_)
    refine T_seq ?_
    refine T_seq ?_
    refine T_region ?_
    refine TO_cons rfl (TOp_pure (pur_move rfl) rfl ?_)
    refine TO_cons rfl (TOp_pure (pur_move rfl) rfl ?_)
    refine TO_cons rfl (TOp_pure (pur_lenT (T := tFact) sl39 rfl rfl) rfl ?_)
    refine TO_cons rfl (TOp_pure (pur_lss rfl rfl rfl) rfl ?_)
    refine TO_nil ?_
    refine T_env (E' := [(0, (sl tFact a0)), (1, (intA left1)), (5, (intA (i_2 : Int))), (15, (boolA (decide ((i_2 : Int) < (a0.length : Int)))))]) ⟨rfl, rfl, rfl, rfl, trivial⟩ ?_
    refine T_cond (t := decide ((i_2 : Int) < (a0.length : Int))) rfl (fun d3 => ?_) (fun d3 => ?_)
    · replace d3 := of_decide_eq_true d3
      obtain ⟨x_i_2, hx_i_2⟩ : ∃ v, (a0)[i_2]? = some v := ⟨_, List.getElem?_eq_getElem (by omega)⟩
      obtain ⟨C3_, H, K3_⟩ := forL_step L3_ hx_i_2
      rw [hb3] at H
      refine T_skip ?_
      refine T_env (E' := [(0, (sl tFact a0)), (1, (intA left1)), (5, (intA (i_2 : Int)))]) ⟨rfl, rfl, rfl, trivial⟩ ?_
      refine T_seq ?_
      refine T_block ?_
      refine T_seq ?_
      refine T_region ?_
      refine TO_cons rfl (TOp_pure (pur_move rfl) rfl ?_)
      refine TO_cons rfl (TOp_pure (pur_move rfl) rfl ?_)
      refine TO_cons rfl (TOp_pure (pur_ixT (T := tFact) sl39 rfl rfl rfl hx_i_2 rfl) rfl ?_)
      refine TO_cons rfl (TOp_pure (pur_ldTK (T := tFact) (i := i_2) (off := 0) rfl agg101 rfl rfl hx_i_2 (by decide) rfl) rfl ?_)
      refine TO_cons rfl (TOp_pure (pur_move rfl) rfl ?_)
      obtain ⟨r_4, h_5, H⟩ := bind_inv H
      refine TO_cons rfl (TOp_callV (call_static ent92 rfl) (m_laws_szFact_ok _ _ _ h_5) rfl rfl rfl ?_)
      refine TO_cons rfl (TOp_pure (pur_assign rfl) rfl ?_)
      refine TO_nil ?_
      refine T_env (E' := [(0, (sl tFact a0)), (1, (intA r_4)), (5, (intA (i_2 : Int)))]) ⟨rfl, rfl, rfl, trivial⟩ ?_
      refine T_seq ?_
      refine T_region ?_
      refine TO_cons rfl (TOp_pure (pur_move rfl) rfl ?_)
      refine TO_cons rfl (TOp_pure (pur_lss rfl rfl rfl) rfl ?_)
      refine TO_nil ?_
      refine T_env (E' := [(0, (sl tFact a0)), (1, (intA r_4)), (5, (intA (i_2 : Int))), (25, (boolA (decide (r_4 < 0))))]) ⟨rfl, rfl, rfl, rfl, trivial⟩ ?_
      refine T_cond (t := decide (r_4 < 0)) rfl (fun c_6 => ?_) (fun c_6 => ?_)
      · replace H := cond_t c_6 H
        refine T_seq ?_
        refine T_region ?_
        refine TO_cons rfl (TOp_pure (pur_assign rfl) rfl ?_)
        refine TO_nil ?_
        refine T_env (E' := [(4, (intA (-1)))]) ⟨rfl, trivial⟩ ?_
        refine T_ret ?_
        refine block_ret ?_
        refine then_ret ?_
        refine then_ret ?_
        refine block_ret ?_
        refine then_ret ?_
        obtain rfl := some_inj H
        obtain rfl := some_inj K3_
        replace H := onS_r N3_
        obtain rfl := some_inj H
        refine end_ret (.tmp .nil) rfl rfl ⟨?_, rfl⟩
        rfl
      · replace H := cond_f c_6 H
        refine T_skip ?_
        refine T_env (E' := [(0, (sl tFact a0)), (1, (intA r_4)), (5, (intA (i_2 : Int)))]) ⟨rfl, rfl, rfl, trivial⟩ ?_
        refine T_region ?_
        refine TO_cons rfl (TOp_pure (pur_move rfl) rfl ?_)
        refine TO_cons rfl (TOp_pure (pur_add rfl rfl rfl (fits64 (by omega) (by omega))) rfl ?_)
        refine TO_cons rfl (TOp_pure (pur_assign rfl) rfl ?_)
        refine TO_nil ?_
        obtain rfl := some_inj H
        exact again (a0.length - (i_2 + 1)) (i_2 + 1, r_4) (by omega) (WeakL.to 0 (Nat.le_of_ble_eq_true rfl) rfl rfl rfl rfl ⟨leR rfl, leR rfl, leR rfl, trivial⟩) ⟨rfl, K3_⟩
    · replace d3 := of_decide_eq_false d3
      obtain rfl := forL_end L3_ (by omega)
      refine T_exit ?_
      refine then_exit ?_
      refine then_exit ?_
      refine block_exit ?_
      replace H := onS_l N3_
      refine T_env (E' := [(1, (intA left1))]) ⟨rfl, trivial⟩ ?_
      refine T_seq ?_
      refine T_region ?_
      refine TO_cons rfl (TOp_pure (pur_move rfl) rfl ?_)
      refine TO_cons rfl (TOp_pure (pur_assign rfl) rfl ?_)
      refine TO_nil ?_
      refine T_env (E' := [(4, (intA left1))]) ⟨rfl, trivial⟩ ?_
      refine T_ret ?_
      obtain rfl := some_inj H
      refine end_ret (.tmp .nil) rfl rfl ⟨?_, rfl⟩
      rfl

set_option maxHeartbeats 1000000 in
/-- laws.szDatabase -/
theorem m_laws_szDatabase_ok (a0 : Database) (left1 : Int) (r : Int) (H : m_laws_szDatabase a0 left1 = some r) : FnV prg 26 [(.g (tDatabase.enc a0)), (intA left1)] (intA r) := by
  unfold m_laws_szDatabase at H
  refine fnV_of_T Try.func26 rfl rfl (Nat.le_of_ble_eq_true rfl) ?_
  refine T_env (E' := [(0, (.g (tDatabase.enc a0))), (1, (intA left1))]) ⟨rfl, rfl, trivial⟩ ?_
  refine T_seq ?_
  refine T_region ?_
  refine TO_cons rfl (TOp_box rfl (boxAll rfl) rfl rfl ?_)
  refine TO_cons rfl (TOp_pure (pur_assign rfl) rfl ?_)
  refine TO_nil ?_
  refine T_env (E' := [(1, (intA left1)), (2, (.b 0 0))]) ⟨rfl, rfl, trivial⟩ ?_
  refine T_seq ?_
  refine T_region ?_
  refine TO_cons rfl (TOp_pure (pur_fa_b fld41_0 rfl rfl) rfl ?_)
  refine TO_cons rfl (TOp_pure (pur_ld_b one38 rfl rfl rfl rfl) rfl ?_)
  refine TO_cons rfl (TOp_pure (pur_move rfl) rfl ?_)
  obtain ⟨r_1, h_2, H⟩ := bind_inv H
  refine TO_cons rfl (TOp_callV (call_static ent62 rfl) (m_laws_szRelationS_ok _ _ _ h_2) rfl rfl rfl ?_)
  refine TO_cons rfl (TOp_pure (pur_assign rfl) rfl ?_)
  refine TO_nil ?_
  refine T_env (E' := [(1, (intA r_1)), (2, (.b 0 0))]) ⟨rfl, rfl, trivial⟩ ?_
  refine T_seq ?_
  refine T_seq ?_
  refine T_region ?_
  refine TO_cons rfl (TOp_pure (pur_move rfl) rfl ?_)
  refine TO_cons rfl (TOp_pure (pur_lss rfl rfl rfl) rfl ?_)
  refine TO_nil ?_
  refine T_env (E' := [(1, (intA r_1)), (2, (.b 0 0)), (10, (boolA (decide (r_1 < 0))))]) ⟨rfl, rfl, rfl, trivial⟩ ?_
  refine T_cond (t := decide (r_1 < 0)) rfl (fun c_3 => ?_) (fun c_3 => ?_)
  · replace H := cond_t c_3 H
    refine T_seq ?_
    refine T_region ?_
    refine TO_cons rfl (TOp_pure (pur_assign rfl) rfl ?_)
    refine TO_nil ?_
    refine T_env (E' := [(4, (intA (-1)))]) ⟨rfl, trivial⟩ ?_
    refine T_ret ?_
    refine then_ret ?_
    obtain rfl := some_inj H
    refine end_ret (.tmp .nil) rfl rfl ⟨?_, rfl⟩
    rfl
  · replace H := cond_f c_3 H
    refine T_skip ?_
    refine T_env (E' := [(1, (intA r_1)), (2, (.b 0 0))]) ⟨rfl, rfl, trivial⟩ ?_
    refine T_seq ?_
    refine T_region ?_
    refine TO_cons rfl (TOp_pure (pur_fa_b fld41_1 rfl rfl) rfl ?_)
    refine TO_cons rfl (TOp_pure (pur_ld_b one39 rfl rfl rfl rfl) rfl ?_)
    refine TO_cons rfl (TOp_pure (pur_move rfl) rfl ?_)
    obtain ⟨r_4, h_5, H⟩ := bind_inv H
    refine TO_cons rfl (TOp_callV (call_static ent63 rfl) (m_laws_szFactS_ok _ _ _ h_5) rfl rfl rfl ?_)
    refine TO_cons rfl (TOp_pure (pur_assign rfl) rfl ?_)
    refine TO_nil ?_
    refine T_env (E' := [(1, (intA r_4))]) ⟨rfl, trivial⟩ ?_
    refine T_seq ?_
    refine T_seq ?_
    refine T_region ?_
    refine TO_cons rfl (TOp_pure (pur_move rfl) rfl ?_)
    refine TO_cons rfl (TOp_pure (pur_lss rfl rfl rfl) rfl ?_)
    refine TO_nil ?_
    refine T_env (E' := [(1, (intA r_4)), (16, (boolA (decide (r_4 < 0))))]) ⟨rfl, rfl, trivial⟩ ?_
    refine T_cond (t := decide (r_4 < 0)) rfl (fun c_6 => ?_) (fun c_6 => ?_)
    · replace H := cond_t c_6 H
      refine T_seq ?_
      refine T_region ?_
      refine TO_cons rfl (TOp_pure (pur_assign rfl) rfl ?_)
      refine TO_nil ?_
      refine T_env (E' := [(4, (intA (-1)))]) ⟨rfl, trivial⟩ ?_
      refine T_ret ?_
      refine then_ret ?_
      obtain rfl := some_inj H
      refine end_ret (.tmp .nil) rfl rfl ⟨?_, rfl⟩
      rfl
    · replace H := cond_f c_6 H
      refine T_skip ?_
      refine T_env (E' := [(1, (intA r_4))]) ⟨rfl, trivial⟩ ?_
      refine T_seq ?_
      refine T_region ?_
      refine TO_cons rfl (TOp_pure (pur_move rfl) rfl ?_)
      refine TO_cons rfl (TOp_pure (pur_assign rfl) rfl ?_)
      refine TO_nil ?_
      refine T_env (E' := [(4, (intA r_4))]) ⟨rfl, trivial⟩ ?_
      refine T_ret ?_
      obtain rfl := some_inj H
      refine end_ret (.tmp .nil) rfl rfl ⟨?_, rfl⟩
      rfl

set_option maxHeartbeats 1000000 in
/-- laws.toRelation -/
theorem m_laws_toRelation_ok (a0 : Relation) (r : Relation) (H : m_laws_toRelation a0 = some r) : FnV prg 93 [(.g (tRelation.enc a0))] (.g (tRelation.enc r)) := by
  unfold m_laws_toRelation at H
  refine fnV_of_T Try.func93 rfl rfl (Nat.le_of_ble_eq_true rfl) ?_
  refine T_env (E' := [(0, (.g (tRelation.enc a0)))]) ⟨rfl, trivial⟩ ?_
  refine T_seq ?_
  refine T_region ?_
  refine TO_cons rfl (TOp_box rfl (boxAll rfl) rfl rfl ?_)
  refine TO_cons rfl (TOp_alloc zero97 rfl rfl ?_)
  refine TO_nil ?_
  refine T_env (E' := [(1, (.b 0 0)), (2, (.b 1 0))]) ⟨rfl, rfl, trivial⟩ ?_
  refine T_seq ?_
  refine T_region ?_
  refine TO_cons rfl (TOp_alloc zero97 rfl rfl ?_)
  refine TO_nil ?_
  refine T_env (E' := [(1, (.b 0 0)), (2, (.b 1 0)), (3, (.b 2 0))]) ⟨rfl, rfl, rfl, trivial⟩ ?_
  refine T_seq ?_
  refine T_region ?_
  refine TO_cons rfl (TOp_pure (pur_fa_b fld99_0 rfl rfl) rfl ?_)
  refine TO_cons rfl (TOp_pure (pur_ld_b one9 rfl rfl rfl rfl) rfl ?_)
  refine TO_cons rfl (TOp_pure (pur_fa_b fld97_0 rfl rfl) rfl ?_)
  refine TO_cons rfl (TOp_storeB sz9 rfl rfl rfl rfl rfl rfl rfl (by decide) (Nat.le_of_ble_eq_true rfl) rfl ?_)
  refine TO_st (σ' := [.box [(strA a0.name), (intA a0.arity), (intA a0.keyLength)], .box [(strA ByteArray.empty), (intA 0), (intA 0)], .box [(strA a0.name), (intA 0), (intA 0)]]) rfl ?_
  refine TO_nil ?_
  refine T_env (E' := [(1, (.b 0 0)), (2, (.b 1 0)), (3, (.b 2 0))]) ⟨rfl, rfl, rfl, trivial⟩ ?_
  refine T_seq ?_
  refine T_region ?_
  refine TO_cons rfl (TOp_pure (pur_fa_b fld99_1 rfl rfl) rfl ?_)
  refine TO_cons rfl (TOp_pure (pur_ld_b one3 rfl rfl rfl rfl) rfl ?_)
  refine TO_cons rfl (TOp_pure (pur_fa_b fld97_1 rfl rfl) rfl ?_)
  refine TO_cons rfl (TOp_storeB sz3 rfl rfl rfl rfl rfl rfl rfl (by decide) (Nat.le_of_ble_eq_true rfl) rfl ?_)
  refine TO_st (σ' := [.box [(strA a0.name), (intA a0.arity), (intA a0.keyLength)], .box [(strA ByteArray.empty), (intA 0), (intA 0)], .box [(strA a0.name), (intA a0.arity), (intA 0)]]) rfl ?_
  refine TO_nil ?_
  refine T_env (E' := [(1, (.b 0 0)), (2, (.b 1 0)), (3, (.b 2 0))]) ⟨rfl, rfl, rfl, trivial⟩ ?_
  refine T_seq ?_
  refine T_region ?_
  refine TO_cons rfl (TOp_pure (pur_fa_b fld99_2 rfl rfl) rfl ?_)
  refine TO_cons rfl (TOp_pure (pur_ld_b one3 rfl rfl rfl rfl) rfl ?_)
  refine TO_cons rfl (TOp_pure (pur_fa_b fld97_2 rfl rfl) rfl ?_)
  refine TO_cons rfl (TOp_storeB sz3 rfl rfl rfl rfl rfl rfl rfl (by decide) (Nat.le_of_ble_eq_true rfl) rfl ?_)
  refine TO_st (σ' := [.box [(strA a0.name), (intA a0.arity), (intA a0.keyLength)], .box [(strA ByteArray.empty), (intA 0), (intA 0)], .box [(strA a0.name), (intA a0.arity), (intA a0.keyLength)]]) rfl ?_
  refine TO_nil ?_
  refine T_env (E' := [(2, (.b 1 0)), (3, (.b 2 0))]) ⟨rfl, rfl, trivial⟩ ?_
  refine T_seq ?_
  refine T_region ?_
  refine TO_cons rfl (TOp_pure (pur_ldK_b agg97 rfl rfl (Nat.le_of_ble_eq_true rfl) rfl) rfl ?_)
  refine TO_cons rfl (TOp_storeB sz97 rfl rfl rfl rfl rfl rfl rfl (by decide) (Nat.le_of_ble_eq_true rfl) rfl ?_)
  refine TO_st (σ' := [.box [(strA a0.name), (intA a0.arity), (intA a0.keyLength)], .box [(strA a0.name), (intA a0.arity), (intA a0.keyLength)], .box [(strA a0.name), (intA a0.arity), (intA a0.keyLength)]]) rfl ?_
  refine TO_nil ?_
  refine T_env (E' := [(2, (.b 1 0))]) ⟨rfl, trivial⟩ ?_
  refine T_ret ?_
  obtain rfl := some_inj H
  refine end_ret (.cellK rfl agg97 rfl (Nat.le_of_ble_eq_true rfl) .nil) rfl rfl ⟨?_, rfl⟩
  rfl

set_option maxHeartbeats 1000000 in
/-- laws.toRelationS -/
theorem m_laws_toRelationS_own (a0 : (List Relation)) (r : (List Relation)) (H : m_laws_toRelationS a0 = some r) : FnO prg 64 [(sl tRelation a0)] (.m [0] 0 r.length tRelation.k) [.row (flat tRelation.own r)] := by
  unfold m_laws_toRelationS at H
  refine fnO_of_T Try.func64 rfl rfl (Nat.le_of_ble_eq_true rfl) ?_
  refine T_env (E' := [(0, (sl tRelation a0))]) ⟨rfl, trivial⟩ ?_
  refine T_seq ?_
  refine T_region ?_
  refine TO_cons rfl (TOp_pure (pur_assign rfl) rfl ?_)
  refine TO_nil ?_
  refine T_env (E' := [(0, (sl tRelation a0))]) ⟨rfl, trivial⟩ ?_
  refine T_seq ?_
  refine T_region ?_
  refine TO_cons rfl (TOp_pure (pur_move rfl) rfl ?_)
  refine TO_cons rfl (TOp_pure (pur_lenT (T := tRelation) sl38 rfl rfl) rfl ?_)
  obtain ⟨us_1, h_2, H⟩ := bind_inv H
  refine TO_cons rfl (TOp_makeT (T := tRelation) (z := (default : Relation)) rfl sl29 zero97 rfl bytes97 rfl rfl rfl rfl h_2 ?_)
  refine TO_cons rfl (TOp_pure (pur_assign rfl) rfl ?_)
  refine TO_nil ?_
  refine T_env (E' := [(0, (sl tRelation a0)), (3, (.m [0] 0 us_1.length tRelation.k))]) ⟨rfl, rfl, trivial⟩ ?_
  refine T_seq ?_
  refine T_seq ?_
  refine T_region ?_
  refine TO_cons rfl (TOp_pure (pur_assign rfl) rfl ?_)
  refine TO_nil ?_
  refine T_env (E' := [(0, (sl tRelation a0)), (3, (.m [0] 0 us_1.length tRelation.k)), (4, (intA 0))]) ⟨rfl, rfl, rfl, trivial⟩ ?_
  obtain ⟨O4_, L4_, N4_⟩ := bind_inv H
  clear H
  obtain ⟨B4_, hb4, L4_⟩ := gen_forS L4_
  refine T_block ?_
  refine T_loopX (fun k => fun (x_ : Nat × (List Relation)) => k = a0.length - x_.1 ∧ forS B4_ (a0.drop x_.1) (x_.1 : Int) x_.2 = some O4_) (fun (x_ : Nat × (List Relation)) => [(0, (sl tRelation a0)), (3, (.m [0] 0 x_.2.length tRelation.k)), (4, (intA (x_.1 : Int)))]) (fun (x_ : Nat × (List Relation)) => [.row (flat tRelation.enc x_.2)]) _ (0, us_1) (WeakL.to 1 (Nat.le_of_ble_eq_true rfl) rfl rfl rfl rfl ⟨leR rfl, leR rfl, leR rfl, trivial⟩) ⟨rfl, L4_⟩ ?_
  rintro _ ⟨i_3, out3⟩ ⟨rfl, L4_⟩
  refine T_env (E' := [(0, (sl tRelation a0)), (3, (.m [0] 0 out3.length tRelation.k)), (4, (intA (i_3 : Int)))]) ⟨rfl, rfl, rfl, trivial⟩ ?_
  refine T_st (σ' := [.row (flat tRelation.enc out3)]) rfl ?_
  refine T_fact (len_sl (T := tRelation) (.tmp 0) rfl) (fun hl4 => ?_)
  refine T_seq ?_
  refine T_seq ?_
  refine T_region ?_
  refine TO_cons rfl (TOp_pure (pur_move rfl) rfl ?_)
  refine TO_cons rfl (TOp_pure (pur_move rfl) rfl ?_)
  refine TO_cons rfl (TOp_pure (pur_lenT (T := tRelation) sl38 rfl rfl) rfl ?_)
  refine TO_cons rfl (TOp_pure (pur_lss rfl rfl rfl) rfl ?_)
  refine TO_nil ?_
  refine T_env (E' := [(0, (sl tRelation a0)), (3, (.m [0] 0 out3.length tRelation.k)), (4, (intA (i_3 : Int))), (11, (boolA (decide ((i_3 : Int) < (a0.length : Int)))))]) ⟨rfl, rfl, rfl, rfl, trivial⟩ ?_
  refine T_cond (t := decide ((i_3 : Int) < (a0.length : Int))) rfl (fun d4 => ?_) (fun d4 => ?_)
  · replace d4 := of_decide_eq_true d4
    obtain ⟨x_i_3, hx_i_3⟩ : ∃ v, (a0)[i_3]? = some v := ⟨_, List.getElem?_eq_getElem (by omega)⟩
    obtain ⟨C4_, H, K4_⟩ := forS_step L4_ hx_i_3
    rw [hb4] at H
    refine T_skip ?_
    refine T_env (E' := [(0, (sl tRelation a0)), (3, (.m [0] 0 out3.length tRelation.k)), (4, (intA (i_3 : Int)))]) ⟨rfl, rfl, rfl, trivial⟩ ?_
    refine T_seq ?_
    refine T_block ?_
    refine T_region ?_
    refine TO_cons rfl (TOp_pure (pur_move rfl) rfl ?_)
    refine TO_cons rfl (TOp_pure (pur_move rfl) rfl ?_)
    refine TO_cons rfl (TOp_pure (pur_move rfl) rfl ?_)
    refine TO_cons rfl (TOp_pure (pur_move rfl) rfl ?_)
    refine TO_cons rfl (TOp_pure (pur_ixT (T := tRelation) sl38 rfl rfl rfl hx_i_3 rfl) rfl ?_)
    refine TO_cons rfl (TOp_pure (pur_ldTK (T := tRelation) (i := i_3) (off := 0) rfl agg99 rfl rfl hx_i_3 (by decide) rfl) rfl ?_)
    obtain ⟨r_5, h_6, H⟩ := bind_inv H
    refine TO_cons rfl (TOp_callV (call_static ent93 rfl) (m_laws_toRelation_ok _ _ h_6) rfl rfl rfl ?_)
    obtain ⟨v_7, h_8, H⟩ := bind_inv H
    obtain ⟨n_9, hz_10, hv_11⟩ := getI_inv h_8
    refine TO_cons rfl (TOp_pure (pur_ixM (T := tRelation) sl29 rfl rfl hz_10 hv_11 rfl) rfl ?_)
    refine TO_cons rfl (TOp_setT (f := tRelation.enc) (z := (i_3 : Int)) (y := r_5) tRelation.len tRelation.pos hz_10 sz97 rfl rfl rfl rfl rfl hv_11 rfl rfl ?_)
    refine TO_env (E' := [(0, (sl tRelation a0)), (3, (.m [0] 0 (out3.set ((i_3 : Int)).toNat r_5).length tRelation.k)), (4, (intA (i_3 : Int))), (14, (.m [0] 0 (out3.set ((i_3 : Int)).toNat r_5).length tRelation.k)), (15, (intA (i_3 : Int))), (16, (sl tRelation a0)), (17, (intA (i_3 : Int))), (18, (.q (flat tRelation.enc a0) (i_3 * tRelation.k))), (19, (.g (tRelation.enc x_i_3))), (20, (.g (tRelation.enc r_5)))]) ⟨rfl, (congrArg (fun q => A.m [0] 0 q tRelation.k) (List.length_set ..).symm), rfl, (congrArg (fun q => A.m [0] 0 q tRelation.k) (List.length_set ..).symm), rfl, rfl, rfl, rfl, rfl, rfl, trivial⟩ ?_
    refine TO_st (σ' := [.row (flat tRelation.enc (out3.set ((i_3 : Int)).toNat r_5))]) rfl ?_
    refine TO_nil ?_
    refine T_env (E' := [(0, (sl tRelation a0)), (3, (.m [0] 0 (out3.set ((i_3 : Int)).toNat r_5).length tRelation.k)), (4, (intA (i_3 : Int)))]) ⟨rfl, rfl, rfl, trivial⟩ ?_
    refine T_region ?_
    refine TO_cons rfl (TOp_pure (pur_move rfl) rfl ?_)
    refine TO_cons rfl (TOp_pure (pur_add rfl rfl rfl (fits64 (by omega) (by omega))) rfl ?_)
    refine TO_cons rfl (TOp_pure (pur_assign rfl) rfl ?_)
    refine TO_nil ?_
    obtain rfl := some_inj H
    exact again (a0.length - (i_3 + 1)) (i_3 + 1, (out3.set ((i_3 : Int)).toNat r_5)) (by omega) (WeakL.to 1 (Nat.le_of_ble_eq_true rfl) rfl rfl rfl rfl ⟨leR rfl, leR rfl, leR rfl, trivial⟩) ⟨rfl, K4_⟩
  · replace d4 := of_decide_eq_false d4
    obtain rfl := forS_end L4_ (by omega)
    refine T_exit ?_
    refine then_exit ?_
    refine then_exit ?_
    refine block_exit ?_
    replace H := N4_
    refine T_env (E' := [(3, (.m [0] 0 out3.length tRelation.k))]) ⟨rfl, trivial⟩ ?_
    refine T_seq ?_
    refine T_region ?_
    refine TO_cons rfl (TOp_pure (pur_move rfl) rfl ?_)
    refine TO_cons rfl (TOp_pure (pur_assign rfl) rfl ?_)
    refine TO_nil ?_
    refine T_env (E' := [(2, (.m [0] 0 out3.length tRelation.k))]) ⟨rfl, trivial⟩ ?_
    refine T_ret ?_
    obtain rfl := some_inj H
    exact end_pick (.tmp .nil) rfl [0] (by decide) rfl rfl rfl rfl rfl rfl
theorem m_laws_toRelationS_ok (a0 : (List Relation)) (r : (List Relation)) (H : m_laws_toRelationS a0 = some r) : FnV prg 64 [(sl tRelation a0)] (sl tRelation r) := (m_laws_toRelationS_own a0 r H).frz (frzT (T := tRelation) rfl)

set_option maxHeartbeats 1000000 in
/-- laws.toIntS -/
theorem m_laws_toIntS_own (a0 : (List Int)) (r : (List Int)) (H : m_laws_toIntS a0 = some r) : FnO prg 28 [(sl tInt a0)] (.m [0] 0 r.length tInt.k) [.row (flat tInt.own r)] := by
  unfold m_laws_toIntS at H
  refine fnO_of_T Try.func28 rfl rfl (Nat.le_of_ble_eq_true rfl) ?_
  refine T_env (E' := [(0, (sl tInt a0))]) ⟨rfl, trivial⟩ ?_
  refine T_seq ?_
  refine T_region ?_
  refine TO_cons rfl (TOp_pure (pur_assign rfl) rfl ?_)
  refine TO_nil ?_
  refine T_env (E' := [(0, (sl tInt a0))]) ⟨rfl, trivial⟩ ?_
  refine T_seq ?_
  refine T_region ?_
  refine TO_cons rfl (TOp_pure (pur_move rfl) rfl ?_)
  refine TO_cons rfl (TOp_pure (pur_lenT (T := tInt) sl33 rfl rfl) rfl ?_)
  obtain ⟨us_1, h_2, H⟩ := bind_inv H
  refine TO_cons rfl (TOp_makeT (T := tInt) (z := (0 : Int)) rfl sl33 zero3 rfl bytes3 rfl rfl rfl rfl h_2 ?_)
  refine TO_cons rfl (TOp_pure (pur_assign rfl) rfl ?_)
  refine TO_nil ?_
  refine T_env (E' := [(0, (sl tInt a0)), (3, (.m [0] 0 us_1.length tInt.k))]) ⟨rfl, rfl, trivial⟩ ?_
  refine T_seq ?_
  refine T_seq ?_
  refine T_region ?_
  refine TO_cons rfl (TOp_pure (pur_assign rfl) rfl ?_)
  refine TO_nil ?_
  refine T_env (E' := [(0, (sl tInt a0)), (3, (.m [0] 0 us_1.length tInt.k)), (4, (intA 0))]) ⟨rfl, rfl, rfl, trivial⟩ ?_
  obtain ⟨O4_, L4_, N4_⟩ := bind_inv H
  clear H
  obtain ⟨B4_, hb4, L4_⟩ := gen_forS L4_
  refine T_block ?_
  refine T_loopX (fun k => fun (x_ : Nat × (List Int)) => k = a0.length - x_.1 ∧ forS B4_ (a0.drop x_.1) (x_.1 : Int) x_.2 = some O4_) (fun (x_ : Nat × (List Int)) => [(0, (sl tInt a0)), (3, (.m [0] 0 x_.2.length tInt.k)), (4, (intA (x_.1 : Int)))]) (fun (x_ : Nat × (List Int)) => [.row (flat tInt.enc x_.2)]) _ (0, us_1) (WeakL.to 1 (Nat.le_of_ble_eq_true rfl) rfl rfl rfl rfl ⟨leR rfl, leR rfl, leR rfl, trivial⟩) ⟨rfl, L4_⟩ ?_
  rintro _ ⟨i_3, out3⟩ ⟨rfl, L4_⟩
  refine T_env (E' := [(0, (sl tInt a0)), (3, (.m [0] 0 out3.length tInt.k)), (4, (intA (i_3 : Int)))]) ⟨rfl, rfl, rfl, trivial⟩ ?_
  refine T_st (σ' := [.row (flat tInt.enc out3)]) rfl ?_
  refine T_fact (len_sl (T := tInt) (.tmp 0) rfl) (fun hl4 => ?_)
  refine T_seq ?_
  refine T_seq ?_
  refine T_region ?_
  refine TO_cons rfl (TOp_pure (pur_move rfl) rfl ?_)
  refine TO_cons rfl (TOp_pure (pur_move rfl) rfl ?_)
  refine TO_cons rfl (TOp_pure (pur_lenT (T := tInt) sl33 rfl rfl) rfl ?_)
  refine TO_cons rfl (TOp_pure (pur_lss rfl rfl rfl) rfl ?_)
  refine TO_nil ?_
  refine T_env (E' := [(0, (sl tInt a0)), (3, (.m [0] 0 out3.length tInt.k)), (4, (intA (i_3 : Int))), (11, (boolA (decide ((i_3 : Int) < (a0.length : Int)))))]) ⟨rfl, rfl, rfl, rfl, trivial⟩ ?_
  refine T_cond (t := decide ((i_3 : Int) < (a0.length : Int))) rfl (fun d4 => ?_) (fun d4 => ?_)
  · replace d4 := of_decide_eq_true d4
    obtain ⟨x_i_3, hx_i_3⟩ : ∃ v, (a0)[i_3]? = some v := ⟨_, List.getElem?_eq_getElem (by omega)⟩
    obtain ⟨C4_, H, K4_⟩ := forS_step L4_ hx_i_3
    rw [hb4] at H
    refine T_skip ?_
    refine T_env (E' := [(0, (sl tInt a0)), (3, (.m [0] 0 out3.length tInt.k)), (4, (intA (i_3 : Int)))]) ⟨rfl, rfl, rfl, trivial⟩ ?_
    refine T_seq ?_
    refine T_block ?_
    refine T_region ?_
    refine TO_cons rfl (TOp_pure (pur_move rfl) rfl ?_)
    refine TO_cons rfl (TOp_pure (pur_move rfl) rfl ?_)
    refine TO_cons rfl (TOp_pure (pur_move rfl) rfl ?_)
    refine TO_cons rfl (TOp_pure (pur_move rfl) rfl ?_)
    refine TO_cons rfl (TOp_pure (pur_ixT (T := tInt) sl33 rfl rfl rfl hx_i_3 rfl) rfl ?_)
    refine TO_cons rfl (TOp_pure (pur_ldT (T := tInt) (i := i_3) (off := 0) rfl one3 rfl rfl hx_i_3 rfl) rfl ?_)
    obtain ⟨v_5, h_6, H⟩ := bind_inv H
    obtain ⟨n_7, hz_8, hv_9⟩ := getI_inv h_6
    refine TO_cons rfl (TOp_pure (pur_ixM (T := tInt) sl33 rfl rfl hz_8 hv_9 rfl) rfl ?_)
    refine TO_cons rfl (TOp_setT (f := tInt.enc) (z := (i_3 : Int)) (y := x_i_3) tInt.len tInt.pos hz_8 sz3 rfl rfl rfl rfl rfl hv_9 rfl rfl ?_)
    refine TO_env (E' := [(0, (sl tInt a0)), (3, (.m [0] 0 (out3.set ((i_3 : Int)).toNat x_i_3).length tInt.k)), (4, (intA (i_3 : Int))), (14, (.m [0] 0 (out3.set ((i_3 : Int)).toNat x_i_3).length tInt.k)), (15, (intA (i_3 : Int))), (16, (sl tInt a0)), (17, (intA (i_3 : Int))), (18, (.q (flat tInt.enc a0) (i_3 * tInt.k))), (19, (intA x_i_3))]) ⟨rfl, (congrArg (fun q => A.m [0] 0 q tInt.k) (List.length_set ..).symm), rfl, (congrArg (fun q => A.m [0] 0 q tInt.k) (List.length_set ..).symm), rfl, rfl, rfl, rfl, rfl, trivial⟩ ?_
    refine TO_st (σ' := [.row (flat tInt.enc (out3.set ((i_3 : Int)).toNat x_i_3))]) rfl ?_
    refine TO_nil ?_
    refine T_env (E' := [(0, (sl tInt a0)), (3, (.m [0] 0 (out3.set ((i_3 : Int)).toNat x_i_3).length tInt.k)), (4, (intA (i_3 : Int)))]) ⟨rfl, rfl, rfl, trivial⟩ ?_
    refine T_region ?_
    refine TO_cons rfl (TOp_pure (pur_move rfl) rfl ?_)
    refine TO_cons rfl (TOp_pure (pur_add rfl rfl rfl (fits64 (by omega) (by omega))) rfl ?_)
    refine TO_cons rfl (TOp_pure (pur_assign rfl) rfl ?_)
    refine TO_nil ?_
    obtain rfl := some_inj H
    exact again (a0.length - (i_3 + 1)) (i_3 + 1, (out3.set ((i_3 : Int)).toNat x_i_3)) (by omega) (WeakL.to 1 (Nat.le_of_ble_eq_true rfl) rfl rfl rfl rfl ⟨leR rfl, leR rfl, leR rfl, trivial⟩) ⟨rfl, K4_⟩
  · replace d4 := of_decide_eq_false d4
    obtain rfl := forS_end L4_ (by omega)
    refine T_exit ?_
    refine then_exit ?_
    refine then_exit ?_
    refine block_exit ?_
    replace H := N4_
    refine T_env (E' := [(3, (.m [0] 0 out3.length tInt.k))]) ⟨rfl, trivial⟩ ?_
    refine T_seq ?_
    refine T_region ?_
    refine TO_cons rfl (TOp_pure (pur_move rfl) rfl ?_)
    refine TO_cons rfl (TOp_pure (pur_assign rfl) rfl ?_)
    refine TO_nil ?_
    refine T_env (E' := [(2, (.m [0] 0 out3.length tInt.k))]) ⟨rfl, trivial⟩ ?_
    refine T_ret ?_
    obtain rfl := some_inj H
    exact end_pick (.tmp .nil) rfl [0] (by decide) rfl rfl rfl rfl rfl rfl
theorem m_laws_toIntS_ok (a0 : (List Int)) (r : (List Int)) (H : m_laws_toIntS a0 = some r) : FnV prg 28 [(sl tInt a0)] (sl tInt r) := (m_laws_toIntS_own a0 r H).frz (frzT (T := tInt) rfl)

set_option maxHeartbeats 1000000 in
/-- laws.toFact -/
theorem m_laws_toFact_own (a0 : Fact) (r : Fact) (H : m_laws_toFact a0 = some r) : FnO prg 94 [(.g (tFact.enc a0))] (.g [(intA r.relation), (.m [0] 0 r.values.length tInt.k)]) [.row (flat tInt.own r.values)] := by
  unfold m_laws_toFact at H
  refine fnO_of_T Try.func94 rfl rfl (Nat.le_of_ble_eq_true rfl) ?_
  refine T_env (E' := [(0, (.g (tFact.enc a0)))]) ⟨rfl, trivial⟩ ?_
  refine T_seq ?_
  refine T_region ?_
  refine TO_cons rfl (TOp_box rfl (boxAll rfl) rfl rfl ?_)
  refine TO_cons rfl (TOp_alloc zero60 rfl rfl ?_)
  refine TO_nil ?_
  refine T_env (E' := [(1, (.b 0 0)), (2, (.b 1 0))]) ⟨rfl, rfl, trivial⟩ ?_
  refine T_seq ?_
  refine T_region ?_
  refine TO_cons rfl (TOp_alloc zero60 rfl rfl ?_)
  refine TO_nil ?_
  refine T_env (E' := [(1, (.b 0 0)), (2, (.b 1 0)), (3, (.b 2 0))]) ⟨rfl, rfl, rfl, trivial⟩ ?_
  refine T_seq ?_
  refine T_region ?_
  refine TO_cons rfl (TOp_pure (pur_fa_b fld101_0 rfl rfl) rfl ?_)
  refine TO_cons rfl (TOp_pure (pur_ld_b one3 rfl rfl rfl rfl) rfl ?_)
  refine TO_cons rfl (TOp_pure (pur_fa_b fld60_0 rfl rfl) rfl ?_)
  refine TO_cons rfl (TOp_storeB sz3 rfl rfl rfl rfl rfl rfl rfl (by decide) (Nat.le_of_ble_eq_true rfl) rfl ?_)
  refine TO_st (σ' := [.box [(intA a0.relation), (sl tInt a0.values)], .box [(intA 0), .n], .box [(intA a0.relation), .n]]) rfl ?_
  refine TO_nil ?_
  refine T_env (E' := [(1, (.b 0 0)), (2, (.b 1 0)), (3, (.b 2 0))]) ⟨rfl, rfl, rfl, trivial⟩ ?_
  refine T_seq ?_
  refine T_region ?_
  refine TO_cons rfl (TOp_pure (pur_fa_b fld101_1 rfl rfl) rfl ?_)
  refine TO_cons rfl (TOp_pure (pur_ld_b one33 rfl rfl rfl rfl) rfl ?_)
  obtain ⟨r_1, h_2, H⟩ := bind_inv H
  refine TO_cons rfl (TOp_callO (call_static ent28 rfl) rfl (m_laws_toIntS_own _ _ h_2) rfl rfl rfl ?_)
  refine TO_env (E' := [(1, (.b 0 0)), (2, (.b 1 0)), (3, (.b 2 0)), (7, (.b 0 1)), (8, (sl tInt a0.values)), (9, (.m [3] 0 r_1.length tInt.k))]) ⟨rfl, rfl, rfl, rfl, rfl, rfl, trivial⟩ ?_
  refine TO_st (σ' := [.box [(intA a0.relation), (sl tInt a0.values)], .box [(intA 0), .n], .box [(intA a0.relation), .n], .row (flat tInt.own r_1)]) rfl ?_
  refine TO_cons rfl (TOp_pure (pur_fa_b fld60_1 rfl rfl) rfl ?_)
  refine TO_cons rfl (TOp_storeB sz33 rfl rfl rfl rfl rfl rfl rfl (by decide) (Nat.le_of_ble_eq_true rfl) rfl ?_)
  refine TO_st (σ' := [.box [(intA a0.relation), (sl tInt a0.values)], .box [(intA 0), .n], .box [(intA a0.relation), (.m [3] 0 r_1.length tInt.k)], .row (flat tInt.own r_1)]) rfl ?_
  refine TO_nil ?_
  refine T_env (E' := [(2, (.b 1 0)), (3, (.b 2 0))]) ⟨rfl, rfl, trivial⟩ ?_
  refine T_seq ?_
  refine T_region ?_
  refine TO_cons rfl (TOp_pure (pur_ldK_b agg60 rfl rfl (Nat.le_of_ble_eq_true rfl) rfl) rfl ?_)
  refine TO_cons rfl (TOp_storeB sz60 rfl rfl rfl rfl rfl rfl rfl (by decide) (Nat.le_of_ble_eq_true rfl) rfl ?_)
  refine TO_st (σ' := [.box [(intA a0.relation), (sl tInt a0.values)], .box [(intA a0.relation), (.m [3] 0 r_1.length tInt.k)], .box [(intA a0.relation), (.m [3] 0 r_1.length tInt.k)], .row (flat tInt.own r_1)]) rfl ?_
  refine TO_nil ?_
  refine T_env (E' := [(2, (.b 1 0))]) ⟨rfl, trivial⟩ ?_
  refine T_ret ?_
  obtain rfl := some_inj H
  exact end_pick (.cellK rfl agg60 rfl (Nat.le_of_ble_eq_true rfl) .nil) rfl [3] (by decide) rfl rfl rfl rfl rfl rfl
theorem m_laws_toFact_ok (a0 : Fact) (r : Fact) (H : m_laws_toFact a0 = some r) : FnV prg 94 [(.g (tFact.enc a0))] (.g (tFact.enc r)) := (m_laws_toFact_own a0 r H).frz (frzOK_g (frz_cons (frz_loose rfl) (frz_cons (frzT (T := tInt) rfl) frz_nil)).1 (frz_cons (frz_loose rfl) (frz_cons (frzT (T := tInt) rfl) frz_nil)).2)

set_option maxHeartbeats 1000000 in
/-- laws.toFactS -/
theorem m_laws_toFactS_own (a0 : (List Fact)) (r : (List Fact)) (H : m_laws_toFactS a0 = some r) : FnO prg 65 [(sl tFact a0)] (.m [0] 0 r.length tFact.k) [.row (flat tFact.own r)] := by
  unfold m_laws_toFactS at H
  refine fnO_of_T Try.func65 rfl rfl (Nat.le_of_ble_eq_true rfl) ?_
  refine T_env (E' := [(0, (sl tFact a0))]) ⟨rfl, trivial⟩ ?_
  refine T_seq ?_
  refine T_region ?_
  refine TO_cons rfl (TOp_pure (pur_assign rfl) rfl ?_)
  refine TO_nil ?_
  refine T_env (E' := [(0, (sl tFact a0))]) ⟨rfl, trivial⟩ ?_
  refine T_seq ?_
  refine T_region ?_
  refine TO_cons rfl (TOp_pure (pur_move rfl) rfl ?_)
  refine TO_cons rfl (TOp_pure (pur_lenT (T := tFact) sl39 rfl rfl) rfl ?_)
  obtain ⟨us_1, h_2, H⟩ := bind_inv H
  refine TO_cons rfl (TOp_makeN (T := tFact) (f := tFact.own) (zs := [.int .i64 0, .slice none 0 0]) (z := (default : Fact)) tFact.lenO (nilL_cons nilS (nilL_cons nilO nilL_nil)) rfl sl30 zero60 bytes60 rfl rfl rfl rfl h_2 ?_)
  refine TO_st (σ' := [.row (flat tFact.own us_1)]) rfl ?_
  refine TO_cons rfl (TOp_pure (pur_assign rfl) rfl ?_)
  refine TO_nil ?_
  refine T_env (E' := [(0, (sl tFact a0)), (3, (.m [0] 0 us_1.length tFact.k))]) ⟨rfl, rfl, trivial⟩ ?_
  refine T_seq ?_
  refine T_seq ?_
  refine T_region ?_
  refine TO_cons rfl (TOp_pure (pur_assign rfl) rfl ?_)
  refine TO_nil ?_
  refine T_env (E' := [(0, (sl tFact a0)), (3, (.m [0] 0 us_1.length tFact.k)), (4, (intA 0))]) ⟨rfl, rfl, rfl, trivial⟩ ?_
  obtain ⟨O4_, L4_, N4_⟩ := bind_inv H
  clear H
  obtain ⟨B4_, hb4, L4_⟩ := gen_forS L4_
  refine T_block ?_
  refine T_loopX (fun k => fun (x_ : Nat × (List Fact)) => k = a0.length - x_.1 ∧ forS B4_ (a0.drop x_.1) (x_.1 : Int) x_.2 = some O4_) (fun (x_ : Nat × (List Fact)) => [(0, (sl tFact a0)), (3, (.m [0] 0 x_.2.length tFact.k)), (4, (intA (x_.1 : Int)))]) (fun (x_ : Nat × (List Fact)) => [.row (flat tFact.own x_.2)]) _ (0, us_1) (WeakL.to 1 (Nat.le_of_ble_eq_true rfl) rfl rfl rfl rfl ⟨leR rfl, leR rfl, leR rfl, trivial⟩) ⟨rfl, L4_⟩ ?_
  rintro _ ⟨i_3, out3⟩ ⟨rfl, L4_⟩
  refine T_env (E' := [(0, (sl tFact a0)), (3, (.m [0] 0 out3.length tFact.k)), (4, (intA (i_3 : Int)))]) ⟨rfl, rfl, rfl, trivial⟩ ?_
  refine T_st (σ' := [.row (flat tFact.own out3)]) rfl ?_
  refine T_fact (len_sl (T := tFact) (.tmp 0) rfl) (fun hl4 => ?_)
  refine T_seq ?_
  refine T_seq ?_
  refine T_region ?_
  refine TO_cons rfl (TOp_pure (pur_move rfl) rfl ?_)
  refine TO_cons rfl (TOp_pure (pur_move rfl) rfl ?_)
  refine TO_cons rfl (TOp_pure (pur_lenT (T := tFact) sl39 rfl rfl) rfl ?_)
  refine TO_cons rfl (TOp_pure (pur_lss rfl rfl rfl) rfl ?_)
  refine TO_nil ?_
  refine T_env (E' := [(0, (sl tFact a0)), (3, (.m [0] 0 out3.length tFact.k)), (4, (intA (i_3 : Int))), (11, (boolA (decide ((i_3 : Int) < (a0.length : Int)))))]) ⟨rfl, rfl, rfl, rfl, trivial⟩ ?_
  refine T_cond (t := decide ((i_3 : Int) < (a0.length : Int))) rfl (fun d4 => ?_) (fun d4 => ?_)
  · replace d4 := of_decide_eq_true d4
    obtain ⟨x_i_3, hx_i_3⟩ : ∃ v, (a0)[i_3]? = some v := ⟨_, List.getElem?_eq_getElem (by omega)⟩
    obtain ⟨C4_, H, K4_⟩ := forS_step L4_ hx_i_3
    rw [hb4] at H
    refine T_skip ?_
    refine T_env (E' := [(0, (sl tFact a0)), (3, (.m [0] 0 out3.length tFact.k)), (4, (intA (i_3 : Int)))]) ⟨rfl, rfl, rfl, trivial⟩ ?_
    refine T_seq ?_
    refine T_block ?_
    refine T_region ?_
    refine TO_cons rfl (TOp_pure (pur_move rfl) rfl ?_)
    refine TO_cons rfl (TOp_pure (pur_move rfl) rfl ?_)
    refine TO_cons rfl (TOp_pure (pur_move rfl) rfl ?_)
    refine TO_cons rfl (TOp_pure (pur_move rfl) rfl ?_)
    refine TO_cons rfl (TOp_pure (pur_ixT (T := tFact) sl39 rfl rfl rfl hx_i_3 rfl) rfl ?_)
    refine TO_cons rfl (TOp_pure (pur_ldTK (T := tFact) (i := i_3) (off := 0) rfl agg101 rfl rfl hx_i_3 (by decide) rfl) rfl ?_)
    obtain ⟨r_5, h_6, H⟩ := bind_inv H
    refine TO_cons rfl (TOp_callO (call_static ent94 rfl) rfl (m_laws_toFact_own _ _ h_6) rfl rfl rfl ?_)
    refine TO_env (E' := [(0, (sl tFact a0)), (3, (.m [0] 0 out3.length tFact.k)), (4, (intA (i_3 : Int))), (14, (.m [0] 0 out3.length tFact.k)), (15, (intA (i_3 : Int))), (16, (sl tFact a0)), (17, (intA (i_3 : Int))), (18, (.q (flat tFact.enc a0) (i_3 * tFact.k))), (19, (.g (tFact.enc x_i_3))), (20, (.g [(intA r_5.relation), (.m [1] 0 r_5.values.length tInt.k)]))]) ⟨rfl, rfl, rfl, rfl, rfl, rfl, rfl, rfl, rfl, rfl, trivial⟩ ?_
    refine TO_st (σ' := [.row (flat tFact.own out3), .row (flat tInt.own r_5.values)]) rfl ?_
    obtain ⟨v_7, h_8, H⟩ := bind_inv H
    obtain ⟨n_9, hz_10, hv_11⟩ := getI_inv h_8
    refine TO_cons rfl (TOp_pure (pur_ixM (T := tFact) sl30 rfl rfl hz_10 hv_11 rfl) rfl ?_)
    refine TO_boxify 0 rfl (Nat.le_of_ble_eq_true rfl) ?_
    refine TO_cons rfl (TOp_setN (T := tFact) (i := n_9) (off := 0) (xs := out3) (v := v_7) hz_10 sz60 (by decide) rfl rfl rfl rfl rfl hv_11 rfl rfl (Nat.le_of_ble_eq_true rfl) rfl ?_)
    refine TO_env (E' := [(0, (sl tFact a0)), (3, (.m [0] 0 out3.length tFact.k)), (4, (intA (i_3 : Int))), (14, (.m [0] 0 out3.length tFact.k)), (15, (intA (i_3 : Int))), (16, (sl tFact a0)), (17, (intA (i_3 : Int))), (18, (.q (flat tFact.enc a0) (i_3 * tFact.k))), (19, (.g (tFact.enc x_i_3)))]) ⟨rfl, rfl, rfl, rfl, rfl, rfl, rfl, rfl, rfl, trivial⟩ ?_
    refine TO_st (σ' := [.box (spl (flat tFact.own out3) (n_9 * tFact.k) [(intA r_5.relation), (.m [1] 0 r_5.values.length tInt.k)]), .row (flat tInt.own r_5.values)]) rfl ?_
    refine TO_absorbS (T := tFact) (i := n_9) (xs := out3) (v := v_7) 0 1 1 rfl hv_11 rfl rfl rfl (by decide) tInt.pos (flat_len tInt.lenO _) (Nat.le_of_ble_eq_true rfl) (Nat.le_of_ble_eq_true rfl) rfl (nms_box (namesL_spl namesL_own rfl) (nms_row nms_nil)) ?_
    refine TO_st (σ' := [.box (spl (flat tFact.own out3) (n_9 * tFact.k) [(intA r_5.relation), .o tInt.k (flat tInt.own r_5.values)]), .dead]) rfl ?_
    refine TO_rowifyS (T := tFact) (i := n_9) (xs := out3) 0 r_5 hz_10 rfl hv_11 rfl (Nat.le_of_ble_eq_true rfl) ?_
    refine TO_env (E' := [(0, (sl tFact a0)), (3, (.m [0] 0 (out3.set ((i_3 : Int)).toNat r_5).length tFact.k)), (4, (intA (i_3 : Int))), (14, (.m [0] 0 (out3.set ((i_3 : Int)).toNat r_5).length tFact.k)), (15, (intA (i_3 : Int))), (16, (sl tFact a0)), (17, (intA (i_3 : Int))), (18, (.q (flat tFact.enc a0) (i_3 * tFact.k))), (19, (.g (tFact.enc x_i_3)))]) ⟨rfl, (congrArg (fun q => A.m [0] 0 q tFact.k) (List.length_set ..).symm), rfl, (congrArg (fun q => A.m [0] 0 q tFact.k) (List.length_set ..).symm), rfl, rfl, rfl, rfl, rfl, trivial⟩ ?_
    refine TO_st (σ' := [.row (flat tFact.own (out3.set ((i_3 : Int)).toNat r_5)), .dead]) rfl ?_
    refine TO_nil ?_
    refine T_env (E' := [(0, (sl tFact a0)), (3, (.m [0] 0 (out3.set ((i_3 : Int)).toNat r_5).length tFact.k)), (4, (intA (i_3 : Int)))]) ⟨rfl, rfl, rfl, trivial⟩ ?_
    refine T_region ?_
    refine TO_cons rfl (TOp_pure (pur_move rfl) rfl ?_)
    refine TO_cons rfl (TOp_pure (pur_add rfl rfl rfl (fits64 (by omega) (by omega))) rfl ?_)
    refine TO_cons rfl (TOp_pure (pur_assign rfl) rfl ?_)
    refine TO_nil ?_
    obtain rfl := some_inj H
    exact again (a0.length - (i_3 + 1)) (i_3 + 1, (out3.set ((i_3 : Int)).toNat r_5)) (by omega) (WeakL.to 1 (Nat.le_of_ble_eq_true rfl) rfl rfl rfl rfl ⟨leR rfl, leR rfl, leR rfl, trivial⟩) ⟨rfl, K4_⟩
  · replace d4 := of_decide_eq_false d4
    obtain rfl := forS_end L4_ (by omega)
    refine T_exit ?_
    refine then_exit ?_
    refine then_exit ?_
    refine block_exit ?_
    replace H := N4_
    refine T_env (E' := [(3, (.m [0] 0 out3.length tFact.k))]) ⟨rfl, trivial⟩ ?_
    refine T_seq ?_
    refine T_region ?_
    refine TO_cons rfl (TOp_pure (pur_move rfl) rfl ?_)
    refine TO_cons rfl (TOp_pure (pur_assign rfl) rfl ?_)
    refine TO_nil ?_
    refine T_env (E' := [(2, (.m [0] 0 out3.length tFact.k))]) ⟨rfl, trivial⟩ ?_
    refine T_ret ?_
    obtain rfl := some_inj H
    exact end_pick (.tmp .nil) rfl [0] (by decide) rfl rfl rfl rfl rfl rfl
theorem m_laws_toFactS_ok (a0 : (List Fact)) (r : (List Fact)) (H : m_laws_toFactS a0 = some r) : FnV prg 65 [(sl tFact a0)] (sl tFact r) := (m_laws_toFactS_own a0 r H).frz (frzT (T := tFact) rfl)
end Go.Proofs.Ytlcpdlngbofgcaa

import Derived.Test.YtjdpolnakhmkmaaM1
set_option linter.unusedVariables false
set_option linter.unusedSimpArgs false
set_option maxRecDepth 4000
namespace Go.Proofs.Ytjdpolnakhmkmaa
open Go Go.Proofs Go.Sep
set_option maxHeartbeats 1000000 in
theorem m_laws_szIntS_ok (a0 : (List Int)) (left1 : Int) (r : Int) (H : m_laws_szIntS a0 left1 = some r) : FnV prg 83 [(sl tInt a0), (intA left1)] (intA r) := by
  unfold m_laws_szIntS at H
  refine fnV_of_T Try.func83 rfl rfl (Nat.le_of_ble_eq_true rfl) ?_
  refine te [(0, (sl tInt a0)), (1, (intA left1))] rfl ?_
  refine sr ?_
  refine pv tb 1 rfl ?_
  refine TO_nil ?_
  refine sr ?_
  refine pv tb 2 rfl ?_
  refine Tp rfl rfl (pur_lenT (T := tInt) sl23 rfl rfl) rfl ?_
  refine pv tb 2 rfl ?_
  refine TO_nil ?_
  refine T_seq ?_
  refine sr ?_
  refine pv tb 2 rfl ?_
  refine TO_nil ?_
  refine T_cond (t := decide ((w64 (left1 - (a0.length : Int))) < 0)) rfl (fun c_1 => ?_) (fun c_1 => ?_)
  ·replace H := cond_t c_1 H
   refine sr ?_
   refine pv tb 1 rfl ?_
   refine TO_nil ?_
   refine T_ret ?_
   refine then_ret ?_
   obtain rfl := some_inj H
   refine end_ret (.tmp .nil) rfl rfl ⟨?_, rfl⟩
   rfl
  ·replace H := cond_f c_1 H
   refine T_skip ?_
   refine sr ?_
   refine pv tb 2 rfl ?_
   refine TO_nil ?_
   refine T_ret ?_
   obtain rfl := some_inj H
   refine end_ret (.tmp .nil) rfl rfl ⟨?_, rfl⟩
   rfl

set_option maxHeartbeats 1000000 in
theorem m_laws_szFact_ok (a0 : Fact) (left1 : Int) (r : Int) (H : m_laws_szFact a0 left1 = some r) : FnV prg 54 [(.g (tFact.enc a0)), (intA left1)] (intA r) := by
  unfold m_laws_szFact at H
  refine fnV_of_T Try.func54 rfl rfl (Nat.le_of_ble_eq_true rfl) ?_
  refine te [(0, (.g (tFact.enc a0))), (1, (intA left1))] rfl ?_
  refine sr ?_
  refine TO_cons rfl (TOp_box rfl (boxAll rfl) rfl rfl ?_)
  refine pv tb 1 rfl ?_
  refine TO_nil ?_
  refine sr ?_
  obtain ⟨r_1, h_2, H⟩ := bind_inv H
  refine pv tb 3 rfl ?_
  refine TO_cons rfl (TOp_callV (call_static ent83 rfl) (m_laws_szIntS_ok _ _ _ h_2) rfl rfl rfl ?_)
  refine pv tb 1 rfl ?_
  refine TO_nil ?_
  refine T_seq ?_
  refine sr ?_
  refine pv tb 2 rfl ?_
  refine TO_nil ?_
  refine T_cond (t := decide (r_1 < 0)) rfl (fun c_3 => ?_) (fun c_3 => ?_)
  ·replace H := cond_t c_3 H
   refine sr ?_
   refine pv tb 1 rfl ?_
   refine TO_nil ?_
   refine T_ret ?_
   refine then_ret ?_
   obtain rfl := some_inj H
   refine end_ret (.tmp .nil) rfl rfl ⟨?_, rfl⟩
   rfl
  ·replace H := cond_f c_3 H
   refine T_skip ?_
   refine sr ?_
   refine pv tb 2 rfl ?_
   refine TO_nil ?_
   refine T_ret ?_
   obtain rfl := some_inj H
   refine end_ret (.tmp .nil) rfl rfl ⟨?_, rfl⟩
   rfl

set_option maxHeartbeats 1000000 in
theorem m_laws_szFactS_ok (a0 : (List Fact)) (left1 : Int) (r : Int) (H : m_laws_szFactS a0 left1 = some r) : FnV prg 61 [(sl tFact a0), (intA left1)] (intA r) := by
  unfold m_laws_szFactS at H
  refine fnV_of_T Try.func61 rfl rfl (Nat.le_of_ble_eq_true rfl) ?_
  refine te [(0, (sl tFact a0)), (1, (intA left1))] rfl ?_
  refine sr ?_
  refine pv tb 1 rfl ?_
  refine TO_nil ?_
  refine sr ?_
  refine pv tb 2 rfl ?_
  refine Tp rfl rfl (pur_lenT (T := tFact) sl40 rfl rfl) rfl ?_
  refine pv tb 2 rfl ?_
  refine TO_nil ?_
  refine T_seq ?_
  refine sr ?_
  refine pv tb 2 rfl ?_
  refine TO_nil ?_
  refine T_cond (t := decide ((w64 (left1 - (a0.length : Int))) < 0)) rfl (fun c_1 => ?_) (fun c_1 => ?_)
  ·replace H := cond_t c_1 H
   refine sr ?_
   refine pv tb 1 rfl ?_
   refine TO_nil ?_
   refine T_ret ?_
   refine then_ret ?_
   obtain rfl := some_inj H
   refine end_ret (.tmp .nil) rfl rfl ⟨?_, rfl⟩
   rfl
  ·replace H := cond_f c_1 H
   refine T_skip ?_
   refine T_seq ?_
   refine sr ?_
   refine pv tb 1 rfl ?_
   refine TO_nil ?_
   obtain ⟨O3_, L3_, N3_⟩ := bind_inv H
   clear H
   obtain ⟨B3_, hb3, L3_⟩ := gen_forL L3_
   refine T_block ?_
   refine T_loopX (fun k => fun (⟨i_2, left1⟩ : Nat × Int) => k = a0.length - i_2 ∧ forL B3_ (a0.drop i_2) (i_2 : Int) left1 = some O3_) (fun (⟨i_2, left1⟩ : Nat × Int) => [(0, (sl tFact a0)), (1, (intA left1)), (5, (intA (i_2 : Int)))]) (fun (⟨i_2, left1⟩ : Nat × Int) => []) _ (0, (w64 (left1 - (a0.length : Int)))) (w0 0) ⟨rfl, L3_⟩ ?_
   rintro _ ⟨i_2, left1⟩ ⟨rfl, L3_⟩
   refine T_fact (len_sl (T := tFact) (.tmp 0) rfl) (fun hl3 => ?_)
   refine T_seq ?_
   refine sr ?_
   refine pv tb 2 rfl ?_
   refine Tp rfl rfl (pur_lenT (T := tFact) sl40 rfl rfl) rfl ?_
   refine pv tb 1 rfl ?_
   refine TO_nil ?_
   refine T_cond (t := decide ((i_2 : Int) < (a0.length : Int))) rfl (fun d3 => ?_) (fun d3 => ?_)
   ·replace d3 := of_decide_eq_true d3
    obtain ⟨x_i_2, hx_i_2⟩ : ∃ v, (a0)[i_2]? = some v := ⟨_, List.getElem?_eq_getElem (by omega)⟩
    obtain ⟨C3_, H, K3_⟩ := forL_step L3_ hx_i_2
    rw [hb3] at H
    refine T_skip ?_
    refine T_seq ?_
    refine T_block ?_
    refine sr ?_
    refine pv tb 2 rfl ?_
    refine Tp rfl rfl (pur_ixT (T := tFact) sl40 rfl rfl rfl hx_i_2 rfl) rfl ?_
    refine Tp rfl rfl (pur_ldTK (T := tFact) (i := i_2) (off := 0) rfl agg79 rfl rfl hx_i_2 (by decide) rfl) rfl ?_
    obtain ⟨r_4, h_5, H⟩ := bind_inv H
    refine pv tb 1 rfl ?_
    refine TO_cons rfl (TOp_callV (call_static ent54 rfl) (m_laws_szFact_ok _ _ _ h_5) rfl rfl rfl ?_)
    refine pv tb 1 rfl ?_
    refine TO_nil ?_
    refine sr ?_
    refine pv tb 2 rfl ?_
    refine TO_nil ?_
    refine T_cond (t := decide (r_4 < 0)) rfl (fun c_6 => ?_) (fun c_6 => ?_)
    ·replace H := cond_t c_6 H
     refine sr ?_
     refine pv tb 1 rfl ?_
     refine TO_nil ?_
     refine te [(4, (intA (-1)))] rfl ?_
     refine T_ret ?_
     refine block_ret ?_
     refine then_ret ?_
     refine then_ret ?_
     refine block_ret ?_
     refine then_ret ?_
     obtain rfl := some_inj H
     obtain rfl := some_inj K3_
     replace H := onS_r N3_
     obtain rfl := some_inj H
     refine end_ret (.tmp .nil) rfl rfl ⟨?_, rfl⟩
     rfl
    ·replace H := cond_f c_6 H
     refine T_skip ?_
     refine T_region ?_
     refine pv tb 1 rfl ?_
     refine Tp rfl rfl (pur_add rfl rfl rfl (fits64 (by omega) (by omega))) rfl ?_
     refine pv tb 1 rfl ?_
     refine TO_nil ?_
     obtain rfl := some_inj H
     exact again (a0.length - (i_2 + 1)) (i_2 + 1, r_4) (by omega) (w0 0) ⟨rfl, K3_⟩
   ·replace d3 := of_decide_eq_false d3
    obtain rfl := forL_end L3_ (by omega)
    refine T_exit ?_
    refine then_exit ?_
    refine then_exit ?_
    refine block_exit ?_
    replace H := onS_l N3_
    refine sr ?_
    refine pv tb 2 rfl ?_
    refine TO_nil ?_
    refine T_ret ?_
    obtain rfl := some_inj H
    refine end_ret (.tmp .nil) rfl rfl ⟨?_, rfl⟩
    rfl

set_option maxHeartbeats 1000000 in
theorem m_laws_szRelation_ok (a0 : Relation) (left1 : Int) (r : Int) (H : m_laws_szRelation a0 left1 = some r) : FnV prg 144 [(.g (tRelation.enc a0)), (intA left1)] (intA r) := by
  unfold m_laws_szRelation at H
  refine fnV_of_T Try.func144 rfl rfl (Nat.le_of_ble_eq_true rfl) ?_
  refine te [(0, (.g (tRelation.enc a0))), (1, (intA left1))] rfl ?_
  refine sr ?_
  refine TO_cons rfl (TOp_box rfl (boxAll rfl) rfl rfl ?_)
  refine pv tb 1 rfl ?_
  refine TO_nil ?_
  refine sr ?_
  refine pv tb 3 rfl ?_
  refine Tp rfl rfl (pur_len_s (by kernel_rfl) rfl rfl) rfl ?_
  refine pv tb 2 rfl ?_
  refine TO_nil ?_
  refine T_seq ?_
  refine sr ?_
  refine pv tb 2 rfl ?_
  refine TO_nil ?_
  refine T_cond (t := decide ((w64 (left1 - (a0.name.size : Int))) < 0)) rfl (fun c_1 => ?_) (fun c_1 => ?_)
  ·replace H := cond_t c_1 H
   refine sr ?_
   refine pv tb 1 rfl ?_
   refine TO_nil ?_
   refine T_ret ?_
   refine then_ret ?_
   obtain rfl := some_inj H
   refine end_ret (.tmp .nil) rfl rfl ⟨?_, rfl⟩
   rfl
  ·replace H := cond_f c_1 H
   refine T_skip ?_
   refine sr ?_
   refine pv tb 2 rfl ?_
   refine TO_nil ?_
   refine T_ret ?_
   obtain rfl := some_inj H
   refine end_ret (.tmp .nil) rfl rfl ⟨?_, rfl⟩
   rfl

set_option maxHeartbeats 1000000 in
theorem m_laws_szRelationS_ok (a0 : (List Relation)) (left1 : Int) (r : Int) (H : m_laws_szRelationS a0 left1 = some r) : FnV prg 92 [(sl tRelation a0), (intA left1)] (intA r) := by
  unfold m_laws_szRelationS at H
  refine fnV_of_T Try.func92 rfl rfl (Nat.le_of_ble_eq_true rfl) ?_
  refine te [(0, (sl tRelation a0)), (1, (intA left1))] rfl ?_
  refine sr ?_
  refine pv tb 1 rfl ?_
  refine TO_nil ?_
  refine sr ?_
  refine pv tb 2 rfl ?_
  refine Tp rfl rfl (pur_lenT (T := tRelation) sl39 rfl rfl) rfl ?_
  refine pv tb 2 rfl ?_
  refine TO_nil ?_
  refine T_seq ?_
  refine sr ?_
  refine pv tb 2 rfl ?_
  refine TO_nil ?_
  refine T_cond (t := decide ((w64 (left1 - (a0.length : Int))) < 0)) rfl (fun c_1 => ?_) (fun c_1 => ?_)
  ·replace H := cond_t c_1 H
   refine sr ?_
   refine pv tb 1 rfl ?_
   refine TO_nil ?_
   refine T_ret ?_
   refine then_ret ?_
   obtain rfl := some_inj H
   refine end_ret (.tmp .nil) rfl rfl ⟨?_, rfl⟩
   rfl
  ·replace H := cond_f c_1 H
   refine T_skip ?_
   refine T_seq ?_
   refine sr ?_
   refine pv tb 1 rfl ?_
   refine TO_nil ?_
   obtain ⟨O3_, L3_, N3_⟩ := bind_inv H
   clear H
   obtain ⟨B3_, hb3, L3_⟩ := gen_forL L3_
   refine T_block ?_
   refine T_loopX (fun k => fun (⟨i_2, left1⟩ : Nat × Int) => k = a0.length - i_2 ∧ forL B3_ (a0.drop i_2) (i_2 : Int) left1 = some O3_) (fun (⟨i_2, left1⟩ : Nat × Int) => [(0, (sl tRelation a0)), (1, (intA left1)), (5, (intA (i_2 : Int)))]) (fun (⟨i_2, left1⟩ : Nat × Int) => []) _ (0, (w64 (left1 - (a0.length : Int)))) (w0 0) ⟨rfl, L3_⟩ ?_
   rintro _ ⟨i_2, left1⟩ ⟨rfl, L3_⟩
   refine T_fact (len_sl (T := tRelation) (.tmp 0) rfl) (fun hl3 => ?_)
   refine T_seq ?_
   refine sr ?_
   refine pv tb 2 rfl ?_
   refine Tp rfl rfl (pur_lenT (T := tRelation) sl39 rfl rfl) rfl ?_
   refine pv tb 1 rfl ?_
   refine TO_nil ?_
   refine T_cond (t := decide ((i_2 : Int) < (a0.length : Int))) rfl (fun d3 => ?_) (fun d3 => ?_)
   ·replace d3 := of_decide_eq_true d3
    obtain ⟨x_i_2, hx_i_2⟩ : ∃ v, (a0)[i_2]? = some v := ⟨_, List.getElem?_eq_getElem (by omega)⟩
    obtain ⟨C3_, H, K3_⟩ := forL_step L3_ hx_i_2
    rw [hb3] at H
    refine T_skip ?_
    refine T_seq ?_
    refine T_block ?_
    refine sr ?_
    refine pv tb 2 rfl ?_
    refine Tp rfl rfl (pur_ixT (T := tRelation) sl39 rfl rfl rfl hx_i_2 rfl) rfl ?_
    refine Tp rfl rfl (pur_ldTK (T := tRelation) (i := i_2) (off := 0) rfl agg158 rfl rfl hx_i_2 (by decide) rfl) rfl ?_
    obtain ⟨r_4, h_5, H⟩ := bind_inv H
    refine pv tb 1 rfl ?_
    refine TO_cons rfl (TOp_callV (call_static ent144 rfl) (m_laws_szRelation_ok _ _ _ h_5) rfl rfl rfl ?_)
    refine pv tb 1 rfl ?_
    refine TO_nil ?_
    refine sr ?_
    refine pv tb 2 rfl ?_
    refine TO_nil ?_
    refine T_cond (t := decide (r_4 < 0)) rfl (fun c_6 => ?_) (fun c_6 => ?_)
    ·replace H := cond_t c_6 H
     refine sr ?_
     refine pv tb 1 rfl ?_
     refine TO_nil ?_
     refine te [(4, (intA (-1)))] rfl ?_
     refine T_ret ?_
     refine block_ret ?_
     refine then_ret ?_
     refine then_ret ?_
     refine block_ret ?_
     refine then_ret ?_
     obtain rfl := some_inj H
     obtain rfl := some_inj K3_
     replace H := onS_r N3_
     obtain rfl := some_inj H
     refine end_ret (.tmp .nil) rfl rfl ⟨?_, rfl⟩
     rfl
    ·replace H := cond_f c_6 H
     refine T_skip ?_
     refine T_region ?_
     refine pv tb 1 rfl ?_
     refine Tp rfl rfl (pur_add rfl rfl rfl (fits64 (by omega) (by omega))) rfl ?_
     refine pv tb 1 rfl ?_
     refine TO_nil ?_
     obtain rfl := some_inj H
     exact again (a0.length - (i_2 + 1)) (i_2 + 1, r_4) (by omega) (w0 0) ⟨rfl, K3_⟩
   ·replace d3 := of_decide_eq_false d3
    obtain rfl := forL_end L3_ (by omega)
    refine T_exit ?_
    refine then_exit ?_
    refine then_exit ?_
    refine block_exit ?_
    replace H := onS_l N3_
    refine sr ?_
    refine pv tb 2 rfl ?_
    refine TO_nil ?_
    refine T_ret ?_
    obtain rfl := some_inj H
    refine end_ret (.tmp .nil) rfl rfl ⟨?_, rfl⟩
    rfl

set_option maxHeartbeats 1000000 in
theorem m_laws_szDatabase_ok (a0 : Database) (left1 : Int) (r : Int) (H : m_laws_szDatabase a0 left1 = some r) : FnV prg 25 [(.g (tDatabase.enc a0)), (intA left1)] (intA r) := by
  unfold m_laws_szDatabase at H
  refine fnV_of_T Try.func25 rfl rfl (Nat.le_of_ble_eq_true rfl) ?_
  refine te [(0, (.g (tDatabase.enc a0))), (1, (intA left1))] rfl ?_
  refine sr ?_
  refine TO_cons rfl (TOp_box rfl (boxAll rfl) rfl rfl ?_)
  refine pv tb 1 rfl ?_
  refine TO_nil ?_
  refine sr ?_
  obtain ⟨r_1, h_2, H⟩ := bind_inv H
  refine pv tb 3 rfl ?_
  refine TO_cons rfl (TOp_callV (call_static ent92 rfl) (m_laws_szRelationS_ok _ _ _ h_2) rfl rfl rfl ?_)
  refine pv tb 1 rfl ?_
  refine TO_nil ?_
  refine T_seq ?_
  refine sr ?_
  refine pv tb 2 rfl ?_
  refine TO_nil ?_
  refine T_cond (t := decide (r_1 < 0)) rfl (fun c_3 => ?_) (fun c_3 => ?_)
  ·replace H := cond_t c_3 H
   refine sr ?_
   refine pv tb 1 rfl ?_
   refine TO_nil ?_
   refine T_ret ?_
   refine then_ret ?_
   obtain rfl := some_inj H
   refine end_ret (.tmp .nil) rfl rfl ⟨?_, rfl⟩
   rfl
  ·replace H := cond_f c_3 H
   refine T_skip ?_
   refine sr ?_
   obtain ⟨r_4, h_5, H⟩ := bind_inv H
   refine pv tb 3 rfl ?_
   refine TO_cons rfl (TOp_callV (call_static ent61 rfl) (m_laws_szFactS_ok _ _ _ h_5) rfl rfl rfl ?_)
   refine pv tb 1 rfl ?_
   refine TO_nil ?_
   refine T_seq ?_
   refine sr ?_
   refine pv tb 2 rfl ?_
   refine TO_nil ?_
   refine T_cond (t := decide (r_4 < 0)) rfl (fun c_6 => ?_) (fun c_6 => ?_)
   ·replace H := cond_t c_6 H
    refine sr ?_
    refine pv tb 1 rfl ?_
    refine TO_nil ?_
    refine te [(4, (intA (-1)))] rfl ?_
    refine T_ret ?_
    refine then_ret ?_
    obtain rfl := some_inj H
    refine end_ret (.tmp .nil) rfl rfl ⟨?_, rfl⟩
    rfl
   ·replace H := cond_f c_6 H
    refine T_skip ?_
    refine te [(1, (intA r_4))] rfl ?_
    refine sr ?_
    refine pv tb 2 rfl ?_
    refine TO_nil ?_
    refine T_ret ?_
    obtain rfl := some_inj H
    refine end_ret (.tmp .nil) rfl rfl ⟨?_, rfl⟩
    rfl

set_option maxHeartbeats 1000000 in
theorem m_laws_toIntS_own (a0 : (List Int)) (r : (List Int)) (H : m_laws_toIntS a0 = some r) : FnO prg 18 [(sl tInt a0)] (.m [0] 0 r.length tInt.k) [.row (flat tInt.own r)] := by
  unfold m_laws_toIntS at H
  refine fnO_of_T Try.func18 rfl rfl (Nat.le_of_ble_eq_true rfl) ?_
  refine te [(0, (sl tInt a0))] rfl ?_
  refine sr ?_
  refine pv tb 1 rfl ?_
  refine TO_nil ?_
  refine sr ?_
  refine pv tb 1 rfl ?_
  refine Tp rfl rfl (pur_lenT (T := tInt) sl23 rfl rfl) rfl ?_
  obtain ⟨us_1, h_2, H⟩ := bind_inv H
  refine TO_cons rfl (TOp_makeT (T := tInt) (z := (0 : Int)) rfl sl23 zero3 rfl bytes3 rfl rfl rfl rfl h_2 ?_)
  refine pv tb 1 rfl ?_
  refine TO_nil ?_
  refine T_seq ?_
  refine sr ?_
  refine pv tb 1 rfl ?_
  refine TO_nil ?_
  obtain ⟨O4_, L4_, N4_⟩ := bind_inv H
  clear H
  obtain ⟨B4_, hb4, L4_⟩ := gen_forS L4_
  refine T_block ?_
  refine T_loopX (fun k => fun (⟨i_3, out3⟩ : Nat × (List Int)) => k = a0.length - i_3 ∧ forS B4_ (a0.drop i_3) (i_3 : Int) out3 = some O4_) (fun (⟨i_3, out3⟩ : Nat × (List Int)) => [(0, (sl tInt a0)), (3, (.m [0] 0 out3.length tInt.k)), (4, (intA (i_3 : Int)))]) (fun (⟨i_3, out3⟩ : Nat × (List Int)) => [.row (flat tInt.enc out3)]) _ (0, us_1) (w0 1) ⟨rfl, L4_⟩ ?_
  rintro _ ⟨i_3, out3⟩ ⟨rfl, L4_⟩
  refine T_fact (len_sl (T := tInt) (.tmp 0) rfl) (fun hl4 => ?_)
  refine T_seq ?_
  refine sr ?_
  refine pv tb 2 rfl ?_
  refine Tp rfl rfl (pur_lenT (T := tInt) sl23 rfl rfl) rfl ?_
  refine pv tb 1 rfl ?_
  refine TO_nil ?_
  refine T_cond (t := decide ((i_3 : Int) < (a0.length : Int))) rfl (fun d4 => ?_) (fun d4 => ?_)
  ·replace d4 := of_decide_eq_true d4
   obtain ⟨x_i_3, hx_i_3⟩ : ∃ v, (a0)[i_3]? = some v := ⟨_, List.getElem?_eq_getElem (by omega)⟩
   obtain ⟨C4_, H, K4_⟩ := forS_step L4_ hx_i_3
   rw [hb4] at H
   refine T_skip ?_
   refine T_seq ?_
   refine T_block ?_
   refine T_region ?_
   refine pv tb 4 rfl ?_
   refine Tp rfl rfl (pur_ixT (T := tInt) sl23 rfl rfl rfl hx_i_3 rfl) rfl ?_
   refine Tp rfl rfl (pur_ldT (T := tInt) (i := i_3) (off := 0) rfl one3 rfl rfl hx_i_3 rfl) rfl ?_
   obtain ⟨v_5, h_6, H⟩ := bind_inv H
   obtain ⟨n_7, hz_8, hv_9⟩ := getI_inv h_6
   refine Tp rfl rfl (pur_ixM (T := tInt) sl23 rfl rfl hz_8 hv_9 rfl) rfl ?_
   refine TO_cons rfl (TOp_setT (f := tInt.enc) (z := (i_3 : Int)) (y := x_i_3) tInt.len tInt.pos hz_8 sz3 rfl rfl rfl rfl rfl hv_9 rfl rfl ?_)
   refine TO_env (E' := [(0, (sl tInt a0)), (3, (.m [0] 0 (out3.set ((i_3 : Int)).toNat x_i_3).length tInt.k)), (4, (intA (i_3 : Int))), (14, (.m [0] 0 (out3.set ((i_3 : Int)).toNat x_i_3).length tInt.k)), (15, (intA (i_3 : Int))), (16, (sl tInt a0)), (17, (intA (i_3 : Int))), (18, (.q (flat tInt.enc a0) (i_3 * tInt.k))), (19, (intA x_i_3))]) ⟨rfl, (congrArg (fun q => A.m [0] 0 q tInt.k) (List.length_set ..).symm), rfl, (congrArg (fun q => A.m [0] 0 q tInt.k) (List.length_set ..).symm), rfl, rfl, rfl, rfl, rfl, trivial⟩ ?_
   refine TO_st (σ' := [.row (flat tInt.enc (out3.set ((i_3 : Int)).toNat x_i_3))]) rfl ?_
   refine TO_nil ?_
   refine T_region ?_
   refine pv tb 1 rfl ?_
   refine Tp rfl rfl (pur_add rfl rfl rfl (fits64 (by omega) (by omega))) rfl ?_
   refine pv tb 1 rfl ?_
   refine TO_nil ?_
   obtain rfl := some_inj H
   exact again (a0.length - (i_3 + 1)) (i_3 + 1, (out3.set ((i_3 : Int)).toNat x_i_3)) (by omega) (w0 1) ⟨rfl, K4_⟩
  ·replace d4 := of_decide_eq_false d4
   obtain rfl := forS_end L4_ (by omega)
   refine T_exit ?_
   refine then_exit ?_
   refine then_exit ?_
   refine block_exit ?_
   replace H := N4_
   refine sr ?_
   refine pv tb 2 rfl ?_
   refine TO_nil ?_
   refine T_ret ?_
   obtain rfl := some_inj H
   exact end_pick (.tmp .nil) rfl [0] (by decide) rfl rfl rfl rfl rfl rfl
theorem m_laws_toIntS_ok (a0 : (List Int)) (r : (List Int)) (H : m_laws_toIntS a0 = some r) : FnV prg 18 [(sl tInt a0)] (sl tInt r) := (m_laws_toIntS_own a0 r H).frz (frzT (T := tInt) rfl)

set_option maxHeartbeats 1000000 in
theorem m_laws_toFact_own (a0 : Fact) (r : Fact) (H : m_laws_toFact a0 = some r) : FnO prg 55 [(.g (tFact.enc a0))] (.g [(intA r.relation), (.m [0] 0 r.values.length tInt.k)]) [.row (flat tInt.own r.values)] := by
  unfold m_laws_toFact at H
  refine fnO_of_T Try.func55 rfl rfl (Nat.le_of_ble_eq_true rfl) ?_
  refine te [(0, (.g (tFact.enc a0)))] rfl ?_
  refine sr ?_
  refine TO_cons rfl (TOp_box rfl (boxAll rfl) rfl rfl ?_)
  refine TO_cons rfl (TOp_alloc zero65 rfl rfl ?_)
  refine TO_nil ?_
  refine sr ?_
  refine TO_cons rfl (TOp_alloc zero65 rfl rfl ?_)
  refine TO_nil ?_
  refine sr ?_
  refine pv tb 3 rfl ?_
  refine TO_cons rfl (TOp_storeB sz3 rfl rfl rfl rfl rfl rfl rfl (by decide) (lb rfl) rfl ?_)
  refine TO_st (σ' := [.box [(intA a0.relation), (sl tInt a0.values)], .box [(intA 0), .n], .box [(intA a0.relation), .n]]) rfl ?_
  refine TO_nil ?_
  refine sr ?_
  obtain ⟨r_1, h_2, H⟩ := bind_inv H
  refine pv tb 2 rfl ?_
  refine TO_cons rfl (TOp_callO (call_static ent18 rfl) rfl (m_laws_toIntS_own _ _ h_2) rfl rfl rfl ?_)
  refine toe [(1, (.b 0 0)), (2, (.b 1 0)), (3, (.b 2 0)), (7, (.b 0 1)), (8, (sl tInt a0.values)), (9, (.m [3] 0 r_1.length tInt.k))] rfl ?_
  refine TO_st (σ' := [.box [(intA a0.relation), (sl tInt a0.values)], .box [(intA 0), .n], .box [(intA a0.relation), .n], .row (flat tInt.own r_1)]) rfl ?_
  refine pv tb 1 rfl ?_
  refine TO_cons rfl (TOp_storeB sz23 rfl rfl rfl rfl rfl rfl rfl (by decide) (lb rfl) rfl ?_)
  refine TO_st (σ' := [.box [(intA a0.relation), (sl tInt a0.values)], .box [(intA 0), .n], .box [(intA a0.relation), (.m [3] 0 r_1.length tInt.k)], .row (flat tInt.own r_1)]) rfl ?_
  refine TO_nil ?_
  refine sr ?_
  refine pv tb 1 rfl ?_
  refine TO_cons rfl (TOp_storeB sz65 rfl rfl rfl rfl rfl rfl rfl (by decide) (lb rfl) rfl ?_)
  refine TO_st (σ' := [.box [(intA a0.relation), (sl tInt a0.values)], .box [(intA a0.relation), (.m [3] 0 r_1.length tInt.k)], .box [(intA a0.relation), (.m [3] 0 r_1.length tInt.k)], .row (flat tInt.own r_1)]) rfl ?_
  refine TO_nil ?_
  refine T_ret ?_
  obtain rfl := some_inj H
  exact end_pick (.cellK rfl agg65 rfl (lb rfl) .nil) rfl [3] (by decide) rfl rfl rfl rfl rfl rfl
theorem m_laws_toFact_ok (a0 : Fact) (r : Fact) (H : m_laws_toFact a0 = some r) : FnV prg 55 [(.g (tFact.enc a0))] (.g (tFact.enc r)) := (m_laws_toFact_own a0 r H).frz (frzOK_g (frz_cons (frz_loose rfl) (frz_cons (frzT (T := tInt) rfl) frz_nil)).1 (frz_cons (frz_loose rfl) (frz_cons (frzT (T := tInt) rfl) frz_nil)).2)

set_option maxHeartbeats 1000000 in
theorem m_laws_toFactS_own (a0 : (List Fact)) (r : (List Fact)) (H : m_laws_toFactS a0 = some r) : FnO prg 62 [(sl tFact a0)] (.m [0] 0 r.length tFact.k) [.row (flat tFact.own r)] := by
  unfold m_laws_toFactS at H
  refine fnO_of_T Try.func62 rfl rfl (Nat.le_of_ble_eq_true rfl) ?_
  refine te [(0, (sl tFact a0))] rfl ?_
  refine sr ?_
  refine pv tb 1 rfl ?_
  refine TO_nil ?_
  refine sr ?_
  refine pv tb 1 rfl ?_
  refine Tp rfl rfl (pur_lenT (T := tFact) sl40 rfl rfl) rfl ?_
  obtain ⟨us_1, h_2, H⟩ := bind_inv H
  refine TO_cons rfl (TOp_makeN (T := tFact) (f := tFact.own) (zs := [.int .i64 0, .slice none 0 0]) (z := (default : Fact)) tFact.lenO (nilL_cons nilS (nilL_cons nilO nilL_nil)) rfl sl46 zero65 bytes65 rfl rfl rfl rfl h_2 ?_)
  refine TO_st (σ' := [.row (flat tFact.own us_1)]) rfl ?_
  refine pv tb 1 rfl ?_
  refine TO_nil ?_
  refine T_seq ?_
  refine sr ?_
  refine pv tb 1 rfl ?_
  refine TO_nil ?_
  obtain ⟨O4_, L4_, N4_⟩ := bind_inv H
  clear H
  obtain ⟨B4_, hb4, L4_⟩ := gen_forS L4_
  refine T_block ?_
  refine T_loopX (fun k => fun (⟨i_3, out3⟩ : Nat × (List Fact)) => k = a0.length - i_3 ∧ forS B4_ (a0.drop i_3) (i_3 : Int) out3 = some O4_) (fun (⟨i_3, out3⟩ : Nat × (List Fact)) => [(0, (sl tFact a0)), (3, (.m [0] 0 out3.length tFact.k)), (4, (intA (i_3 : Int)))]) (fun (⟨i_3, out3⟩ : Nat × (List Fact)) => [.row (flat tFact.own out3)]) _ (0, us_1) (w0 1) ⟨rfl, L4_⟩ ?_
  rintro _ ⟨i_3, out3⟩ ⟨rfl, L4_⟩
  refine T_fact (len_sl (T := tFact) (.tmp 0) rfl) (fun hl4 => ?_)
  refine T_seq ?_
  refine sr ?_
  refine pv tb 2 rfl ?_
  refine Tp rfl rfl (pur_lenT (T := tFact) sl40 rfl rfl) rfl ?_
  refine pv tb 1 rfl ?_
  refine TO_nil ?_
  refine T_cond (t := decide ((i_3 : Int) < (a0.length : Int))) rfl (fun d4 => ?_) (fun d4 => ?_)
  ·replace d4 := of_decide_eq_true d4
   obtain ⟨x_i_3, hx_i_3⟩ : ∃ v, (a0)[i_3]? = some v := ⟨_, List.getElem?_eq_getElem (by omega)⟩
   obtain ⟨C4_, H, K4_⟩ := forS_step L4_ hx_i_3
   rw [hb4] at H
   refine T_skip ?_
   refine T_seq ?_
   refine T_block ?_
   refine T_region ?_
   refine pv tb 4 rfl ?_
   refine Tp rfl rfl (pur_ixT (T := tFact) sl40 rfl rfl rfl hx_i_3 rfl) rfl ?_
   refine Tp rfl rfl (pur_ldTK (T := tFact) (i := i_3) (off := 0) rfl agg79 rfl rfl hx_i_3 (by decide) rfl) rfl ?_
   obtain ⟨r_5, h_6, H⟩ := bind_inv H
   refine TO_cons rfl (TOp_callO (call_static ent55 rfl) rfl (m_laws_toFact_own _ _ h_6) rfl rfl rfl ?_)
   refine toe [(0, (sl tFact a0)), (3, (.m [0] 0 out3.length tFact.k)), (4, (intA (i_3 : Int))), (14, (.m [0] 0 out3.length tFact.k)), (15, (intA (i_3 : Int))), (16, (sl tFact a0)), (17, (intA (i_3 : Int))), (18, (.q (flat tFact.enc a0) (i_3 * tFact.k))), (19, (.g (tFact.enc x_i_3))), (20, (.g [(intA r_5.relation), (.m [1] 0 r_5.values.length tInt.k)]))] rfl ?_
   refine TO_st (σ' := [.row (flat tFact.own out3), .row (flat tInt.own r_5.values)]) rfl ?_
   obtain ⟨v_7, h_8, H⟩ := bind_inv H
   obtain ⟨n_9, hz_10, hv_11⟩ := getI_inv h_8
   refine Tp rfl rfl (pur_ixM (T := tFact) sl46 rfl rfl hz_10 hv_11 rfl) rfl ?_
   refine TO_boxify 0 rfl (lb rfl) ?_
   refine TO_cons rfl (TOp_setN (T := tFact) (i := n_9) (off := 0) (xs := out3) (v := v_7) hz_10 sz65 (by decide) rfl rfl rfl rfl rfl hv_11 rfl rfl (lb rfl) rfl ?_)
   refine toe [(0, (sl tFact a0)), (3, (.m [0] 0 out3.length tFact.k)), (4, (intA (i_3 : Int))), (14, (.m [0] 0 out3.length tFact.k)), (15, (intA (i_3 : Int))), (16, (sl tFact a0)), (17, (intA (i_3 : Int))), (18, (.q (flat tFact.enc a0) (i_3 * tFact.k))), (19, (.g (tFact.enc x_i_3)))] rfl ?_
   refine TO_st (σ' := [.box (spl (flat tFact.own out3) (n_9 * tFact.k) [(intA r_5.relation), (.m [1] 0 r_5.values.length tInt.k)]), .row (flat tInt.own r_5.values)]) rfl ?_
   refine TO_absorbS (T := tFact) (i := n_9) (xs := out3) (v := v_7) 0 1 1 rfl hv_11 rfl rfl rfl (by decide) tInt.pos (flat_len tInt.lenO _) (lb rfl) (lb rfl) rfl (nms_box (namesL_spl namesL_own rfl) (nms_row nms_nil)) ?_
   refine TO_st (σ' := [.box (spl (flat tFact.own out3) (n_9 * tFact.k) [(intA r_5.relation), .o tInt.k (flat tInt.own r_5.values)]), .dead]) rfl ?_
   refine TO_rowifyS (T := tFact) (i := n_9) (xs := out3) 0 r_5 hz_10 rfl hv_11 rfl (lb rfl) ?_
   refine TO_env (E' := [(0, (sl tFact a0)), (3, (.m [0] 0 (out3.set ((i_3 : Int)).toNat r_5).length tFact.k)), (4, (intA (i_3 : Int))), (14, (.m [0] 0 (out3.set ((i_3 : Int)).toNat r_5).length tFact.k)), (15, (intA (i_3 : Int))), (16, (sl tFact a0)), (17, (intA (i_3 : Int))), (18, (.q (flat tFact.enc a0) (i_3 * tFact.k))), (19, (.g (tFact.enc x_i_3)))]) ⟨rfl, (congrArg (fun q => A.m [0] 0 q tFact.k) (List.length_set ..).symm), rfl, (congrArg (fun q => A.m [0] 0 q tFact.k) (List.length_set ..).symm), rfl, rfl, rfl, rfl, rfl, trivial⟩ ?_
   refine TO_st (σ' := [.row (flat tFact.own (out3.set ((i_3 : Int)).toNat r_5)), .dead]) rfl ?_
   refine TO_nil ?_
   refine T_region ?_
   refine pv tb 1 rfl ?_
   refine Tp rfl rfl (pur_add rfl rfl rfl (fits64 (by omega) (by omega))) rfl ?_
   refine pv tb 1 rfl ?_
   refine TO_nil ?_
   obtain rfl := some_inj H
   exact again (a0.length - (i_3 + 1)) (i_3 + 1, (out3.set ((i_3 : Int)).toNat r_5)) (by omega) (w0 1) ⟨rfl, K4_⟩
  ·replace d4 := of_decide_eq_false d4
   obtain rfl := forS_end L4_ (by omega)
   refine T_exit ?_
   refine then_exit ?_
   refine then_exit ?_
   refine block_exit ?_
   replace H := N4_
   refine sr ?_
   refine pv tb 2 rfl ?_
   refine TO_nil ?_
   refine T_ret ?_
   obtain rfl := some_inj H
   exact end_pick (.tmp .nil) rfl [0] (by decide) rfl rfl rfl rfl rfl rfl
theorem m_laws_toFactS_ok (a0 : (List Fact)) (r : (List Fact)) (H : m_laws_toFactS a0 = some r) : FnV prg 62 [(sl tFact a0)] (sl tFact r) := (m_laws_toFactS_own a0 r H).frz (frzT (T := tFact) rfl)

set_option maxHeartbeats 1000000 in
theorem m_laws_toRelation_ok (a0 : Relation) (r : Relation) (H : m_laws_toRelation a0 = some r) : FnV prg 145 [(.g (tRelation.enc a0))] (.g (tRelation.enc r)) := by
  unfold m_laws_toRelation at H
  refine fnV_of_T Try.func145 rfl rfl (Nat.le_of_ble_eq_true rfl) ?_
  refine te [(0, (.g (tRelation.enc a0)))] rfl ?_
  refine sr ?_
  refine TO_cons rfl (TOp_box rfl (boxAll rfl) rfl rfl ?_)
  refine TO_cons rfl (TOp_alloc zero130 rfl rfl ?_)
  refine TO_nil ?_
  refine sr ?_
  refine TO_cons rfl (TOp_alloc zero130 rfl rfl ?_)
  refine TO_nil ?_
  refine sr ?_
  refine pv tb 3 rfl ?_
  refine TO_cons rfl (TOp_storeB sz9 rfl rfl rfl rfl rfl rfl rfl (by decide) (lb rfl) rfl ?_)
  refine TO_st (σ' := [.box [(strA a0.name), (intA a0.arity), (intA a0.keyLength)], .box [(strA ByteArray.empty), (intA 0), (intA 0)], .box [(strA a0.name), (intA 0), (intA 0)]]) rfl ?_
  refine TO_nil ?_
  refine sr ?_
  refine pv tb 3 rfl ?_
  refine TO_cons rfl (TOp_storeB sz3 rfl rfl rfl rfl rfl rfl rfl (by decide) (lb rfl) rfl ?_)
  refine TO_st (σ' := [.box [(strA a0.name), (intA a0.arity), (intA a0.keyLength)], .box [(strA ByteArray.empty), (intA 0), (intA 0)], .box [(strA a0.name), (intA a0.arity), (intA 0)]]) rfl ?_
  refine TO_nil ?_
  refine sr ?_
  refine pv tb 3 rfl ?_
  refine TO_cons rfl (TOp_storeB sz3 rfl rfl rfl rfl rfl rfl rfl (by decide) (lb rfl) rfl ?_)
  refine TO_st (σ' := [.box [(strA a0.name), (intA a0.arity), (intA a0.keyLength)], .box [(strA ByteArray.empty), (intA 0), (intA 0)], .box [(strA a0.name), (intA a0.arity), (intA a0.keyLength)]]) rfl ?_
  refine TO_nil ?_
  refine sr ?_
  refine pv tb 1 rfl ?_
  refine TO_cons rfl (TOp_storeB sz130 rfl rfl rfl rfl rfl rfl rfl (by decide) (lb rfl) rfl ?_)
  refine TO_st (σ' := [.box [(strA a0.name), (intA a0.arity), (intA a0.keyLength)], .box [(strA a0.name), (intA a0.arity), (intA a0.keyLength)], .box [(strA a0.name), (intA a0.arity), (intA a0.keyLength)]]) rfl ?_
  refine TO_nil ?_
  refine T_ret ?_
  obtain rfl := some_inj H
  refine end_ret (.cellK rfl agg130 rfl (lb rfl) .nil) rfl rfl ⟨?_, rfl⟩
  rfl

set_option maxHeartbeats 1000000 in
theorem m_laws_toRelationS_own (a0 : (List Relation)) (r : (List Relation)) (H : m_laws_toRelationS a0 = some r) : FnO prg 93 [(sl tRelation a0)] (.m [0] 0 r.length tRelation.k) [.row (flat tRelation.own r)] := by
  unfold m_laws_toRelationS at H
  refine fnO_of_T Try.func93 rfl rfl (Nat.le_of_ble_eq_true rfl) ?_
  refine te [(0, (sl tRelation a0))] rfl ?_
  refine sr ?_
  refine pv tb 1 rfl ?_
  refine TO_nil ?_
  refine sr ?_
  refine pv tb 1 rfl ?_
  refine Tp rfl rfl (pur_lenT (T := tRelation) sl39 rfl rfl) rfl ?_
  obtain ⟨us_1, h_2, H⟩ := bind_inv H
  refine TO_cons rfl (TOp_makeT (T := tRelation) (z := (default : Relation)) rfl sl45 zero130 rfl bytes130 rfl rfl rfl rfl h_2 ?_)
  refine pv tb 1 rfl ?_
  refine TO_nil ?_
  refine T_seq ?_
  refine sr ?_
  refine pv tb 1 rfl ?_
  refine TO_nil ?_
  obtain ⟨O4_, L4_, N4_⟩ := bind_inv H
  clear H
  obtain ⟨B4_, hb4, L4_⟩ := gen_forS L4_
  refine T_block ?_
  refine T_loopX (fun k => fun (⟨i_3, out3⟩ : Nat × (List Relation)) => k = a0.length - i_3 ∧ forS B4_ (a0.drop i_3) (i_3 : Int) out3 = some O4_) (fun (⟨i_3, out3⟩ : Nat × (List Relation)) => [(0, (sl tRelation a0)), (3, (.m [0] 0 out3.length tRelation.k)), (4, (intA (i_3 : Int)))]) (fun (⟨i_3, out3⟩ : Nat × (List Relation)) => [.row (flat tRelation.enc out3)]) _ (0, us_1) (w0 1) ⟨rfl, L4_⟩ ?_
  rintro _ ⟨i_3, out3⟩ ⟨rfl, L4_⟩
  refine T_fact (len_sl (T := tRelation) (.tmp 0) rfl) (fun hl4 => ?_)
  refine T_seq ?_
  refine sr ?_
  refine pv tb 2 rfl ?_
  refine Tp rfl rfl (pur_lenT (T := tRelation) sl39 rfl rfl) rfl ?_
  refine pv tb 1 rfl ?_
  refine TO_nil ?_
  refine T_cond (t := decide ((i_3 : Int) < (a0.length : Int))) rfl (fun d4 => ?_) (fun d4 => ?_)
  ·replace d4 := of_decide_eq_true d4
   obtain ⟨x_i_3, hx_i_3⟩ : ∃ v, (a0)[i_3]? = some v := ⟨_, List.getElem?_eq_getElem (by omega)⟩
   obtain ⟨C4_, H, K4_⟩ := forS_step L4_ hx_i_3
   rw [hb4] at H
   refine T_skip ?_
   refine T_seq ?_
   refine T_block ?_
   refine T_region ?_
   refine pv tb 4 rfl ?_
   refine Tp rfl rfl (pur_ixT (T := tRelation) sl39 rfl rfl rfl hx_i_3 rfl) rfl ?_
   refine Tp rfl rfl (pur_ldTK (T := tRelation) (i := i_3) (off := 0) rfl agg158 rfl rfl hx_i_3 (by decide) rfl) rfl ?_
   obtain ⟨r_5, h_6, H⟩ := bind_inv H
   refine TO_cons rfl (TOp_callV (call_static ent145 rfl) (m_laws_toRelation_ok _ _ h_6) rfl rfl rfl ?_)
   obtain ⟨v_7, h_8, H⟩ := bind_inv H
   obtain ⟨n_9, hz_10, hv_11⟩ := getI_inv h_8
   refine Tp rfl rfl (pur_ixM (T := tRelation) sl45 rfl rfl hz_10 hv_11 rfl) rfl ?_
   refine TO_cons rfl (TOp_setT (f := tRelation.enc) (z := (i_3 : Int)) (y := r_5) tRelation.len tRelation.pos hz_10 sz130 rfl rfl rfl rfl rfl hv_11 rfl rfl ?_)
   refine TO_env (E' := [(0, (sl tRelation a0)), (3, (.m [0] 0 (out3.set ((i_3 : Int)).toNat r_5).length tRelation.k)), (4, (intA (i_3 : Int))), (14, (.m [0] 0 (out3.set ((i_3 : Int)).toNat r_5).length tRelation.k)), (15, (intA (i_3 : Int))), (16, (sl tRelation a0)), (17, (intA (i_3 : Int))), (18, (.q (flat tRelation.enc a0) (i_3 * tRelation.k))), (19, (.g (tRelation.enc x_i_3))), (20, (.g (tRelation.enc r_5)))]) ⟨rfl, (congrArg (fun q => A.m [0] 0 q tRelation.k) (List.length_set ..).symm), rfl, (congrArg (fun q => A.m [0] 0 q tRelation.k) (List.length_set ..).symm), rfl, rfl, rfl, rfl, rfl, rfl, trivial⟩ ?_
   refine TO_st (σ' := [.row (flat tRelation.enc (out3.set ((i_3 : Int)).toNat r_5))]) rfl ?_
   refine TO_nil ?_
   refine T_region ?_
   refine pv tb 1 rfl ?_
   refine Tp rfl rfl (pur_add rfl rfl rfl (fits64 (by omega) (by omega))) rfl ?_
   refine pv tb 1 rfl ?_
   refine TO_nil ?_
   obtain rfl := some_inj H
   exact again (a0.length - (i_3 + 1)) (i_3 + 1, (out3.set ((i_3 : Int)).toNat r_5)) (by omega) (w0 1) ⟨rfl, K4_⟩
  ·replace d4 := of_decide_eq_false d4
   obtain rfl := forS_end L4_ (by omega)
   refine T_exit ?_
   refine then_exit ?_
   refine then_exit ?_
   refine block_exit ?_
   replace H := N4_
   refine sr ?_
   refine pv tb 2 rfl ?_
   refine TO_nil ?_
   refine T_ret ?_
   obtain rfl := some_inj H
   exact end_pick (.tmp .nil) rfl [0] (by decide) rfl rfl rfl rfl rfl rfl
theorem m_laws_toRelationS_ok (a0 : (List Relation)) (r : (List Relation)) (H : m_laws_toRelationS a0 = some r) : FnV prg 93 [(sl tRelation a0)] (sl tRelation r) := (m_laws_toRelationS_own a0 r H).frz (frzT (T := tRelation) rfl)

set_option maxHeartbeats 1000000 in
theorem m_laws_toDatabase_own (a0 : Database) (r : Database) (H : m_laws_toDatabase a0 = some r) : FnO prg 27 [(.g (tDatabase.enc a0))] (.g [(.m [0] 0 r.relations.length tRelation.k), (.m [1] 0 r.facts.length tFact.k)]) [.row (flat tRelation.own r.relations), .row (flat tFact.own r.facts)] := by
  unfold m_laws_toDatabase at H
  refine fnO_of_T Try.func27 rfl rfl (Nat.le_of_ble_eq_true rfl) ?_
  refine te [(0, (.g (tDatabase.enc a0)))] rfl ?_
  refine sr ?_
  refine TO_cons rfl (TOp_box rfl (boxAll rfl) rfl rfl ?_)
  refine TO_cons rfl (TOp_alloc zero48 rfl rfl ?_)
  refine TO_nil ?_
  refine sr ?_
  refine TO_cons rfl (TOp_alloc zero48 rfl rfl ?_)
  refine TO_nil ?_
  refine sr ?_
  obtain ⟨r_1, h_2, H⟩ := bind_inv H
  refine pv tb 2 rfl ?_
  refine TO_cons rfl (TOp_callO (call_static ent93 rfl) rfl (m_laws_toRelationS_own _ _ h_2) rfl rfl rfl ?_)
  refine toe [(1, (.b 0 0)), (2, (.b 1 0)), (3, (.b 2 0)), (4, (.b 0 0)), (5, (sl tRelation a0.relations)), (6, (.m [3] 0 r_1.length tRelation.k))] rfl ?_
  refine TO_st (σ' := [.box [(sl tRelation a0.relations), (sl tFact a0.facts)], .box [.n, .n], .box [.n, .n], .row (flat tRelation.own r_1)]) rfl ?_
  refine pv tb 1 rfl ?_
  refine TO_cons rfl (TOp_storeB sz45 rfl rfl rfl rfl rfl rfl rfl (by decide) (lb rfl) rfl ?_)
  refine TO_st (σ' := [.box [(sl tRelation a0.relations), (sl tFact a0.facts)], .box [.n, .n], .box [(.m [3] 0 r_1.length tRelation.k), .n], .row (flat tRelation.own r_1)]) rfl ?_
  refine TO_nil ?_
  refine sr ?_
  obtain ⟨r_3, h_4, H⟩ := bind_inv H
  refine pv tb 2 rfl ?_
  refine TO_cons rfl (TOp_callO (call_static ent62 rfl) rfl (m_laws_toFactS_own _ _ h_4) rfl rfl rfl ?_)
  refine toe [(1, (.b 0 0)), (2, (.b 1 0)), (3, (.b 2 0)), (8, (.b 0 1)), (9, (sl tFact a0.facts)), (10, (.m [4] 0 r_3.length tFact.k))] rfl ?_
  refine TO_st (σ' := [.box [(sl tRelation a0.relations), (sl tFact a0.facts)], .box [.n, .n], .box [(.m [3] 0 r_1.length tRelation.k), .n], .row (flat tRelation.own r_1), .row (flat tFact.own r_3)]) rfl ?_
  refine pv tb 1 rfl ?_
  refine TO_cons rfl (TOp_storeB sz46 rfl rfl rfl rfl rfl rfl rfl (by decide) (lb rfl) rfl ?_)
  refine TO_st (σ' := [.box [(sl tRelation a0.relations), (sl tFact a0.facts)], .box [.n, .n], .box [(.m [3] 0 r_1.length tRelation.k), (.m [4] 0 r_3.length tFact.k)], .row (flat tRelation.own r_1), .row (flat tFact.own r_3)]) rfl ?_
  refine TO_nil ?_
  refine sr ?_
  refine pv tb 1 rfl ?_
  refine TO_cons rfl (TOp_storeB sz48 rfl rfl rfl rfl rfl rfl rfl (by decide) (lb rfl) rfl ?_)
  refine TO_st (σ' := [.box [(sl tRelation a0.relations), (sl tFact a0.facts)], .box [(.m [3] 0 r_1.length tRelation.k), (.m [4] 0 r_3.length tFact.k)], .box [(.m [3] 0 r_1.length tRelation.k), (.m [4] 0 r_3.length tFact.k)], .row (flat tRelation.own r_1), .row (flat tFact.own r_3)]) rfl ?_
  refine TO_nil ?_
  refine T_ret ?_
  obtain rfl := some_inj H
  exact end_pick (.cellK rfl agg48 rfl (lb rfl) .nil) rfl [3, 4] (by decide) rfl rfl rfl rfl rfl rfl
theorem m_laws_toDatabase_ok (a0 : Database) (r : Database) (H : m_laws_toDatabase a0 = some r) : FnV prg 27 [(.g (tDatabase.enc a0))] (.g (tDatabase.enc r)) := (m_laws_toDatabase_own a0 r H).frz (frzOK_g (frz_cons (frzT (T := tRelation) rfl) (frz_cons (frzT (T := tFact) rfl) frz_nil)).1 (frz_cons (frzT (T := tRelation) rfl) (frz_cons (frzT (T := tFact) rfl) frz_nil)).2)

set_option maxHeartbeats 1000000 in
theorem m_laws_eqIntS_ok (a0 : (List Int)) (b1 : (List Int)) (r : Bool) (H : m_laws_eqIntS a0 b1 = some r) : FnV prg 21 [(sl tInt a0), (sl tInt b1)] (boolA r) := by
  unfold m_laws_eqIntS at H
  refine fnV_of_T Try.func21 rfl rfl (Nat.le_of_ble_eq_true rfl) ?_
  refine te [(0, (sl tInt a0)), (1, (sl tInt b1))] rfl ?_
  refine sr ?_
  refine pv tb 1 rfl ?_
  refine TO_nil ?_
  refine T_seq ?_
  refine sr ?_
  refine pv tb 1 rfl ?_
  refine Tp rfl rfl (pur_lenT (T := tInt) sl23 rfl rfl) rfl ?_
  refine pv tb 1 rfl ?_
  refine Tp rfl rfl (pur_lenT (T := tInt) sl23 rfl rfl) rfl ?_
  refine pv tb 1 rfl ?_
  refine TO_nil ?_
  refine T_cond (t := decide ((a0.length : Int) ≠ (b1.length : Int))) rfl (fun c_1 => ?_) (fun c_1 => ?_)
  ·replace H := cond_t c_1 H
   refine sr ?_
   refine pv tb 1 rfl ?_
   refine TO_nil ?_
   refine T_ret ?_
   refine then_ret ?_
   obtain rfl := some_inj H
   refine end_ret (.tmp .nil) rfl rfl ⟨?_, rfl⟩
   rfl
  ·replace H := cond_f c_1 H
   refine T_skip ?_
   refine T_seq ?_
   refine sr ?_
   refine pv tb 1 rfl ?_
   refine TO_nil ?_
   obtain ⟨O3_, L3_, N3_⟩ := bind_inv H
   clear H
   obtain ⟨B3_, hb3, L3_⟩ := gen_forL L3_
   refine T_block ?_
   refine T_loopX (fun k => fun (i_2 : Nat) => k = a0.length - i_2 ∧ forL B3_ (a0.drop i_2) (i_2 : Int) () = some O3_) (fun (i_2 : Nat) => [(0, (sl tInt a0)), (1, (sl tInt b1)), (5, (intA (i_2 : Int)))]) (fun (i_2 : Nat) => []) _ (0 : Nat) (w0 0) ⟨rfl, L3_⟩ ?_
   rintro _ i_2 ⟨rfl, L3_⟩
   refine T_fact (len_sl (T := tInt) (.tmp 0) rfl) (fun hl3 => ?_)
   refine T_seq ?_
   refine sr ?_
   refine pv tb 2 rfl ?_
   refine Tp rfl rfl (pur_lenT (T := tInt) sl23 rfl rfl) rfl ?_
   refine pv tb 1 rfl ?_
   refine TO_nil ?_
   refine T_cond (t := decide ((i_2 : Int) < (a0.length : Int))) rfl (fun d3 => ?_) (fun d3 => ?_)
   ·replace d3 := of_decide_eq_true d3
    obtain ⟨x_i_2, hx_i_2⟩ : ∃ v, (a0)[i_2]? = some v := ⟨_, List.getElem?_eq_getElem (by omega)⟩
    obtain ⟨C3_, H, K3_⟩ := forL_step L3_ hx_i_2
    rw [hb3] at H
    refine T_skip ?_
    refine T_seq ?_
    refine T_block ?_
    refine T_seq ?_
    refine T_regionD mixed (by kernel_rfl) ?_
    refine pq tb 2 rfl ?_
    refine TQ_pure rfl (pur_ixT (T := tInt) sl23 rfl rfl rfl hx_i_2 rfl) rfl ?_
    refine TQ_pure rfl (pur_ldT (T := tInt) (i := i_2) (off := 0) rfl one3 rfl rfl hx_i_2 rfl) rfl ?_
    obtain ⟨v_4, h_5, H⟩ := bind_inv H
    obtain ⟨n_6, hz_7, hv_8⟩ := getI_inv h_5
    refine pq tb 2 rfl ?_
    refine TQ_pure rfl (pur_ixT (T := tInt) sl23 rfl rfl hz_7 hv_8 rfl) rfl ?_
    refine TQ_pure rfl (pur_ldT (T := tInt) (i := n_6) (off := 0) rfl one3 rfl rfl hv_8 rfl) rfl ?_
    refine pq tb 1 rfl ?_
    refine TQ_nil ?_
    refine T_cond (t := decide (x_i_2 ≠ v_4)) rfl (fun c_9 => ?_) (fun c_9 => ?_)
    ·replace H := cond_t c_9 H
     refine sr ?_
     refine pv tb 1 rfl ?_
     refine TO_nil ?_
     refine te [(4, (boolA false))] rfl ?_
     refine T_ret ?_
     refine block_ret ?_
     refine then_ret ?_
     refine then_ret ?_
     refine block_ret ?_
     refine then_ret ?_
     obtain rfl := some_inj H
     obtain rfl := some_inj K3_
     replace H := onS_r N3_
     obtain rfl := some_inj H
     refine end_ret (.tmp .nil) rfl rfl ⟨?_, rfl⟩
     rfl
    ·replace H := cond_f c_9 H
     refine T_skip ?_
     refine T_region ?_
     refine pv tb 1 rfl ?_
     refine Tp rfl rfl (pur_add rfl rfl rfl (fits64 (by omega) (by omega))) rfl ?_
     refine pv tb 1 rfl ?_
     refine TO_nil ?_
     obtain rfl := some_inj H
     exact again (a0.length - (i_2 + 1)) (i_2 + 1) (by omega) (w0 0) ⟨rfl, K3_⟩
   ·replace d3 := of_decide_eq_false d3
    obtain rfl := forL_end L3_ (by omega)
    refine T_exit ?_
    refine then_exit ?_
    refine then_exit ?_
    refine block_exit ?_
    replace H := onS_l N3_
    refine sr ?_
    refine pv tb 1 rfl ?_
    refine TO_nil ?_
    refine T_ret ?_
    obtain rfl := some_inj H
    refine end_ret (.tmp .nil) rfl rfl ⟨?_, rfl⟩
    rfl

set_option maxHeartbeats 1000000 in
theorem m_laws_eqFact_ok (a0 : Fact) (b1 : Fact) (r : Bool) (H : m_laws_eqFact a0 b1 = some r) : FnV prg 56 [(.g (tFact.enc a0)), (.g (tFact.enc b1))] (boolA r) := by
  unfold m_laws_eqFact at H
  refine fnV_of_T Try.func56 rfl rfl (Nat.le_of_ble_eq_true rfl) ?_
  refine te [(0, (.g (tFact.enc a0))), (1, (.g (tFact.enc b1)))] rfl ?_
  refine sr ?_
  refine TO_cons rfl (TOp_box rfl (boxAll rfl) rfl rfl ?_)
  refine TO_cons rfl (TOp_box rfl (boxAll rfl) rfl rfl ?_)
  refine pv tb 1 rfl ?_
  refine TO_nil ?_
  refine T_seq ?_
  refine sr ?_
  refine pv tb 5 rfl ?_
  refine TO_nil ?_
  refine T_cond (t := decide (a0.relation ≠ b1.relation)) rfl (fun c_1 => ?_) (fun c_1 => ?_)
  ·replace H := cond_t c_1 H
   refine sr ?_
   refine pv tb 1 rfl ?_
   refine TO_nil ?_
   refine T_ret ?_
   refine then_ret ?_
   obtain rfl := some_inj H
   refine end_ret (.tmp .nil) rfl rfl ⟨?_, rfl⟩
   rfl
  ·replace H := cond_f c_1 H
   refine T_skip ?_
   refine T_seq ?_
   refine sr ?_
   obtain ⟨r_2, h_3, H⟩ := bind_inv H
   refine pv tb 4 rfl ?_
   refine TO_cons rfl (TOp_callV (call_static ent21 rfl) (m_laws_eqIntS_ok _ _ _ h_3) rfl rfl rfl ?_)
   refine pv tb 1 rfl ?_
   refine TO_nil ?_
   refine te [(15, (boolA (!r_2)))] rfl ?_
   refine T_cond (t := (!r_2)) rfl (fun c_4 => ?_) (fun c_4 => ?_)
   ·replace H := cond_t c_4 H
    refine sr ?_
    refine pv tb 1 rfl ?_
    refine TO_nil ?_
    refine T_ret ?_
    refine then_ret ?_
    obtain rfl := some_inj H
    refine end_ret (.tmp .nil) rfl rfl ⟨?_, rfl⟩
    rfl
   ·replace H := cond_f c_4 H
    refine T_skip ?_
    refine sr ?_
    refine pv tb 1 rfl ?_
    refine TO_nil ?_
    refine T_ret ?_
    obtain rfl := some_inj H
    refine end_ret (.tmp .nil) rfl rfl ⟨?_, rfl⟩
    rfl

set_option maxHeartbeats 1000000 in
theorem m_laws_eqFactS_ok (a0 : (List Fact)) (b1 : (List Fact)) (r : Bool) (H : m_laws_eqFactS a0 b1 = some r) : FnV prg 63 [(sl tFact a0), (sl tFact b1)] (boolA r) := by
  unfold m_laws_eqFactS at H
  refine fnV_of_T Try.func63 rfl rfl (Nat.le_of_ble_eq_true rfl) ?_
  refine te [(0, (sl tFact a0)), (1, (sl tFact b1))] rfl ?_
  refine sr ?_
  refine pv tb 1 rfl ?_
  refine TO_nil ?_
  refine T_seq ?_
  refine sr ?_
  refine pv tb 1 rfl ?_
  refine Tp rfl rfl (pur_lenT (T := tFact) sl46 rfl rfl) rfl ?_
  refine pv tb 1 rfl ?_
  refine Tp rfl rfl (pur_lenT (T := tFact) sl46 rfl rfl) rfl ?_
  refine pv tb 1 rfl ?_
  refine TO_nil ?_
  refine T_cond (t := decide ((a0.length : Int) ≠ (b1.length : Int))) rfl (fun c_1 => ?_) (fun c_1 => ?_)
  ·replace H := cond_t c_1 H
   refine sr ?_
   refine pv tb 1 rfl ?_
   refine TO_nil ?_
   refine T_ret ?_
   refine then_ret ?_
   obtain rfl := some_inj H
   refine end_ret (.tmp .nil) rfl rfl ⟨?_, rfl⟩
   rfl
  ·replace H := cond_f c_1 H
   refine T_skip ?_
   refine T_seq ?_
   refine sr ?_
   refine pv tb 1 rfl ?_
   refine TO_nil ?_
   obtain ⟨O3_, L3_, N3_⟩ := bind_inv H
   clear H
   obtain ⟨B3_, hb3, L3_⟩ := gen_forL L3_
   refine T_block ?_
   refine T_loopX (fun k => fun (i_2 : Nat) => k = a0.length - i_2 ∧ forL B3_ (a0.drop i_2) (i_2 : Int) () = some O3_) (fun (i_2 : Nat) => [(0, (sl tFact a0)), (1, (sl tFact b1)), (5, (intA (i_2 : Int)))]) (fun (i_2 : Nat) => []) _ (0 : Nat) (w0 0) ⟨rfl, L3_⟩ ?_
   rintro _ i_2 ⟨rfl, L3_⟩
   refine T_fact (len_sl (T := tFact) (.tmp 0) rfl) (fun hl3 => ?_)
   refine T_seq ?_
   refine sr ?_
   refine pv tb 2 rfl ?_
   refine Tp rfl rfl (pur_lenT (T := tFact) sl46 rfl rfl) rfl ?_
   refine pv tb 1 rfl ?_
   refine TO_nil ?_
   refine T_cond (t := decide ((i_2 : Int) < (a0.length : Int))) rfl (fun d3 => ?_) (fun d3 => ?_)
   ·replace d3 := of_decide_eq_true d3
    obtain ⟨x_i_2, hx_i_2⟩ : ∃ v, (a0)[i_2]? = some v := ⟨_, List.getElem?_eq_getElem (by omega)⟩
    obtain ⟨C3_, H, K3_⟩ := forL_step L3_ hx_i_2
    rw [hb3] at H
    refine T_skip ?_
    refine T_seq ?_
    refine T_block ?_
    refine T_seq ?_
    refine T_regionD mixed (by kernel_rfl) ?_
    refine pq tb 2 rfl ?_
    refine TQ_pure rfl (pur_ixT (T := tFact) sl46 rfl rfl rfl hx_i_2 rfl) rfl ?_
    refine TQ_pure rfl (pur_ldTK (T := tFact) (i := i_2) (off := 0) rfl agg65 rfl rfl hx_i_2 (by decide) rfl) rfl ?_
    obtain ⟨v_4, h_5, H⟩ := bind_inv H
    obtain ⟨n_6, hz_7, hv_8⟩ := getI_inv h_5
    refine pq tb 2 rfl ?_
    refine TQ_pure rfl (pur_ixT (T := tFact) sl46 rfl rfl hz_7 hv_8 rfl) rfl ?_
    refine TQ_pure rfl (pur_ldTK (T := tFact) (i := n_6) (off := 0) rfl agg65 rfl rfl hv_8 (by decide) rfl) rfl ?_
    obtain ⟨r_9, h_10, H⟩ := bind_inv H
    refine TQ_callV rfl (call_static ent56 rfl) (m_laws_eqFact_ok _ _ _ h_10) rfl rfl ?_
    refine pq tb 1 rfl ?_
    refine TQ_nil ?_
    refine T_cond (t := (!r_9)) rfl (fun c_11 => ?_) (fun c_11 => ?_)
    ·replace H := cond_t c_11 H
     refine sr ?_
     refine pv tb 1 rfl ?_
     refine TO_nil ?_
     refine te [(4, (boolA false))] rfl ?_
     refine T_ret ?_
     refine block_ret ?_
     refine then_ret ?_
     refine then_ret ?_
     refine block_ret ?_
     refine then_ret ?_
     obtain rfl := some_inj H
     obtain rfl := some_inj K3_
     replace H := onS_r N3_
     obtain rfl := some_inj H
     refine end_ret (.tmp .nil) rfl rfl ⟨?_, rfl⟩
     rfl
    ·replace H := cond_f c_11 H
     refine T_skip ?_
     refine T_region ?_
     refine pv tb 1 rfl ?_
     refine Tp rfl rfl (pur_add rfl rfl rfl (fits64 (by omega) (by omega))) rfl ?_
     refine pv tb 1 rfl ?_
     refine TO_nil ?_
     obtain rfl := some_inj H
     exact again (a0.length - (i_2 + 1)) (i_2 + 1) (by omega) (w0 0) ⟨rfl, K3_⟩
   ·replace d3 := of_decide_eq_false d3
    obtain rfl := forL_end L3_ (by omega)
    refine T_exit ?_
    refine then_exit ?_
    refine then_exit ?_
    refine block_exit ?_
    replace H := onS_l N3_
    refine sr ?_
    refine pv tb 1 rfl ?_
    refine TO_nil ?_
    refine T_ret ?_
    obtain rfl := some_inj H
    refine end_ret (.tmp .nil) rfl rfl ⟨?_, rfl⟩
    rfl

set_option maxHeartbeats 1000000 in
theorem m_laws_eqRelation_ok (a0 : Relation) (b1 : Relation) (r : Bool) (H : m_laws_eqRelation a0 b1 = some r) : FnV prg 146 [(.g (tRelation.enc a0)), (.g (tRelation.enc b1))] (boolA r) := by
  unfold m_laws_eqRelation at H
  refine fnV_of_T Try.func146 rfl rfl (Nat.le_of_ble_eq_true rfl) ?_
  refine te [(0, (.g (tRelation.enc a0))), (1, (.g (tRelation.enc b1)))] rfl ?_
  refine sr ?_
  refine TO_cons rfl (TOp_box rfl (boxAll rfl) rfl rfl ?_)
  refine TO_cons rfl (TOp_box rfl (boxAll rfl) rfl rfl ?_)
  refine pv tb 1 rfl ?_
  refine TO_nil ?_
  refine T_seq ?_
  refine sr ?_
  refine pv tb 4 rfl ?_
  refine Tp rfl rfl (pur_neqS rfl rfl rfl) rfl ?_
  refine TO_nil ?_
  refine T_cond (t := decide (a0.name ≠ b1.name)) rfl (fun c_1 => ?_) (fun c_1 => ?_)
  ·replace H := cond_t c_1 H
   refine sr ?_
   refine pv tb 1 rfl ?_
   refine TO_nil ?_
   refine T_ret ?_
   refine then_ret ?_
   obtain rfl := some_inj H
   refine end_ret (.tmp .nil) rfl rfl ⟨?_, rfl⟩
   rfl
  ·replace H := cond_f c_1 H
   refine T_skip ?_
   refine T_seq ?_
   refine sr ?_
   refine pv tb 5 rfl ?_
   refine TO_nil ?_
   refine T_cond (t := decide (a0.arity ≠ b1.arity)) rfl (fun c_2 => ?_) (fun c_2 => ?_)
   ·replace H := cond_t c_2 H
    refine sr ?_
    refine pv tb 1 rfl ?_
    refine TO_nil ?_
    refine te [(4, (boolA false))] rfl ?_
    refine T_ret ?_
    refine then_ret ?_
    obtain rfl := some_inj H
    refine end_ret (.tmp .nil) rfl rfl ⟨?_, rfl⟩
    rfl
   ·replace H := cond_f c_2 H
    refine T_skip ?_
    refine T_seq ?_
    refine sr ?_
    refine pv tb 5 rfl ?_
    refine TO_nil ?_
    refine te [(19, (boolA (decide (a0.keyLength ≠ b1.keyLength))))] rfl ?_
    refine T_cond (t := decide (a0.keyLength ≠ b1.keyLength)) rfl (fun c_3 => ?_) (fun c_3 => ?_)
    ·replace H := cond_t c_3 H
     refine sr ?_
     refine pv tb 1 rfl ?_
     refine TO_nil ?_
     refine T_ret ?_
     refine then_ret ?_
     obtain rfl := some_inj H
     refine end_ret (.tmp .nil) rfl rfl ⟨?_, rfl⟩
     rfl
    ·replace H := cond_f c_3 H
     refine T_skip ?_
     refine sr ?_
     refine pv tb 1 rfl ?_
     refine TO_nil ?_
     refine T_ret ?_
     obtain rfl := some_inj H
     refine end_ret (.tmp .nil) rfl rfl ⟨?_, rfl⟩
     rfl

set_option maxHeartbeats 1000000 in
theorem m_laws_eqRelationS_ok (a0 : (List Relation)) (b1 : (List Relation)) (r : Bool) (H : m_laws_eqRelationS a0 b1 = some r) : FnV prg 94 [(sl tRelation a0), (sl tRelation b1)] (boolA r) := by
  unfold m_laws_eqRelationS at H
  refine fnV_of_T Try.func94 rfl rfl (Nat.le_of_ble_eq_true rfl) ?_
  refine te [(0, (sl tRelation a0)), (1, (sl tRelation b1))] rfl ?_
  refine sr ?_
  refine pv tb 1 rfl ?_
  refine TO_nil ?_
  refine T_seq ?_
  refine sr ?_
  refine pv tb 1 rfl ?_
  refine Tp rfl rfl (pur_lenT (T := tRelation) sl45 rfl rfl) rfl ?_
  refine pv tb 1 rfl ?_
  refine Tp rfl rfl (pur_lenT (T := tRelation) sl45 rfl rfl) rfl ?_
  refine pv tb 1 rfl ?_
  refine TO_nil ?_
  refine T_cond (t := decide ((a0.length : Int) ≠ (b1.length : Int))) rfl (fun c_1 => ?_) (fun c_1 => ?_)
  ·replace H := cond_t c_1 H
   refine sr ?_
   refine pv tb 1 rfl ?_
   refine TO_nil ?_
   refine T_ret ?_
   refine then_ret ?_
   obtain rfl := some_inj H
   refine end_ret (.tmp .nil) rfl rfl ⟨?_, rfl⟩
   rfl
  ·replace H := cond_f c_1 H
   refine T_skip ?_
   refine T_seq ?_
   refine sr ?_
   refine pv tb 1 rfl ?_
   refine TO_nil ?_
   obtain ⟨O3_, L3_, N3_⟩ := bind_inv H
   clear H
   obtain ⟨B3_, hb3, L3_⟩ := gen_forL L3_
   refine T_block ?_
   refine T_loopX (fun k => fun (i_2 : Nat) => k = a0.length - i_2 ∧ forL B3_ (a0.drop i_2) (i_2 : Int) () = some O3_) (fun (i_2 : Nat) => [(0, (sl tRelation a0)), (1, (sl tRelation b1)), (5, (intA (i_2 : Int)))]) (fun (i_2 : Nat) => []) _ (0 : Nat) (w0 0) ⟨rfl, L3_⟩ ?_
   rintro _ i_2 ⟨rfl, L3_⟩
   refine T_fact (len_sl (T := tRelation) (.tmp 0) rfl) (fun hl3 => ?_)
   refine T_seq ?_
   refine sr ?_
   refine pv tb 2 rfl ?_
   refine Tp rfl rfl (pur_lenT (T := tRelation) sl45 rfl rfl) rfl ?_
   refine pv tb 1 rfl ?_
   refine TO_nil ?_
   refine T_cond (t := decide ((i_2 : Int) < (a0.length : Int))) rfl (fun d3 => ?_) (fun d3 => ?_)
   ·replace d3 := of_decide_eq_true d3
    obtain ⟨x_i_2, hx_i_2⟩ : ∃ v, (a0)[i_2]? = some v := ⟨_, List.getElem?_eq_getElem (by omega)⟩
    obtain ⟨C3_, H, K3_⟩ := forL_step L3_ hx_i_2
    rw [hb3] at H
    refine T_skip ?_
    refine T_seq ?_
    refine T_block ?_
    refine T_seq ?_
    refine T_regionD mixed (by kernel_rfl) ?_
    refine pq tb 2 rfl ?_
    refine TQ_pure rfl (pur_ixT (T := tRelation) sl45 rfl rfl rfl hx_i_2 rfl) rfl ?_
    refine TQ_pure rfl (pur_ldTK (T := tRelation) (i := i_2) (off := 0) rfl agg130 rfl rfl hx_i_2 (by decide) rfl) rfl ?_
    obtain ⟨v_4, h_5, H⟩ := bind_inv H
    obtain ⟨n_6, hz_7, hv_8⟩ := getI_inv h_5
    refine pq tb 2 rfl ?_
    refine TQ_pure rfl (pur_ixT (T := tRelation) sl45 rfl rfl hz_7 hv_8 rfl) rfl ?_
    refine TQ_pure rfl (pur_ldTK (T := tRelation) (i := n_6) (off := 0) rfl agg130 rfl rfl hv_8 (by decide) rfl) rfl ?_
    obtain ⟨r_9, h_10, H⟩ := bind_inv H
    refine TQ_callV rfl (call_static ent146 rfl) (m_laws_eqRelation_ok _ _ _ h_10) rfl rfl ?_
    refine pq tb 1 rfl ?_
    refine TQ_nil ?_
    refine T_cond (t := (!r_9)) rfl (fun c_11 => ?_) (fun c_11 => ?_)
    ·replace H := cond_t c_11 H
     refine sr ?_
     refine pv tb 1 rfl ?_
     refine TO_nil ?_
     refine te [(4, (boolA false))] rfl ?_
     refine T_ret ?_
     refine block_ret ?_
     refine then_ret ?_
     refine then_ret ?_
     refine block_ret ?_
     refine then_ret ?_
     obtain rfl := some_inj H
     obtain rfl := some_inj K3_
     replace H := onS_r N3_
     obtain rfl := some_inj H
     refine end_ret (.tmp .nil) rfl rfl ⟨?_, rfl⟩
     rfl
    ·replace H := cond_f c_11 H
     refine T_skip ?_
     refine T_region ?_
     refine pv tb 1 rfl ?_
     refine Tp rfl rfl (pur_add rfl rfl rfl (fits64 (by omega) (by omega))) rfl ?_
     refine pv tb 1 rfl ?_
     refine TO_nil ?_
     obtain rfl := some_inj H
     exact again (a0.length - (i_2 + 1)) (i_2 + 1) (by omega) (w0 0) ⟨rfl, K3_⟩
   ·replace d3 := of_decide_eq_false d3
    obtain rfl := forL_end L3_ (by omega)
    refine T_exit ?_
    refine then_exit ?_
    refine then_exit ?_
    refine block_exit ?_
    replace H := onS_l N3_
    refine sr ?_
    refine pv tb 1 rfl ?_
    refine TO_nil ?_
    refine T_ret ?_
    obtain rfl := some_inj H
    refine end_ret (.tmp .nil) rfl rfl ⟨?_, rfl⟩
    rfl

set_option maxHeartbeats 1000000 in
theorem m_laws_eqDatabase_ok (a0 : Database) (b1 : Database) (r : Bool) (H : m_laws_eqDatabase a0 b1 = some r) : FnV prg 29 [(.g (tDatabase.enc a0)), (.g (tDatabase.enc b1))] (boolA r) := by
  unfold m_laws_eqDatabase at H
  refine fnV_of_T Try.func29 rfl rfl (Nat.le_of_ble_eq_true rfl) ?_
  refine te [(0, (.g (tDatabase.enc a0))), (1, (.g (tDatabase.enc b1)))] rfl ?_
  refine sr ?_
  refine TO_cons rfl (TOp_box rfl (boxAll rfl) rfl rfl ?_)
  refine TO_cons rfl (TOp_box rfl (boxAll rfl) rfl rfl ?_)
  refine pv tb 1 rfl ?_
  refine TO_nil ?_
  refine T_seq ?_
  refine sr ?_
  obtain ⟨r_1, h_2, H⟩ := bind_inv H
  refine pv tb 4 rfl ?_
  refine TO_cons rfl (TOp_callV (call_static ent94 rfl) (m_laws_eqRelationS_ok _ _ _ h_2) rfl rfl rfl ?_)
  refine pv tb 1 rfl ?_
  refine TO_nil ?_
  refine T_cond (t := (!r_1)) rfl (fun c_3 => ?_) (fun c_3 => ?_)
  ·replace H := cond_t c_3 H
   refine sr ?_
   refine pv tb 1 rfl ?_
   refine TO_nil ?_
   refine T_ret ?_
   refine then_ret ?_
   obtain rfl := some_inj H
   refine end_ret (.tmp .nil) rfl rfl ⟨?_, rfl⟩
   rfl
  ·replace H := cond_f c_3 H
   refine T_skip ?_
   refine T_seq ?_
   refine sr ?_
   obtain ⟨r_4, h_5, H⟩ := bind_inv H
   refine pv tb 4 rfl ?_
   refine TO_cons rfl (TOp_callV (call_static ent63 rfl) (m_laws_eqFactS_ok _ _ _ h_5) rfl rfl rfl ?_)
   refine pv tb 1 rfl ?_
   refine TO_nil ?_
   refine te [(16, (boolA (!r_4)))] rfl ?_
   refine T_cond (t := (!r_4)) rfl (fun c_6 => ?_) (fun c_6 => ?_)
   ·replace H := cond_t c_6 H
    refine sr ?_
    refine pv tb 1 rfl ?_
    refine TO_nil ?_
    refine T_ret ?_
    refine then_ret ?_
    obtain rfl := some_inj H
    refine end_ret (.tmp .nil) rfl rfl ⟨?_, rfl⟩
    rfl
   ·replace H := cond_f c_6 H
    refine T_skip ?_
    refine sr ?_
    refine pv tb 1 rfl ?_
    refine TO_nil ?_
    refine T_ret ?_
    obtain rfl := some_inj H
    refine end_ret (.tmp .nil) rfl rfl ⟨?_, rfl⟩
    rfl

set_option maxHeartbeats 1000000 in
theorem m_laws_markIntS_mut (a0 : (List Int)) (k1 : Int) (r : (Int × (List Int))) (H : m_laws_markIntS a0 k1 = some r) : FnM prg 23 [(.m [0] 0 a0.length tInt.k), (intA k1)] [flat tInt.own a0] (.int .i64 r.1) [flat tInt.own r.2] := by
  unfold m_laws_markIntS at H
  refine fnM_of_T Try.func23 rfl rfl (Nat.le_of_ble_eq_true rfl) ?_
  refine te [(0, (.m [0] 0 a0.length tInt.k)), (1, (intA k1))] rfl ?_
  refine T_st (σ' := [.row (flat tInt.own a0)]) rfl ?_
  refine sr ?_
  refine pv tb 1 rfl ?_
  refine TO_nil ?_
  refine T_seq ?_
  refine sr ?_
  refine pv tb 1 rfl ?_
  refine TO_nil ?_
  obtain ⟨O2_, L2_, N2_⟩ := bind_inv H
  clear H
  obtain ⟨B2_, hb2, L2_⟩ := gen_forM L2_
  refine T_block ?_
  refine T_loopX (fun k => fun (⟨i_1, a0m, k1⟩ : Int × (List Int) × Int) => k = ((a0.length : Int) - i_1).toNat ∧ 0 ≤ i_1 ∧ forM B2_ ((a0.length : Int) - i_1).toNat i_1 (a0m, k1) = some O2_ ∧ a0m.length = a0.length) (fun (⟨i_1, a0m, k1⟩ : Int × (List Int) × Int) => [(0, (.m [0] 0 a0m.length tInt.k)), (1, (intA k1)), (5, (intA (i_1 : Int)))]) (fun (⟨i_1, a0m, k1⟩ : Int × (List Int) × Int) => [.row (flat tInt.own a0m)]) _ (0, (a0, k1)) (w0 1) ⟨rfl, Int.le_refl _, L2_, rfl⟩ ?_
  rintro _ ⟨i_1, a0m, k1⟩ ⟨rfl, hi2, L2_, hq_a0m⟩
  replace hq_a0m : a0m.length = a0.length := hq_a0m
  refine T_fact (len_m (.tmp 0) rfl) (fun hl2 => ?_)
  refine T_seq ?_
  refine sr ?_
  refine pv tb 2 rfl ?_
  refine Tp rfl rfl (pur_len_m sl23 rfl rfl) rfl ?_
  refine pv tb 1 rfl ?_
  refine TO_nil ?_
  refine T_cond (t := decide ((i_1 : Int) < (a0m.length : Int))) rfl (fun d2 => ?_) (fun d2 => ?_)
  ·replace d2 := of_decide_eq_true d2
   replace d2 : (i_1 : Int) < (a0.length : Int) := by omega
   obtain ⟨C2_, H, K2_⟩ := forM_step L2_ d2
   rw [hb2] at H
   refine T_skip ?_
   refine T_seq ?_
   refine T_block ?_
   refine sr ?_
   obtain ⟨v_3, h_4, H⟩ := bind_inv H
   obtain ⟨n_5, hz_6, hv_7⟩ := getI_inv h_4
   refine pv tb 3 rfl ?_
   refine Tp rfl rfl (pur_ixM (T := tInt) sl23 rfl rfl hz_6 hv_7 rfl) rfl ?_
   refine TO_cons rfl (TOp_setT (f := tInt.own) (z := (i_1 : Int)) (y := k1) tInt.lenO tInt.pos hz_6 sz3 rfl rfl rfl rfl rfl hv_7 rfl rfl ?_)
   refine TO_env (E' := [(0, (.m [0] 0 (a0m.set ((i_1 : Int)).toNat k1).length tInt.k)), (1, (intA k1)), (5, (intA (i_1 : Int))), (12, (.m [0] 0 (a0m.set ((i_1 : Int)).toNat k1).length tInt.k)), (13, (intA (i_1 : Int))), (14, (intA k1))]) ⟨(congrArg (fun q => A.m [0] 0 q tInt.k) (List.length_set ..).symm), rfl, rfl, (congrArg (fun q => A.m [0] 0 q tInt.k) (List.length_set ..).symm), rfl, rfl, trivial⟩ ?_
   refine TO_st (σ' := [.row (flat tInt.own (a0m.set ((i_1 : Int)).toNat k1))]) rfl ?_
   refine TO_nil ?_
   refine T_region ?_
   refine pv tb 3 rfl ?_
   refine TO_nil ?_
   refine T_region ?_
   refine pv tb 1 rfl ?_
   refine Tp rfl rfl (pur_add rfl rfl rfl (fits64 (by omega) (by omega))) rfl ?_
   refine pv tb 1 rfl ?_
   refine TO_nil ?_
   obtain rfl := some_inj H
   exact again ((a0.length : Int) - (i_1 + 1)).toNat (i_1 + 1, ((a0m.set ((i_1 : Int)).toNat k1), (w64 (k1 + 1)))) (by omega) (w0 1) ⟨rfl, by omega, K2_, ((List.length_set ..).trans hq_a0m)⟩
  ·replace d2 := of_decide_eq_false d2
   obtain rfl := forM_end L2_ (by omega)
   refine T_exit ?_
   refine then_exit ?_
   refine then_exit ?_
   refine block_exit ?_
   replace H := N2_
   refine sr ?_
   refine pv tb 2 rfl ?_
   refine TO_nil ?_
   refine T_ret ?_
   obtain rfl := some_inj H
   exact end_M (.tmp .nil) rfl rfl (Nat.le_refl _) (sameLens_c (T := tInt) hq_a0m trivial) rfl rfl

set_option maxHeartbeats 1000000 in
theorem m_laws_markFactS_mut (a0 : (List Fact)) (k1 : Int) (r : (Int × (List Fact))) (H : m_laws_markFactS a0 k1 = some r) : FnM prg 64 [(.m [0] 0 a0.length tFact.k), (intA k1)] [flat tFact.own a0] (.int .i64 r.1) [flat tFact.own r.2] := by
  unfold m_laws_markFactS at H
  refine fnM_of_T Try.func64 rfl rfl (Nat.le_of_ble_eq_true rfl) ?_
  refine te [(0, (.m [0] 0 a0.length tFact.k)), (1, (intA k1))] rfl ?_
  refine T_st (σ' := [.row (flat tFact.own a0)]) rfl ?_
  refine sr ?_
  refine pv tb 1 rfl ?_
  refine TO_nil ?_
  refine T_seq ?_
  refine sr ?_
  refine pv tb 1 rfl ?_
  refine TO_nil ?_
  obtain ⟨O2_, L2_, N2_⟩ := bind_inv H
  clear H
  obtain ⟨B2_, hb2, L2_⟩ := gen_forM L2_
  refine T_block ?_
  refine T_loopX (fun k => fun (⟨i_1, a0m, k1⟩ : Int × (List Fact) × Int) => k = ((a0.length : Int) - i_1).toNat ∧ 0 ≤ i_1 ∧ forM B2_ ((a0.length : Int) - i_1).toNat i_1 (a0m, k1) = some O2_ ∧ a0m.length = a0.length) (fun (⟨i_1, a0m, k1⟩ : Int × (List Fact) × Int) => [(0, (.m [0] 0 a0m.length tFact.k)), (1, (intA k1)), (5, (intA (i_1 : Int)))]) (fun (⟨i_1, a0m, k1⟩ : Int × (List Fact) × Int) => [.row (flat tFact.own a0m)]) _ (0, (a0, k1)) (w0 1) ⟨rfl, Int.le_refl _, L2_, rfl⟩ ?_
  rintro _ ⟨i_1, a0m, k1⟩ ⟨rfl, hi2, L2_, hq_a0m⟩
  replace hq_a0m : a0m.length = a0.length := hq_a0m
  refine T_fact (len_m (.tmp 0) rfl) (fun hl2 => ?_)
  refine T_seq ?_
  refine sr ?_
  refine pv tb 2 rfl ?_
  refine Tp rfl rfl (pur_len_m sl46 rfl rfl) rfl ?_
  refine pv tb 1 rfl ?_
  refine TO_nil ?_
  refine T_cond (t := decide ((i_1 : Int) < (a0m.length : Int))) rfl (fun d2 => ?_) (fun d2 => ?_)
  ·replace d2 := of_decide_eq_true d2
   replace d2 : (i_1 : Int) < (a0.length : Int) := by omega
   obtain ⟨C2_, H, K2_⟩ := forM_step L2_ d2
   rw [hb2] at H
   refine T_skip ?_
   refine T_seq ?_
   refine T_block ?_
   refine sr ?_
   obtain ⟨v_3, h_4, H⟩ := bind_inv H
   obtain ⟨n_5, hz_6, hv_7⟩ := getI_inv h_4
   refine pv tb 3 rfl ?_
   refine Tp rfl rfl (pur_ixM (T := tFact) sl46 rfl rfl hz_6 hv_7 rfl) rfl ?_
   refine pv tb 1 rfl ?_
   refine TO_cons rfl (TOp_setP (f := tFact.own) (k := tFact.k) (off := 0) (z := (i_1 : Int)) tFact.lenO ({ relation := k1, values := v_3.values } : Fact) hz_6 sz3 (by decide) rfl rfl rfl rfl rfl hv_7 rfl rfl (by decide) rfl rfl ?_)
   refine TO_env (E' := [(0, (.m [0] 0 (a0m.set ((i_1 : Int)).toNat ({ relation := k1, values := v_3.values } : Fact)).length tFact.k)), (1, (intA k1)), (5, (intA (i_1 : Int))), (12, (.m [0] 0 (a0m.set ((i_1 : Int)).toNat ({ relation := k1, values := v_3.values } : Fact)).length tFact.k)), (13, (intA (i_1 : Int))), (14, (intA k1))]) ⟨(congrArg (fun q => A.m [0] 0 q tFact.k) (List.length_set ..).symm), rfl, rfl, (congrArg (fun q => A.m [0] 0 q tFact.k) (List.length_set ..).symm), rfl, rfl, trivial⟩ ?_
   refine TO_st (σ' := [.row (flat tFact.own (a0m.set ((i_1 : Int)).toNat ({ relation := k1, values := v_3.values } : Fact)))]) rfl ?_
   refine TO_nil ?_
   refine sr ?_
   refine pv tb 3 rfl ?_
   refine TO_nil ?_
   refine T_region ?_
   obtain ⟨v_8, h_9, H⟩ := bind_inv H
   obtain ⟨n_10, hz_11, hv_12⟩ := getI_inv h_9
   refine pv tb 2 rfl ?_
   refine Tp rfl rfl (pur_ixM (T := tFact) sl46 rfl rfl hz_11 hv_12 rfl) rfl ?_
   refine pv tb 1 rfl ?_
   refine Tp rfl rfl (pur_ldE (f := tFact.own) (k := tFact.k) (i := n_10) (off := 1) tFact.lenO rfl one23 rfl rfl rfl hv_12 rfl cellVal_sl) rfl ?_
   obtain ⟨r_13, h_14, H⟩ := bind_inv H
   refine pv tb 1 rfl ?_
   refine TO_cons rfl (TOp_callG (aa := [(.m [0, n_10 * tFact.k + 1] 0 v_8.values.length tInt.k), (intA (w64 (k1 + 1)))]) [[0, n_10 * tFact.k + 1]] (call_static ent23 rfl) rfl (.cons (rowAt_el (f := tFact.own) (i := n_10) (off := 1) tFact.lenO rfl hv_12 rfl) rfl (by simp) .nil) (by simp [namesL, A.names, locP]) (by simp [renPL, A.renP, locF, locP]) (m_laws_markIntS_mut _ _ _ h_14) rfl (fun hl_15 => ?_))
   refine TO_env (E' := [(0, (.m [0] 0 ((a0m.set ((i_1 : Int)).toNat ({ relation := k1, values := v_3.values } : Fact)).set ((i_1 : Int)).toNat ({ relation := v_8.relation, values := r_13.2 } : Fact)).length tFact.k)), (1, (intA (w64 (k1 + 1)))), (5, (intA (i_1 : Int))), (19, (.m [0] 0 ((a0m.set ((i_1 : Int)).toNat ({ relation := k1, values := v_3.values } : Fact)).set ((i_1 : Int)).toNat ({ relation := v_8.relation, values := r_13.2 } : Fact)).length tFact.k)), (20, (intA (i_1 : Int))), (24, (intA (w64 (k1 + 1)))), (25, (intA r_13.1))]) ⟨(congrArg (fun q => A.m [0] 0 q tFact.k) (List.length_set ..).symm), rfl, rfl, (congrArg (fun q => A.m [0] 0 q tFact.k) (List.length_set ..).symm), rfl, rfl, rfl, trivial⟩ ?_
   refine TO_st (σ' := [.row (flat tFact.own ((a0m.set ((i_1 : Int)).toNat ({ relation := k1, values := v_3.values } : Fact)).set ((i_1 : Int)).toNat ({ relation := v_8.relation, values := r_13.2 } : Fact)))]) (setRows_T (f := tFact.own) (i := n_10) (v' := ({ relation := v_8.relation, values := r_13.2 } : Fact)) tFact.lenO hz_11 [1] rfl hv_12 (allO_cons ⟨_, _, rfl⟩ allO_nil) rfl) ?_
   refine pv tb 1 rfl ?_
   refine TO_nil ?_
   refine T_region ?_
   refine pv tb 1 rfl ?_
   refine Tp rfl rfl (pur_add rfl rfl rfl (fits64 (by omega) (by omega))) rfl ?_
   refine pv tb 1 rfl ?_
   refine TO_nil ?_
   obtain rfl := some_inj H
   exact again ((a0.length : Int) - (i_1 + 1)).toNat (i_1 + 1, (((a0m.set ((i_1 : Int)).toNat ({ relation := k1, values := v_3.values } : Fact)).set ((i_1 : Int)).toNat ({ relation := v_8.relation, values := r_13.2 } : Fact)), r_13.1)) (by omega) (w0 1) ⟨rfl, by omega, K2_, ((List.length_set ..).trans ((List.length_set ..).trans hq_a0m))⟩
  ·replace d2 := of_decide_eq_false d2
   obtain rfl := forM_end L2_ (by omega)
   refine T_exit ?_
   refine then_exit ?_
   refine then_exit ?_
   refine block_exit ?_
   replace H := N2_
   refine sr ?_
   refine pv tb 2 rfl ?_
   refine TO_nil ?_
   refine T_ret ?_
   obtain rfl := some_inj H
   exact end_M (.tmp .nil) rfl rfl (Nat.le_refl _) (sameLens_c (T := tFact) hq_a0m trivial) rfl rfl

set_option maxHeartbeats 1000000 in
theorem m_laws_markText_ok (u : Nat) (k0 : Int) (r : ByteArray) (H : m_laws_markText u k0 = some r) : FnV prg 147 [(intA k0)] (strA r) := by
  unfold m_laws_markText at H
  refine fnV_of_T Try.func147 rfl rfl (Nat.le_of_ble_eq_true rfl) ?_
  refine te [(0, (intA k0))] rfl ?_
  refine sr ?_
  refine pv tb 1 rfl ?_
  refine TO_nil ?_
  refine T_seq ?_
  refine sr ?_
  refine pv tb 2 rfl ?_
  refine TO_nil ?_
  refine T_cond (t := decide (k0 ≤ 0)) rfl (fun c_1 => ?_) (fun c_1 => ?_)
  ·replace H := cond_t c_1 H
   refine sr ?_
   refine pv tb 1 rfl ?_
   refine TO_nil ?_
   refine T_ret ?_
   refine then_ret ?_
   obtain rfl := some_inj H
   refine end_ret (.tmp .nil) rfl rfl ⟨?_, rfl⟩
   rfl
  ·replace H := cond_f c_1 H
   refine T_skip ?_
   refine sr ?_
   refine pv tb 1 rfl ?_
   refine TO_nil ?_
   obtain ⟨O2_, L2_, N2_⟩ := bind_inv H
   clear H
   obtain ⟨B2_, hb2, L2_⟩ := gen_whileF L2_
   refine T_cutX (fun (x : Int × ByteArray) => O2_ = .inl x) (fun (⟨k0, out3⟩ : Int × ByteArray) => [(3, (strA out3))]) (fun (⟨k0, out3⟩ : Int × ByteArray) => []) ?_ ?_
   ·skip
    refine T_block ?_
    refine T_loopX (fun k => fun (⟨k0, out3⟩ : Int × ByteArray) => whileF B2_ k (k0, out3) = some O2_) (fun (⟨k0, out3⟩ : Int × ByteArray) => [(0, (intA k0)), (3, (strA out3))]) (fun (⟨k0, out3⟩ : Int × ByteArray) => []) u (k0, (⟨#[]⟩ : ByteArray)) (w0 0) L2_ ?_
    rintro _ ⟨k0, out3⟩ L2_
    obtain ⟨k2, rfl, C2_, H, K2_⟩ := while_step L2_
    rw [hb2] at H
    refine T_seq ?_
    refine sr ?_
    refine pv tb 2 rfl ?_
    refine TO_nil ?_
    refine T_cond (t := decide (0 < k0)) rfl (fun c_3 => ?_) (fun c_3 => ?_)
    ·replace H := cond_t c_3 H
     refine T_skip ?_
     refine T_block ?_
     refine sr ?_
     refine pv tb 1 rfl ?_
     refine Tp rfl rfl (pur_rem rfl rfl rfl (by decide)) rfl ?_
     refine pv tb 1 rfl ?_
     refine Tp rfl rfl (pur_convI (k := .u8) (k' := .i64) ⟨_, Try.underlying3⟩ Try.underlying5 rfl rfl) rfl ?_
     refine TO_cons rfl (TOp_lit (nn := 1) (k := 1) sl62 zero5 rfl rfl rfl rfl (by decide) ?_)
     refine TO_st (σ' := [.row (flat (tI .u8).enc ([(IntKind.wrap .u8 (w64 (48 + (k0.tmod 10))))] : (List Int)))]) rfl ?_
     refine Tp rfl rfl (pur_strM (zs := ([(IntKind.wrap .u8 (w64 (48 + (k0.tmod 10))))] : (List Int))) Try.underlying62 Try.underlying5 Try.underlying9 rfl rfl rfl) rfl ?_
     obtain ⟨cat_4, h_5, H⟩ := bind_inv H
     refine pv tb 1 rfl ?_
     refine Tp rfl rfl (pur_cat rfl rfl rfl h_5) rfl ?_
     refine pv tb 1 rfl ?_
     refine TO_nil ?_
     refine T_region ?_
     refine pv tb 1 rfl ?_
     refine Tp rfl rfl (pur_wquo rfl rfl rfl (by decide)) rfl ?_
     refine pv tb 1 rfl ?_
     refine TO_nil ?_
     obtain rfl := some_inj H
     exact again k2 ((w64 (k0.tdiv 10)), cat_4) (Nat.lt_succ_self _) (w0 0) K2_
    ·replace H := cond_f c_3 H
     refine T_exit ?_
     refine then_exit ?_
     refine then_exit ?_
     refine block_exit ?_
     obtain rfl := some_inj H
     obtain rfl := some_inj K2_
     exact joined (k0, out3) (w0 0) rfl
   ·rintro ⟨k0, out3⟩ rfl
    replace H := onS_l N2_
    refine sr ?_
    obtain ⟨cat_6, h_7, H⟩ := bind_inv H
    refine pv tb 1 rfl ?_
    refine Tp rfl rfl (pur_cat rfl rfl rfl h_7) rfl ?_
    refine pv tb 1 rfl ?_
    refine TO_nil ?_
    refine T_ret ?_
    obtain rfl := some_inj H
    refine end_ret (.tmp .nil) rfl rfl ⟨?_, rfl⟩
    rfl

set_option maxHeartbeats 1000000 in
theorem m_laws_markRelationS_mut (u : Nat) (a0 : (List Relation)) (k1 : Int) (r : (Int × (List Relation))) (H : m_laws_markRelationS u a0 k1 = some r) : FnM prg 95 [(.m [0] 0 a0.length tRelation.k), (intA k1)] [flat tRelation.own a0] (.int .i64 r.1) [flat tRelation.own r.2] := by
  unfold m_laws_markRelationS at H
  refine fnM_of_T Try.func95 rfl rfl (Nat.le_of_ble_eq_true rfl) ?_
  refine te [(0, (.m [0] 0 a0.length tRelation.k)), (1, (intA k1))] rfl ?_
  refine T_st (σ' := [.row (flat tRelation.own a0)]) rfl ?_
  refine sr ?_
  refine pv tb 1 rfl ?_
  refine TO_nil ?_
  refine T_seq ?_
  refine sr ?_
  refine pv tb 1 rfl ?_
  refine TO_nil ?_
  obtain ⟨O2_, L2_, N2_⟩ := bind_inv H
  clear H
  obtain ⟨B2_, hb2, L2_⟩ := gen_forM L2_
  refine T_block ?_
  refine T_loopX (fun k => fun (⟨i_1, a0m, k1⟩ : Int × (List Relation) × Int) => k = ((a0.length : Int) - i_1).toNat ∧ 0 ≤ i_1 ∧ forM B2_ ((a0.length : Int) - i_1).toNat i_1 (a0m, k1) = some O2_ ∧ a0m.length = a0.length) (fun (⟨i_1, a0m, k1⟩ : Int × (List Relation) × Int) => [(0, (.m [0] 0 a0m.length tRelation.k)), (1, (intA k1)), (5, (intA (i_1 : Int)))]) (fun (⟨i_1, a0m, k1⟩ : Int × (List Relation) × Int) => [.row (flat tRelation.own a0m)]) _ (0, (a0, k1)) (w0 1) ⟨rfl, Int.le_refl _, L2_, rfl⟩ ?_
  rintro _ ⟨i_1, a0m, k1⟩ ⟨rfl, hi2, L2_, hq_a0m⟩
  replace hq_a0m : a0m.length = a0.length := hq_a0m
  refine T_fact (len_m (.tmp 0) rfl) (fun hl2 => ?_)
  refine T_seq ?_
  refine sr ?_
  refine pv tb 2 rfl ?_
  refine Tp rfl rfl (pur_len_m sl45 rfl rfl) rfl ?_
  refine pv tb 1 rfl ?_
  refine TO_nil ?_
  refine T_cond (t := decide ((i_1 : Int) < (a0m.length : Int))) rfl (fun d2 => ?_) (fun d2 => ?_)
  ·replace d2 := of_decide_eq_true d2
   replace d2 : (i_1 : Int) < (a0.length : Int) := by omega
   obtain ⟨C2_, H, K2_⟩ := forM_step L2_ d2
   rw [hb2] at H
   refine T_skip ?_
   refine T_seq ?_
   refine T_block ?_
   refine sr ?_
   obtain ⟨r_3, h_4, H⟩ := bind_inv H
   refine pv tb 3 rfl ?_
   refine TO_cons rfl (TOp_callV (call_static ent147 rfl) (m_laws_markText_ok u _ _ h_4) rfl rfl rfl ?_)
   obtain ⟨v_5, h_6, H⟩ := bind_inv H
   obtain ⟨n_7, hz_8, hv_9⟩ := getI_inv h_6
   refine Tp rfl rfl (pur_ixM (T := tRelation) sl45 rfl rfl hz_8 hv_9 rfl) rfl ?_
   refine pv tb 1 rfl ?_
   refine TO_cons rfl (TOp_setP (f := tRelation.own) (k := tRelation.k) (off := 0) (z := (i_1 : Int)) tRelation.lenO ({ name := r_3, arity := v_5.arity, keyLength := v_5.keyLength } : Relation) hz_8 sz9 (by decide) rfl rfl rfl rfl rfl hv_9 rfl rfl (by decide) rfl rfl ?_)
   refine TO_env (E' := [(0, (.m [0] 0 (a0m.set ((i_1 : Int)).toNat ({ name := r_3, arity := v_5.arity, keyLength := v_5.keyLength } : Relation)).length tRelation.k)), (1, (intA k1)), (5, (intA (i_1 : Int))), (12, (.m [0] 0 (a0m.set ((i_1 : Int)).toNat ({ name := r_3, arity := v_5.arity, keyLength := v_5.keyLength } : Relation)).length tRelation.k)), (13, (intA (i_1 : Int))), (14, (intA k1)), (15, (strA r_3))]) ⟨(congrArg (fun q => A.m [0] 0 q tRelation.k) (List.length_set ..).symm), rfl, rfl, (congrArg (fun q => A.m [0] 0 q tRelation.k) (List.length_set ..).symm), rfl, rfl, rfl, trivial⟩ ?_
   refine TO_st (σ' := [.row (flat tRelation.own (a0m.set ((i_1 : Int)).toNat ({ name := r_3, arity := v_5.arity, keyLength := v_5.keyLength } : Relation)))]) rfl ?_
   refine TO_nil ?_
   refine sr ?_
   refine pv tb 3 rfl ?_
   refine TO_nil ?_
   refine sr ?_
   obtain ⟨v_10, h_11, H⟩ := bind_inv H
   obtain ⟨n_12, hz_13, hv_14⟩ := getI_inv h_11
   refine pv tb 3 rfl ?_
   refine Tp rfl rfl (pur_ixM (T := tRelation) sl45 rfl rfl hz_13 hv_14 rfl) rfl ?_
   refine pv tb 1 rfl ?_
   refine TO_cons rfl (TOp_setP (f := tRelation.own) (k := tRelation.k) (off := 1) (z := (i_1 : Int)) tRelation.lenO ({ name := v_10.name, arity := (w64 (k1 + 1)), keyLength := v_10.keyLength } : Relation) hz_13 sz3 (by decide) rfl rfl rfl rfl rfl hv_14 rfl rfl (by decide) rfl rfl ?_)
   refine TO_env (E' := [(0, (.m [0] 0 ((a0m.set ((i_1 : Int)).toNat ({ name := r_3, arity := v_5.arity, keyLength := v_5.keyLength } : Relation)).set ((i_1 : Int)).toNat ({ name := v_10.name, arity := (w64 (k1 + 1)), keyLength := v_10.keyLength } : Relation)).length tRelation.k)), (1, (intA (w64 (k1 + 1)))), (5, (intA (i_1 : Int))), (20, (.m [0] 0 ((a0m.set ((i_1 : Int)).toNat ({ name := r_3, arity := v_5.arity, keyLength := v_5.keyLength } : Relation)).set ((i_1 : Int)).toNat ({ name := v_10.name, arity := (w64 (k1 + 1)), keyLength := v_10.keyLength } : Relation)).length tRelation.k)), (21, (intA (i_1 : Int))), (22, (intA (w64 (k1 + 1))))]) ⟨(congrArg (fun q => A.m [0] 0 q tRelation.k) (List.length_set ..).symm), rfl, rfl, (congrArg (fun q => A.m [0] 0 q tRelation.k) (List.length_set ..).symm), rfl, rfl, trivial⟩ ?_
   refine TO_st (σ' := [.row (flat tRelation.own ((a0m.set ((i_1 : Int)).toNat ({ name := r_3, arity := v_5.arity, keyLength := v_5.keyLength } : Relation)).set ((i_1 : Int)).toNat ({ name := v_10.name, arity := (w64 (k1 + 1)), keyLength := v_10.keyLength } : Relation)))]) rfl ?_
   refine TO_nil ?_
   refine sr ?_
   refine pv tb 3 rfl ?_
   refine TO_nil ?_
   refine te [(0, (.m [0] 0 ((a0m.set ((i_1 : Int)).toNat ({ name := r_3, arity := v_5.arity, keyLength := v_5.keyLength } : Relation)).set ((i_1 : Int)).toNat ({ name := v_10.name, arity := (w64 (k1 + 1)), keyLength := v_10.keyLength } : Relation)).length tRelation.k)), (1, (intA (w64 ((w64 (k1 + 1)) + 1)))), (5, (intA (i_1 : Int)))] rfl ?_
   refine sr ?_
   obtain ⟨v_15, h_16, H⟩ := bind_inv H
   obtain ⟨n_17, hz_18, hv_19⟩ := getI_inv h_16
   refine pv tb 3 rfl ?_
   refine Tp rfl rfl (pur_ixM (T := tRelation) sl45 rfl rfl hz_18 hv_19 rfl) rfl ?_
   refine pv tb 1 rfl ?_
   refine TO_cons rfl (TOp_setP (f := tRelation.own) (k := tRelation.k) (off := 2) (z := (i_1 : Int)) tRelation.lenO ({ name := v_15.name, arity := v_15.arity, keyLength := (w64 ((w64 (k1 + 1)) + 1)) } : Relation) hz_18 sz3 (by decide) rfl rfl rfl rfl rfl hv_19 rfl rfl (by decide) rfl rfl ?_)
   refine TO_env (E' := [(0, (.m [0] 0 (((a0m.set ((i_1 : Int)).toNat ({ name := r_3, arity := v_5.arity, keyLength := v_5.keyLength } : Relation)).set ((i_1 : Int)).toNat ({ name := v_10.name, arity := (w64 (k1 + 1)), keyLength := v_10.keyLength } : Relation)).set ((i_1 : Int)).toNat ({ name := v_15.name, arity := v_15.arity, keyLength := (w64 ((w64 (k1 + 1)) + 1)) } : Relation)).length tRelation.k)), (1, (intA (w64 ((w64 (k1 + 1)) + 1)))), (5, (intA (i_1 : Int))), (27, (.m [0] 0 (((a0m.set ((i_1 : Int)).toNat ({ name := r_3, arity := v_5.arity, keyLength := v_5.keyLength } : Relation)).set ((i_1 : Int)).toNat ({ name := v_10.name, arity := (w64 (k1 + 1)), keyLength := v_10.keyLength } : Relation)).set ((i_1 : Int)).toNat ({ name := v_15.name, arity := v_15.arity, keyLength := (w64 ((w64 (k1 + 1)) + 1)) } : Relation)).length tRelation.k)), (28, (intA (i_1 : Int))), (29, (intA (w64 ((w64 (k1 + 1)) + 1))))]) ⟨(congrArg (fun q => A.m [0] 0 q tRelation.k) (List.length_set ..).symm), rfl, rfl, (congrArg (fun q => A.m [0] 0 q tRelation.k) (List.length_set ..).symm), rfl, rfl, trivial⟩ ?_
   refine TO_st (σ' := [.row (flat tRelation.own (((a0m.set ((i_1 : Int)).toNat ({ name := r_3, arity := v_5.arity, keyLength := v_5.keyLength } : Relation)).set ((i_1 : Int)).toNat ({ name := v_10.name, arity := (w64 (k1 + 1)), keyLength := v_10.keyLength } : Relation)).set ((i_1 : Int)).toNat ({ name := v_15.name, arity := v_15.arity, keyLength := (w64 ((w64 (k1 + 1)) + 1)) } : Relation)))]) rfl ?_
   refine TO_nil ?_
   refine T_region ?_
   refine pv tb 3 rfl ?_
   refine TO_nil ?_
   refine T_region ?_
   refine pv tb 1 rfl ?_
   refine Tp rfl rfl (pur_add rfl rfl rfl (fits64 (by omega) (by omega))) rfl ?_
   refine pv tb 1 rfl ?_
   refine TO_nil ?_
   obtain rfl := some_inj H
   exact again ((a0.length : Int) - (i_1 + 1)).toNat (i_1 + 1, ((((a0m.set ((i_1 : Int)).toNat ({ name := r_3, arity := v_5.arity, keyLength := v_5.keyLength } : Relation)).set ((i_1 : Int)).toNat ({ name := v_10.name, arity := (w64 (k1 + 1)), keyLength := v_10.keyLength } : Relation)).set ((i_1 : Int)).toNat ({ name := v_15.name, arity := v_15.arity, keyLength := (w64 ((w64 (k1 + 1)) + 1)) } : Relation)), (w64 ((w64 ((w64 (k1 + 1)) + 1)) + 1)))) (by omega) (w0 1) ⟨rfl, by omega, K2_, ((List.length_set ..).trans ((List.length_set ..).trans ((List.length_set ..).trans hq_a0m)))⟩
  ·replace d2 := of_decide_eq_false d2
   obtain rfl := forM_end L2_ (by omega)
   refine T_exit ?_
   refine then_exit ?_
   refine then_exit ?_
   refine block_exit ?_
   replace H := N2_
   refine sr ?_
   refine pv tb 2 rfl ?_
   refine TO_nil ?_
   refine T_ret ?_
   obtain rfl := some_inj H
   exact end_M (.tmp .nil) rfl rfl (Nat.le_refl _) (sameLens_c (T := tRelation) hq_a0m trivial) rfl rfl

set_option maxHeartbeats 1000000 in
theorem m_laws_markDatabase_mut (u : Nat) (a0 : Database) (k1 : Int) (r : (Int × Database)) (H : m_laws_markDatabase u a0 k1 = some r) : FnM prg 30 [(.g [(.m [0] 0 a0.relations.length tRelation.k), (.m [1] 0 a0.facts.length tFact.k)]), (intA k1)] [flat tRelation.own a0.relations, flat tFact.own a0.facts] (.int .i64 r.1) [flat tRelation.own r.2.relations, flat tFact.own r.2.facts] := by
  unfold m_laws_markDatabase at H
  refine fnM_of_T Try.func30 rfl rfl (Nat.le_of_ble_eq_true rfl) ?_
  refine te [(0, (.g [(.m [0] 0 a0.relations.length tRelation.k), (.m [1] 0 a0.facts.length tFact.k)])), (1, (intA k1))] rfl ?_
  refine T_st (σ' := [.row (flat tRelation.own a0.relations), .row (flat tFact.own a0.facts)]) rfl ?_
  refine sr ?_
  refine TO_cons rfl (TOp_box rfl (boxAll rfl) rfl rfl ?_)
  refine pv tb 1 rfl ?_
  refine TO_nil ?_
  refine sr ?_
  obtain ⟨r_1, h_2, H⟩ := bind_inv H
  refine pv tb 3 rfl ?_
  refine TO_cons rfl (TOp_callG (aa := [(.m [0] 0 a0.relations.length tRelation.k), (intA k1)]) [[0]] (call_static ent95 rfl) rfl (.cons rfl rfl (by decide) .nil) rfl rfl (m_laws_markRelationS_mut u _ _ _ h_2) rfl (fun hl_3 => ?_))
  obtain ⟨hq_4, hl_3⟩ := sameLens_T (T := tRelation) hl_3
  refine TO_env (E' := [(1, (intA k1)), (2, (.b 2 0)), (5, (.b 2 0)), (6, (.m [0] 0 r_1.2.length tRelation.k)), (7, (intA k1)), (8, (intA r_1.1))]) ⟨rfl, rfl, rfl, (congrArg (fun q => A.m [0] 0 q tRelation.k) hq_4.symm), rfl, rfl, trivial⟩ ?_
  refine TO_st (σ' := [.row (flat tRelation.own r_1.2), .row (flat tFact.own a0.facts), .box [(.m [0] 0 a0.relations.length tRelation.k), (.m [1] 0 a0.facts.length tFact.k)]]) rfl ?_
  refine TO_st (σ' := [.row (flat tRelation.own r_1.2), .row (flat tFact.own a0.facts), .box [(.m [0] 0 r_1.2.length tRelation.k), (.m [1] 0 a0.facts.length tFact.k)]]) (by simp only [hq_4]) ?_
  refine pv tb 1 rfl ?_
  refine TO_nil ?_
  refine sr ?_
  obtain ⟨r_5, h_6, H⟩ := bind_inv H
  refine pv tb 3 rfl ?_
  refine TO_cons rfl (TOp_callG (aa := [(.m [1] 0 a0.facts.length tFact.k), (intA r_1.1)]) [[1]] (call_static ent64 rfl) rfl (.cons rfl rfl (by decide) .nil) rfl rfl (m_laws_markFactS_mut _ _ _ h_6) rfl (fun hl_7 => ?_))
  obtain ⟨hq_8, hl_7⟩ := sameLens_T (T := tFact) hl_7
  refine TO_env (E' := [(1, (intA r_1.1)), (2, (.b 2 0)), (9, (.b 2 1)), (10, (.m [1] 0 r_5.2.length tFact.k)), (11, (intA r_1.1)), (12, (intA r_5.1))]) ⟨rfl, rfl, rfl, (congrArg (fun q => A.m [1] 0 q tFact.k) hq_8.symm), rfl, rfl, trivial⟩ ?_
  refine TO_st (σ' := [.row (flat tRelation.own r_1.2), .row (flat tFact.own r_5.2), .box [(.m [0] 0 r_1.2.length tRelation.k), (.m [1] 0 a0.facts.length tFact.k)]]) rfl ?_
  refine TO_st (σ' := [.row (flat tRelation.own r_1.2), .row (flat tFact.own r_5.2), .box [(.m [0] 0 r_1.2.length tRelation.k), (.m [1] 0 r_5.2.length tFact.k)]]) (by simp only [hq_8]) ?_
  refine pv tb 1 rfl ?_
  refine TO_nil ?_
  refine sr ?_
  refine pv tb 2 rfl ?_
  refine TO_nil ?_
  refine T_ret ?_
  obtain rfl := some_inj H
  exact end_M (.tmp .nil) rfl rfl (Nat.le_refl _) (sameLens_c (T := tRelation) hq_4 (sameLens_c (T := tFact) hq_8 trivial)) rfl rfl

set_option maxHeartbeats 1000000 in
theorem m_laws_heldRelationS_ok (u : Nat) (a0 : (List Relation)) (k1 : Int) (r : Int) (H : m_laws_heldRelationS u a0 k1 = some r) : FnV prg 125 [(sl tRelation a0), (intA k1)] (intA r) := by
  unfold m_laws_heldRelationS at H
  refine fnV_of_T Try.func125 rfl rfl (Nat.le_of_ble_eq_true rfl) ?_
  refine te [(0, (sl tRelation a0)), (1, (intA k1))] rfl ?_
  refine sr ?_
  refine pv tb 1 rfl ?_
  refine TO_nil ?_
  refine T_seq ?_
  refine sr ?_
  refine pv tb 1 rfl ?_
  refine TO_nil ?_
  obtain ⟨O2_, L2_, N2_⟩ := bind_inv H
  clear H
  obtain ⟨B2_, hb2, L2_⟩ := gen_forL L2_
  refine T_block ?_
  refine T_loopX (fun k => fun (⟨i_1, k1⟩ : Nat × Int) => k = a0.length - i_1 ∧ forL B2_ (a0.drop i_1) (i_1 : Int) k1 = some O2_) (fun (⟨i_1, k1⟩ : Nat × Int) => [(0, (sl tRelation a0)), (1, (intA k1)), (5, (intA (i_1 : Int)))]) (fun (⟨i_1, k1⟩ : Nat × Int) => []) _ (0, k1) (w0 0) ⟨rfl, L2_⟩ ?_
  rintro _ ⟨i_1, k1⟩ ⟨rfl, L2_⟩
  refine T_fact (len_sl (T := tRelation) (.tmp 0) rfl) (fun hl2 => ?_)
  refine T_seq ?_
  refine sr ?_
  refine pv tb 2 rfl ?_
  refine Tp rfl rfl (pur_lenT (T := tRelation) sl45 rfl rfl) rfl ?_
  refine pv tb 1 rfl ?_
  refine TO_nil ?_
  refine T_cond (t := decide ((i_1 : Int) < (a0.length : Int))) rfl (fun d2 => ?_) (fun d2 => ?_)
  ·replace d2 := of_decide_eq_true d2
   obtain ⟨x_i_1, hx_i_1⟩ : ∃ v, (a0)[i_1]? = some v := ⟨_, List.getElem?_eq_getElem (by omega)⟩
   obtain ⟨C2_, H, K2_⟩ := forL_step L2_ hx_i_1
   rw [hb2] at H
   refine T_skip ?_
   refine T_seq ?_
   refine T_block ?_
   refine T_seq ?_
   refine T_seq ?_
   refine T_regionD mixed (by kernel_rfl) ?_
   refine pq tb 2 rfl ?_
   refine TQ_pure rfl (pur_ixT (T := tRelation) sl45 rfl rfl rfl hx_i_1 rfl) rfl ?_
   refine pq tb 1 rfl ?_
   refine TQ_pure rfl (pur_ldT (T := tRelation) (i := i_1) (off := 0) rfl one9 rfl rfl hx_i_1 rfl) rfl ?_
   obtain ⟨r_3, h_4, H⟩ := bind_inv H
   refine pq tb 1 rfl ?_
   refine TQ_callV rfl (call_static ent147 rfl) (m_laws_markText_ok u _ _ h_4) rfl rfl ?_
   refine TQ_pure rfl (pur_neqS rfl rfl rfl) rfl ?_
   refine TQ_nil ?_
   refine T_cond (t := decide (x_i_1.name ≠ r_3)) rfl (fun c_5 => ?_) (fun c_5 => ?_)
   ·replace H := cond_t c_5 H
    refine sr ?_
    refine pv tb 1 rfl ?_
    refine TO_nil ?_
    refine te [(4, (intA (-1)))] rfl ?_
    refine T_ret ?_
    refine then_ret ?_
    refine block_ret ?_
    refine then_ret ?_
    refine then_ret ?_
    refine block_ret ?_
    refine then_ret ?_
    obtain rfl := some_inj H
    obtain rfl := some_inj K2_
    replace H := onS_r N2_
    obtain rfl := some_inj H
    refine end_ret (.tmp .nil) rfl rfl ⟨?_, rfl⟩
    rfl
   ·replace H := cond_f c_5 H
    refine T_skip ?_
    refine sr ?_
    refine pv tb 3 rfl ?_
    refine TO_nil ?_
    refine T_seq ?_
    refine sr ?_
    refine pv tb 2 rfl ?_
    refine Tp rfl rfl (pur_ixT (T := tRelation) sl45 rfl rfl rfl hx_i_1 rfl) rfl ?_
    refine pv tb 1 rfl ?_
    refine Tp rfl rfl (pur_ldT (T := tRelation) (i := i_1) (off := 1) rfl one3 rfl rfl hx_i_1 rfl) rfl ?_
    refine pv tb 2 rfl ?_
    refine TO_nil ?_
    refine te [(0, (sl tRelation a0)), (1, (intA (w64 (k1 + 1)))), (5, (intA (i_1 : Int))), (28, (boolA (decide (x_i_1.arity ≠ (w64 (k1 + 1))))))] rfl ?_
    refine T_cond (t := decide (x_i_1.arity ≠ (w64 (k1 + 1)))) rfl (fun c_6 => ?_) (fun c_6 => ?_)
    ·replace H := cond_t c_6 H
     refine sr ?_
     refine pv tb 1 rfl ?_
     refine TO_nil ?_
     refine T_ret ?_
     refine then_ret ?_
     refine block_ret ?_
     refine then_ret ?_
     refine then_ret ?_
     refine block_ret ?_
     refine then_ret ?_
     obtain rfl := some_inj H
     obtain rfl := some_inj K2_
     replace H := onS_r N2_
     obtain rfl := some_inj H
     refine end_ret (.tmp .nil) rfl rfl ⟨?_, rfl⟩
     rfl
    ·replace H := cond_f c_6 H
     refine T_skip ?_
     refine sr ?_
     refine pv tb 3 rfl ?_
     refine TO_nil ?_
     refine T_seq ?_
     refine sr ?_
     refine pv tb 2 rfl ?_
     refine Tp rfl rfl (pur_ixT (T := tRelation) sl45 rfl rfl rfl hx_i_1 rfl) rfl ?_
     refine pv tb 1 rfl ?_
     refine Tp rfl rfl (pur_ldT (T := tRelation) (i := i_1) (off := 2) rfl one3 rfl rfl hx_i_1 rfl) rfl ?_
     refine pv tb 2 rfl ?_
     refine TO_nil ?_
     refine T_cond (t := decide (x_i_1.keyLength ≠ (w64 ((w64 (k1 + 1)) + 1)))) rfl (fun c_7 => ?_) (fun c_7 => ?_)
     ·replace H := cond_t c_7 H
      refine sr ?_
      refine pv tb 1 rfl ?_
      refine TO_nil ?_
      refine T_ret ?_
      refine then_ret ?_
      refine block_ret ?_
      refine then_ret ?_
      refine then_ret ?_
      refine block_ret ?_
      refine then_ret ?_
      obtain rfl := some_inj H
      obtain rfl := some_inj K2_
      replace H := onS_r N2_
      obtain rfl := some_inj H
      refine end_ret (.tmp .nil) rfl rfl ⟨?_, rfl⟩
      rfl
     ·replace H := cond_f c_7 H
      refine T_skip ?_
      refine T_region ?_
      refine pv tb 3 rfl ?_
      refine TO_nil ?_
      refine T_region ?_
      refine pv tb 1 rfl ?_
      refine Tp rfl rfl (pur_add rfl rfl rfl (fits64 (by omega) (by omega))) rfl ?_
      refine pv tb 1 rfl ?_
      refine TO_nil ?_
      obtain rfl := some_inj H
      exact again (a0.length - (i_1 + 1)) (i_1 + 1, (w64 ((w64 ((w64 (k1 + 1)) + 1)) + 1))) (by omega) (w0 0) ⟨rfl, K2_⟩
  ·replace d2 := of_decide_eq_false d2
   obtain rfl := forL_end L2_ (by omega)
   refine T_exit ?_
   refine then_exit ?_
   refine then_exit ?_
   refine block_exit ?_
   replace H := onS_l N2_
   refine sr ?_
   refine pv tb 2 rfl ?_
   refine TO_nil ?_
   refine T_ret ?_
   obtain rfl := some_inj H
   refine end_ret (.tmp .nil) rfl rfl ⟨?_, rfl⟩
   rfl

set_option maxHeartbeats 1000000 in
theorem m_laws_heldIntS_ok (a0 : (List Int)) (k1 : Int) (r : Int) (H : m_laws_heldIntS a0 k1 = some r) : FnV prg 31 [(sl tInt a0), (intA k1)] (intA r) := by
  unfold m_laws_heldIntS at H
  refine fnV_of_T Try.func31 rfl rfl (Nat.le_of_ble_eq_true rfl) ?_
  refine te [(0, (sl tInt a0)), (1, (intA k1))] rfl ?_
  refine sr ?_
  refine pv tb 1 rfl ?_
  refine TO_nil ?_
  refine T_seq ?_
  refine sr ?_
  refine pv tb 1 rfl ?_
  refine TO_nil ?_
  obtain ⟨O2_, L2_, N2_⟩ := bind_inv H
  clear H
  obtain ⟨B2_, hb2, L2_⟩ := gen_forL L2_
  refine T_block ?_
  refine T_loopX (fun k => fun (⟨i_1, k1⟩ : Nat × Int) => k = a0.length - i_1 ∧ forL B2_ (a0.drop i_1) (i_1 : Int) k1 = some O2_) (fun (⟨i_1, k1⟩ : Nat × Int) => [(0, (sl tInt a0)), (1, (intA k1)), (5, (intA (i_1 : Int)))]) (fun (⟨i_1, k1⟩ : Nat × Int) => []) _ (0, k1) (w0 0) ⟨rfl, L2_⟩ ?_
  rintro _ ⟨i_1, k1⟩ ⟨rfl, L2_⟩
  refine T_fact (len_sl (T := tInt) (.tmp 0) rfl) (fun hl2 => ?_)
  refine T_seq ?_
  refine sr ?_
  refine pv tb 2 rfl ?_
  refine Tp rfl rfl (pur_lenT (T := tInt) sl23 rfl rfl) rfl ?_
  refine pv tb 1 rfl ?_
  refine TO_nil ?_
  refine T_cond (t := decide ((i_1 : Int) < (a0.length : Int))) rfl (fun d2 => ?_) (fun d2 => ?_)
  ·replace d2 := of_decide_eq_true d2
   obtain ⟨x_i_1, hx_i_1⟩ : ∃ v, (a0)[i_1]? = some v := ⟨_, List.getElem?_eq_getElem (by omega)⟩
   obtain ⟨C2_, H, K2_⟩ := forL_step L2_ hx_i_1
   rw [hb2] at H
   refine T_skip ?_
   refine T_seq ?_
   refine T_block ?_
   refine T_seq ?_
   refine sr ?_
   refine pv tb 2 rfl ?_
   refine Tp rfl rfl (pur_ixT (T := tInt) sl23 rfl rfl rfl hx_i_1 rfl) rfl ?_
   refine Tp rfl rfl (pur_ldT (T := tInt) (i := i_1) (off := 0) rfl one3 rfl rfl hx_i_1 rfl) rfl ?_
   refine pv tb 2 rfl ?_
   refine TO_nil ?_
   refine T_cond (t := decide (x_i_1 ≠ k1)) rfl (fun c_3 => ?_) (fun c_3 => ?_)
   ·replace H := cond_t c_3 H
    refine sr ?_
    refine pv tb 1 rfl ?_
    refine TO_nil ?_
    refine T_ret ?_
    refine then_ret ?_
    refine block_ret ?_
    refine then_ret ?_
    refine then_ret ?_
    refine block_ret ?_
    refine then_ret ?_
    obtain rfl := some_inj H
    obtain rfl := some_inj K2_
    replace H := onS_r N2_
    obtain rfl := some_inj H
    refine end_ret (.tmp .nil) rfl rfl ⟨?_, rfl⟩
    rfl
   ·replace H := cond_f c_3 H
    refine T_skip ?_
    refine T_region ?_
    refine pv tb 3 rfl ?_
    refine TO_nil ?_
    refine T_region ?_
    refine pv tb 1 rfl ?_
    refine Tp rfl rfl (pur_add rfl rfl rfl (fits64 (by omega) (by omega))) rfl ?_
    refine pv tb 1 rfl ?_
    refine TO_nil ?_
    obtain rfl := some_inj H
    exact again (a0.length - (i_1 + 1)) (i_1 + 1, (w64 (k1 + 1))) (by omega) (w0 0) ⟨rfl, K2_⟩
  ·replace d2 := of_decide_eq_false d2
   obtain rfl := forL_end L2_ (by omega)
   refine T_exit ?_
   refine then_exit ?_
   refine then_exit ?_
   refine block_exit ?_
   replace H := onS_l N2_
   refine sr ?_
   refine pv tb 2 rfl ?_
   refine TO_nil ?_
   refine T_ret ?_
   obtain rfl := some_inj H
   refine end_ret (.tmp .nil) rfl rfl ⟨?_, rfl⟩
   rfl

set_option maxHeartbeats 1000000 in
theorem m_laws_heldFactS_ok (a0 : (List Fact)) (k1 : Int) (r : Int) (H : m_laws_heldFactS a0 k1 = some r) : FnV prg 126 [(sl tFact a0), (intA k1)] (intA r) := by
  unfold m_laws_heldFactS at H
  refine fnV_of_T Try.func126 rfl rfl (Nat.le_of_ble_eq_true rfl) ?_
  refine te [(0, (sl tFact a0)), (1, (intA k1))] rfl ?_
  refine sr ?_
  refine pv tb 1 rfl ?_
  refine TO_nil ?_
  refine T_seq ?_
  refine sr ?_
  refine pv tb 1 rfl ?_
  refine TO_nil ?_
  obtain ⟨O2_, L2_, N2_⟩ := bind_inv H
  clear H
  obtain ⟨B2_, hb2, L2_⟩ := gen_forL L2_
  refine T_block ?_
  refine T_loopX (fun k => fun (⟨i_1, k1⟩ : Nat × Int) => k = a0.length - i_1 ∧ forL B2_ (a0.drop i_1) (i_1 : Int) k1 = some O2_) (fun (⟨i_1, k1⟩ : Nat × Int) => [(0, (sl tFact a0)), (1, (intA k1)), (5, (intA (i_1 : Int)))]) (fun (⟨i_1, k1⟩ : Nat × Int) => []) _ (0, k1) (w0 0) ⟨rfl, L2_⟩ ?_
  rintro _ ⟨i_1, k1⟩ ⟨rfl, L2_⟩
  refine T_fact (len_sl (T := tFact) (.tmp 0) rfl) (fun hl2 => ?_)
  refine T_seq ?_
  refine sr ?_
  refine pv tb 2 rfl ?_
  refine Tp rfl rfl (pur_lenT (T := tFact) sl46 rfl rfl) rfl ?_
  refine pv tb 1 rfl ?_
  refine TO_nil ?_
  refine T_cond (t := decide ((i_1 : Int) < (a0.length : Int))) rfl (fun d2 => ?_) (fun d2 => ?_)
  ·replace d2 := of_decide_eq_true d2
   obtain ⟨x_i_1, hx_i_1⟩ : ∃ v, (a0)[i_1]? = some v := ⟨_, List.getElem?_eq_getElem (by omega)⟩
   obtain ⟨C2_, H, K2_⟩ := forL_step L2_ hx_i_1
   rw [hb2] at H
   refine T_skip ?_
   refine T_seq ?_
   refine T_block ?_
   refine T_seq ?_
   refine sr ?_
   refine pv tb 2 rfl ?_
   refine Tp rfl rfl (pur_ixT (T := tFact) sl46 rfl rfl rfl hx_i_1 rfl) rfl ?_
   refine pv tb 1 rfl ?_
   refine Tp rfl rfl (pur_ldT (T := tFact) (i := i_1) (off := 0) rfl one3 rfl rfl hx_i_1 rfl) rfl ?_
   refine pv tb 2 rfl ?_
   refine TO_nil ?_
   refine T_cond (t := decide (x_i_1.relation ≠ k1)) rfl (fun c_3 => ?_) (fun c_3 => ?_)
   ·replace H := cond_t c_3 H
    refine sr ?_
    refine pv tb 1 rfl ?_
    refine TO_nil ?_
    refine T_ret ?_
    refine then_ret ?_
    refine block_ret ?_
    refine then_ret ?_
    refine then_ret ?_
    refine block_ret ?_
    refine then_ret ?_
    obtain rfl := some_inj H
    obtain rfl := some_inj K2_
    replace H := onS_r N2_
    obtain rfl := some_inj H
    refine end_ret (.tmp .nil) rfl rfl ⟨?_, rfl⟩
    rfl
   ·replace H := cond_f c_3 H
    refine T_skip ?_
    refine sr ?_
    refine pv tb 3 rfl ?_
    refine TO_nil ?_
    refine sr ?_
    refine pv tb 2 rfl ?_
    refine Tp rfl rfl (pur_ixT (T := tFact) sl46 rfl rfl rfl hx_i_1 rfl) rfl ?_
    refine pv tb 1 rfl ?_
    refine Tp rfl rfl (pur_ldT (T := tFact) (i := i_1) (off := 1) rfl one23 rfl rfl hx_i_1 rfl) rfl ?_
    obtain ⟨r_4, h_5, H⟩ := bind_inv H
    refine pv tb 1 rfl ?_
    refine TO_cons rfl (TOp_callV (call_static ent31 rfl) (m_laws_heldIntS_ok _ _ _ h_5) rfl rfl rfl ?_)
    refine pv tb 1 rfl ?_
    refine TO_nil ?_
    refine te [(0, (sl tFact a0)), (1, (intA r_4)), (5, (intA (i_1 : Int)))] rfl ?_
    refine sr ?_
    refine pv tb 2 rfl ?_
    refine TO_nil ?_
    refine T_cond (t := decide (r_4 < 0)) rfl (fun c_6 => ?_) (fun c_6 => ?_)
    ·replace H := cond_t c_6 H
     refine sr ?_
     refine pv tb 1 rfl ?_
     refine TO_nil ?_
     refine T_ret ?_
     refine block_ret ?_
     refine then_ret ?_
     refine then_ret ?_
     refine block_ret ?_
     refine then_ret ?_
     obtain rfl := some_inj H
     obtain rfl := some_inj K2_
     replace H := onS_r N2_
     obtain rfl := some_inj H
     refine end_ret (.tmp .nil) rfl rfl ⟨?_, rfl⟩
     rfl
    ·replace H := cond_f c_6 H
     refine T_skip ?_
     refine T_region ?_
     refine pv tb 1 rfl ?_
     refine Tp rfl rfl (pur_add rfl rfl rfl (fits64 (by omega) (by omega))) rfl ?_
     refine pv tb 1 rfl ?_
     refine TO_nil ?_
     obtain rfl := some_inj H
     exact again (a0.length - (i_1 + 1)) (i_1 + 1, r_4) (by omega) (w0 0) ⟨rfl, K2_⟩
  ·replace d2 := of_decide_eq_false d2
   obtain rfl := forL_end L2_ (by omega)
   refine T_exit ?_
   refine then_exit ?_
   refine then_exit ?_
   refine block_exit ?_
   replace H := onS_l N2_
   refine sr ?_
   refine pv tb 2 rfl ?_
   refine TO_nil ?_
   refine T_ret ?_
   obtain rfl := some_inj H
   refine end_ret (.tmp .nil) rfl rfl ⟨?_, rfl⟩
   rfl

set_option maxHeartbeats 1000000 in
theorem m_laws_heldDatabase_ok (u : Nat) (a0 : Database) (k1 : Int) (r : Int) (H : m_laws_heldDatabase u a0 k1 = some r) : FnV prg 58 [(.g (tDatabase.enc a0)), (intA k1)] (intA r) := by
  unfold m_laws_heldDatabase at H
  refine fnV_of_T Try.func58 rfl rfl (Nat.le_of_ble_eq_true rfl) ?_
  refine te [(0, (.g (tDatabase.enc a0))), (1, (intA k1))] rfl ?_
  refine sr ?_
  refine TO_cons rfl (TOp_box rfl (boxAll rfl) rfl rfl ?_)
  refine pv tb 1 rfl ?_
  refine TO_nil ?_
  refine sr ?_
  obtain ⟨r_1, h_2, H⟩ := bind_inv H
  refine pv tb 3 rfl ?_
  refine TO_cons rfl (TOp_callV (call_static ent125 rfl) (m_laws_heldRelationS_ok u _ _ _ h_2) rfl rfl rfl ?_)
  refine pv tb 1 rfl ?_
  refine TO_nil ?_
  refine T_seq ?_
  refine sr ?_
  refine pv tb 2 rfl ?_
  refine TO_nil ?_
  refine T_cond (t := decide (r_1 < 0)) rfl (fun c_3 => ?_) (fun c_3 => ?_)
  ·replace H := cond_t c_3 H
   refine sr ?_
   refine pv tb 1 rfl ?_
   refine TO_nil ?_
   refine T_ret ?_
   refine then_ret ?_
   obtain rfl := some_inj H
   refine end_ret (.tmp .nil) rfl rfl ⟨?_, rfl⟩
   rfl
  ·replace H := cond_f c_3 H
   refine T_skip ?_
   refine sr ?_
   obtain ⟨r_4, h_5, H⟩ := bind_inv H
   refine pv tb 3 rfl ?_
   refine TO_cons rfl (TOp_callV (call_static ent126 rfl) (m_laws_heldFactS_ok _ _ _ h_5) rfl rfl rfl ?_)
   refine pv tb 1 rfl ?_
   refine TO_nil ?_
   refine T_seq ?_
   refine sr ?_
   refine pv tb 2 rfl ?_
   refine TO_nil ?_
   refine T_cond (t := decide (r_4 < 0)) rfl (fun c_6 => ?_) (fun c_6 => ?_)
   ·replace H := cond_t c_6 H
    refine sr ?_
    refine pv tb 1 rfl ?_
    refine TO_nil ?_
    refine te [(4, (intA (-1)))] rfl ?_
    refine T_ret ?_
    refine then_ret ?_
    obtain rfl := some_inj H
    refine end_ret (.tmp .nil) rfl rfl ⟨?_, rfl⟩
    rfl
   ·replace H := cond_f c_6 H
    refine T_skip ?_
    refine te [(1, (intA r_4))] rfl ?_
    refine sr ?_
    refine pv tb 2 rfl ?_
    refine TO_nil ?_
    refine T_ret ?_
    obtain rfl := some_inj H
    refine end_ret (.tmp .nil) rfl rfl ⟨?_, rfl⟩
    rfl

set_option maxHeartbeats 1000000 in
theorem m_slices_IndexFunc_Simpl_Fact_impl_Fact_ok (s0 : (List Fact)) (f1 : (Fact → Option Bool)) (f1_g : Nat) (f1_c : List A) (f1_E : EnT prg f1_g) (f1_l : looseL f1_c = true) (f1_m : firmL f1_c = true ∧ fzL f1_c = f1_c) (f1_H : ∀ (x0 : Fact) r, f1 x0 = some r → FnV prg f1_g ([(.g (tFact.enc x0))] ++ f1_c) (boolA r)) (r : Int) (H : m_slices_IndexFunc_Simpl_Fact_impl_Fact s0 f1 = some r) : FnV prg 158 [(sl tFact s0), (.f f1_g f1_c)] (intA r) := by
  unfold m_slices_IndexFunc_Simpl_Fact_impl_Fact at H
  refine fnV_of_T Try.func158 rfl rfl (Nat.le_of_ble_eq_true rfl) ?_
  refine te [(0, (sl tFact s0)), (1, (.f f1_g f1_c))] rfl ?_
  refine sr ?_
  refine pv tb 1 rfl ?_
  refine TO_nil ?_
  refine T_seq ?_
  refine sr ?_
  refine pv tb 1 rfl ?_
  refine Tp rfl rfl (pur_lenT (T := tFact) sl46 rfl rfl) rfl ?_
  refine pv tb 1 rfl ?_
  refine TO_nil ?_
  obtain ⟨O2_, L2_, N2_⟩ := bind_inv H
  clear H
  obtain ⟨B2_, hb2, L2_⟩ := gen_forL L2_
  refine T_block ?_
  refine T_loopX (fun k => fun (t_1 : Nat) => k = s0.length - t_1 ∧ forL B2_ (s0.drop t_1) (t_1 : Int) () = some O2_) (fun (t_1 : Nat) => [(0, (sl tFact s0)), (1, (.f f1_g f1_c)), (7, (intA (s0.length : Int))), (8, (intA (t_1 : Int)))]) (fun (t_1 : Nat) => []) _ (0 : Nat) (wp 0 (lb rfl) rfl rfl (by simp only [namesE, A.names, namesL_enc, Bool.false_or, Bool.or_false, looseL_names f1_l]) rfl rfl) ⟨rfl, L2_⟩ ?_
  rintro _ t_1 ⟨rfl, L2_⟩
  refine T_fact (len_sl (T := tFact) (.tmp 0) rfl) (fun hl2 => ?_)
  refine sr ?_
  refine pv tb 1 rfl ?_
  refine TO_nil ?_
  refine T_seq ?_
  refine T_cond (t := decide ((t_1 : Int) < (s0.length : Int))) rfl (fun d2 => ?_) (fun d2 => ?_)
  ·replace d2 := of_decide_eq_true d2
   obtain ⟨x_t_1, hx_t_1⟩ : ∃ v, (s0)[t_1]? = some v := ⟨_, List.getElem?_eq_getElem (by omega)⟩
   obtain ⟨C2_, H, K2_⟩ := forL_step L2_ hx_t_1
   rw [hb2] at H
   refine T_skip ?_
   refine T_seq ?_
   refine T_block ?_
   refine sr ?_
   refine pv tb 2 rfl ?_
   refine TO_nil ?_
   refine sr ?_
   refine pv tb 3 rfl ?_
   refine Tp rfl rfl (pur_ixT (T := tFact) sl46 rfl rfl rfl hx_t_1 rfl) rfl ?_
   refine Tp rfl rfl (pur_ldTK (T := tFact) (i := t_1) (off := 0) rfl agg65 rfl rfl hx_t_1 (by decide) rfl) rfl ?_
   obtain ⟨r_3, h_4, H⟩ := bind_inv H
   refine TO_cons rfl (TOp_callV (call_closure f1_E rfl rfl) (f1_H _  _ h_4) (looseL_app rfl f1_l) rfl rfl ?_)
   refine TO_nil ?_
   refine T_cond (t := r_3) rfl (fun c_5 => ?_) (fun c_5 => ?_)
   ·replace H := cond_t c_5 H
    refine sr ?_
    refine pv tb 2 rfl ?_
    refine TO_nil ?_
    refine T_ret ?_
    refine block_ret ?_
    refine then_ret ?_
    refine then_ret ?_
    refine block_ret ?_
    refine then_ret ?_
    obtain rfl := some_inj H
    obtain rfl := some_inj K2_
    replace H := onS_r N2_
    obtain rfl := some_inj H
    refine end_ret (.tmp .nil) rfl rfl ⟨?_, rfl⟩
    rfl
   ·replace H := cond_f c_5 H
    refine T_skip ?_
    refine T_region ?_
    refine Tp rfl rfl (pur_add rfl rfl rfl (fits64 (by omega) (by omega))) rfl ?_
    refine pv tb 1 rfl ?_
    refine TO_nil ?_
    obtain rfl := some_inj H
    exact again (s0.length - (t_1 + 1)) (t_1 + 1) (by omega) (wp 0 (lb rfl) rfl rfl (by simp only [namesE, A.names, namesL_enc, Bool.false_or, Bool.or_false, looseL_names f1_l]) rfl rfl) ⟨rfl, K2_⟩
  ·replace d2 := of_decide_eq_false d2
   obtain rfl := forL_end L2_ (by omega)
   refine T_exit ?_
   refine then_exit ?_
   refine then_exit ?_
   refine block_exit ?_
   replace H := onS_l N2_
   refine sr ?_
   refine pv tb 1 rfl ?_
   refine TO_nil ?_
   refine T_ret ?_
   obtain rfl := some_inj H
   refine end_ret (.tmp .nil) rfl rfl ⟨?_, rfl⟩
   rfl

set_option maxHeartbeats 1000000 in
theorem m_impl_compare_ok (a0 : Int) (b1 : Int) (r : Int) (H : m_impl_compare a0 b1 = some r) : FnV prg 175 [(intA a0), (intA b1)] (intA r) := by
  unfold m_impl_compare at H
  refine fnV_of_T Try.func175 rfl rfl (Nat.le_of_ble_eq_true rfl) ?_
  refine te [(0, (intA a0)), (1, (intA b1))] rfl ?_
  refine sr ?_
  refine pv tb 1 rfl ?_
  refine TO_nil ?_
  refine T_seq ?_
  refine T_block ?_
  refine sr ?_
  refine pv tb 4 rfl ?_
  refine TO_nil ?_
  refine T_cond (t := decide (a0 < b1)) rfl (fun c_1 => ?_) (fun c_1 => ?_)
  ·replace H := cond_t c_1 H
   refine sr ?_
   refine pv tb 1 rfl ?_
   refine TO_nil ?_
   refine T_ret ?_
   refine block_ret ?_
   refine then_ret ?_
   obtain rfl := some_inj H
   refine end_ret (.tmp .nil) rfl rfl ⟨?_, rfl⟩
   rfl
  ·replace H := cond_f c_1 H
   refine sr ?_
   refine pv tb 4 rfl ?_
   refine TO_nil ?_
   refine T_cond (t := decide (b1 < a0)) rfl (fun c_2 => ?_) (fun c_2 => ?_)
   ·replace H := cond_t c_2 H
    refine sr ?_
    refine pv tb 1 rfl ?_
    refine TO_nil ?_
    refine T_ret ?_
    refine block_ret ?_
    refine then_ret ?_
    obtain rfl := some_inj H
    refine end_ret (.tmp .nil) rfl rfl ⟨?_, rfl⟩
    rfl
   ·replace H := cond_f c_2 H
    refine T_skip ?_
    refine sr ?_
    refine pv tb 1 rfl ?_
    refine TO_nil ?_
    refine T_ret ?_
    obtain rfl := some_inj H
    refine end_ret (.tmp .nil) rfl rfl ⟨?_, rfl⟩
    rfl

set_option maxHeartbeats 1000000 in
theorem m_cmp_isNaN_int_ok (x0 : Int) (r : Bool) (H : m_cmp_isNaN_int x0 = some r) : FnV prg 191 [(intA x0)] (boolA r) := by
  unfold m_cmp_isNaN_int at H
  refine fnV_of_T Try.func191 rfl rfl (Nat.le_of_ble_eq_true rfl) ?_
  refine te [(0, (intA x0))] rfl ?_
  refine sr ?_
  refine pv tb 1 rfl ?_
  refine TO_nil ?_
  refine sr ?_
  refine pv tb 4 rfl ?_
  refine TO_nil ?_
  refine T_ret ?_
  obtain rfl := some_inj H
  refine end_ret (.tmp .nil) rfl rfl ⟨?_, rfl⟩
  rfl

set_option maxHeartbeats 1000000 in
theorem m_cmp_Compare_int_ok (x0 : Int) (y1 : Int) (r : Int) (H : m_cmp_Compare_int x0 y1 = some r) : FnV prg 187 [(intA x0), (intA y1)] (intA r) := by
  unfold m_cmp_Compare_int at H
  refine fnV_of_T Try.func187 rfl rfl (Nat.le_of_ble_eq_true rfl) ?_
  refine te [(0, (intA x0)), (1, (intA y1))] rfl ?_
  refine sr ?_
  refine pv tb 1 rfl ?_
  refine TO_nil ?_
  refine sr ?_
  obtain ⟨r_1, h_2, H⟩ := bind_inv H
  refine pv tb 1 rfl ?_
  refine TO_cons rfl (TOp_callV (call_static ent191 rfl) (m_cmp_isNaN_int_ok _ _ h_2) rfl rfl rfl ?_)
  refine pv tb 1 rfl ?_
  refine TO_nil ?_
  refine sr ?_
  obtain ⟨r_3, h_4, H⟩ := bind_inv H
  refine pv tb 1 rfl ?_
  refine TO_cons rfl (TOp_callV (call_static ent191 rfl) (m_cmp_isNaN_int_ok _ _ h_4) rfl rfl rfl ?_)
  refine pv tb 1 rfl ?_
  refine TO_nil ?_
  refine T_seq ?_
  refine sr ?_
  refine pv tb 1 rfl ?_
  refine TO_nil ?_
  refine T_cond (t := r_1) rfl (fun c_5 => ?_) (fun c_5 => ?_)
  ·replace H := cond_t c_5 H
   refine T_seq ?_
   refine sr ?_
   refine pv tb 1 rfl ?_
   refine TO_nil ?_
   refine T_cond (t := r_3) rfl (fun c_6 => ?_) (fun c_6 => ?_)
   ·replace H := cond_t c_6 H
    refine sr ?_
    refine pv tb 1 rfl ?_
    refine TO_nil ?_
    refine T_ret ?_
    refine then_ret ?_
    refine then_ret ?_
    obtain rfl := some_inj H
    refine end_ret (.tmp .nil) rfl rfl ⟨?_, rfl⟩
    rfl
   ·replace H := cond_f c_6 H
    refine T_skip ?_
    refine sr ?_
    refine pv tb 1 rfl ?_
    refine TO_nil ?_
    refine T_ret ?_
    refine then_ret ?_
    obtain rfl := some_inj H
    refine end_ret (.tmp .nil) rfl rfl ⟨?_, rfl⟩
    rfl
  ·replace H := cond_f c_5 H
   refine T_skip ?_
   refine T_seq ?_
   refine sr ?_
   refine pv tb 1 rfl ?_
   refine TO_nil ?_
   refine T_cond (t := r_3) rfl (fun c_7 => ?_) (fun c_7 => ?_)
   ·replace H := cond_t c_7 H
    refine sr ?_
    refine pv tb 1 rfl ?_
    refine TO_nil ?_
    refine T_ret ?_
    refine then_ret ?_
    obtain rfl := some_inj H
    refine end_ret (.tmp .nil) rfl rfl ⟨?_, rfl⟩
    rfl
   ·replace H := cond_f c_7 H
    refine T_skip ?_
    refine T_seq ?_
    refine sr ?_
    refine pv tb 3 rfl ?_
    refine TO_nil ?_
    refine T_cond (t := decide (x0 < y1)) rfl (fun c_8 => ?_) (fun c_8 => ?_)
    ·replace H := cond_t c_8 H
     refine sr ?_
     refine pv tb 1 rfl ?_
     refine TO_nil ?_
     refine T_ret ?_
     refine then_ret ?_
     obtain rfl := some_inj H
     refine end_ret (.tmp .nil) rfl rfl ⟨?_, rfl⟩
     rfl
    ·replace H := cond_f c_8 H
     refine T_skip ?_
     refine T_seq ?_
     refine sr ?_
     refine pv tb 3 rfl ?_
     refine TO_nil ?_
     refine te [(19, (boolA (decide (y1 < x0))))] rfl ?_
     refine T_cond (t := decide (y1 < x0)) rfl (fun c_9 => ?_) (fun c_9 => ?_)
     ·replace H := cond_t c_9 H
      refine sr ?_
      refine pv tb 1 rfl ?_
      refine TO_nil ?_
      refine T_ret ?_
      refine then_ret ?_
      obtain rfl := some_inj H
      refine end_ret (.tmp .nil) rfl rfl ⟨?_, rfl⟩
      rfl
     ·replace H := cond_f c_9 H
      refine T_skip ?_
      refine sr ?_
      refine pv tb 1 rfl ?_
      refine TO_nil ?_
      refine T_ret ?_
      obtain rfl := some_inj H
      refine end_ret (.tmp .nil) rfl rfl ⟨?_, rfl⟩
      rfl

set_option maxHeartbeats 1000000 in
theorem m_slices_Compare_Sint_int_ok (s10 : (List Int)) (s21 : (List Int)) (r : Int) (H : m_slices_Compare_Sint_int s10 s21 = some r) : FnV prg 176 [(sl tInt s10), (sl tInt s21)] (intA r) := by
  unfold m_slices_Compare_Sint_int at H
  refine fnV_of_T Try.func176 rfl rfl (Nat.le_of_ble_eq_true rfl) ?_
  refine te [(0, (sl tInt s10)), (1, (sl tInt s21))] rfl ?_
  refine sr ?_
  refine pv tb 1 rfl ?_
  refine TO_nil ?_
  refine T_seq ?_
  refine sr ?_
  refine pv tb 1 rfl ?_
  refine Tp rfl rfl (pur_lenT (T := tInt) sl23 rfl rfl) rfl ?_
  refine pv tb 1 rfl ?_
  refine TO_nil ?_
  obtain ⟨O2_, L2_, N2_⟩ := bind_inv H
  clear H
  obtain ⟨B2_, hb2, L2_⟩ := gen_forL L2_
  refine T_block ?_
  refine T_loopX (fun k => fun (t_1 : Nat) => k = s10.length - t_1 ∧ forL B2_ (s10.drop t_1) (t_1 : Int) () = some O2_) (fun (t_1 : Nat) => [(0, (sl tInt s10)), (1, (sl tInt s21)), (9, (sl tInt s10)), (10, (intA (s10.length : Int))), (11, (intA (t_1 : Int)))]) (fun (t_1 : Nat) => []) _ (0 : Nat) (w0 0) ⟨rfl, L2_⟩ ?_
  rintro _ t_1 ⟨rfl, L2_⟩
  refine T_fact (len_sl (T := tInt) (.tmp 0) rfl) (fun hl2 => ?_)
  refine sr ?_
  refine pv tb 1 rfl ?_
  refine TO_nil ?_
  refine T_seq ?_
  refine T_cond (t := decide ((t_1 : Int) < (s10.length : Int))) rfl (fun d2 => ?_) (fun d2 => ?_)
  ·replace d2 := of_decide_eq_true d2
   obtain ⟨x_t_1, hx_t_1⟩ : ∃ v, (s10)[t_1]? = some v := ⟨_, List.getElem?_eq_getElem (by omega)⟩
   obtain ⟨C2_, H, K2_⟩ := forL_step L2_ hx_t_1
   rw [hb2] at H
   refine T_skip ?_
   refine T_seq ?_
   refine T_block ?_
   refine sr ?_
   refine pv tb 1 rfl ?_
   refine Tp rfl rfl (pur_ixT (T := tInt) sl23 rfl rfl rfl hx_t_1 rfl) rfl ?_
   refine Tp rfl rfl (pur_ldT (T := tInt) (i := t_1) (off := 0) rfl one3 rfl rfl hx_t_1 rfl) rfl ?_
   refine pv tb 2 rfl ?_
   refine TO_nil ?_
   refine T_seq ?_
   refine sr ?_
   refine pv tb 2 rfl ?_
   refine Tp rfl rfl (pur_lenT (T := tInt) sl23 rfl rfl) rfl ?_
   refine pv tb 1 rfl ?_
   refine TO_nil ?_
   refine T_cond (t := decide ((s21.length : Int) ≤ (t_1 : Int))) rfl (fun c_3 => ?_) (fun c_3 => ?_)
   ·replace H := cond_t c_3 H
    refine sr ?_
    refine pv tb 1 rfl ?_
    refine TO_nil ?_
    refine te [(4, (intA 1))] rfl ?_
    refine T_ret ?_
    refine then_ret ?_
    refine block_ret ?_
    refine then_ret ?_
    refine then_ret ?_
    refine block_ret ?_
    refine then_ret ?_
    obtain rfl := some_inj H
    obtain rfl := some_inj K2_
    replace H := onS_r N2_
    obtain rfl := some_inj H
    refine end_ret (.tmp .nil) rfl rfl ⟨?_, rfl⟩
    rfl
   ·replace H := cond_f c_3 H
    refine T_skip ?_
    refine sr ?_
    obtain ⟨v_4, h_5, H⟩ := bind_inv H
    obtain ⟨n_6, hz_7, hv_8⟩ := getI_inv h_5
    refine pv tb 2 rfl ?_
    refine Tp rfl rfl (pur_ixT (T := tInt) sl23 rfl rfl hz_7 hv_8 rfl) rfl ?_
    refine Tp rfl rfl (pur_ldT (T := tInt) (i := n_6) (off := 0) rfl one3 rfl rfl hv_8 rfl) rfl ?_
    refine pv tb 1 rfl ?_
    refine TO_nil ?_
    refine sr ?_
    obtain ⟨r_9, h_10, H⟩ := bind_inv H
    refine pv tb 2 rfl ?_
    refine TO_cons rfl (TOp_callV (call_static ent187 rfl) (m_cmp_Compare_int_ok _ _ _ h_10) rfl rfl rfl ?_)
    refine pv tb 1 rfl ?_
    refine TO_nil ?_
    refine te [(0, (sl tInt s10)), (1, (sl tInt s21)), (8, (intA r_9)), (9, (sl tInt s10)), (10, (intA (s10.length : Int))), (11, (intA (t_1 : Int)))] rfl ?_
    refine sr ?_
    refine pv tb 2 rfl ?_
    refine TO_nil ?_
    refine T_cond (t := decide (r_9 ≠ 0)) rfl (fun c_11 => ?_) (fun c_11 => ?_)
    ·replace H := cond_t c_11 H
     refine sr ?_
     refine pv tb 2 rfl ?_
     refine TO_nil ?_
     refine T_ret ?_
     refine block_ret ?_
     refine then_ret ?_
     refine then_ret ?_
     refine block_ret ?_
     refine then_ret ?_
     obtain rfl := some_inj H
     obtain rfl := some_inj K2_
     replace H := onS_r N2_
     obtain rfl := some_inj H
     refine end_ret (.tmp .nil) rfl rfl ⟨?_, rfl⟩
     rfl
    ·replace H := cond_f c_11 H
     refine T_skip ?_
     refine T_region ?_
     refine Tp rfl rfl (pur_add rfl rfl rfl (fits64 (by omega) (by omega))) rfl ?_
     refine pv tb 1 rfl ?_
     refine TO_nil ?_
     obtain rfl := some_inj H
     exact again (s10.length - (t_1 + 1)) (t_1 + 1) (by omega) (w0 0) ⟨rfl, K2_⟩
  ·replace d2 := of_decide_eq_false d2
   obtain rfl := forL_end L2_ (by omega)
   refine T_exit ?_
   refine then_exit ?_
   refine then_exit ?_
   refine block_exit ?_
   replace H := onS_l N2_
   refine T_seq ?_
   refine sr ?_
   refine pv tb 1 rfl ?_
   refine Tp rfl rfl (pur_lenT (T := tInt) sl23 rfl rfl) rfl ?_
   refine pv tb 1 rfl ?_
   refine Tp rfl rfl (pur_lenT (T := tInt) sl23 rfl rfl) rfl ?_
   refine pv tb 1 rfl ?_
   refine TO_nil ?_
   refine T_cond (t := decide ((s10.length : Int) < (s21.length : Int))) rfl (fun c_12 => ?_) (fun c_12 => ?_)
   ·replace H := cond_t c_12 H
    refine sr ?_
    refine pv tb 1 rfl ?_
    refine TO_nil ?_
    refine T_ret ?_
    refine then_ret ?_
    obtain rfl := some_inj H
    refine end_ret (.tmp .nil) rfl rfl ⟨?_, rfl⟩
    rfl
   ·replace H := cond_f c_12 H
    refine T_skip ?_
    refine sr ?_
    refine pv tb 1 rfl ?_
    refine TO_nil ?_
    refine T_ret ?_
    obtain rfl := some_inj H
    refine end_ret (.tmp .nil) rfl rfl ⟨?_, rfl⟩
    rfl

set_option maxHeartbeats 1000000 in
theorem m_impl_CompareFacts_ok (a0 : Fact) (b1 : Fact) (r : Int) (H : m_impl_CompareFacts a0 b1 = some r) : FnV prg 152 [(.g (tFact.enc a0)), (.g (tFact.enc b1))] (intA r) := by
  unfold m_impl_CompareFacts at H
  refine fnV_of_T Try.func152 rfl rfl (Nat.le_of_ble_eq_true rfl) ?_
  refine te [(0, (.g (tFact.enc a0))), (1, (.g (tFact.enc b1)))] rfl ?_
  refine sr ?_
  refine TO_cons rfl (TOp_box rfl (boxAll rfl) rfl rfl ?_)
  refine TO_cons rfl (TOp_box rfl (boxAll rfl) rfl rfl ?_)
  refine pv tb 1 rfl ?_
  refine TO_nil ?_
  refine T_seq ?_
  refine sr ?_
  refine pv tb 5 rfl ?_
  refine TO_nil ?_
  refine T_cond (t := decide (a0.relation ≠ b1.relation)) rfl (fun c_1 => ?_) (fun c_1 => ?_)
  ·replace H := cond_t c_1 H
   refine sr ?_
   obtain ⟨r_2, h_3, H⟩ := bind_inv H
   refine pv tb 4 rfl ?_
   refine TO_cons rfl (TOp_callV (call_static ent175 rfl) (m_impl_compare_ok _ _ _ h_3) rfl rfl rfl ?_)
   refine pv tb 1 rfl ?_
   refine TO_nil ?_
   refine te [(4, (intA r_2))] rfl ?_
   refine T_ret ?_
   refine then_ret ?_
   obtain rfl := some_inj H
   refine end_ret (.tmp .nil) rfl rfl ⟨?_, rfl⟩
   rfl
  ·replace H := cond_f c_1 H
   refine T_skip ?_
   refine sr ?_
   obtain ⟨r_4, h_5, H⟩ := bind_inv H
   refine pv tb 4 rfl ?_
   refine TO_cons rfl (TOp_callV (call_static ent176 rfl) (m_slices_Compare_Sint_int_ok _ _ _ h_5) rfl rfl rfl ?_)
   refine pv tb 1 rfl ?_
   refine TO_nil ?_
   refine te [(4, (intA r_4))] rfl ?_
   refine T_ret ?_
   obtain rfl := some_inj H
   refine end_ret (.tmp .nil) rfl rfl ⟨?_, rfl⟩
   rfl

set_option maxHeartbeats 1000000 in
theorem m_impl_FactIndex_1_ok (own0 : Fact) (fv1 : Fact) (r : Bool) (H : m_impl_FactIndex_1 own0 fv1 = some r) : FnV prg 159 [(.g (tFact.enc own0)), (.q [(intA fv1.relation), (sl tInt fv1.values)] 0)] (boolA r) := by
  unfold m_impl_FactIndex_1 at H
  refine fnV_of_T Try.func159 rfl rfl (Nat.le_of_ble_eq_true rfl) ?_
  refine te [(0, (.g (tFact.enc own0))), (1, (.q [(intA fv1.relation), (sl tInt fv1.values)] 0))] rfl ?_
  refine sr ?_
  refine TO_cons rfl (TOp_box rfl (boxAll rfl) rfl rfl ?_)
  refine pv tb 1 rfl ?_
  refine TO_nil ?_
  refine sr ?_
  obtain ⟨r_1, h_2, H⟩ := bind_inv H
  refine pv tb 2 rfl ?_
  refine TO_cons rfl (TOp_callV (call_static ent152 rfl) (m_impl_CompareFacts_ok _ _ _ h_2) rfl rfl rfl ?_)
  refine pv tb 2 rfl ?_
  refine TO_nil ?_
  refine T_ret ?_
  obtain rfl := some_inj H
  refine end_ret (.tmp .nil) rfl rfl ⟨?_, rfl⟩
  rfl

set_option maxHeartbeats 1000000 in
theorem m_impl_FactIndex_ok (db0 : Database) (fact1 : Fact) (r : Int) (H : m_impl_FactIndex db0 fact1 = some r) : FnV prg 106 [(.g (tDatabase.enc db0)), (.g (tFact.enc fact1))] (intA r) := by
  unfold m_impl_FactIndex at H
  refine fnV_of_T Try.func106 rfl rfl (Nat.le_of_ble_eq_true rfl) ?_
  refine te [(0, (.g (tDatabase.enc db0))), (1, (.g (tFact.enc fact1)))] rfl ?_
  refine sr ?_
  refine TO_cons rfl (TOp_box rfl (boxAll rfl) rfl rfl ?_)
  refine TO_cons rfl (TOp_box rfl (boxAll rfl) rfl rfl ?_)
  refine pv tb 1 rfl ?_
  refine TO_nil ?_
  refine sr ?_
  obtain ⟨r_1, h_2, H⟩ := bind_inv H
  refine pv tb 3 rfl ?_
  refine TO_cons rfl (TOp_callB (call_static ent158 rfl) (frz_cons (frz_loose rfl) (frz_cons (frzOK_f (frz_cons (frzOK_b (xs := [(intA fact1.relation), (sl tInt fact1.values)]) (ys := [(intA fact1.relation), (sl tInt fact1.values)]) rfl rfl rfl) frz_nil).1 (frz_cons (frzOK_b (xs := [(intA fact1.relation), (sl tInt fact1.values)]) (ys := [(intA fact1.relation), (sl tInt fact1.values)]) rfl rfl rfl) frz_nil).2) frz_nil)).1 (frz_cons (frz_loose rfl) (frz_cons (frzOK_f (frz_cons (frzOK_b (xs := [(intA fact1.relation), (sl tInt fact1.values)]) (ys := [(intA fact1.relation), (sl tInt fact1.values)]) rfl rfl rfl) frz_nil).1 (frz_cons (frzOK_b (xs := [(intA fact1.relation), (sl tInt fact1.values)]) (ys := [(intA fact1.relation), (sl tInt fact1.values)]) rfl rfl rfl) frz_nil).2) frz_nil)).2 (m_slices_IndexFunc_Simpl_Fact_impl_Fact_ok _ (fun x0 => m_impl_FactIndex_1 x0 fact1) 159 [(.q [(intA fact1.relation), (sl tInt fact1.values)] 0)] ent159 rfl ⟨rfl, rfl⟩ (fun x0 r h => m_impl_FactIndex_1_ok x0 fact1 r h) _ h_2) rfl ?_)
  refine pv tb 1 rfl ?_
  refine TO_nil ?_
  refine T_ret ?_
  obtain rfl := some_inj H
  refine end_ret (.tmp .nil) rfl rfl ⟨?_, rfl⟩
  rfl

set_option maxHeartbeats 1000000 in
theorem m_impl_within_ok (n0 : Int) (low1 : Int) (high2 : Int) (r : Bool) (H : m_impl_within n0 low1 high2 = some r) : FnV prg 140 [(intA n0), (intA low1), (intA high2)] (boolA r) := by
  unfold m_impl_within at H
  refine fnV_of_T Try.func140 rfl rfl (Nat.le_of_ble_eq_true rfl) ?_
  refine te [(0, (intA n0)), (1, (intA low1)), (2, (intA high2))] rfl ?_
  refine sr ?_
  refine pv tb 1 rfl ?_
  refine TO_nil ?_
  refine T_cutX (fun x => ((decide (low1 ≤ n0)) && (decide (n0 ≤ high2))) = x) (fun (t6_1 : Bool) => [(6, (boolA t6_1))]) (fun (t6_1 : Bool) => []) ?_ ?_
  ·skip
   refine T_region ?_
   refine pv tb 4 rfl ?_
   refine TO_split (t := decide (low1 ≤ n0)) 10 rfl (fun g_3 => ?_) (fun g_3 => ?_)
   ·skip
    refine pv tb 5 rfl ?_
    refine TO_nil ?_
    exact joined (decide (n0 ≤ high2)) (w0 0) (by first | exact Eq.symm ((and_T g_3 rfl)))
   ·skip
    refine pv tb 5 rfl ?_
    refine TO_nil ?_
    exact joined false (w0 0) (by first | exact Eq.symm ((and_F g_3 rfl)))
  ·rintro _ rfl
   refine T_ret ?_
   obtain rfl := some_inj H
   refine end_ret (.tmp .nil) rfl rfl ⟨?_, rfl⟩
   rfl

set_option maxHeartbeats 1000000 in
theorem m_impl_IsValidRelation_ok (relation0 : Relation) (r : Bool) (H : m_impl_IsValidRelation relation0 = some r) : FnV prg 182 [(.g (tRelation.enc relation0))] (boolA r) := by
  unfold m_impl_IsValidRelation at H
  refine fnV_of_T Try.func182 rfl rfl (Nat.le_of_ble_eq_true rfl) ?_
  refine te [(0, (.g (tRelation.enc relation0)))] rfl ?_
  refine sr ?_
  refine TO_cons rfl (TOp_box rfl (boxAll rfl) rfl rfl ?_)
  refine pv tb 1 rfl ?_
  refine TO_nil ?_
  obtain ⟨t2_1, J_1, H_2⟩ := bind_inv H
  refine T_cutX (fun x => t2_1 = x) (fun (t2_1 : Bool) => [(2, (boolA t2_1))]) (fun (t2_1 : Bool) => []) ?_ ?_
  ·replace H := J_1
   refine T_region ?_
   refine pv tb 2 rfl ?_
   refine Tp rfl rfl (pur_len_s (by kernel_rfl) rfl rfl) rfl ?_
   refine pv tb 2 rfl ?_
   refine TO_split (t := decide ((relation0.name.size : Int) = 1)) 7 rfl (fun g_3 => ?_) (fun g_3 => ?_)
   ·replace H := cond_t g_3 H
    obtain ⟨b_4, h_5, H⟩ := bind_inv H
    refine pv tb 2 rfl ?_
    refine TO_on rfl rfl (by decide) rfl rfl (TOp_pure (pur_ixS (by kernel_rfl) rfl rfl h_5 rfl) rfl ?_)
    refine pv tb 3 rfl ?_
    refine TO_split (t := decide (97 ≤ b_4)) 13 rfl (fun g_6 => ?_) (fun g_6 => ?_)
    ·replace H := cond_t g_6 H
     obtain ⟨b_7, h_8, H⟩ := bind_inv H
     refine pv tb 2 rfl ?_
     refine TO_on rfl rfl (by decide) rfl rfl (TOp_pure (pur_ixS (by kernel_rfl) rfl rfl h_8 rfl) rfl ?_)
     refine pv tb 3 rfl ?_
     refine TO_split (t := decide (b_7 ≤ 122)) 19 rfl (fun g_9 => ?_) (fun g_9 => ?_)
     ·replace H := cond_t g_9 H
      obtain ⟨r_10, h_11, H⟩ := bind_inv H
      refine pv tb 2 rfl ?_
      refine TO_on rfl rfl (by decide) rfl rfl (TOp_callV (call_static ent140 rfl) (m_impl_within_ok _ _ _ _ h_11) rfl rfl rfl ?_)
      refine pv tb 2 rfl ?_
      refine TO_split (t := r_10) 24 rfl (fun g_12 => ?_) (fun g_12 => ?_)
      ·replace H := cond_t g_12 H
       obtain ⟨r_13, h_14, H⟩ := bind_inv H
       refine pv tb 4 rfl ?_
       refine TO_on rfl rfl (by decide) rfl rfl (TOp_callV (call_static ent140 rfl) (m_impl_within_ok _ _ _ _ h_14) rfl rfl rfl ?_)
       refine pv tb 2 rfl ?_
       refine TO_nil ?_
       exact joined r_13 (w0 0) (some_inj H).symm
      ·replace H := cond_f g_12 H
       refine pv tb 7 rfl ?_
       refine TO_nil ?_
       exact joined false (w0 0) (some_inj H).symm
     ·replace H := cond_f g_9 H
      refine pv tb 8 rfl ?_
      refine toe [(24, (boolA false)), (26, (.v undef)), (27, (.v undef))] rfl ?_
      refine pv tb 4 rfl ?_
      refine TO_nil ?_
      exact joined false (w0 0) (some_inj H).symm
    ·replace H := cond_f g_6 H
     refine pv tb 8 rfl ?_
     refine toe [(1, (.b 0 0)), (19, (boolA false)), (21, (.v undef))] rfl ?_
     refine pv tb 10 rfl ?_
     refine TO_nil ?_
     exact joined false (w0 0) (some_inj H).symm
   ·replace H := cond_f g_3 H
    refine pv tb 16 rfl ?_
    refine toe [(1, (.b 0 0)), (23, (boolA false))] rfl ?_
    refine pv tb 8 rfl ?_
    refine TO_nil ?_
    exact joined false (w0 0) (some_inj H).symm
  ·rintro _ rfl
   replace H := H_2
   refine T_ret ?_
   obtain rfl := some_inj H
   refine end_ret (.tmp .nil) rfl rfl ⟨?_, rfl⟩
   rfl
end Go.Proofs.Ytjdpolnakhmkmaa

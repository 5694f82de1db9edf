/- Walks. -/
import Derived.Test.YtjdpolnakhmkmaaM1
import Derived.Test.YtjdpolnakhmkmaaM2
import Derived.Test.YtjdpolnakhmkmaaM3
set_option linter.unusedVariables false
set_option linter.unusedSimpArgs false
set_option maxRecDepth 4000
namespace Go.Proofs.Ytjdpolnakhmkmaa
open Go Go.Proofs Go.Sep
set_option maxHeartbeats 1000000 in
/-- impl.LargestConflicts -/
theorem m_impl_LargestConflicts_ok (db0 : Database) (r : (List Int)) (H : m_impl_LargestConflicts db0 = some r) : FnV prg 28 [(.g (tDatabase.enc db0))] (sl tInt r) := by
  unfold m_impl_LargestConflicts at H
  refine fnV_of_T Try.func28 rfl rfl (Nat.le_of_ble_eq_true rfl) ?_
  refine te [(0, (.g (tDatabase.enc db0)))] rfl ?_
  refine sr ?_
  refine TO_cons rfl (TOp_box rfl (boxAll rfl) rfl rfl ?_)
  refine Tp rfl rfl (pur_assign rfl) rfl ?_
  refine TO_nil ?_
  refine te [(1, (.b 0 0))] rfl ?_
  refine sr ?_
  refine TO_cons rfl (TOp_lit (nn := 0) (k := 1) sl23 zero3 rfl rfl rfl rfl (by decide) ?_)
  refine TO_st (σ' := [.box [(sl tRelation db0.relations), (sl tFact db0.facts)], .row (flat tInt.enc ([] : (List Int)))]) rfl ?_
  refine Tp rfl rfl (pur_assign rfl) rfl ?_
  refine TO_nil ?_
  refine te [(1, (.b 0 0)), (3, (.m [1] 0 ([] : (List Int)).length tInt.k))] rfl ?_
  refine T_seq ?_
  refine sr ?_
  refine Tp rfl rfl (pur_ldK_b agg48 rfl rfl (lb rfl) rfl) rfl ?_
  obtain ⟨r_1, h_2, H⟩ := bind_inv H
  refine TO_cons rfl (TOp_callV (call_static ent45 rfl) (m_impl_Blocks_ok _ _ h_2) rfl rfl rfl ?_)
  refine Tp rfl rfl (pur_lenT (T := (tSl tInt)) sl53 rfl rfl) rfl ?_
  refine Tp rfl rfl (pur_move rfl) rfl ?_
  refine TO_nil ?_
  refine te [(3, (.m [1] 0 ([] : (List Int)).length tInt.k)), (8, (sl (tSl tInt) r_1)), (9, (intA (r_1.length : Int))), (10, (intA 0))] rfl ?_
  refine T_frz1 1 (E' := [(3, (sl tInt ([] : (List Int)))), (8, (sl (tSl tInt) r_1)), (9, (intA (r_1.length : Int))), (10, (intA 0))]) rfl rfl (lb rfl) ⟨fz1E, (.keep rfl), (.keep rfl), (.keep rfl), trivial⟩ ?_
  refine T_st (σ' := [.box [(sl tRelation db0.relations), (sl tFact db0.facts)], .dead]) rfl ?_
  obtain ⟨O4_, L4_, N4_⟩ := bind_inv H
  clear H
  obtain ⟨B4_, hb4, L4_⟩ := gen_forS L4_
  refine T_block ?_
  refine T_loopX (fun k => fun (x_ : Nat × (List Int)) => k = r_1.length - x_.1 ∧ forS B4_ (r_1.drop x_.1) (x_.1 : Int) x_.2 = some O4_) (fun (x_ : Nat × (List Int)) => [(3, (sl tInt x_.2)), (8, (sl (tSl tInt) r_1)), (9, (intA (r_1.length : Int))), (10, (intA (x_.1 : Int)))]) (fun (x_ : Nat × (List Int)) => []) _ (0, ([] : (List Int))) (wp 0 (lb rfl) rfl rfl rfl rfl rfl) ⟨rfl, L4_⟩ ?_
  rintro _ ⟨t_3, out3⟩ ⟨rfl, L4_⟩
  refine te [(3, (sl tInt out3)), (8, (sl (tSl tInt) r_1)), (9, (intA (r_1.length : Int))), (10, (intA (t_3 : Int)))] rfl ?_
  refine T_st (σ' := []) rfl ?_
  refine T_fact (len_sl (T := (tSl tInt)) (.tmp 8) rfl) (fun hl4 => ?_)
  refine sr ?_
  refine Tp rfl rfl (pur_lss rfl rfl rfl) rfl ?_
  refine TO_nil ?_
  refine te [(3, (sl tInt out3)), (8, (sl (tSl tInt) r_1)), (9, (intA (r_1.length : Int))), (10, (intA (t_3 : Int))), (11, (boolA (decide ((t_3 : Int) < (r_1.length : Int)))))] rfl ?_
  refine T_seq ?_
  refine T_cond (t := decide ((t_3 : Int) < (r_1.length : Int))) rfl (fun d4 => ?_) (fun d4 => ?_)
  ·replace d4 := of_decide_eq_true d4
   obtain ⟨x_t_3, hx_t_3⟩ : ∃ v, (r_1)[t_3]? = some v := ⟨_, List.getElem?_eq_getElem (by omega)⟩
   obtain ⟨C4_, H, K4_⟩ := forS_step L4_ hx_t_3
   rw [hb4] at H
   refine T_skip ?_
   refine te [(3, (sl tInt out3)), (8, (sl (tSl tInt) r_1)), (9, (intA (r_1.length : Int))), (10, (intA (t_3 : Int)))] rfl ?_
   refine T_seq ?_
   refine T_block ?_
   refine sr ?_
   refine Tp rfl rfl (pur_ixT (T := (tSl tInt)) sl53 rfl rfl rfl hx_t_3 rfl) rfl ?_
   refine Tp rfl rfl (pur_ldT (T := (tSl tInt)) (i := t_3) (off := 0) rfl one23 rfl rfl hx_t_3 rfl) rfl ?_
   refine Tp rfl rfl (pur_assign rfl) rfl ?_
   refine TO_nil ?_
   refine te [(3, (sl tInt out3)), (5, (sl tInt x_t_3)), (8, (sl (tSl tInt) r_1)), (9, (intA (r_1.length : Int))), (10, (intA (t_3 : Int)))] rfl ?_
   refine T_cutX (fun x => ((decide (2 ≤ (x_t_3.length : Int))) && (decide ((out3.length : Int) < (x_t_3.length : Int)))) = x) (fun (t23_5 : Bool) => [(3, (sl tInt out3)), (5, (sl tInt x_t_3)), (8, (sl (tSl tInt) r_1)), (9, (intA (r_1.length : Int))), (10, (intA (t_3 : Int))), (23, (boolA t23_5))]) (fun (t23_5 : Bool) => []) ?_ ?_
   ·skip
    refine T_region ?_
    refine Tp rfl rfl (pur_move rfl) rfl ?_
    refine Tp rfl rfl (pur_lenT (T := tInt) sl23 rfl rfl) rfl ?_
    refine Tp rfl rfl (pur_geq rfl rfl rfl) rfl ?_
    refine Tp rfl rfl (pur_move rfl) rfl ?_
    refine TO_split (t := decide (2 ≤ (x_t_3.length : Int))) 17 rfl (fun g_7 => ?_) (fun g_7 => ?_)
    ·skip
     refine TO_on rfl rfl (by decide) rfl rfl (TOp_pure (pur_move rfl) rfl ?_)
     refine TO_on rfl rfl (by decide) rfl rfl (TOp_pure (pur_lenT (T := tInt) sl23 rfl rfl) rfl ?_)
     refine TO_on rfl rfl (by decide) rfl rfl (TOp_pure (pur_move rfl) rfl ?_)
     refine TO_on rfl rfl (by decide) rfl rfl (TOp_pure (pur_lenT (T := tInt) sl23 rfl rfl) rfl ?_)
     refine TO_on rfl rfl (by decide) rfl rfl (TOp_pure (pur_gtr rfl rfl rfl) rfl ?_)
     refine Tp rfl rfl (pur_pick (t := true) rfl rfl rfl) rfl ?_
     refine TO_nil ?_
     exact joined (decide ((out3.length : Int) < (x_t_3.length : Int))) (wp 0 (lb rfl) rfl rfl rfl rfl rfl) (by first | exact Eq.symm ((and_T g_7 rfl)))
    ·skip
     refine TO_off rfl rfl (by decide) rfl rfl rfl ?_
     refine TO_off rfl rfl (by decide) rfl rfl rfl ?_
     refine TO_off rfl rfl (by decide) rfl rfl rfl ?_
     refine TO_off rfl rfl (by decide) rfl rfl rfl ?_
     refine TO_off rfl rfl (by decide) rfl rfl rfl ?_
     refine Tp rfl rfl (pur_pick (t := false) rfl rfl rfl) rfl ?_
     refine TO_nil ?_
     exact joined false (wp 0 (lb rfl) rfl rfl rfl rfl rfl) (by first | exact Eq.symm ((and_F g_7 rfl)))
   ·rintro _ rfl
    refine te [(3, (sl tInt out3)), (5, (sl tInt x_t_3)), (8, (sl (tSl tInt) r_1)), (9, (intA (r_1.length : Int))), (10, (intA (t_3 : Int))), (23, (boolA ((decide (2 ≤ (x_t_3.length : Int))) && (decide ((out3.length : Int) < (x_t_3.length : Int))))))] rfl ?_
    refine T_cond (t := ((decide (2 ≤ (x_t_3.length : Int))) && (decide ((out3.length : Int) < (x_t_3.length : Int))))) rfl (fun c_8 => ?_) (fun c_8 => ?_)
    ·replace H := cond_t c_8 H
     refine T_region ?_
     refine Tp rfl rfl (pur_move rfl) rfl ?_
     refine Tp rfl rfl (pur_assign rfl) rfl ?_
     refine TO_nil ?_
     refine te [(3, (sl tInt x_t_3)), (8, (sl (tSl tInt) r_1)), (9, (intA (r_1.length : Int))), (10, (intA (t_3 : Int)))] rfl ?_
     refine T_region ?_
     refine Tp rfl rfl (pur_add rfl rfl rfl (fits64 (by omega) (by omega))) rfl ?_
     refine Tp rfl rfl (pur_move rfl) rfl ?_
     refine TO_nil ?_
     obtain rfl := some_inj H
     exact again (r_1.length - (t_3 + 1)) (t_3 + 1, x_t_3) (by omega) (wp 0 (lb rfl) rfl rfl rfl rfl rfl) ⟨rfl, K4_⟩
    ·replace H := cond_f c_8 H
     refine T_skip ?_
     refine te [(3, (sl tInt out3)), (8, (sl (tSl tInt) r_1)), (9, (intA (r_1.length : Int))), (10, (intA (t_3 : Int)))] rfl ?_
     refine T_region ?_
     refine Tp rfl rfl (pur_add rfl rfl rfl (fits64 (by omega) (by omega))) rfl ?_
     refine Tp rfl rfl (pur_move rfl) rfl ?_
     refine TO_nil ?_
     obtain rfl := some_inj H
     exact again (r_1.length - (t_3 + 1)) (t_3 + 1, out3) (by omega) (wp 0 (lb rfl) rfl rfl rfl rfl rfl) ⟨rfl, K4_⟩
  ·replace d4 := of_decide_eq_false d4
   obtain rfl := forS_end L4_ (by omega)
   refine T_exit ?_
   refine then_exit ?_
   refine then_exit ?_
   refine block_exit ?_
   replace H := N4_
   refine te [(3, (sl tInt out3))] rfl ?_
   refine sr ?_
   refine Tp rfl rfl (pur_move rfl) rfl ?_
   refine Tp rfl rfl (pur_assign rfl) rfl ?_
   refine TO_nil ?_
   refine te [(2, (sl tInt out3))] rfl ?_
   refine T_ret ?_
   obtain rfl := some_inj H
   refine end_ret (.tmp .nil) rfl rfl ⟨?_, rfl⟩
   rfl
def labLC : Option Nat → List Nat
  | none => [1]
  | some i => [2, i * (tSl tInt).k + 0]
def LabOK (xs : List (List Int)) (o : List Int) : Option Nat → Prop
  | none => o = []
  | some i => xs[i]? = some o
set_option maxHeartbeats 1000000 in
/-- impl.LargestConflicts, which hands back a row out of rows. -/
theorem m_impl_LargestConflicts_own (db0 : Database) (r : (List Int)) (H : m_impl_LargestConflicts db0 = some r) : FnO prg 28 [(.g (tDatabase.enc db0))] (.m [0] 0 r.length tInt.k) [.row (flat tInt.own r)] := by
  unfold m_impl_LargestConflicts at H
  refine fnO_of_T Try.func28 rfl rfl (Nat.le_of_ble_eq_true rfl) ?_
  refine te [(0, (.g (tDatabase.enc db0)))] rfl ?_
  refine sr ?_
  refine TO_cons rfl (TOp_box rfl (boxAll rfl) rfl rfl ?_)
  refine Tp rfl rfl (pur_assign rfl) rfl ?_
  refine TO_nil ?_
  refine te [(1, (.b 0 0))] rfl ?_
  refine sr ?_
  refine TO_cons rfl (TOp_lit (nn := 0) (k := 1) sl23 zero3 rfl rfl rfl rfl (by decide) ?_)
  refine TO_st (σ' := [.box [(sl tRelation db0.relations), (sl tFact db0.facts)], .row (flat tInt.enc ([] : (List Int)))]) rfl ?_
  refine Tp rfl rfl (pur_assign rfl) rfl ?_
  refine TO_nil ?_
  refine te [(1, (.b 0 0)), (3, (.m [1] 0 ([] : (List Int)).length tInt.k))] rfl ?_
  refine T_seq ?_
  refine sr ?_
  refine Tp rfl rfl (pur_ldK_b agg48 rfl rfl (lb rfl) rfl) rfl ?_
  obtain ⟨r_1, h_2, H⟩ := bind_inv H
  refine TO_cons rfl (TOp_callO (call_static ent45 rfl) rfl (m_impl_Blocks_own _ _ h_2) rfl rfl rfl ?_)
  refine TO_st (σ' := [.box [(sl tRelation db0.relations), (sl tFact db0.facts)], .row (flat tInt.enc ([] : (List Int))), .row (flat (tSl tInt).own r_1)]) rfl ?_
  refine Tp rfl rfl (pur_len_m sl53 rfl rfl) rfl ?_
  refine Tp rfl rfl (pur_move rfl) rfl ?_
  refine TO_nil ?_
  refine te [(3, (.m [1] 0 ([] : (List Int)).length tInt.k)), (8, (.m [2] 0 r_1.length (tSl tInt).k)), (9, (intA (r_1.length : Int))), (10, (intA 0))] rfl ?_
  obtain ⟨O4_, L4_, N4_⟩ := bind_inv H
  clear H
  obtain ⟨B4_, hb4, L4_⟩ := gen_forS L4_
  refine T_block ?_
  refine T_loopX (fun k => fun (x_ : Nat × (List Int) × Option Nat) => k = r_1.length - x_.1 ∧ forS B4_ (r_1.drop x_.1) (x_.1 : Int) x_.2.1 = some O4_ ∧ LabOK r_1 x_.2.1 x_.2.2) (fun (x_ : Nat × (List Int) × Option Nat) => [(3, (.m (labLC x_.2.2) 0 x_.2.1.length tInt.k)), (8, (.m [2] 0 r_1.length (tSl tInt).k)), (9, (intA (r_1.length : Int))), (10, (intA (x_.1 : Int)))]) (fun (x_ : Nat × (List Int) × Option Nat) => [.box [(sl tRelation db0.relations), (sl tFact db0.facts)], .row (flat tInt.enc ([] : (List Int))), .row (flat (tSl tInt).own r_1)]) _ (0, ([] : (List Int)), none) (wp 3 (lb rfl) rfl rfl rfl rfl rfl) ⟨rfl, L4_, rfl⟩ ?_
  rintro _ ⟨t_3, out3, j⟩ ⟨rfl, L4_, hj⟩
  refine te [(3, (.m (labLC j) 0 out3.length tInt.k)), (8, (.m [2] 0 r_1.length (tSl tInt).k)), (9, (intA (r_1.length : Int))), (10, (intA (t_3 : Int)))] rfl ?_
  refine T_st (σ' := [.box [(sl tRelation db0.relations), (sl tFact db0.facts)], .row (flat tInt.enc ([] : (List Int))), .row (flat (tSl tInt).own r_1)]) rfl ?_
  refine T_fact (len_m (.tmp 8) rfl) (fun hl4 => ?_)
  refine sr ?_
  refine Tp rfl rfl (pur_lss rfl rfl rfl) rfl ?_
  refine TO_nil ?_
  refine te [(3, (.m (labLC j) 0 out3.length tInt.k)), (8, (.m [2] 0 r_1.length (tSl tInt).k)), (9, (intA (r_1.length : Int))), (10, (intA (t_3 : Int))), (11, (boolA (decide ((t_3 : Int) < (r_1.length : Int)))))] rfl ?_
  refine T_seq ?_
  refine T_cond (t := decide ((t_3 : Int) < (r_1.length : Int))) rfl (fun d4 => ?_) (fun d4 => ?_)
  ·replace d4 := of_decide_eq_true d4
   obtain ⟨x_t_3, hx_t_3⟩ : ∃ v, (r_1)[t_3]? = some v := ⟨_, List.getElem?_eq_getElem (by omega)⟩
   obtain ⟨C4_, H, K4_⟩ := forS_step L4_ hx_t_3
   rw [hb4] at H
   refine T_skip ?_
   refine te [(3, (.m (labLC j) 0 out3.length tInt.k)), (8, (.m [2] 0 r_1.length (tSl tInt).k)), (9, (intA (r_1.length : Int))), (10, (intA (t_3 : Int)))] rfl ?_
   refine T_seq ?_
   refine T_block ?_
   refine sr ?_
   refine Tp rfl rfl (pur_ixM (T := (tSl tInt)) sl53 rfl rfl rfl hx_t_3 rfl) rfl ?_
   refine Tp rfl rfl (pur_ldE (f := (tSl tInt).own) (k := (tSl tInt).k) (i := t_3) (off := 0) (tSl tInt).lenO rfl one23 rfl rfl rfl hx_t_3 rfl cellVal_sl) rfl ?_
   refine Tp rfl rfl (pur_assign rfl) rfl ?_
   refine TO_nil ?_
   refine te [(3, (.m (labLC j) 0 out3.length tInt.k)), (5, (.m (labLC (some t_3)) 0 x_t_3.length tInt.k)), (8, (.m [2] 0 r_1.length (tSl tInt).k)), (9, (intA (r_1.length : Int))), (10, (intA (t_3 : Int)))] rfl ?_
   refine T_cutX (fun x => ((decide (2 ≤ (x_t_3.length : Int))) && (decide ((out3.length : Int) < (x_t_3.length : Int)))) = x) (fun (t23_5 : Bool) => [(3, (.m (labLC j) 0 out3.length tInt.k)), (5, (.m (labLC (some t_3)) 0 x_t_3.length tInt.k)), (8, (.m [2] 0 r_1.length (tSl tInt).k)), (9, (intA (r_1.length : Int))), (10, (intA (t_3 : Int))), (23, (boolA t23_5))]) (fun (t23_5 : Bool) => [.box [(sl tRelation db0.relations), (sl tFact db0.facts)], .row (flat tInt.enc ([] : (List Int))), .row (flat (tSl tInt).own r_1)]) ?_ ?_
   ·skip
    refine T_region ?_
    refine Tp rfl rfl (pur_move rfl) rfl ?_
    refine Tp rfl rfl (pur_len_m sl23 rfl rfl) rfl ?_
    refine Tp rfl rfl (pur_geq rfl rfl rfl) rfl ?_
    refine Tp rfl rfl (pur_move rfl) rfl ?_
    refine TO_split (t := decide (2 ≤ (x_t_3.length : Int))) 17 rfl (fun g_7 => ?_) (fun g_7 => ?_)
    ·skip
     refine TO_on rfl rfl (by decide) rfl rfl (TOp_pure (pur_move rfl) rfl ?_)
     refine TO_on rfl rfl (by decide) rfl rfl (TOp_pure (pur_len_m sl23 rfl rfl) rfl ?_)
     refine TO_on rfl rfl (by decide) rfl rfl (TOp_pure (pur_move rfl) rfl ?_)
     refine TO_on rfl rfl (by decide) rfl rfl (TOp_pure (pur_len_m sl23 rfl rfl) rfl ?_)
     refine TO_on rfl rfl (by decide) rfl rfl (TOp_pure (pur_gtr rfl rfl rfl) rfl ?_)
     refine Tp rfl rfl (pur_pick (t := true) rfl rfl rfl) rfl ?_
     refine TO_nil ?_
     exact joined (decide ((out3.length : Int) < (x_t_3.length : Int))) (wp 3 (lb rfl) rfl rfl (by cases j <;> rfl) rfl rfl) (by first | exact Eq.symm ((and_T g_7 rfl)))
    ·skip
     refine TO_off rfl rfl (by decide) rfl rfl rfl ?_
     refine TO_off rfl rfl (by decide) rfl rfl rfl ?_
     refine TO_off rfl rfl (by decide) rfl rfl rfl ?_
     refine TO_off rfl rfl (by decide) rfl rfl rfl ?_
     refine TO_off rfl rfl (by decide) rfl rfl rfl ?_
     refine Tp rfl rfl (pur_pick (t := false) rfl rfl rfl) rfl ?_
     refine TO_nil ?_
     exact joined false (wp 3 (lb rfl) rfl rfl (by cases j <;> rfl) rfl rfl) (by first | exact Eq.symm ((and_F g_7 rfl)))
   ·rintro _ rfl
    refine te [(3, (.m (labLC j) 0 out3.length tInt.k)), (5, (.m (labLC (some t_3)) 0 x_t_3.length tInt.k)), (8, (.m [2] 0 r_1.length (tSl tInt).k)), (9, (intA (r_1.length : Int))), (10, (intA (t_3 : Int))), (23, (boolA ((decide (2 ≤ (x_t_3.length : Int))) && (decide ((out3.length : Int) < (x_t_3.length : Int))))))] rfl ?_
    refine T_cond (t := ((decide (2 ≤ (x_t_3.length : Int))) && (decide ((out3.length : Int) < (x_t_3.length : Int))))) rfl (fun c_8 => ?_) (fun c_8 => ?_)
    ·replace H := cond_t c_8 H
     refine T_region ?_
     refine Tp rfl rfl (pur_move rfl) rfl ?_
     refine Tp rfl rfl (pur_assign rfl) rfl ?_
     refine TO_nil ?_
     refine te [(3, (.m (labLC (some t_3)) 0 x_t_3.length tInt.k)), (8, (.m [2] 0 r_1.length (tSl tInt).k)), (9, (intA (r_1.length : Int))), (10, (intA (t_3 : Int)))] rfl ?_
     refine T_region ?_
     refine Tp rfl rfl (pur_add rfl rfl rfl (fits64 (by omega) (by omega))) rfl ?_
     refine Tp rfl rfl (pur_move rfl) rfl ?_
     refine TO_nil ?_
     obtain rfl := some_inj H
     exact again (r_1.length - (t_3 + 1)) (t_3 + 1, x_t_3, some t_3) (by omega) (wp 3 (lb rfl) rfl rfl rfl rfl rfl) ⟨rfl, K4_, hx_t_3⟩
    ·replace H := cond_f c_8 H
     refine T_skip ?_
     refine te [(3, (.m (labLC j) 0 out3.length tInt.k)), (8, (.m [2] 0 r_1.length (tSl tInt).k)), (9, (intA (r_1.length : Int))), (10, (intA (t_3 : Int)))] rfl ?_
     refine T_region ?_
     refine Tp rfl rfl (pur_add rfl rfl rfl (fits64 (by omega) (by omega))) rfl ?_
     refine Tp rfl rfl (pur_move rfl) rfl ?_
     refine TO_nil ?_
     obtain rfl := some_inj H
     exact again (r_1.length - (t_3 + 1)) (t_3 + 1, out3, j) (by omega) (wp 3 (lb rfl) rfl rfl (by cases j <;> rfl) rfl rfl) ⟨rfl, K4_, hj⟩
  ·replace d4 := of_decide_eq_false d4
   obtain rfl := forS_end L4_ (by omega)
   refine T_exit ?_
   refine then_exit ?_
   refine then_exit ?_
   refine block_exit ?_
   replace H := N4_
   obtain rfl := some_inj H
   refine te [(3, (.m (labLC j) 0 out3.length tInt.k))] rfl ?_
   refine sr ?_
   refine Tp rfl rfl (pur_move rfl) rfl ?_
   refine Tp rfl rfl (pur_assign rfl) rfl ?_
   cases j with
   | none =>
    have hj : out3 = [] := hj
    subst hj
    refine TO_nil ?_
    refine te [(2, (.m [1] 0 ([] : List Int).length tInt.k))] rfl ?_
    refine T_ret ?_
    exact end_pick (.tmp .nil) rfl [1] (by decide) rfl rfl rfl rfl rfl rfl
   | some i =>
    refine toe [(2, (.m [2, i * (tSl tInt).k + 0] 0 out3.length tInt.k))] rfl ?_
    refine TO_boxify 2 rfl (lb rfl) ?_
    refine TO_detach (k := tInt.k) (xs := flat (tSl tInt).own r_1) (ys := flat tInt.own out3) (E' := [(2, (.m [3] 0 out3.length tInt.k))]) 2 (i * (tSl tInt).k + 0) 2 rfl (flat_at' (tSl tInt).lenO hj rfl) rfl (lb rfl) (nms_box rfl (nms_row (nms_box namesL_own nms_nil))) ⟨.inl ⟨rfl, rfl⟩, trivial⟩ ?_
    refine TO_kill 2 (lb rfl) ?_
    refine TO_st (σ' := [.box [(sl tRelation db0.relations), (sl tFact db0.facts)], .row (flat tInt.enc ([] : (List Int))), .dead, .row (flat tInt.own out3)]) rfl ?_
    refine TO_nil ?_
    refine te [(2, (.m [3] 0 out3.length tInt.k))] rfl ?_
    refine T_ret ?_
    exact end_pick (.tmp .nil) rfl [3] (by decide) rfl rfl rfl rfl rfl rfl


set_option maxHeartbeats 1000000 in
/-- laws.big -/
theorem m_laws_big_ok (code0 : (List Int)) (r : Bool) (H : m_laws_big code0 = some r) : FnV prg 37 [(sl (tI .u8) code0)] (boolA r) := by
  unfold m_laws_big at H
  refine fnV_of_T Try.func37 rfl rfl (Nat.le_of_ble_eq_true rfl) ?_
  refine te [(0, (sl (tI .u8) code0))] rfl ?_
  refine sr ?_
  refine Tp rfl rfl (pur_assign rfl) rfl ?_
  refine TO_nil ?_
  refine te [(0, (sl (tI .u8) code0))] rfl ?_
  refine sr ?_
  refine Tp rfl rfl (pur_move rfl) rfl ?_
  refine Tp rfl rfl (pur_lenT (T := (tI .u8)) sl62 rfl rfl) rfl ?_
  refine Tp rfl rfl (pur_gtr rfl rfl rfl) rfl ?_
  refine Tp rfl rfl (pur_assign rfl) rfl ?_
  refine TO_nil ?_
  refine te [(2, (boolA (decide (1048576 < (code0.length : Int)))))] rfl ?_
  refine T_ret ?_
  obtain rfl := some_inj H
  refine end_ret (.tmp .nil) rfl rfl ⟨?_, rfl⟩
  rfl

set_option maxHeartbeats 1000000 in
/-- spec.l1Byte -/
theorem m_spec_l1Byte_x (c0 : l1Cur) (r : (Int × l1Cur)) (H : m_spec_l1Byte c0 = some r) : FnS prg 168 [(.b 0 0)] [.box [(sl (tI .u8) c0.b), (intA c0.i), (intA c0.h)]] (intA r.1) [.box [(sl (tI .u8) r.2.b), (intA r.2.i), (intA r.2.h)]] := by
  unfold m_spec_l1Byte at H
  refine fnS_of_T Try.func168 rfl rfl (Nat.le_of_ble_eq_true rfl) ?_
  refine te [(0, (.b 0 0))] rfl ?_
  refine T_st (σ' := [.box [(sl (tI .u8) c0.b), (intA c0.i), (intA c0.h)]]) rfl ?_
  refine sr ?_
  refine Tp rfl rfl (pur_assign rfl) rfl ?_
  refine TO_nil ?_
  refine te [(0, (.b 0 0))] rfl ?_
  refine sr ?_
  refine Tp rfl rfl (pur_move rfl) rfl ?_
  refine Tp rfl rfl (pur_move rfl) rfl ?_
  refine Tp rfl rfl (pur_nil_b rfl rfl) rfl ?_
  refine Tp rfl rfl (pur_fa_b fld173_2 rfl rfl) rfl ?_
  refine Tp rfl rfl (pur_ld_b one3 rfl rfl rfl rfl) rfl ?_
  refine Tp rfl rfl (pur_wmul rfl rfl rfl) rfl ?_
  refine Tp rfl rfl (pur_wadd rfl rfl rfl) rfl ?_
  refine Tp rfl rfl (pur_nil_b rfl rfl) rfl ?_
  refine Tp rfl rfl (pur_fa_b fld173_2 rfl rfl) rfl ?_
  refine TO_cons rfl (TOp_storeB sz3 rfl rfl rfl rfl rfl rfl rfl (by decide) (lb rfl) rfl ?_)
  refine TO_st (σ' := [.box [(sl (tI .u8) c0.b), (intA c0.i), (intA (w64 ((w64 (c0.h * 6364136223846793005)) + 1442695040888963407)))]]) rfl ?_
  refine TO_nil ?_
  refine te [(0, (.b 0 0))] rfl ?_
  refine T_seq ?_
  refine T_regionD mixed (by kernel_rfl) ?_
  refine TQ_pure rfl (pur_move rfl) rfl ?_
  refine TQ_pure rfl (pur_nil_b rfl rfl) rfl ?_
  refine TQ_pure rfl (pur_fa_b fld173_2 rfl rfl) rfl ?_
  refine TQ_pure rfl (pur_ld_b one3 rfl rfl rfl rfl) rfl ?_
  refine TQ_pure rfl (pur_shr rfl rfl rfl (by decide)) rfl ?_
  refine TQ_pure rfl (pur_move rfl) rfl ?_
  refine TQ_pure rfl (pur_nil_b rfl rfl) rfl ?_
  refine TQ_pure rfl (pur_fa_b fld173_2 rfl rfl) rfl ?_
  refine tqe [(0, (.b 0 0)), (17, (intA (shrI .i64 (w64 ((w64 (c0.h * 6364136223846793005)) + 1442695040888963407)) 33))), (20, (.b 0 2))] rfl ?_
  refine TQ_pure rfl (pur_ld_b one3 rfl rfl rfl rfl) rfl ?_
  refine TQ_pure rfl (pur_shr rfl rfl rfl (by decide)) rfl ?_
  refine TQ_pure rfl (pur_xor rfl rfl rfl) rfl ?_
  refine TQ_pure rfl (pur_and rfl rfl rfl) rfl ?_
  refine TQ_pure rfl (pur_assign rfl) rfl ?_
  refine TQ_nil ?_
  refine te [(0, (.b 0 0)), (3, (intA (bitI .and .i64 (bitI .xor .i64 (shrI .i64 (w64 ((w64 (c0.h * 6364136223846793005)) + 1442695040888963407)) 33) (shrI .i64 (w64 ((w64 (c0.h * 6364136223846793005)) + 1442695040888963407)) 45)) 255)))] rfl ?_
  refine T_seq ?_
  refine T_seq ?_
  refine T_regionD mixed (by kernel_rfl) ?_
  refine TQ_pure rfl (pur_move rfl) rfl ?_
  refine TQ_pure rfl (pur_nil_b rfl rfl) rfl ?_
  refine TQ_pure rfl (pur_fa_b fld173_1 rfl rfl) rfl ?_
  refine TQ_pure rfl (pur_ld_b one3 rfl rfl rfl rfl) rfl ?_
  refine TQ_pure rfl (pur_move rfl) rfl ?_
  refine TQ_pure rfl (pur_nil_b rfl rfl) rfl ?_
  refine TQ_pure rfl (pur_fa_b fld173_0 rfl rfl) rfl ?_
  refine TQ_pure rfl (pur_ld_b one62 rfl rfl rfl rfl) rfl ?_
  refine TQ_pure rfl (pur_lenT (T := (tI .u8)) sl62 rfl rfl) rfl ?_
  refine TQ_pure rfl (pur_lss rfl rfl rfl) rfl ?_
  refine TQ_nil ?_
  refine te [(0, (.b 0 0)), (3, (intA (bitI .and .i64 (bitI .xor .i64 (shrI .i64 (w64 ((w64 (c0.h * 6364136223846793005)) + 1442695040888963407)) 33) (shrI .i64 (w64 ((w64 (c0.h * 6364136223846793005)) + 1442695040888963407)) 45)) 255))), (34, (boolA (decide (c0.i < (c0.b.length : Int)))))] rfl ?_
  refine T_cond (t := decide (c0.i < (c0.b.length : Int))) rfl (fun c_1 => ?_) (fun c_1 => ?_)
  ·replace H := cond_t c_1 H
   refine T_seq ?_
   refine T_regionD mixed (by kernel_rfl) ?_
   refine TQ_pure rfl (pur_move rfl) rfl ?_
   refine TQ_pure rfl (pur_move rfl) rfl ?_
   refine TQ_pure rfl (pur_nil_b rfl rfl) rfl ?_
   refine TQ_pure rfl (pur_fa_b fld173_0 rfl rfl) rfl ?_
   refine TQ_pure rfl (pur_ld_b one62 rfl rfl rfl rfl) rfl ?_
   refine TQ_pure rfl (pur_move rfl) rfl ?_
   refine TQ_pure rfl (pur_nil_b rfl rfl) rfl ?_
   refine TQ_pure rfl (pur_fa_b fld173_1 rfl rfl) rfl ?_
   refine tqe [(0, (.b 0 0)), (3, (intA (bitI .and .i64 (bitI .xor .i64 (shrI .i64 (w64 ((w64 (c0.h * 6364136223846793005)) + 1442695040888963407)) 33) (shrI .i64 (w64 ((w64 (c0.h * 6364136223846793005)) + 1442695040888963407)) 45)) 255))), (35, (intA (bitI .and .i64 (bitI .xor .i64 (shrI .i64 (w64 ((w64 (c0.h * 6364136223846793005)) + 1442695040888963407)) 33) (shrI .i64 (w64 ((w64 (c0.h * 6364136223846793005)) + 1442695040888963407)) 45)) 255))), (39, (sl (tI .u8) c0.b)), (42, (.b 0 1))] rfl ?_
   refine TQ_pure rfl (pur_ld_b one3 rfl rfl rfl rfl) rfl ?_
   obtain ⟨v_2, h_3, H⟩ := bind_inv H
   obtain ⟨n_4, hz_5, hv_6⟩ := getI_inv h_3
   refine TQ_pure rfl (pur_ixT (T := (tI .u8)) sl62 rfl rfl hz_5 hv_6 rfl) rfl ?_
   refine TQ_pure rfl (pur_ldT (T := (tI .u8)) (i := n_4) (off := 0) rfl one5 rfl rfl hv_6 rfl) rfl ?_
   refine TQ_pure rfl (pur_convI (k := .i64) (k' := .u8) ⟨_, Try.underlying5⟩ Try.underlying3 rfl rfl) rfl ?_
   refine TQ_pure rfl (pur_wadd rfl rfl rfl) rfl ?_
   refine TQ_pure rfl (pur_and rfl rfl rfl) rfl ?_
   refine TQ_pure rfl (pur_assign rfl) rfl ?_
   refine TQ_nil ?_
   refine te [(0, (.b 0 0)), (3, (intA (bitI .and .i64 (w64 ((bitI .and .i64 (bitI .xor .i64 (shrI .i64 (w64 ((w64 (c0.h * 6364136223846793005)) + 1442695040888963407)) 33) (shrI .i64 (w64 ((w64 (c0.h * 6364136223846793005)) + 1442695040888963407)) 45)) 255) + (w64 v_2))) 255)))] rfl ?_
   refine T_region ?_
   refine Tp rfl rfl (pur_move rfl) rfl ?_
   refine Tp rfl rfl (pur_move rfl) rfl ?_
   refine Tp rfl rfl (pur_nil_b rfl rfl) rfl ?_
   refine Tp rfl rfl (pur_fa_b fld173_1 rfl rfl) rfl ?_
   refine Tp rfl rfl (pur_ld_b one3 rfl rfl rfl rfl) rfl ?_
   refine Tp rfl rfl (pur_wadd rfl rfl rfl) rfl ?_
   refine Tp rfl rfl (pur_nil_b rfl rfl) rfl ?_
   refine Tp rfl rfl (pur_fa_b fld173_1 rfl rfl) rfl ?_
   refine TO_cons rfl (TOp_storeB sz3 rfl rfl rfl rfl rfl rfl rfl (by decide) (lb rfl) rfl ?_)
   refine TO_st (σ' := [.box [(sl (tI .u8) c0.b), (intA (w64 (c0.i + 1))), (intA (w64 ((w64 (c0.h * 6364136223846793005)) + 1442695040888963407)))]]) rfl ?_
   refine TO_nil ?_
   refine te [(3, (intA (bitI .and .i64 (w64 ((bitI .and .i64 (bitI .xor .i64 (shrI .i64 (w64 ((w64 (c0.h * 6364136223846793005)) + 1442695040888963407)) 33) (shrI .i64 (w64 ((w64 (c0.h * 6364136223846793005)) + 1442695040888963407)) 45)) 255) + (w64 v_2))) 255)))] rfl ?_
   refine sr ?_
   refine Tp rfl rfl (pur_move rfl) rfl ?_
   refine Tp rfl rfl (pur_assign rfl) rfl ?_
   refine TO_nil ?_
   refine te [(2, (intA (bitI .and .i64 (w64 ((bitI .and .i64 (bitI .xor .i64 (shrI .i64 (w64 ((w64 (c0.h * 6364136223846793005)) + 1442695040888963407)) 33) (shrI .i64 (w64 ((w64 (c0.h * 6364136223846793005)) + 1442695040888963407)) 45)) 255) + (w64 v_2))) 255)))] rfl ?_
   refine T_ret ?_
   obtain rfl := some_inj H
   exact end_pickX (.tmp .nil) rfl [0] (by decide) (lb rfl) rfl (lb rfl) rfl rfl rfl rfl rfl rfl
  ·replace H := cond_f c_1 H
   refine T_skip ?_
   refine te [(3, (intA (bitI .and .i64 (bitI .xor .i64 (shrI .i64 (w64 ((w64 (c0.h * 6364136223846793005)) + 1442695040888963407)) 33) (shrI .i64 (w64 ((w64 (c0.h * 6364136223846793005)) + 1442695040888963407)) 45)) 255)))] rfl ?_
   refine sr ?_
   refine Tp rfl rfl (pur_move rfl) rfl ?_
   refine Tp rfl rfl (pur_assign rfl) rfl ?_
   refine TO_nil ?_
   refine te [(2, (intA (bitI .and .i64 (bitI .xor .i64 (shrI .i64 (w64 ((w64 (c0.h * 6364136223846793005)) + 1442695040888963407)) 33) (shrI .i64 (w64 ((w64 (c0.h * 6364136223846793005)) + 1442695040888963407)) 45)) 255)))] rfl ?_
   refine T_ret ?_
   obtain rfl := some_inj H
   exact end_pickX (.tmp .nil) rfl [0] (by decide) (lb rfl) rfl (lb rfl) rfl rfl rfl rfl rfl rfl

set_option maxHeartbeats 1000000 in
/-- spec.l1Below -/
theorem m_spec_l1Below_x (c0 : l1Cur) (n1 : Int) (r : (Int × l1Cur)) (H : m_spec_l1Below c0 n1 = some r) : FnS prg 121 [(.b 0 0), (intA n1)] [.box [(sl (tI .u8) c0.b), (intA c0.i), (intA c0.h)]] (intA r.1) [.box [(sl (tI .u8) r.2.b), (intA r.2.i), (intA r.2.h)]] := by
  unfold m_spec_l1Below at H
  refine fnS_of_T Try.func121 rfl rfl (Nat.le_of_ble_eq_true rfl) ?_
  refine te [(0, (.b 0 0)), (1, (intA n1))] rfl ?_
  refine T_st (σ' := [.box [(sl (tI .u8) c0.b), (intA c0.i), (intA c0.h)]]) rfl ?_
  refine sr ?_
  refine Tp rfl rfl (pur_assign rfl) rfl ?_
  refine TO_nil ?_
  refine te [(0, (.b 0 0)), (1, (intA n1))] rfl ?_
  refine T_seq ?_
  refine sr ?_
  refine Tp rfl rfl (pur_move rfl) rfl ?_
  refine Tp rfl rfl (pur_leq rfl rfl rfl) rfl ?_
  refine TO_nil ?_
  refine te [(0, (.b 0 0)), (1, (intA n1)), (10, (boolA (decide (n1 ≤ 0))))] rfl ?_
  refine T_cond (t := decide (n1 ≤ 0)) rfl (fun c_1 => ?_) (fun c_1 => ?_)
  ·replace H := cond_t c_1 H
   refine sr ?_
   refine Tp rfl rfl (pur_assign rfl) rfl ?_
   refine TO_nil ?_
   refine te [(4, (intA 0))] rfl ?_
   refine T_ret ?_
   refine then_ret ?_
   obtain rfl := some_inj H
   exact end_pickX (.tmp .nil) rfl [0] (by decide) (lb rfl) rfl (lb rfl) rfl rfl rfl rfl rfl rfl
  ·replace H := cond_f c_1 H
   refine T_skip ?_
   refine te [(0, (.b 0 0)), (1, (intA n1))] rfl ?_
   refine T_seq ?_
   refine sr ?_
   refine Tp rfl rfl (pur_move rfl) rfl ?_
   refine Tp rfl rfl (pur_leq rfl rfl rfl) rfl ?_
   refine TO_nil ?_
   refine te [(0, (.b 0 0)), (1, (intA n1)), (12, (boolA (decide (n1 ≤ 256))))] rfl ?_
   refine T_cond (t := decide (n1 ≤ 256)) rfl (fun c_2 => ?_) (fun c_2 => ?_)
   ·replace H := cond_t c_2 H
    refine sr ?_
    refine Tp rfl rfl (pur_move rfl) rfl ?_
    obtain ⟨r_3, h_4, H⟩ := bind_inv H
    refine TO_cons rfl (TOp_callS [0] (call_static ent168 rfl) (by decide) rfl rfl rfl rfl rfl rfl (m_spec_l1Byte_x _ _ h_4) rfl rfl ?_)
    refine toe [(0, (.b 0 0)), (1, (intA n1)), (12, (boolA (decide (n1 ≤ 256)))), (13, (.b 0 0)), (14, (intA r_3.1))] rfl ?_
    refine TO_st (σ' := [.box [(sl (tI .u8) r_3.2.b), (intA r_3.2.i), (intA r_3.2.h)]]) rfl ?_
    refine Tp rfl rfl (pur_move rfl) rfl ?_
    obtain ⟨_u, h_5, H⟩ := bind_inv H
    refine Tp rfl rfl (pur_rem rfl rfl rfl (gD_inv h_5)) rfl ?_
    refine Tp rfl rfl (pur_assign rfl) rfl ?_
    refine TO_nil ?_
    refine te [(4, (intA (r_3.1.tmod n1)))] rfl ?_
    refine T_ret ?_
    refine then_ret ?_
    obtain rfl := some_inj H
    exact end_pickX (.tmp .nil) rfl [0] (by decide) (lb rfl) rfl (lb rfl) rfl rfl rfl rfl rfl rfl
   ·replace H := cond_f c_2 H
    refine T_skip ?_
    refine te [(0, (.b 0 0)), (1, (intA n1))] rfl ?_
    refine sr ?_
    refine Tp rfl rfl (pur_move rfl) rfl ?_
    obtain ⟨r_6, h_7, H⟩ := bind_inv H
    refine TO_cons rfl (TOp_callS [0] (call_static ent168 rfl) (by decide) rfl rfl rfl rfl rfl rfl (m_spec_l1Byte_x _ _ h_7) rfl rfl ?_)
    refine toe [(0, (.b 0 0)), (1, (intA n1)), (17, (.b 0 0)), (18, (intA r_6.1))] rfl ?_
    refine TO_st (σ' := [.box [(sl (tI .u8) r_6.2.b), (intA r_6.2.i), (intA r_6.2.h)]]) rfl ?_
    refine Tp rfl rfl (pur_assign rfl) rfl ?_
    refine TO_nil ?_
    refine te [(0, (.b 0 0)), (1, (intA n1)), (5, (intA r_6.1))] rfl ?_
    refine sr ?_
    refine Tp rfl rfl (pur_move rfl) rfl ?_
    obtain ⟨r_8, h_9, H⟩ := bind_inv H
    refine TO_cons rfl (TOp_callS [0] (call_static ent168 rfl) (by decide) rfl rfl rfl rfl rfl rfl (m_spec_l1Byte_x _ _ h_9) rfl rfl ?_)
    refine toe [(0, (.b 0 0)), (1, (intA n1)), (5, (intA r_6.1)), (19, (.b 0 0)), (20, (intA r_8.1))] rfl ?_
    refine TO_st (σ' := [.box [(sl (tI .u8) r_8.2.b), (intA r_8.2.i), (intA r_8.2.h)]]) rfl ?_
    refine Tp rfl rfl (pur_assign rfl) rfl ?_
    refine TO_nil ?_
    refine te [(0, (.b 0 0)), (1, (intA n1)), (5, (intA r_6.1)), (6, (intA r_8.1))] rfl ?_
    refine sr ?_
    refine Tp rfl rfl (pur_move rfl) rfl ?_
    obtain ⟨r_10, h_11, H⟩ := bind_inv H
    refine TO_cons rfl (TOp_callS [0] (call_static ent168 rfl) (by decide) rfl rfl rfl rfl rfl rfl (m_spec_l1Byte_x _ _ h_11) rfl rfl ?_)
    refine toe [(0, (.b 0 0)), (1, (intA n1)), (5, (intA r_6.1)), (6, (intA r_8.1)), (21, (.b 0 0)), (22, (intA r_10.1))] rfl ?_
    refine TO_st (σ' := [.box [(sl (tI .u8) r_10.2.b), (intA r_10.2.i), (intA r_10.2.h)]]) rfl ?_
    refine Tp rfl rfl (pur_assign rfl) rfl ?_
    refine TO_nil ?_
    refine te [(0, (.b 0 0)), (1, (intA n1)), (5, (intA r_6.1)), (6, (intA r_8.1)), (7, (intA r_10.1))] rfl ?_
    refine sr ?_
    refine Tp rfl rfl (pur_move rfl) rfl ?_
    obtain ⟨r_12, h_13, H⟩ := bind_inv H
    refine TO_cons rfl (TOp_callS [0] (call_static ent168 rfl) (by decide) rfl rfl rfl rfl rfl rfl (m_spec_l1Byte_x _ _ h_13) rfl rfl ?_)
    refine toe [(0, (.b 0 0)), (1, (intA n1)), (5, (intA r_6.1)), (6, (intA r_8.1)), (7, (intA r_10.1)), (23, (.b 0 0)), (24, (intA r_12.1))] rfl ?_
    refine TO_st (σ' := [.box [(sl (tI .u8) r_12.2.b), (intA r_12.2.i), (intA r_12.2.h)]]) rfl ?_
    refine Tp rfl rfl (pur_assign rfl) rfl ?_
    refine TO_nil ?_
    refine te [(1, (intA n1)), (5, (intA r_6.1)), (6, (intA r_8.1)), (7, (intA r_10.1)), (8, (intA r_12.1))] rfl ?_
    refine sr ?_
    refine Tp rfl rfl (pur_move rfl) rfl ?_
    refine Tp rfl rfl (pur_wmul rfl rfl rfl) rfl ?_
    refine Tp rfl rfl (pur_move rfl) rfl ?_
    refine Tp rfl rfl (pur_wmul rfl rfl rfl) rfl ?_
    refine Tp rfl rfl (pur_wadd rfl rfl rfl) rfl ?_
    refine Tp rfl rfl (pur_move rfl) rfl ?_
    refine Tp rfl rfl (pur_wmul rfl rfl rfl) rfl ?_
    refine Tp rfl rfl (pur_wadd rfl rfl rfl) rfl ?_
    refine toe [(1, (intA n1)), (8, (intA r_12.1)), (32, (intA (w64 ((w64 ((w64 (r_6.1 * 16777216)) + (w64 (r_8.1 * 65536)))) + (w64 (r_10.1 * 256))))))] rfl ?_
    refine Tp rfl rfl (pur_move rfl) rfl ?_
    refine Tp rfl rfl (pur_wadd rfl rfl rfl) rfl ?_
    refine Tp rfl rfl (pur_move rfl) rfl ?_
    obtain ⟨_u, h_14, H⟩ := bind_inv H
    refine Tp rfl rfl (pur_rem rfl rfl rfl (gD_inv h_14)) rfl ?_
    refine Tp rfl rfl (pur_assign rfl) rfl ?_
    refine TO_nil ?_
    refine te [(4, (intA ((w64 ((w64 ((w64 ((w64 (r_6.1 * 16777216)) + (w64 (r_8.1 * 65536)))) + (w64 (r_10.1 * 256)))) + r_12.1)).tmod n1)))] rfl ?_
    refine T_ret ?_
    obtain rfl := some_inj H
    exact end_pickX (.tmp .nil) rfl [0] (by decide) (lb rfl) rfl (lb rfl) rfl rfl rfl rfl rfl rfl

set_option maxHeartbeats 1000000 in
/-- spec.FactIndex -/
theorem m_spec_FactIndex_ok (u : Nat) (d0 : Database) (f1 : Fact) (r : Int) (H : m_spec_FactIndex u d0 f1 = some r) : FnV prg 111 [(.g (tDatabase.enc d0)), (.g (tFact.enc f1))] (intA r) := by
  unfold m_spec_FactIndex at H
  refine fnV_of_T Try.func111 rfl rfl (Nat.le_of_ble_eq_true rfl) ?_
  refine te [(0, (.g (tDatabase.enc d0))), (1, (.g (tFact.enc f1)))] rfl ?_
  refine sr ?_
  refine TO_cons rfl (TOp_box rfl (boxAll rfl) rfl rfl ?_)
  refine TO_cons rfl (TOp_box rfl (boxAll rfl) rfl rfl ?_)
  refine Tp rfl rfl (pur_assign rfl) rfl ?_
  refine TO_nil ?_
  refine te [(2, (.b 0 0)), (3, (.b 1 0))] rfl ?_
  refine T_seq ?_
  refine sr ?_
  refine Tp rfl rfl (pur_assign rfl) rfl ?_
  refine TO_nil ?_
  refine te [(2, (.b 0 0)), (3, (.b 1 0)), (5, (intA 0))] rfl ?_
  obtain ⟨O1_, L1_, N1_⟩ := bind_inv H
  clear H
  obtain ⟨B1_, hb1, L1_⟩ := gen_whileF L1_
  refine T_block ?_
  refine T_loopX (fun k => fun (i5 : Int) => whileF B1_ k i5 = some O1_) (fun (i5 : Int) => [(2, (.b 0 0)), (3, (.b 1 0)), (5, (intA i5))]) (fun (i5 : Int) => [.box [(sl tRelation d0.relations), (sl tFact d0.facts)], .box [(intA f1.relation), (sl tInt f1.values)]]) u 0 (wp 2 (lb rfl) rfl rfl rfl rfl rfl) L1_ ?_
  rintro _ i5 L1_
  obtain ⟨k1, rfl, C1_, H, K1_⟩ := while_step L1_
  rw [hb1] at H
  refine te [(2, (.b 0 0)), (3, (.b 1 0)), (5, (intA i5))] rfl ?_
  refine T_st (σ' := [.box [(sl tRelation d0.relations), (sl tFact d0.facts)], .box [(intA f1.relation), (sl tInt f1.values)]]) rfl ?_
  refine T_seq ?_
  refine sr ?_
  refine Tp rfl rfl (pur_move rfl) rfl ?_
  refine Tp rfl rfl (pur_fa_b fld48_1 rfl rfl) rfl ?_
  refine Tp rfl rfl (pur_ld_b one46 rfl rfl rfl rfl) rfl ?_
  refine Tp rfl rfl (pur_lenT (T := tFact) sl46 rfl rfl) rfl ?_
  refine Tp rfl rfl (pur_lss rfl rfl rfl) rfl ?_
  refine TO_nil ?_
  refine te [(2, (.b 0 0)), (3, (.b 1 0)), (5, (intA i5)), (10, (boolA (decide (i5 < (d0.facts.length : Int)))))] rfl ?_
  refine T_cond (t := decide (i5 < (d0.facts.length : Int))) rfl (fun c_2 => ?_) (fun c_2 => ?_)
  ·replace H := cond_t c_2 H
   refine T_skip ?_
   refine te [(2, (.b 0 0)), (3, (.b 1 0)), (5, (intA i5))] rfl ?_
   refine T_seq ?_
   refine T_block ?_
   refine T_seq ?_
   refine T_regionD mixed (by kernel_rfl) ?_
   refine TQ_pure rfl (pur_fa_b fld48_1 rfl rfl) rfl ?_
   refine TQ_pure rfl (pur_ld_b one46 rfl rfl rfl rfl) rfl ?_
   refine TQ_pure rfl (pur_move rfl) rfl ?_
   obtain ⟨v_3, h_4, H⟩ := bind_inv H
   obtain ⟨n_5, hz_6, hv_7⟩ := getI_inv h_4
   refine TQ_pure rfl (pur_ixT (T := tFact) sl46 rfl rfl hz_6 hv_7 rfl) rfl ?_
   refine TQ_pure rfl (pur_ldTK (T := tFact) (i := n_5) (off := 0) rfl agg65 rfl rfl hv_7 (by decide) rfl) rfl ?_
   refine TQ_pure rfl (pur_ldK_b agg65 rfl rfl (lb rfl) rfl) rfl ?_
   obtain ⟨r_8, h_9, H⟩ := bind_inv H
   refine TQ_callV rfl (call_static ent114 rfl) (m_spec_CompareFacts_ok u _ _ _ h_9) rfl rfl ?_
   refine TQ_pure rfl (pur_eql rfl rfl rfl) rfl ?_
   refine TQ_nil ?_
   refine te [(2, (.b 0 0)), (3, (.b 1 0)), (5, (intA i5)), (20, (boolA (decide (r_8 = 0))))] rfl ?_
   refine T_cond (t := decide (r_8 = 0)) rfl (fun c_10 => ?_) (fun c_10 => ?_)
   ·replace H := cond_t c_10 H
    refine sr ?_
    refine Tp rfl rfl (pur_move rfl) rfl ?_
    refine Tp rfl rfl (pur_assign rfl) rfl ?_
    refine TO_nil ?_
    refine te [(4, (intA i5))] rfl ?_
    refine T_ret ?_
    refine block_ret ?_
    refine then_ret ?_
    refine then_ret ?_
    refine block_ret ?_
    refine then_ret ?_
    obtain rfl := some_inj H
    obtain rfl := some_inj K1_
    replace H := onS_r N1_
    obtain rfl := some_inj H
    refine end_ret (.tmp .nil) rfl rfl ⟨?_, rfl⟩
    rfl
   ·replace H := cond_f c_10 H
    refine T_skip ?_
    refine te [(2, (.b 0 0)), (3, (.b 1 0)), (5, (intA i5))] rfl ?_
    refine T_region ?_
    refine Tp rfl rfl (pur_move rfl) rfl ?_
    refine Tp rfl rfl (pur_wadd rfl rfl rfl) rfl ?_
    refine Tp rfl rfl (pur_assign rfl) rfl ?_
    refine TO_nil ?_
    obtain rfl := some_inj H
    exact again k1 (w64 (i5 + 1)) (Nat.lt_succ_self _) (wp 2 (lb rfl) rfl rfl rfl rfl rfl) K1_
  ·replace H := cond_f c_2 H
   refine T_exit ?_
   refine then_exit ?_
   refine then_exit ?_
   refine block_exit ?_
   obtain rfl := some_inj H
   obtain rfl := some_inj K1_
   replace H := onS_l N1_
   refine te [] rfl ?_
   refine sr ?_
   refine Tp rfl rfl (pur_assign rfl) rfl ?_
   refine TO_nil ?_
   refine te [(4, (intA (-1)))] rfl ?_
   refine T_ret ?_
   obtain rfl := some_inj H
   refine end_ret (.tmp .nil) rfl rfl ⟨?_, rfl⟩
   rfl

set_option maxHeartbeats 1000000 in
/-- spec.ContainsFact -/
theorem m_spec_ContainsFact_ok (u : Nat) (d0 : Database) (f1 : Fact) (r : Bool) (H : m_spec_ContainsFact u d0 f1 = some r) : FnV prg 109 [(.g (tDatabase.enc d0)), (.g (tFact.enc f1))] (boolA r) := by
  unfold m_spec_ContainsFact at H
  refine fnV_of_T Try.func109 rfl rfl (Nat.le_of_ble_eq_true rfl) ?_
  refine te [(0, (.g (tDatabase.enc d0))), (1, (.g (tFact.enc f1)))] rfl ?_
  refine sr ?_
  refine TO_cons rfl (TOp_box rfl (boxAll rfl) rfl rfl ?_)
  refine TO_cons rfl (TOp_box rfl (boxAll rfl) rfl rfl ?_)
  refine Tp rfl rfl (pur_assign rfl) rfl ?_
  refine TO_nil ?_
  refine te [(2, (.b 0 0)), (3, (.b 1 0))] rfl ?_
  obtain ⟨t4_1, J_1, H_2⟩ := bind_inv H
  refine T_cutX (fun x => t4_1 = x) (fun (t4_1 : Bool) => [(4, (boolA t4_1))]) (fun (t4_1 : Bool) => []) ?_ ?_
  ·replace H := J_1
   refine T_region ?_
   refine Tp rfl rfl (pur_ldK_b agg48 rfl rfl (lb rfl) rfl) rfl ?_
   obtain ⟨r_3, h_4, H⟩ := bind_inv H
   refine TO_cons rfl (TOp_callV (call_static ent53 rfl) (m_spec_IsValidDatabase_ok u _ _ h_4) rfl rfl rfl ?_)
   refine Tp rfl rfl (pur_move rfl) rfl ?_
   refine TO_split (t := r_3) 7 rfl (fun g_5 => ?_) (fun g_5 => ?_)
   ·replace H := cond_t g_5 H
    refine TO_on rfl rfl (by decide) rfl rfl (TOp_pure (pur_ldK_b agg48 rfl rfl (lb rfl) rfl) rfl ?_)
    refine TO_on rfl rfl (by decide) rfl rfl (TOp_pure (pur_ldK_b agg65 rfl rfl (lb rfl) rfl) rfl ?_)
    obtain ⟨r_6, h_7, H⟩ := bind_inv H
    refine TO_on rfl rfl (by decide) rfl rfl (TOp_callV (call_static ent111 rfl) (m_spec_FactIndex_ok u _ _ _ h_7) rfl rfl rfl ?_)
    refine TO_on rfl rfl (by decide) rfl rfl (TOp_pure (pur_geq rfl rfl rfl) rfl ?_)
    refine Tp rfl rfl (pur_pick (t := true) rfl rfl rfl) rfl ?_
    refine Tp rfl rfl (pur_assign rfl) rfl ?_
    refine TO_nil ?_
    exact joined (decide (0 ≤ r_6)) (wp 0 (lb rfl) rfl rfl rfl rfl rfl) (some_inj H).symm
   ·replace H := cond_f g_5 H
    refine TO_off rfl rfl (by decide) rfl rfl rfl ?_
    refine TO_off rfl rfl (by decide) rfl rfl rfl ?_
    refine TO_off rfl rfl (by decide) rfl rfl rfl ?_
    refine TO_off rfl rfl (by decide) rfl rfl rfl ?_
    refine Tp rfl rfl (pur_pick (t := false) rfl rfl rfl) rfl ?_
    refine Tp rfl rfl (pur_assign rfl) rfl ?_
    refine TO_nil ?_
    exact joined false (wp 0 (lb rfl) rfl rfl rfl rfl rfl) (some_inj H).symm
  ·rintro _ rfl
   replace H := H_2
   refine te [(4, (boolA t4_1))] rfl ?_
   refine T_ret ?_
   obtain rfl := some_inj H
   refine end_ret (.tmp .nil) rfl rfl ⟨?_, rfl⟩
   rfl

set_option maxHeartbeats 1000000 in
/-- spec.l4Copy -/
theorem m_spec_l4Copy_own (u : Nat) (d0 : Database) (r : Database) (H : m_spec_l4Copy u d0 = some r) : FnO prg 112 [(.g (tDatabase.enc d0))] (.g [(.m [0] 0 r.relations.length tRelation.k), (.m [1] 0 r.facts.length tFact.k)]) [.row (flat tRelation.enc r.relations), .row (flat tFact.enc r.facts)] := by
  unfold m_spec_l4Copy at H
  refine fnO_of_T Try.func112 rfl rfl (Nat.le_of_ble_eq_true rfl) ?_
  refine te [(0, (.g (tDatabase.enc d0)))] rfl ?_
  refine sr ?_
  refine TO_cons rfl (TOp_box rfl (boxAll rfl) rfl rfl ?_)
  refine TO_cons rfl (TOp_alloc zero48 rfl rfl ?_)
  refine TO_nil ?_
  refine te [(1, (.b 0 0)), (2, (.b 1 0))] rfl ?_
  refine sr ?_
  refine TO_cons rfl (TOp_lit (nn := 0) (k := 3) sl45 zero130 rfl rfl rfl rfl (by decide) ?_)
  refine TO_st (σ' := [.box [(sl tRelation d0.relations), (sl tFact d0.facts)], .box [.n, .n], .row (flat tRelation.enc ([] : (List Relation)))]) rfl ?_
  refine Tp rfl rfl (pur_fa_b fld48_0 rfl rfl) rfl ?_
  refine Tp rfl rfl (pur_ld_b one45 rfl rfl rfl rfl) rfl ?_
  obtain ⟨us_1, h_2, H⟩ := bind_inv H
  refine TO_cons rfl (TOp_appZ (T := tRelation) (f := tRelation.enc) (xs := ([] : (List Relation))) (ys := d0.relations) tRelation.len sl45 zero130 rfl bytes130 (by decide) rfl rfl rfl rfl (src_T (T := tRelation) rfl) (flat_cell tRelation _) h_2 (lb rfl) ?_)
  refine toe [(1, (.b 0 0)), (2, (.b 1 0)), (6, (.b 0 0)), (7, (sl tRelation d0.relations)), (8, (.m [2] 0 us_1.length tRelation.k))] rfl ?_
  refine TO_st (σ' := [.box [(sl tRelation d0.relations), (sl tFact d0.facts)], .box [.n, .n], .row (flat tRelation.enc us_1), .dead]) rfl ?_
  refine Tp rfl rfl (pur_build bld48 rfl rfl) rfl ?_
  refine TO_cons rfl (TOp_alloc zero48 rfl rfl ?_)
  refine TO_cons rfl (TOp_storeB sz48 rfl rfl rfl rfl rfl rfl rfl (by decide) (lb rfl) rfl ?_)
  refine TO_st (σ' := [.box [(sl tRelation d0.relations), (sl tFact d0.facts)], .box [.n, .n], .row (flat tRelation.enc us_1), .dead, .box [(.m [2] 0 us_1.length tRelation.k), .n]]) rfl ?_
  refine TO_nil ?_
  refine te [(1, (.b 0 0)), (2, (.b 1 0)), (3, (.b 4 0))] rfl ?_
  refine T_seq ?_
  refine sr ?_
  refine Tp rfl rfl (pur_assign rfl) rfl ?_
  refine TO_nil ?_
  refine te [(1, (.b 0 0)), (2, (.b 1 0)), (3, (.b 4 0)), (4, (intA 0))] rfl ?_
  refine T_row0 ?_
  refine T_boxle (xs := [(.m [2] 0 us_1.length tRelation.k), .n]) (ys := [(.m [2] 0 us_1.length tRelation.k), (.m [5] 0 ([] : (List Fact)).length tFact.k)]) 4 rfl (leCons (leR rfl) (leCons leM leNil)) ?_
  refine T_st (σ' := [.box [(sl tRelation d0.relations), (sl tFact d0.facts)], .box [.n, .n], .row (flat tRelation.enc us_1), .dead, .box [(.m [2] 0 us_1.length tRelation.k), (.m [5] 0 ([] : (List Fact)).length tFact.k)], .row (flat tFact.enc ([] : (List Fact)))]) rfl ?_
  obtain ⟨O3_, L3_, N3_⟩ := bind_inv H
  clear H
  obtain ⟨B3_, hb3, L3_⟩ := gen_whileF L3_
  refine T_block ?_
  refine T_loopX (fun k => fun (x_ : Int × (List Fact)) => whileF B3_ k (x_.1, x_.2) = some O3_) (fun (x_ : Int × (List Fact)) => [(1, (.b 0 0)), (2, (.b 1 0)), (3, (.b 4 0)), (4, (intA x_.1))]) (fun (x_ : Int × (List Fact)) => [.box [(sl tRelation d0.relations), (sl tFact d0.facts)], .box [.n, .n], .row (flat tRelation.enc us_1), .dead, .box [(.m [2] 0 us_1.length tRelation.k), (.m [5] 0 x_.2.length tFact.k)], .row (flat tFact.enc x_.2)]) u (0, ([] : (List Fact))) (wp 6 (lb rfl) rfl rfl rfl rfl rfl) L3_ ?_
  rintro _ ⟨i4, box4_facts⟩ L3_
  obtain ⟨k3, rfl, C3_, H, K3_⟩ := while_step L3_
  rw [hb3] at H
  refine te [(1, (.b 0 0)), (2, (.b 1 0)), (3, (.b 4 0)), (4, (intA i4))] rfl ?_
  refine T_st (σ' := [.box [(sl tRelation d0.relations), (sl tFact d0.facts)], .box [.n, .n], .row (flat tRelation.enc us_1), .dead, .box [(.m [2] 0 us_1.length tRelation.k), (.m [5] 0 box4_facts.length tFact.k)], .row (flat tFact.enc box4_facts)]) rfl ?_
  refine T_seq ?_
  refine sr ?_
  refine Tp rfl rfl (pur_move rfl) rfl ?_
  refine Tp rfl rfl (pur_fa_b fld48_1 rfl rfl) rfl ?_
  refine Tp rfl rfl (pur_ld_b one46 rfl rfl rfl rfl) rfl ?_
  refine Tp rfl rfl (pur_lenT (T := tFact) sl46 rfl rfl) rfl ?_
  refine Tp rfl rfl (pur_lss rfl rfl rfl) rfl ?_
  refine TO_nil ?_
  refine te [(1, (.b 0 0)), (2, (.b 1 0)), (3, (.b 4 0)), (4, (intA i4)), (14, (boolA (decide (i4 < (d0.facts.length : Int)))))] rfl ?_
  refine T_cond (t := decide (i4 < (d0.facts.length : Int))) rfl (fun c_4 => ?_) (fun c_4 => ?_)
  ·replace H := cond_t c_4 H
   refine T_skip ?_
   refine te [(1, (.b 0 0)), (2, (.b 1 0)), (3, (.b 4 0)), (4, (intA i4))] rfl ?_
   refine T_seq ?_
   refine T_block ?_
   obtain ⟨v_5, h_6, H⟩ := bind_inv H
   obtain ⟨n_7, hz_8, hv_9⟩ := getI_inv h_6
   obtain ⟨us_10, h_11, H⟩ := bind_inv H
   obtain ⟨us_12, h_13, H⟩ := bind_inv H
   refine T_pad ?_
   refine T_pad ?_
   refine T_regionP mixed ?_
   refine TA_have 3 #[true, true, true, true, true, true, true, true, true, true, true, true, true, true, true, true, true, true, false, false, false] [(1, (.b 0 0)), (2, (.b 1 0)), (3, (.b 4 0)), (4, (intA i4)), (18, (.m [5] 0 box4_facts.length tFact.k)), (34, (.m [7] 0 ([({ relation := v_5.relation, values := us_10 } : Fact)] : (List Fact)).length tFact.k))] [.box [(sl tRelation d0.relations), (sl tFact d0.facts)], .box [.n, .n], .row (flat tRelation.enc us_1), .dead, .box [(.m [2] 0 us_1.length tRelation.k), (.m [5] 0 box4_facts.length tFact.k)], .row (flat tFact.enc box4_facts), .dead, .row (flat tFact.enc ([({ relation := v_5.relation, values := us_10 } : Fact)] : (List Fact)))] ?_ (fun hj0_5 => ?_)
   ·skip
    refine t1 18 (by kernel_rfl) rfl rfl (TOp_appY (T := tFact) (f := tFact.enc) (xs := box4_facts) (ys := ([({ relation := v_5.relation, values := us_10 } : Fact)] : (List Fact))) tFact.len sl46 zero65 rfl bytes65 (by decide) rfl rfl rfl rfl (src_mT (f := tFact.enc) tFact.len rfl rfl (flat_cell tFact _)) (flat_cell tFact _) h_13 ?_)
    refine tmv 5 8 (by decide) (lb rfl) rfl rfl (lb rfl) ?_
    refine tf 19 rfl (purI_fa_b fld48_1 rfl rfl) rfl rfl (by kernel_rfl) ?_
    refine t1 20 (by kernel_rfl) rfl rfl (TOp_storeB sz46 rfl rfl rfl rfl rfl rfl rfl (by decide) (lb rfl) rfl ?_)
    refine TA_st (σ' := [.box [(sl tRelation d0.relations), (sl tFact d0.facts)], .box [.n, .n], .row (flat tRelation.enc us_1), .dead, .box [(.m [2] 0 us_1.length tRelation.k), (.m [5] 0 us_12.length tFact.k)], .row (flat tFact.enc us_12), .dead, .row (flat tFact.enc ([({ relation := v_5.relation, values := us_10 } : Fact)] : (List Fact))), .dead]) rfl ?_
    refine TA_nil (by kernel_rfl) ?_
    refine te [(1, (.b 0 0)), (2, (.b 1 0)), (3, (.b 4 0)), (4, (intA i4))] rfl ?_
    refine T_region ?_
    refine Tp rfl rfl (pur_move rfl) rfl ?_
    refine Tp rfl rfl (pur_wadd rfl rfl rfl) rfl ?_
    refine Tp rfl rfl (pur_assign rfl) rfl ?_
    refine TO_nil ?_
    obtain rfl := some_inj H
    exact again k3 ((w64 (i4 + 1)), us_12) (Nat.lt_succ_self _) (wp 6 (lb rfl) rfl rfl rfl rfl rfl) K3_
   refine TA_have 4 #[true, true, true, true, true, true, true, true, true, true, true, true, true, true, true, true, true, false, false, false, false] [(1, (.b 0 0)), (2, (.b 1 0)), (3, (.b 4 0)), (4, (intA i4)), (18, (.m [5] 0 box4_facts.length tFact.k)), (33, (.g [(intA v_5.relation), (sl tInt us_10)]))] [.box [(sl tRelation d0.relations), (sl tFact d0.facts)], .box [.n, .n], .row (flat tRelation.enc us_1), .dead, .box [(.m [2] 0 us_1.length tRelation.k), (.m [5] 0 box4_facts.length tFact.k)], .row (flat tFact.enc box4_facts), .dead, .dead] ?_ (fun hj1_5 => ?_)
   ·skip
    refine t1 17 (by kernel_rfl) rfl rfl (TOp_lit (nn := 1) (k := 2) sl46 zero65 rfl rfl rfl rfl (by decide) ?_)
    refine tmv 7 8 (by decide) (lb rfl) rfl rfl (lb rfl) ?_
    exact tj hj0_5 rfl (wp 8 (lb rfl) rfl rfl rfl rfl rfl)
   refine TA_have 5 #[true, true, true, true, true, true, true, true, true, true, true, true, true, true, true, true, false, false, false, false, false] [(1, (.b 0 0)), (2, (.b 1 0)), (3, (.b 4 0)), (4, (intA i4)), (18, (.m [5] 0 box4_facts.length tFact.k)), (24, (intA v_5.relation)), (32, (.m [6] 0 us_10.length tInt.k))] [.box [(sl tRelation d0.relations), (sl tFact d0.facts)], .box [.n, .n], .row (flat tRelation.enc us_1), .dead, .box [(.m [2] 0 us_1.length tRelation.k), (.m [5] 0 box4_facts.length tFact.k)], .row (flat tFact.enc box4_facts), .row (flat tInt.enc us_10), .dead] ?_ (fun hj2_5 => ?_)
   ·skip
    refine tf 16 rfl (purI_build bld65 rfl rfl) rfl rfl (by kernel_rfl) ?_
    refine TA_ghost (E' := [(1, (.b 0 0)), (2, (.b 1 0)), (3, (.b 4 0)), (4, (intA i4)), (18, (.m [5] 0 box4_facts.length tFact.k)), (24, (intA v_5.relation)), (32, (.m [6] 0 us_10.length tInt.k)), (33, (.g [(intA v_5.relation), (.m [6] 0 us_10.length tInt.k)]))]) (σ' := [.box [(sl tRelation d0.relations), (sl tFact d0.facts)], .box [.n, .n], .row (flat tRelation.enc us_1), .dead, .box [(.m [2] 0 us_1.length tRelation.k), (.m [5] 0 box4_facts.length tFact.k)], .row (flat tFact.enc box4_facts), .row (flat tInt.enc us_10), .dead]) (Ghost.weak (WeakL.to 8 (lb rfl) rfl rfl rfl rfl ⟨leR rfl, leR rfl, leR rfl, leR rfl, leR rfl, leR rfl, leR rfl, leR rfl, trivial⟩)) ?_
    refine TA_frz1 6 (E' := [(1, (.b 0 0)), (2, (.b 1 0)), (3, (.b 4 0)), (4, (intA i4)), (18, (.m [5] 0 box4_facts.length tFact.k)), (24, (intA v_5.relation)), (32, (sl tInt us_10)), (33, (.g [(intA v_5.relation), (sl tInt us_10)]))]) rfl rfl (lb rfl) ?_ ?_
    ·exact ⟨(.keep rfl), (.keep rfl), (.keep rfl), (.keep rfl), (.keep rfl), (.keep rfl), fz1E, (fz1G (fzC (.keep rfl) (fzC fz1E fzN))), trivial⟩
    refine TA_st (σ' := [.box [(sl tRelation d0.relations), (sl tFact d0.facts)], .box [.n, .n], .row (flat tRelation.enc us_1), .dead, .box [(.m [2] 0 us_1.length tRelation.k), (.m [5] 0 box4_facts.length tFact.k)], .row (flat tFact.enc box4_facts), .dead, .dead]) rfl ?_
    exact tj hj1_5 rfl (wp 8 (lb rfl) rfl rfl rfl rfl rfl)
   refine TA_have 6 #[true, false, true, true, true, true, true, true, true, true, true, true, true, true, true, true, false, false, false, false, false] [(1, (.b 0 0)), (2, (.b 1 0)), (3, (.b 4 0)), (4, (intA i4)), (17, (.b 4 1)), (24, (intA v_5.relation)), (32, (.m [6] 0 us_10.length tInt.k))] [.box [(sl tRelation d0.relations), (sl tFact d0.facts)], .box [.n, .n], .row (flat tRelation.enc us_1), .dead, .box [(.m [2] 0 us_1.length tRelation.k), (.m [5] 0 box4_facts.length tFact.k)], .row (flat tFact.enc box4_facts), .row (flat tInt.enc us_10), .dead] ?_ (fun hj3_5 => ?_)
   ·skip
    refine tf 16 rfl (purI_build bld65 rfl rfl) rfl rfl (by kernel_rfl) ?_
    refine TA_ghost (E' := [(1, (.b 0 0)), (2, (.b 1 0)), (3, (.b 4 0)), (4, (intA i4)), (17, (.b 4 1)), (24, (intA v_5.relation)), (32, (.m [6] 0 us_10.length tInt.k)), (33, (.g [(intA v_5.relation), (.m [6] 0 us_10.length tInt.k)]))]) (σ' := [.box [(sl tRelation d0.relations), (sl tFact d0.facts)], .box [.n, .n], .row (flat tRelation.enc us_1), .dead, .box [(.m [2] 0 us_1.length tRelation.k), (.m [5] 0 box4_facts.length tFact.k)], .row (flat tFact.enc box4_facts), .row (flat tInt.enc us_10), .dead]) (Ghost.weak (WeakL.to 8 (lb rfl) rfl rfl rfl rfl ⟨leR rfl, leR rfl, leR rfl, leR rfl, leR rfl, leR rfl, leR rfl, leR rfl, trivial⟩)) ?_
    refine TA_frz1 6 (E' := [(1, (.b 0 0)), (2, (.b 1 0)), (3, (.b 4 0)), (4, (intA i4)), (17, (.b 4 1)), (24, (intA v_5.relation)), (32, (sl tInt us_10)), (33, (.g [(intA v_5.relation), (sl tInt us_10)]))]) rfl rfl (lb rfl) ?_ ?_
    ·exact ⟨(.keep rfl), (.keep rfl), (.keep rfl), (.keep rfl), (.keep rfl), (.keep rfl), fz1E, (fz1G (fzC (.keep rfl) (fzC fz1E fzN))), trivial⟩
    refine TA_st (σ' := [.box [(sl tRelation d0.relations), (sl tFact d0.facts)], .box [.n, .n], .row (flat tRelation.enc us_1), .dead, .box [(.m [2] 0 us_1.length tRelation.k), (.m [5] 0 box4_facts.length tFact.k)], .row (flat tFact.enc box4_facts), .dead, .dead]) rfl ?_
    refine TA_all [1, 17] (by kernel_rfl) (by decide) ⟨?_, ?_, trivial⟩
    ·skip
     refine ⟨_, rfl, rfl, (TOp_pure (pur_ld_b one46 rfl rfl rfl rfl) rfl ?_)⟩
     exact tj hj1_5 rfl (wp 8 (lb rfl) rfl rfl rfl rfl rfl)
    ·skip
     refine ⟨_, rfl, rfl, (TOp_lit (nn := 1) (k := 2) sl46 zero65 rfl rfl rfl rfl (by decide) ?_)⟩
     refine tmv 7 8 (by decide) (lb rfl) rfl rfl (lb rfl) ?_
     refine t1 1 (by kernel_rfl) rfl rfl (TOp_pure (pur_ld_b one46 rfl rfl rfl rfl) rfl ?_)
     exact tj hj0_5 rfl (wp 8 (lb rfl) rfl rfl rfl rfl rfl)
   refine TA_have 6 #[true, true, true, true, true, true, true, false, true, true, true, true, true, true, true, true, false, false, false, false, false] [(1, (.b 0 0)), (2, (.b 1 0)), (3, (.b 4 0)), (4, (intA i4)), (18, (.m [5] 0 box4_facts.length tFact.k)), (23, (.q (flat tFact.enc d0.facts) (n_7 * tFact.k + 0))), (32, (.m [6] 0 us_10.length tInt.k))] [.box [(sl tRelation d0.relations), (sl tFact d0.facts)], .box [.n, .n], .row (flat tRelation.enc us_1), .dead, .box [(.m [2] 0 us_1.length tRelation.k), (.m [5] 0 box4_facts.length tFact.k)], .row (flat tFact.enc box4_facts), .row (flat tInt.enc us_10), .dead] ?_ (fun hj4_5 => ?_)
   ·skip
    refine t1 7 (by kernel_rfl) rfl rfl (TOp_pure (pur_ldT (T := tFact) (i := n_7) (off := 0) rfl one3 rfl rfl hv_9 rfl) rfl ?_)
    exact tj hj2_5 rfl (wp 8 (lb rfl) rfl rfl rfl rfl rfl)
   refine TA_have 6 #[true, true, true, true, true, true, true, true, true, true, true, true, true, true, true, false, false, false, false, false, false] [(1, (.b 0 0)), (2, (.b 1 0)), (3, (.b 4 0)), (4, (intA i4)), (18, (.m [5] 0 box4_facts.length tFact.k)), (24, (intA v_5.relation)), (25, (.m [6] 0 ([] : (List Int)).length tInt.k)), (31, (sl tInt v_5.values))] [.box [(sl tRelation d0.relations), (sl tFact d0.facts)], .box [.n, .n], .row (flat tRelation.enc us_1), .dead, .box [(.m [2] 0 us_1.length tRelation.k), (.m [5] 0 box4_facts.length tFact.k)], .row (flat tFact.enc box4_facts), .row (flat tInt.enc ([] : (List Int))), .dead] ?_ (fun hj5_5 => ?_)
   ·skip
    refine t1 15 (by kernel_rfl) rfl rfl (TOp_appY (T := tInt) (f := tInt.enc) (xs := ([] : (List Int))) (ys := v_5.values) tInt.len sl23 zero3 rfl bytes3 (by decide) rfl rfl rfl rfl (src_T (T := tInt) rfl) (flat_cell tInt _) h_11 ?_)
    refine tmv 6 8 (by decide) (lb rfl) rfl rfl (lb rfl) ?_
    exact tj hj2_5 rfl (wp 8 (lb rfl) rfl rfl rfl rfl rfl)
   refine TA_have 7 #[true, false, true, true, true, true, true, false, true, true, true, true, true, true, true, true, false, false, false, false, false] [(1, (.b 0 0)), (2, (.b 1 0)), (3, (.b 4 0)), (4, (intA i4)), (17, (.b 4 1)), (23, (.q (flat tFact.enc d0.facts) (n_7 * tFact.k + 0))), (32, (.m [6] 0 us_10.length tInt.k))] [.box [(sl tRelation d0.relations), (sl tFact d0.facts)], .box [.n, .n], .row (flat tRelation.enc us_1), .dead, .box [(.m [2] 0 us_1.length tRelation.k), (.m [5] 0 box4_facts.length tFact.k)], .row (flat tFact.enc box4_facts), .row (flat tInt.enc us_10), .dead] ?_ (fun hj6_5 => ?_)
   ·skip
    refine TA_all [1, 7] (by kernel_rfl) (by decide) ⟨?_, ?_, trivial⟩
    ·skip
     refine ⟨_, rfl, rfl, (TOp_pure (pur_ld_b one46 rfl rfl rfl rfl) rfl ?_)⟩
     exact tj hj4_5 rfl (wp 8 (lb rfl) rfl rfl rfl rfl rfl)
    ·skip
     refine ⟨_, rfl, rfl, (TOp_pure (pur_ldT (T := tFact) (i := n_7) (off := 0) rfl one3 rfl rfl hv_9 rfl) rfl ?_)⟩
     exact tj hj3_5 rfl (wp 8 (lb rfl) rfl rfl rfl rfl rfl)
   refine TA_have 7 #[true, false, true, true, true, true, true, true, true, true, true, true, true, true, true, false, false, false, false, false, false] [(1, (.b 0 0)), (2, (.b 1 0)), (3, (.b 4 0)), (4, (intA i4)), (17, (.b 4 1)), (24, (intA v_5.relation)), (25, (.m [6] 0 ([] : (List Int)).length tInt.k)), (31, (sl tInt v_5.values))] [.box [(sl tRelation d0.relations), (sl tFact d0.facts)], .box [.n, .n], .row (flat tRelation.enc us_1), .dead, .box [(.m [2] 0 us_1.length tRelation.k), (.m [5] 0 box4_facts.length tFact.k)], .row (flat tFact.enc box4_facts), .row (flat tInt.enc ([] : (List Int))), .dead] ?_ (fun hj7_5 => ?_)
   ·skip
    refine TA_all [1, 15] (by kernel_rfl) (by decide) ⟨?_, ?_, trivial⟩
    ·skip
     refine ⟨_, rfl, rfl, (TOp_pure (pur_ld_b one46 rfl rfl rfl rfl) rfl ?_)⟩
     exact tj hj5_5 rfl (wp 8 (lb rfl) rfl rfl rfl rfl rfl)
    ·skip
     refine ⟨_, rfl, rfl, (TOp_appY (T := tInt) (f := tInt.enc) (xs := ([] : (List Int))) (ys := v_5.values) tInt.len sl23 zero3 rfl bytes3 (by decide) rfl rfl rfl rfl (src_T (T := tInt) rfl) (flat_cell tInt _) h_11 ?_)⟩
     refine tmv 6 8 (by decide) (lb rfl) rfl rfl (lb rfl) ?_
     exact tj hj3_5 rfl (wp 8 (lb rfl) rfl rfl rfl rfl rfl)
   refine TA_have 7 #[true, true, true, true, true, true, true, false, true, true, true, true, true, true, true, false, false, false, false, false, false] [(1, (.b 0 0)), (2, (.b 1 0)), (3, (.b 4 0)), (4, (intA i4)), (18, (.m [5] 0 box4_facts.length tFact.k)), (23, (.q (flat tFact.enc d0.facts) (n_7 * tFact.k + 0))), (25, (.m [6] 0 ([] : (List Int)).length tInt.k)), (31, (sl tInt v_5.values))] [.box [(sl tRelation d0.relations), (sl tFact d0.facts)], .box [.n, .n], .row (flat tRelation.enc us_1), .dead, .box [(.m [2] 0 us_1.length tRelation.k), (.m [5] 0 box4_facts.length tFact.k)], .row (flat tFact.enc box4_facts), .row (flat tInt.enc ([] : (List Int))), .dead] ?_ (fun hj8_5 => ?_)
   ·skip
    refine TA_all [7, 15] (by kernel_rfl) (by decide) ⟨?_, ?_, trivial⟩
    ·skip
     refine ⟨_, rfl, rfl, (TOp_pure (pur_ldT (T := tFact) (i := n_7) (off := 0) rfl one3 rfl rfl hv_9 rfl) rfl ?_)⟩
     exact tj hj5_5 rfl (wp 8 (lb rfl) rfl rfl rfl rfl rfl)
    ·skip
     refine ⟨_, rfl, rfl, (TOp_appY (T := tInt) (f := tInt.enc) (xs := ([] : (List Int))) (ys := v_5.values) tInt.len sl23 zero3 rfl bytes3 (by decide) rfl rfl rfl rfl (src_T (T := tInt) rfl) (flat_cell tInt _) h_11 ?_)⟩
     refine tmv 6 8 (by decide) (lb rfl) rfl rfl (lb rfl) ?_
     exact tj hj4_5 rfl (wp 8 (lb rfl) rfl rfl rfl rfl rfl)
   refine TA_have 7 #[true, true, true, true, true, true, true, true, false, true, true, true, true, true, true, false, false, false, false, false, false] [(1, (.b 0 0)), (2, (.b 1 0)), (3, (.b 4 0)), (4, (intA i4)), (18, (.m [5] 0 box4_facts.length tFact.k)), (24, (intA v_5.relation)), (31, (sl tInt v_5.values))] [.box [(sl tRelation d0.relations), (sl tFact d0.facts)], .box [.n, .n], .row (flat tRelation.enc us_1), .dead, .box [(.m [2] 0 us_1.length tRelation.k), (.m [5] 0 box4_facts.length tFact.k)], .row (flat tFact.enc box4_facts), .dead, .dead] ?_ (fun hj9_5 => ?_)
   ·skip
    refine t1 8 (by kernel_rfl) rfl rfl (TOp_lit (nn := 0) (k := 1) sl23 zero3 rfl rfl rfl rfl (by decide) ?_)
    refine tmv 6 8 (by decide) (lb rfl) rfl rfl (lb rfl) ?_
    exact tj hj5_5 rfl (wp 8 (lb rfl) rfl rfl rfl rfl rfl)
   refine TA_have 7 #[true, true, true, true, true, true, true, true, true, true, true, true, true, true, false, false, false, false, false, false, false] [(1, (.b 0 0)), (2, (.b 1 0)), (3, (.b 4 0)), (4, (intA i4)), (18, (.m [5] 0 box4_facts.length tFact.k)), (24, (intA v_5.relation)), (25, (.m [6] 0 ([] : (List Int)).length tInt.k)), (30, (.q (flat tFact.enc d0.facts) (n_7 * tFact.k + 1)))] [.box [(sl tRelation d0.relations), (sl tFact d0.facts)], .box [.n, .n], .row (flat tRelation.enc us_1), .dead, .box [(.m [2] 0 us_1.length tRelation.k), (.m [5] 0 box4_facts.length tFact.k)], .row (flat tFact.enc box4_facts), .row (flat tInt.enc ([] : (List Int))), .dead] ?_ (fun hj10_5 => ?_)
   ·skip
    refine t1 14 (by kernel_rfl) rfl rfl (TOp_pure (pur_ldT (T := tFact) (i := n_7) (off := 1) rfl one23 rfl rfl hv_9 rfl) rfl ?_)
    exact tj hj5_5 rfl (wp 8 (lb rfl) rfl rfl rfl rfl rfl)
   refine TA_have 8 #[true, false, true, true, true, true, true, false, true, true, true, true, true, true, true, false, false, false, false, false, false] [(1, (.b 0 0)), (2, (.b 1 0)), (3, (.b 4 0)), (4, (intA i4)), (17, (.b 4 1)), (23, (.q (flat tFact.enc d0.facts) (n_7 * tFact.k + 0))), (25, (.m [6] 0 ([] : (List Int)).length tInt.k)), (31, (sl tInt v_5.values))] [.box [(sl tRelation d0.relations), (sl tFact d0.facts)], .box [.n, .n], .row (flat tRelation.enc us_1), .dead, .box [(.m [2] 0 us_1.length tRelation.k), (.m [5] 0 box4_facts.length tFact.k)], .row (flat tFact.enc box4_facts), .row (flat tInt.enc ([] : (List Int))), .dead] ?_ (fun hj11_5 => ?_)
   ·skip
    refine TA_all [1, 7, 15] (by kernel_rfl) (by decide) ⟨?_, ?_, ?_, trivial⟩
    ·skip
     refine ⟨_, rfl, rfl, (TOp_pure (pur_ld_b one46 rfl rfl rfl rfl) rfl ?_)⟩
     exact tj hj8_5 rfl (wp 8 (lb rfl) rfl rfl rfl rfl rfl)
    ·skip
     refine ⟨_, rfl, rfl, (TOp_pure (pur_ldT (T := tFact) (i := n_7) (off := 0) rfl one3 rfl rfl hv_9 rfl) rfl ?_)⟩
     exact tj hj7_5 rfl (wp 8 (lb rfl) rfl rfl rfl rfl rfl)
    ·skip
     refine ⟨_, rfl, rfl, (TOp_appY (T := tInt) (f := tInt.enc) (xs := ([] : (List Int))) (ys := v_5.values) tInt.len sl23 zero3 rfl bytes3 (by decide) rfl rfl rfl rfl (src_T (T := tInt) rfl) (flat_cell tInt _) h_11 ?_)⟩
     refine tmv 6 8 (by decide) (lb rfl) rfl rfl (lb rfl) ?_
     exact tj hj6_5 rfl (wp 8 (lb rfl) rfl rfl rfl rfl rfl)
   refine TA_have 8 #[true, false, true, true, true, true, true, true, false, true, true, true, true, true, true, false, false, false, false, false, false] [(1, (.b 0 0)), (2, (.b 1 0)), (3, (.b 4 0)), (4, (intA i4)), (17, (.b 4 1)), (24, (intA v_5.relation)), (31, (sl tInt v_5.values))] [.box [(sl tRelation d0.relations), (sl tFact d0.facts)], .box [.n, .n], .row (flat tRelation.enc us_1), .dead, .box [(.m [2] 0 us_1.length tRelation.k), (.m [5] 0 box4_facts.length tFact.k)], .row (flat tFact.enc box4_facts), .dead, .dead] ?_ (fun hj12_5 => ?_)
   ·skip
    refine TA_all [1, 8] (by kernel_rfl) (by decide) ⟨?_, ?_, trivial⟩
    ·skip
     refine ⟨_, rfl, rfl, (TOp_pure (pur_ld_b one46 rfl rfl rfl rfl) rfl ?_)⟩
     exact tj hj9_5 rfl (wp 8 (lb rfl) rfl rfl rfl rfl rfl)
    ·skip
     refine ⟨_, rfl, rfl, (TOp_lit (nn := 0) (k := 1) sl23 zero3 rfl rfl rfl rfl (by decide) ?_)⟩
     refine tmv 6 8 (by decide) (lb rfl) rfl rfl (lb rfl) ?_
     exact tj hj7_5 rfl (wp 8 (lb rfl) rfl rfl rfl rfl rfl)
   refine TA_have 8 #[true, false, true, true, true, true, true, true, true, true, true, true, true, true, false, false, false, false, false, false, false] [(1, (.b 0 0)), (2, (.b 1 0)), (3, (.b 4 0)), (4, (intA i4)), (17, (.b 4 1)), (24, (intA v_5.relation)), (25, (.m [6] 0 ([] : (List Int)).length tInt.k)), (30, (.q (flat tFact.enc d0.facts) (n_7 * tFact.k + 1)))] [.box [(sl tRelation d0.relations), (sl tFact d0.facts)], .box [.n, .n], .row (flat tRelation.enc us_1), .dead, .box [(.m [2] 0 us_1.length tRelation.k), (.m [5] 0 box4_facts.length tFact.k)], .row (flat tFact.enc box4_facts), .row (flat tInt.enc ([] : (List Int))), .dead] ?_ (fun hj13_5 => ?_)
   ·skip
    refine TA_all [1, 14] (by kernel_rfl) (by decide) ⟨?_, ?_, trivial⟩
    ·skip
     refine ⟨_, rfl, rfl, (TOp_pure (pur_ld_b one46 rfl rfl rfl rfl) rfl ?_)⟩
     exact tj hj10_5 rfl (wp 8 (lb rfl) rfl rfl rfl rfl rfl)
    ·skip
     refine ⟨_, rfl, rfl, (TOp_pure (pur_ldT (T := tFact) (i := n_7) (off := 1) rfl one23 rfl rfl hv_9 rfl) rfl ?_)⟩
     exact tj hj7_5 rfl (wp 8 (lb rfl) rfl rfl rfl rfl rfl)
   refine TA_have 8 #[true, true, true, true, true, true, true, false, false, true, true, true, true, true, true, false, false, false, false, false, false] [(1, (.b 0 0)), (2, (.b 1 0)), (3, (.b 4 0)), (4, (intA i4)), (18, (.m [5] 0 box4_facts.length tFact.k)), (23, (.q (flat tFact.enc d0.facts) (n_7 * tFact.k + 0))), (31, (sl tInt v_5.values))] [.box [(sl tRelation d0.relations), (sl tFact d0.facts)], .box [.n, .n], .row (flat tRelation.enc us_1), .dead, .box [(.m [2] 0 us_1.length tRelation.k), (.m [5] 0 box4_facts.length tFact.k)], .row (flat tFact.enc box4_facts), .dead, .dead] ?_ (fun hj14_5 => ?_)
   ·skip
    refine TA_all [7, 8] (by kernel_rfl) (by decide) ⟨?_, ?_, trivial⟩
    ·skip
     refine ⟨_, rfl, rfl, (TOp_pure (pur_ldT (T := tFact) (i := n_7) (off := 0) rfl one3 rfl rfl hv_9 rfl) rfl ?_)⟩
     exact tj hj9_5 rfl (wp 8 (lb rfl) rfl rfl rfl rfl rfl)
    ·skip
     refine ⟨_, rfl, rfl, (TOp_lit (nn := 0) (k := 1) sl23 zero3 rfl rfl rfl rfl (by decide) ?_)⟩
     refine tmv 6 8 (by decide) (lb rfl) rfl rfl (lb rfl) ?_
     exact tj hj8_5 rfl (wp 8 (lb rfl) rfl rfl rfl rfl rfl)
   refine TA_have 8 #[true, true, true, true, true, true, true, false, true, true, true, true, true, true, false, false, false, false, false, false, false] [(1, (.b 0 0)), (2, (.b 1 0)), (3, (.b 4 0)), (4, (intA i4)), (18, (.m [5] 0 box4_facts.length tFact.k)), (23, (.q (flat tFact.enc d0.facts) (n_7 * tFact.k + 0))), (25, (.m [6] 0 ([] : (List Int)).length tInt.k)), (30, (.q (flat tFact.enc d0.facts) (n_7 * tFact.k + 1)))] [.box [(sl tRelation d0.relations), (sl tFact d0.facts)], .box [.n, .n], .row (flat tRelation.enc us_1), .dead, .box [(.m [2] 0 us_1.length tRelation.k), (.m [5] 0 box4_facts.length tFact.k)], .row (flat tFact.enc box4_facts), .row (flat tInt.enc ([] : (List Int))), .dead] ?_ (fun hj15_5 => ?_)
   ·skip
    refine TA_all [7, 14] (by kernel_rfl) (by decide) ⟨?_, ?_, trivial⟩
    ·skip
     refine ⟨_, rfl, rfl, (TOp_pure (pur_ldT (T := tFact) (i := n_7) (off := 0) rfl one3 rfl rfl hv_9 rfl) rfl ?_)⟩
     exact tj hj10_5 rfl (wp 8 (lb rfl) rfl rfl rfl rfl rfl)
    ·skip
     refine ⟨_, rfl, rfl, (TOp_pure (pur_ldT (T := tFact) (i := n_7) (off := 1) rfl one23 rfl rfl hv_9 rfl) rfl ?_)⟩
     exact tj hj8_5 rfl (wp 8 (lb rfl) rfl rfl rfl rfl rfl)
   refine TA_have 8 #[true, true, true, true, true, true, true, true, false, true, true, true, true, true, false, false, false, false, false, false, false] [(1, (.b 0 0)), (2, (.b 1 0)), (3, (.b 4 0)), (4, (intA i4)), (18, (.m [5] 0 box4_facts.length tFact.k)), (24, (intA v_5.relation)), (30, (.q (flat tFact.enc d0.facts) (n_7 * tFact.k + 1)))] [.box [(sl tRelation d0.relations), (sl tFact d0.facts)], .box [.n, .n], .row (flat tRelation.enc us_1), .dead, .box [(.m [2] 0 us_1.length tRelation.k), (.m [5] 0 box4_facts.length tFact.k)], .row (flat tFact.enc box4_facts), .dead, .dead] ?_ (fun hj16_5 => ?_)
   ·skip
    refine TA_all [8, 14] (by kernel_rfl) (by decide) ⟨?_, ?_, trivial⟩
    ·skip
     refine ⟨_, rfl, rfl, (TOp_lit (nn := 0) (k := 1) sl23 zero3 rfl rfl rfl rfl (by decide) ?_)⟩
     refine tmv 6 8 (by decide) (lb rfl) rfl rfl (lb rfl) ?_
     exact tj hj10_5 rfl (wp 8 (lb rfl) rfl rfl rfl rfl rfl)
    ·skip
     refine ⟨_, rfl, rfl, (TOp_pure (pur_ldT (T := tFact) (i := n_7) (off := 1) rfl one23 rfl rfl hv_9 rfl) rfl ?_)⟩
     exact tj hj9_5 rfl (wp 8 (lb rfl) rfl rfl rfl rfl rfl)
   refine TA_have 9 #[true, false, true, true, true, true, true, false, false, true, true, true, true, true, true, false, false, false, false, false, false] [(1, (.b 0 0)), (2, (.b 1 0)), (3, (.b 4 0)), (4, (intA i4)), (17, (.b 4 1)), (23, (.q (flat tFact.enc d0.facts) (n_7 * tFact.k + 0))), (31, (sl tInt v_5.values))] [.box [(sl tRelation d0.relations), (sl tFact d0.facts)], .box [.n, .n], .row (flat tRelation.enc us_1), .dead, .box [(.m [2] 0 us_1.length tRelation.k), (.m [5] 0 box4_facts.length tFact.k)], .row (flat tFact.enc box4_facts), .dead, .dead] ?_ (fun hj17_5 => ?_)
   ·skip
    refine TA_all [1, 7, 8] (by kernel_rfl) (by decide) ⟨?_, ?_, ?_, trivial⟩
    ·skip
     refine ⟨_, rfl, rfl, (TOp_pure (pur_ld_b one46 rfl rfl rfl rfl) rfl ?_)⟩
     exact tj hj14_5 rfl (wp 8 (lb rfl) rfl rfl rfl rfl rfl)
    ·skip
     refine ⟨_, rfl, rfl, (TOp_pure (pur_ldT (T := tFact) (i := n_7) (off := 0) rfl one3 rfl rfl hv_9 rfl) rfl ?_)⟩
     exact tj hj12_5 rfl (wp 8 (lb rfl) rfl rfl rfl rfl rfl)
    ·skip
     refine ⟨_, rfl, rfl, (TOp_lit (nn := 0) (k := 1) sl23 zero3 rfl rfl rfl rfl (by decide) ?_)⟩
     refine tmv 6 8 (by decide) (lb rfl) rfl rfl (lb rfl) ?_
     exact tj hj11_5 rfl (wp 8 (lb rfl) rfl rfl rfl rfl rfl)
   refine TA_have 9 #[true, false, true, true, true, true, true, false, true, true, true, true, true, true, false, false, false, false, false, false, false] [(1, (.b 0 0)), (2, (.b 1 0)), (3, (.b 4 0)), (4, (intA i4)), (17, (.b 4 1)), (23, (.q (flat tFact.enc d0.facts) (n_7 * tFact.k + 0))), (25, (.m [6] 0 ([] : (List Int)).length tInt.k)), (30, (.q (flat tFact.enc d0.facts) (n_7 * tFact.k + 1)))] [.box [(sl tRelation d0.relations), (sl tFact d0.facts)], .box [.n, .n], .row (flat tRelation.enc us_1), .dead, .box [(.m [2] 0 us_1.length tRelation.k), (.m [5] 0 box4_facts.length tFact.k)], .row (flat tFact.enc box4_facts), .row (flat tInt.enc ([] : (List Int))), .dead] ?_ (fun hj18_5 => ?_)
   ·skip
    refine TA_all [1, 7, 14] (by kernel_rfl) (by decide) ⟨?_, ?_, ?_, trivial⟩
    ·skip
     refine ⟨_, rfl, rfl, (TOp_pure (pur_ld_b one46 rfl rfl rfl rfl) rfl ?_)⟩
     exact tj hj15_5 rfl (wp 8 (lb rfl) rfl rfl rfl rfl rfl)
    ·skip
     refine ⟨_, rfl, rfl, (TOp_pure (pur_ldT (T := tFact) (i := n_7) (off := 0) rfl one3 rfl rfl hv_9 rfl) rfl ?_)⟩
     exact tj hj13_5 rfl (wp 8 (lb rfl) rfl rfl rfl rfl rfl)
    ·skip
     refine ⟨_, rfl, rfl, (TOp_pure (pur_ldT (T := tFact) (i := n_7) (off := 1) rfl one23 rfl rfl hv_9 rfl) rfl ?_)⟩
     exact tj hj11_5 rfl (wp 8 (lb rfl) rfl rfl rfl rfl rfl)
   refine TA_have 9 #[true, false, true, true, true, true, true, true, false, true, true, true, true, true, false, false, false, false, false, false, false] [(1, (.b 0 0)), (2, (.b 1 0)), (3, (.b 4 0)), (4, (intA i4)), (17, (.b 4 1)), (24, (intA v_5.relation)), (30, (.q (flat tFact.enc d0.facts) (n_7 * tFact.k + 1)))] [.box [(sl tRelation d0.relations), (sl tFact d0.facts)], .box [.n, .n], .row (flat tRelation.enc us_1), .dead, .box [(.m [2] 0 us_1.length tRelation.k), (.m [5] 0 box4_facts.length tFact.k)], .row (flat tFact.enc box4_facts), .dead, .dead] ?_ (fun hj19_5 => ?_)
   ·skip
    refine TA_all [1, 8, 14] (by kernel_rfl) (by decide) ⟨?_, ?_, ?_, trivial⟩
    ·skip
     refine ⟨_, rfl, rfl, (TOp_pure (pur_ld_b one46 rfl rfl rfl rfl) rfl ?_)⟩
     exact tj hj16_5 rfl (wp 8 (lb rfl) rfl rfl rfl rfl rfl)
    ·skip
     refine ⟨_, rfl, rfl, (TOp_lit (nn := 0) (k := 1) sl23 zero3 rfl rfl rfl rfl (by decide) ?_)⟩
     refine tmv 6 8 (by decide) (lb rfl) rfl rfl (lb rfl) ?_
     exact tj hj13_5 rfl (wp 8 (lb rfl) rfl rfl rfl rfl rfl)
    ·skip
     refine ⟨_, rfl, rfl, (TOp_pure (pur_ldT (T := tFact) (i := n_7) (off := 1) rfl one23 rfl rfl hv_9 rfl) rfl ?_)⟩
     exact tj hj12_5 rfl (wp 8 (lb rfl) rfl rfl rfl rfl rfl)
   refine TA_have 9 #[true, true, true, false, true, false, false, false, true, true, true, true, true, true, true, true, false, false, false, false, false] [(1, (.b 0 0)), (2, (.b 1 0)), (3, (.b 4 0)), (4, (intA i4)), (18, (.m [5] 0 box4_facts.length tFact.k)), (19, (.b 0 1)), (21, (intA i4)), (32, (.m [6] 0 us_10.length tInt.k))] [.box [(sl tRelation d0.relations), (sl tFact d0.facts)], .box [.n, .n], .row (flat tRelation.enc us_1), .dead, .box [(.m [2] 0 us_1.length tRelation.k), (.m [5] 0 box4_facts.length tFact.k)], .row (flat tFact.enc box4_facts), .row (flat tInt.enc us_10), .dead] ?_ (fun hj20_5 => ?_)
   ·skip
    refine t1 3 (by kernel_rfl) rfl rfl (TOp_pure (pur_ld_b one46 rfl rfl rfl rfl) rfl ?_)
    refine tf 5 rfl (purI_ixT (T := tFact) sl46 rfl rfl hz_8 hv_9 rfl) rfl rfl (by kernel_rfl) ?_
    refine tf 6 rfl (purI_fa_q fld65_0 rfl rfl) rfl rfl (by kernel_rfl) ?_
    exact tj hj4_5 rfl (wp 8 (lb rfl) rfl rfl rfl rfl rfl)
   refine TA_have 9 #[true, true, true, true, true, true, true, false, false, true, true, true, true, true, false, false, false, false, false, false, false] [(1, (.b 0 0)), (2, (.b 1 0)), (3, (.b 4 0)), (4, (intA i4)), (18, (.m [5] 0 box4_facts.length tFact.k)), (23, (.q (flat tFact.enc d0.facts) (n_7 * tFact.k + 0))), (30, (.q (flat tFact.enc d0.facts) (n_7 * tFact.k + 1)))] [.box [(sl tRelation d0.relations), (sl tFact d0.facts)], .box [.n, .n], .row (flat tRelation.enc us_1), .dead, .box [(.m [2] 0 us_1.length tRelation.k), (.m [5] 0 box4_facts.length tFact.k)], .row (flat tFact.enc box4_facts), .dead, .dead] ?_ (fun hj21_5 => ?_)
   ·skip
    refine TA_all [7, 8, 14] (by kernel_rfl) (by decide) ⟨?_, ?_, ?_, trivial⟩
    ·skip
     refine ⟨_, rfl, rfl, (TOp_pure (pur_ldT (T := tFact) (i := n_7) (off := 0) rfl one3 rfl rfl hv_9 rfl) rfl ?_)⟩
     exact tj hj16_5 rfl (wp 8 (lb rfl) rfl rfl rfl rfl rfl)
    ·skip
     refine ⟨_, rfl, rfl, (TOp_lit (nn := 0) (k := 1) sl23 zero3 rfl rfl rfl rfl (by decide) ?_)⟩
     refine tmv 6 8 (by decide) (lb rfl) rfl rfl (lb rfl) ?_
     exact tj hj15_5 rfl (wp 8 (lb rfl) rfl rfl rfl rfl rfl)
    ·skip
     refine ⟨_, rfl, rfl, (TOp_pure (pur_ldT (T := tFact) (i := n_7) (off := 1) rfl one23 rfl rfl hv_9 rfl) rfl ?_)⟩
     exact tj hj14_5 rfl (wp 8 (lb rfl) rfl rfl rfl rfl rfl)
   refine TA_have 10 #[true, false, true, true, true, true, true, false, false, true, true, true, true, true, false, false, false, false, false, false, false] [(1, (.b 0 0)), (2, (.b 1 0)), (3, (.b 4 0)), (4, (intA i4)), (17, (.b 4 1)), (23, (.q (flat tFact.enc d0.facts) (n_7 * tFact.k + 0))), (30, (.q (flat tFact.enc d0.facts) (n_7 * tFact.k + 1)))] [.box [(sl tRelation d0.relations), (sl tFact d0.facts)], .box [.n, .n], .row (flat tRelation.enc us_1), .dead, .box [(.m [2] 0 us_1.length tRelation.k), (.m [5] 0 box4_facts.length tFact.k)], .row (flat tFact.enc box4_facts), .dead, .dead] ?_ (fun hj22_5 => ?_)
   ·skip
    refine TA_all [1, 7, 8, 14] (by kernel_rfl) (by decide) ⟨?_, ?_, ?_, ?_, trivial⟩
    ·skip
     refine ⟨_, rfl, rfl, (TOp_pure (pur_ld_b one46 rfl rfl rfl rfl) rfl ?_)⟩
     exact tj hj21_5 rfl (wp 8 (lb rfl) rfl rfl rfl rfl rfl)
    ·skip
     refine ⟨_, rfl, rfl, (TOp_pure (pur_ldT (T := tFact) (i := n_7) (off := 0) rfl one3 rfl rfl hv_9 rfl) rfl ?_)⟩
     exact tj hj19_5 rfl (wp 8 (lb rfl) rfl rfl rfl rfl rfl)
    ·skip
     refine ⟨_, rfl, rfl, (TOp_lit (nn := 0) (k := 1) sl23 zero3 rfl rfl rfl rfl (by decide) ?_)⟩
     refine tmv 6 8 (by decide) (lb rfl) rfl rfl (lb rfl) ?_
     exact tj hj18_5 rfl (wp 8 (lb rfl) rfl rfl rfl rfl rfl)
    ·skip
     refine ⟨_, rfl, rfl, (TOp_pure (pur_ldT (T := tFact) (i := n_7) (off := 1) rfl one23 rfl rfl hv_9 rfl) rfl ?_)⟩
     exact tj hj17_5 rfl (wp 8 (lb rfl) rfl rfl rfl rfl rfl)
   refine TA_have 10 #[true, true, true, false, true, false, false, false, true, true, true, true, true, true, true, false, false, false, false, false, false] [(1, (.b 0 0)), (2, (.b 1 0)), (3, (.b 4 0)), (4, (intA i4)), (18, (.m [5] 0 box4_facts.length tFact.k)), (19, (.b 0 1)), (21, (intA i4)), (25, (.m [6] 0 ([] : (List Int)).length tInt.k)), (31, (sl tInt v_5.values))] [.box [(sl tRelation d0.relations), (sl tFact d0.facts)], .box [.n, .n], .row (flat tRelation.enc us_1), .dead, .box [(.m [2] 0 us_1.length tRelation.k), (.m [5] 0 box4_facts.length tFact.k)], .row (flat tFact.enc box4_facts), .row (flat tInt.enc ([] : (List Int))), .dead] ?_ (fun hj23_5 => ?_)
   ·skip
    refine TA_all [3, 15] (by kernel_rfl) (by decide) ⟨?_, ?_, trivial⟩
    ·skip
     refine ⟨_, rfl, rfl, (TOp_pure (pur_ld_b one46 rfl rfl rfl rfl) rfl ?_)⟩
     refine tf 5 rfl (purI_ixT (T := tFact) sl46 rfl rfl hz_8 hv_9 rfl) rfl rfl (by kernel_rfl) ?_
     refine tf 6 rfl (purI_fa_q fld65_0 rfl rfl) rfl rfl (by kernel_rfl) ?_
     exact tj hj8_5 rfl (wp 8 (lb rfl) rfl rfl rfl rfl rfl)
    ·skip
     refine ⟨_, rfl, rfl, (TOp_appY (T := tInt) (f := tInt.enc) (xs := ([] : (List Int))) (ys := v_5.values) tInt.len sl23 zero3 rfl bytes3 (by decide) rfl rfl rfl rfl (src_T (T := tInt) rfl) (flat_cell tInt _) h_11 ?_)⟩
     refine tmv 6 8 (by decide) (lb rfl) rfl rfl (lb rfl) ?_
     exact tj hj20_5 rfl (wp 8 (lb rfl) rfl rfl rfl rfl rfl)
   refine TA_have 10 #[true, true, true, true, true, true, true, true, true, true, false, true, false, false, false, false, false, false, false, false, false] [(1, (.b 0 0)), (2, (.b 1 0)), (3, (.b 4 0)), (4, (intA i4)), (18, (.m [5] 0 box4_facts.length tFact.k)), (24, (intA v_5.relation)), (25, (.m [6] 0 ([] : (List Int)).length tInt.k)), (26, (.b 0 1)), (28, (intA i4))] [.box [(sl tRelation d0.relations), (sl tFact d0.facts)], .box [.n, .n], .row (flat tRelation.enc us_1), .dead, .box [(.m [2] 0 us_1.length tRelation.k), (.m [5] 0 box4_facts.length tFact.k)], .row (flat tFact.enc box4_facts), .row (flat tInt.enc ([] : (List Int))), .dead] ?_ (fun hj24_5 => ?_)
   ·skip
    refine t1 10 (by kernel_rfl) rfl rfl (TOp_pure (pur_ld_b one46 rfl rfl rfl rfl) rfl ?_)
    refine tf 12 rfl (purI_ixT (T := tFact) sl46 rfl rfl hz_8 hv_9 rfl) rfl rfl (by kernel_rfl) ?_
    refine tf 13 rfl (purI_fa_q fld65_1 rfl rfl) rfl rfl (by kernel_rfl) ?_
    exact tj hj10_5 rfl (wp 8 (lb rfl) rfl rfl rfl rfl rfl)
   refine TA_have 11 #[true, false, true, false, true, false, false, false, true, true, true, true, true, true, true, false, false, false, false, false, false] [(1, (.b 0 0)), (2, (.b 1 0)), (3, (.b 4 0)), (4, (intA i4)), (17, (.b 4 1)), (19, (.b 0 1)), (21, (intA i4)), (25, (.m [6] 0 ([] : (List Int)).length tInt.k)), (31, (sl tInt v_5.values))] [.box [(sl tRelation d0.relations), (sl tFact d0.facts)], .box [.n, .n], .row (flat tRelation.enc us_1), .dead, .box [(.m [2] 0 us_1.length tRelation.k), (.m [5] 0 box4_facts.length tFact.k)], .row (flat tFact.enc box4_facts), .row (flat tInt.enc ([] : (List Int))), .dead] ?_ (fun hj25_5 => ?_)
   ·skip
    refine TA_all [1, 3, 15] (by kernel_rfl) (by decide) ⟨?_, ?_, ?_, trivial⟩
    ·skip
     refine ⟨_, rfl, rfl, (TOp_pure (pur_ld_b one46 rfl rfl rfl rfl) rfl ?_)⟩
     exact tj hj23_5 rfl (wp 8 (lb rfl) rfl rfl rfl rfl rfl)
    ·skip
     refine ⟨_, rfl, rfl, (TOp_pure (pur_ld_b one46 rfl rfl rfl rfl) rfl ?_)⟩
     refine tf 5 rfl (purI_ixT (T := tFact) sl46 rfl rfl hz_8 hv_9 rfl) rfl rfl (by kernel_rfl) ?_
     refine tf 6 rfl (purI_fa_q fld65_0 rfl rfl) rfl rfl (by kernel_rfl) ?_
     exact tj hj11_5 rfl (wp 8 (lb rfl) rfl rfl rfl rfl rfl)
    ·skip
     refine ⟨_, rfl, rfl, (TOp_appY (T := tInt) (f := tInt.enc) (xs := ([] : (List Int))) (ys := v_5.values) tInt.len sl23 zero3 rfl bytes3 (by decide) rfl rfl rfl rfl (src_T (T := tInt) rfl) (flat_cell tInt _) h_11 ?_)⟩
     refine tmv 6 8 (by decide) (lb rfl) rfl rfl (lb rfl) ?_
     refine TA_all [1, 3] (by kernel_rfl) (by decide) ⟨?_, ?_, trivial⟩
     ·skip
      refine ⟨_, rfl, rfl, (TOp_pure (pur_ld_b one46 rfl rfl rfl rfl) rfl ?_)⟩
      exact tj hj20_5 rfl (wp 8 (lb rfl) rfl rfl rfl rfl rfl)
     ·skip
      refine ⟨_, rfl, rfl, (TOp_pure (pur_ld_b one46 rfl rfl rfl rfl) rfl ?_)⟩
      refine tf 5 rfl (purI_ixT (T := tFact) sl46 rfl rfl hz_8 hv_9 rfl) rfl rfl (by kernel_rfl) ?_
      refine tf 6 rfl (purI_fa_q fld65_0 rfl rfl) rfl rfl (by kernel_rfl) ?_
      exact tj hj6_5 rfl (wp 8 (lb rfl) rfl rfl rfl rfl rfl)
   refine TA_have 11 #[true, false, true, true, true, true, true, true, true, true, false, true, false, false, false, false, false, false, false, false, false] [(1, (.b 0 0)), (2, (.b 1 0)), (3, (.b 4 0)), (4, (intA i4)), (17, (.b 4 1)), (24, (intA v_5.relation)), (25, (.m [6] 0 ([] : (List Int)).length tInt.k)), (26, (.b 0 1)), (28, (intA i4))] [.box [(sl tRelation d0.relations), (sl tFact d0.facts)], .box [.n, .n], .row (flat tRelation.enc us_1), .dead, .box [(.m [2] 0 us_1.length tRelation.k), (.m [5] 0 box4_facts.length tFact.k)], .row (flat tFact.enc box4_facts), .row (flat tInt.enc ([] : (List Int))), .dead] ?_ (fun hj26_5 => ?_)
   ·skip
    refine TA_all [1, 10] (by kernel_rfl) (by decide) ⟨?_, ?_, trivial⟩
    ·skip
     refine ⟨_, rfl, rfl, (TOp_pure (pur_ld_b one46 rfl rfl rfl rfl) rfl ?_)⟩
     exact tj hj24_5 rfl (wp 8 (lb rfl) rfl rfl rfl rfl rfl)
    ·skip
     refine ⟨_, rfl, rfl, (TOp_pure (pur_ld_b one46 rfl rfl rfl rfl) rfl ?_)⟩
     refine tf 12 rfl (purI_ixT (T := tFact) sl46 rfl rfl hz_8 hv_9 rfl) rfl rfl (by kernel_rfl) ?_
     refine tf 13 rfl (purI_fa_q fld65_1 rfl rfl) rfl rfl (by kernel_rfl) ?_
     exact tj hj13_5 rfl (wp 8 (lb rfl) rfl rfl rfl rfl rfl)
   refine TA_have 11 #[true, true, true, false, true, false, false, false, false, true, true, true, true, true, true, false, false, false, false, false, false] [(1, (.b 0 0)), (2, (.b 1 0)), (3, (.b 4 0)), (4, (intA i4)), (18, (.m [5] 0 box4_facts.length tFact.k)), (19, (.b 0 1)), (21, (intA i4)), (31, (sl tInt v_5.values))] [.box [(sl tRelation d0.relations), (sl tFact d0.facts)], .box [.n, .n], .row (flat tRelation.enc us_1), .dead, .box [(.m [2] 0 us_1.length tRelation.k), (.m [5] 0 box4_facts.length tFact.k)], .row (flat tFact.enc box4_facts), .dead, .dead] ?_ (fun hj27_5 => ?_)
   ·skip
    refine TA_all [3, 8] (by kernel_rfl) (by decide) ⟨?_, ?_, trivial⟩
    ·skip
     refine ⟨_, rfl, rfl, (TOp_pure (pur_ld_b one46 rfl rfl rfl rfl) rfl ?_)⟩
     refine tf 5 rfl (purI_ixT (T := tFact) sl46 rfl rfl hz_8 hv_9 rfl) rfl rfl (by kernel_rfl) ?_
     refine tf 6 rfl (purI_fa_q fld65_0 rfl rfl) rfl rfl (by kernel_rfl) ?_
     exact tj hj14_5 rfl (wp 8 (lb rfl) rfl rfl rfl rfl rfl)
    ·skip
     refine ⟨_, rfl, rfl, (TOp_lit (nn := 0) (k := 1) sl23 zero3 rfl rfl rfl rfl (by decide) ?_)⟩
     refine tmv 6 8 (by decide) (lb rfl) rfl rfl (lb rfl) ?_
     exact tj hj23_5 rfl (wp 8 (lb rfl) rfl rfl rfl rfl rfl)
   refine TA_have 11 #[true, true, true, false, true, false, false, false, true, true, true, true, true, true, false, false, false, false, false, false, false] [(1, (.b 0 0)), (2, (.b 1 0)), (3, (.b 4 0)), (4, (intA i4)), (18, (.m [5] 0 box4_facts.length tFact.k)), (19, (.b 0 1)), (21, (intA i4)), (25, (.m [6] 0 ([] : (List Int)).length tInt.k)), (30, (.q (flat tFact.enc d0.facts) (n_7 * tFact.k + 1)))] [.box [(sl tRelation d0.relations), (sl tFact d0.facts)], .box [.n, .n], .row (flat tRelation.enc us_1), .dead, .box [(.m [2] 0 us_1.length tRelation.k), (.m [5] 0 box4_facts.length tFact.k)], .row (flat tFact.enc box4_facts), .row (flat tInt.enc ([] : (List Int))), .dead] ?_ (fun hj28_5 => ?_)
   ·skip
    refine TA_all [3, 14] (by kernel_rfl) (by decide) ⟨?_, ?_, trivial⟩
    ·skip
     refine ⟨_, rfl, rfl, (TOp_pure (pur_ld_b one46 rfl rfl rfl rfl) rfl ?_)⟩
     refine tf 5 rfl (purI_ixT (T := tFact) sl46 rfl rfl hz_8 hv_9 rfl) rfl rfl (by kernel_rfl) ?_
     refine tf 6 rfl (purI_fa_q fld65_0 rfl rfl) rfl rfl (by kernel_rfl) ?_
     exact tj hj15_5 rfl (wp 8 (lb rfl) rfl rfl rfl rfl rfl)
    ·skip
     refine ⟨_, rfl, rfl, (TOp_pure (pur_ldT (T := tFact) (i := n_7) (off := 1) rfl one23 rfl rfl hv_9 rfl) rfl ?_)⟩
     exact tj hj23_5 rfl (wp 8 (lb rfl) rfl rfl rfl rfl rfl)
   refine TA_have 11 #[true, true, true, true, true, true, true, false, true, true, false, true, false, false, false, false, false, false, false, false, false] [(1, (.b 0 0)), (2, (.b 1 0)), (3, (.b 4 0)), (4, (intA i4)), (18, (.m [5] 0 box4_facts.length tFact.k)), (23, (.q (flat tFact.enc d0.facts) (n_7 * tFact.k + 0))), (25, (.m [6] 0 ([] : (List Int)).length tInt.k)), (26, (.b 0 1)), (28, (intA i4))] [.box [(sl tRelation d0.relations), (sl tFact d0.facts)], .box [.n, .n], .row (flat tRelation.enc us_1), .dead, .box [(.m [2] 0 us_1.length tRelation.k), (.m [5] 0 box4_facts.length tFact.k)], .row (flat tFact.enc box4_facts), .row (flat tInt.enc ([] : (List Int))), .dead] ?_ (fun hj29_5 => ?_)
   ·skip
    refine TA_all [7, 10] (by kernel_rfl) (by decide) ⟨?_, ?_, trivial⟩
    ·skip
     refine ⟨_, rfl, rfl, (TOp_pure (pur_ldT (T := tFact) (i := n_7) (off := 0) rfl one3 rfl rfl hv_9 rfl) rfl ?_)⟩
     exact tj hj24_5 rfl (wp 8 (lb rfl) rfl rfl rfl rfl rfl)
    ·skip
     refine ⟨_, rfl, rfl, (TOp_pure (pur_ld_b one46 rfl rfl rfl rfl) rfl ?_)⟩
     refine tf 12 rfl (purI_ixT (T := tFact) sl46 rfl rfl hz_8 hv_9 rfl) rfl rfl (by kernel_rfl) ?_
     refine tf 13 rfl (purI_fa_q fld65_1 rfl rfl) rfl rfl (by kernel_rfl) ?_
     exact tj hj15_5 rfl (wp 8 (lb rfl) rfl rfl rfl rfl rfl)
   refine TA_have 11 #[true, true, true, true, true, true, true, true, false, true, false, true, false, false, false, false, false, false, false, false, false] [(1, (.b 0 0)), (2, (.b 1 0)), (3, (.b 4 0)), (4, (intA i4)), (18, (.m [5] 0 box4_facts.length tFact.k)), (24, (intA v_5.relation)), (26, (.b 0 1)), (28, (intA i4))] [.box [(sl tRelation d0.relations), (sl tFact d0.facts)], .box [.n, .n], .row (flat tRelation.enc us_1), .dead, .box [(.m [2] 0 us_1.length tRelation.k), (.m [5] 0 box4_facts.length tFact.k)], .row (flat tFact.enc box4_facts), .dead, .dead] ?_ (fun hj30_5 => ?_)
   ·skip
    refine TA_all [8, 10] (by kernel_rfl) (by decide) ⟨?_, ?_, trivial⟩
    ·skip
     refine ⟨_, rfl, rfl, (TOp_lit (nn := 0) (k := 1) sl23 zero3 rfl rfl rfl rfl (by decide) ?_)⟩
     refine tmv 6 8 (by decide) (lb rfl) rfl rfl (lb rfl) ?_
     exact tj hj24_5 rfl (wp 8 (lb rfl) rfl rfl rfl rfl rfl)
    ·skip
     refine ⟨_, rfl, rfl, (TOp_pure (pur_ld_b one46 rfl rfl rfl rfl) rfl ?_)⟩
     refine tf 12 rfl (purI_ixT (T := tFact) sl46 rfl rfl hz_8 hv_9 rfl) rfl rfl (by kernel_rfl) ?_
     refine tf 13 rfl (purI_fa_q fld65_1 rfl rfl) rfl rfl (by kernel_rfl) ?_
     exact tj hj16_5 rfl (wp 8 (lb rfl) rfl rfl rfl rfl rfl)
   refine TA_have 12 #[true, false, true, false, true, false, false, false, true, true, true, true, true, true, false, false, false, false, false, false, false] [(1, (.b 0 0)), (2, (.b 1 0)), (3, (.b 4 0)), (4, (intA i4)), (17, (.b 4 1)), (19, (.b 0 1)), (21, (intA i4)), (25, (.m [6] 0 ([] : (List Int)).length tInt.k)), (30, (.q (flat tFact.enc d0.facts) (n_7 * tFact.k + 1)))] [.box [(sl tRelation d0.relations), (sl tFact d0.facts)], .box [.n, .n], .row (flat tRelation.enc us_1), .dead, .box [(.m [2] 0 us_1.length tRelation.k), (.m [5] 0 box4_facts.length tFact.k)], .row (flat tFact.enc box4_facts), .row (flat tInt.enc ([] : (List Int))), .dead] ?_ (fun hj31_5 => ?_)
   ·skip
    refine TA_all [1, 3, 14] (by kernel_rfl) (by decide) ⟨?_, ?_, ?_, trivial⟩
    ·skip
     refine ⟨_, rfl, rfl, (TOp_pure (pur_ld_b one46 rfl rfl rfl rfl) rfl ?_)⟩
     exact tj hj28_5 rfl (wp 8 (lb rfl) rfl rfl rfl rfl rfl)
    ·skip
     refine ⟨_, rfl, rfl, (TOp_pure (pur_ld_b one46 rfl rfl rfl rfl) rfl ?_)⟩
     refine tf 5 rfl (purI_ixT (T := tFact) sl46 rfl rfl hz_8 hv_9 rfl) rfl rfl (by kernel_rfl) ?_
     refine tf 6 rfl (purI_fa_q fld65_0 rfl rfl) rfl rfl (by kernel_rfl) ?_
     exact tj hj18_5 rfl (wp 8 (lb rfl) rfl rfl rfl rfl rfl)
    ·skip
     refine ⟨_, rfl, rfl, (TOp_pure (pur_ldT (T := tFact) (i := n_7) (off := 1) rfl one23 rfl rfl hv_9 rfl) rfl ?_)⟩
     exact tj hj25_5 rfl (wp 8 (lb rfl) rfl rfl rfl rfl rfl)
   refine TA_have 12 #[true, false, true, true, true, true, true, false, true, true, false, true, false, false, false, false, false, false, false, false, false] [(1, (.b 0 0)), (2, (.b 1 0)), (3, (.b 4 0)), (4, (intA i4)), (17, (.b 4 1)), (23, (.q (flat tFact.enc d0.facts) (n_7 * tFact.k + 0))), (25, (.m [6] 0 ([] : (List Int)).length tInt.k)), (26, (.b 0 1)), (28, (intA i4))] [.box [(sl tRelation d0.relations), (sl tFact d0.facts)], .box [.n, .n], .row (flat tRelation.enc us_1), .dead, .box [(.m [2] 0 us_1.length tRelation.k), (.m [5] 0 box4_facts.length tFact.k)], .row (flat tFact.enc box4_facts), .row (flat tInt.enc ([] : (List Int))), .dead] ?_ (fun hj32_5 => ?_)
   ·skip
    refine TA_all [1, 7, 10] (by kernel_rfl) (by decide) ⟨?_, ?_, ?_, trivial⟩
    ·skip
     refine ⟨_, rfl, rfl, (TOp_pure (pur_ld_b one46 rfl rfl rfl rfl) rfl ?_)⟩
     exact tj hj29_5 rfl (wp 8 (lb rfl) rfl rfl rfl rfl rfl)
    ·skip
     refine ⟨_, rfl, rfl, (TOp_pure (pur_ldT (T := tFact) (i := n_7) (off := 0) rfl one3 rfl rfl hv_9 rfl) rfl ?_)⟩
     exact tj hj26_5 rfl (wp 8 (lb rfl) rfl rfl rfl rfl rfl)
    ·skip
     refine ⟨_, rfl, rfl, (TOp_pure (pur_ld_b one46 rfl rfl rfl rfl) rfl ?_)⟩
     refine tf 12 rfl (purI_ixT (T := tFact) sl46 rfl rfl hz_8 hv_9 rfl) rfl rfl (by kernel_rfl) ?_
     refine tf 13 rfl (purI_fa_q fld65_1 rfl rfl) rfl rfl (by kernel_rfl) ?_
     exact tj hj18_5 rfl (wp 8 (lb rfl) rfl rfl rfl rfl rfl)
   refine TA_have 12 #[true, true, true, false, true, false, false, false, false, true, true, true, true, true, false, false, false, false, false, false, false] [(1, (.b 0 0)), (2, (.b 1 0)), (3, (.b 4 0)), (4, (intA i4)), (18, (.m [5] 0 box4_facts.length tFact.k)), (19, (.b 0 1)), (21, (intA i4)), (30, (.q (flat tFact.enc d0.facts) (n_7 * tFact.k + 1)))] [.box [(sl tRelation d0.relations), (sl tFact d0.facts)], .box [.n, .n], .row (flat tRelation.enc us_1), .dead, .box [(.m [2] 0 us_1.length tRelation.k), (.m [5] 0 box4_facts.length tFact.k)], .row (flat tFact.enc box4_facts), .dead, .dead] ?_ (fun hj33_5 => ?_)
   ·skip
    refine TA_all [3, 8, 14] (by kernel_rfl) (by decide) ⟨?_, ?_, ?_, trivial⟩
    ·skip
     refine ⟨_, rfl, rfl, (TOp_pure (pur_ld_b one46 rfl rfl rfl rfl) rfl ?_)⟩
     refine tf 5 rfl (purI_ixT (T := tFact) sl46 rfl rfl hz_8 hv_9 rfl) rfl rfl (by kernel_rfl) ?_
     refine tf 6 rfl (purI_fa_q fld65_0 rfl rfl) rfl rfl (by kernel_rfl) ?_
     exact tj hj21_5 rfl (wp 8 (lb rfl) rfl rfl rfl rfl rfl)
    ·skip
     refine ⟨_, rfl, rfl, (TOp_lit (nn := 0) (k := 1) sl23 zero3 rfl rfl rfl rfl (by decide) ?_)⟩
     refine tmv 6 8 (by decide) (lb rfl) rfl rfl (lb rfl) ?_
     exact tj hj28_5 rfl (wp 8 (lb rfl) rfl rfl rfl rfl rfl)
    ·skip
     refine ⟨_, rfl, rfl, (TOp_pure (pur_ldT (T := tFact) (i := n_7) (off := 1) rfl one23 rfl rfl hv_9 rfl) rfl ?_)⟩
     exact tj hj27_5 rfl (wp 8 (lb rfl) rfl rfl rfl rfl rfl)
   refine TA_have 12 #[true, true, true, true, true, true, true, false, false, true, false, true, false, false, false, false, false, false, false, false, false] [(1, (.b 0 0)), (2, (.b 1 0)), (3, (.b 4 0)), (4, (intA i4)), (18, (.m [5] 0 box4_facts.length tFact.k)), (23, (.q (flat tFact.enc d0.facts) (n_7 * tFact.k + 0))), (26, (.b 0 1)), (28, (intA i4))] [.box [(sl tRelation d0.relations), (sl tFact d0.facts)], .box [.n, .n], .row (flat tRelation.enc us_1), .dead, .box [(.m [2] 0 us_1.length tRelation.k), (.m [5] 0 box4_facts.length tFact.k)], .row (flat tFact.enc box4_facts), .dead, .dead] ?_ (fun hj34_5 => ?_)
   ·skip
    refine TA_all [7, 8, 10] (by kernel_rfl) (by decide) ⟨?_, ?_, ?_, trivial⟩
    ·skip
     refine ⟨_, rfl, rfl, (TOp_pure (pur_ldT (T := tFact) (i := n_7) (off := 0) rfl one3 rfl rfl hv_9 rfl) rfl ?_)⟩
     exact tj hj30_5 rfl (wp 8 (lb rfl) rfl rfl rfl rfl rfl)
    ·skip
     refine ⟨_, rfl, rfl, (TOp_lit (nn := 0) (k := 1) sl23 zero3 rfl rfl rfl rfl (by decide) ?_)⟩
     refine tmv 6 8 (by decide) (lb rfl) rfl rfl (lb rfl) ?_
     exact tj hj29_5 rfl (wp 8 (lb rfl) rfl rfl rfl rfl rfl)
    ·skip
     refine ⟨_, rfl, rfl, (TOp_pure (pur_ld_b one46 rfl rfl rfl rfl) rfl ?_)⟩
     refine tf 12 rfl (purI_ixT (T := tFact) sl46 rfl rfl hz_8 hv_9 rfl) rfl rfl (by kernel_rfl) ?_
     refine tf 13 rfl (purI_fa_q fld65_1 rfl rfl) rfl rfl (by kernel_rfl) ?_
     exact tj hj21_5 rfl (wp 8 (lb rfl) rfl rfl rfl rfl rfl)
   refine TA_have 14 #[true, true, true, false, true, false, false, false, true, true, false, true, false, false, false, false, false, false, false, false, false] [(1, (.b 0 0)), (2, (.b 1 0)), (3, (.b 4 0)), (4, (intA i4)), (18, (.m [5] 0 box4_facts.length tFact.k)), (19, (.b 0 1)), (21, (intA i4)), (25, (.m [6] 0 ([] : (List Int)).length tInt.k)), (26, (.b 0 1)), (28, (intA i4))] [.box [(sl tRelation d0.relations), (sl tFact d0.facts)], .box [.n, .n], .row (flat tRelation.enc us_1), .dead, .box [(.m [2] 0 us_1.length tRelation.k), (.m [5] 0 box4_facts.length tFact.k)], .row (flat tFact.enc box4_facts), .row (flat tInt.enc ([] : (List Int))), .dead] ?_ (fun hj35_5 => ?_)
   ·skip
    refine TA_all [3, 10] (by kernel_rfl) (by decide) ⟨?_, ?_, trivial⟩
    ·skip
     refine ⟨_, rfl, rfl, (TOp_pure (pur_ld_b one46 rfl rfl rfl rfl) rfl ?_)⟩
     refine tf 5 rfl (purI_ixT (T := tFact) sl46 rfl rfl hz_8 hv_9 rfl) rfl rfl (by kernel_rfl) ?_
     refine tf 6 rfl (purI_fa_q fld65_0 rfl rfl) rfl rfl (by kernel_rfl) ?_
     exact tj hj29_5 rfl (wp 8 (lb rfl) rfl rfl rfl rfl rfl)
    ·skip
     refine ⟨_, rfl, rfl, (TOp_pure (pur_ld_b one46 rfl rfl rfl rfl) rfl ?_)⟩
     refine tf 12 rfl (purI_ixT (T := tFact) sl46 rfl rfl hz_8 hv_9 rfl) rfl rfl (by kernel_rfl) ?_
     refine tf 13 rfl (purI_fa_q fld65_1 rfl rfl) rfl rfl (by kernel_rfl) ?_
     exact tj hj28_5 rfl (wp 8 (lb rfl) rfl rfl rfl rfl rfl)
   refine tf 0 rfl (purI_fa_b fld48_1 rfl rfl) rfl rfl (by kernel_rfl) ?_
   refine tf 2 rfl (purI_fa_b fld48_1 rfl rfl) rfl rfl (by kernel_rfl) ?_
   refine tf 4 rfl (purI_move rfl) rfl rfl (by kernel_rfl) ?_
   refine tf 9 rfl (purI_fa_b fld48_1 rfl rfl) rfl rfl (by kernel_rfl) ?_
   refine tf 11 rfl (purI_move rfl) rfl rfl (by kernel_rfl) ?_
   refine TA_all [1, 3, 8, 10] (by kernel_rfl) (by decide) ⟨?_, ?_, ?_, ?_, trivial⟩
   ·skip
    refine ⟨_, rfl, rfl, (TOp_pure (pur_ld_b one46 rfl rfl rfl rfl) rfl ?_)⟩
    refine TA_all [3, 8, 10] (by kernel_rfl) (by decide) ⟨?_, ?_, ?_, trivial⟩
    ·skip
     refine ⟨_, rfl, rfl, (TOp_pure (pur_ld_b one46 rfl rfl rfl rfl) rfl ?_)⟩
     refine tf 5 rfl (purI_ixT (T := tFact) sl46 rfl rfl hz_8 hv_9 rfl) rfl rfl (by kernel_rfl) ?_
     refine tae [(1, (.b 0 0)), (2, (.b 1 0)), (3, (.b 4 0)), (4, (intA i4)), (18, (.m [5] 0 box4_facts.length tFact.k)), (22, (.q (flat tFact.enc d0.facts) (n_7 * tFact.k))), (26, (.b 0 1)), (28, (intA i4))] rfl ?_
     refine tf 6 rfl (purI_fa_q fld65_0 rfl rfl) rfl rfl (by kernel_rfl) ?_
     exact tj hj34_5 rfl (wp 8 (lb rfl) rfl rfl rfl rfl rfl)
    ·skip
     refine ⟨_, rfl, rfl, (TOp_lit (nn := 0) (k := 1) sl23 zero3 rfl rfl rfl rfl (by decide) ?_)⟩
     refine tmv 6 8 (by decide) (lb rfl) rfl rfl (lb rfl) ?_
     exact tj hj35_5 rfl (wp 8 (lb rfl) rfl rfl rfl rfl rfl)
    ·skip
     refine ⟨_, rfl, rfl, (TOp_pure (pur_ld_b one46 rfl rfl rfl rfl) rfl ?_)⟩
     refine tf 12 rfl (purI_ixT (T := tFact) sl46 rfl rfl hz_8 hv_9 rfl) rfl rfl (by kernel_rfl) ?_
     refine tae [(1, (.b 0 0)), (2, (.b 1 0)), (3, (.b 4 0)), (4, (intA i4)), (18, (.m [5] 0 box4_facts.length tFact.k)), (19, (.b 0 1)), (21, (intA i4)), (29, (.q (flat tFact.enc d0.facts) (n_7 * tFact.k)))] rfl ?_
     refine tf 13 rfl (purI_fa_q fld65_1 rfl rfl) rfl rfl (by kernel_rfl) ?_
     exact tj hj33_5 rfl (wp 8 (lb rfl) rfl rfl rfl rfl rfl)
   ·skip
    refine ⟨_, rfl, rfl, (TOp_pure (pur_ld_b one46 rfl rfl rfl rfl) rfl ?_)⟩
    refine tf 5 rfl (purI_ixT (T := tFact) sl46 rfl rfl hz_8 hv_9 rfl) rfl rfl (by kernel_rfl) ?_
    refine tae [(1, (.b 0 0)), (2, (.b 1 0)), (3, (.b 4 0)), (4, (intA i4)), (17, (.b 4 1)), (22, (.q (flat tFact.enc d0.facts) (n_7 * tFact.k))), (26, (.b 0 1)), (28, (intA i4))] rfl ?_
    refine tf 6 rfl (purI_fa_q fld65_0 rfl rfl) rfl rfl (by kernel_rfl) ?_
    refine TA_all [1, 7, 8, 10] (by kernel_rfl) (by decide) ⟨?_, ?_, ?_, ?_, trivial⟩
    ·skip
     refine ⟨_, rfl, rfl, (TOp_pure (pur_ld_b one46 rfl rfl rfl rfl) rfl ?_)⟩
     exact tj hj34_5 rfl (wp 8 (lb rfl) rfl rfl rfl rfl rfl)
    ·skip
     refine ⟨_, rfl, rfl, (TOp_pure (pur_ldT (T := tFact) (i := n_7) (off := 0) rfl one3 rfl rfl hv_9 rfl) rfl ?_)⟩
     refine TA_all [1, 8, 10] (by kernel_rfl) (by decide) ⟨?_, ?_, ?_, trivial⟩
     ·skip
      refine ⟨_, rfl, rfl, (TOp_pure (pur_ld_b one46 rfl rfl rfl rfl) rfl ?_)⟩
      exact tj hj30_5 rfl (wp 8 (lb rfl) rfl rfl rfl rfl rfl)
     ·skip
      refine ⟨_, rfl, rfl, (TOp_lit (nn := 0) (k := 1) sl23 zero3 rfl rfl rfl rfl (by decide) ?_)⟩
      refine tmv 6 8 (by decide) (lb rfl) rfl rfl (lb rfl) ?_
      exact tj hj26_5 rfl (wp 8 (lb rfl) rfl rfl rfl rfl rfl)
     ·skip
      refine ⟨_, rfl, rfl, (TOp_pure (pur_ld_b one46 rfl rfl rfl rfl) rfl ?_)⟩
      refine tf 12 rfl (purI_ixT (T := tFact) sl46 rfl rfl hz_8 hv_9 rfl) rfl rfl (by kernel_rfl) ?_
      refine tf 13 rfl (purI_fa_q fld65_1 rfl rfl) rfl rfl (by kernel_rfl) ?_
      refine tae [(1, (.b 0 0)), (2, (.b 1 0)), (3, (.b 4 0)), (4, (intA i4)), (17, (.b 4 1)), (24, (intA v_5.relation)), (30, (.q (flat tFact.enc d0.facts) (n_7 * tFact.k + 1)))] rfl ?_
      exact tj hj19_5 rfl (wp 8 (lb rfl) rfl rfl rfl rfl rfl)
    ·skip
     refine ⟨_, rfl, rfl, (TOp_lit (nn := 0) (k := 1) sl23 zero3 rfl rfl rfl rfl (by decide) ?_)⟩
     refine tmv 6 8 (by decide) (lb rfl) rfl rfl (lb rfl) ?_
     exact tj hj32_5 rfl (wp 8 (lb rfl) rfl rfl rfl rfl rfl)
    ·skip
     refine ⟨_, rfl, rfl, (TOp_pure (pur_ld_b one46 rfl rfl rfl rfl) rfl ?_)⟩
     refine tf 12 rfl (purI_ixT (T := tFact) sl46 rfl rfl hz_8 hv_9 rfl) rfl rfl (by kernel_rfl) ?_
     refine tf 13 rfl (purI_fa_q fld65_1 rfl rfl) rfl rfl (by kernel_rfl) ?_
     exact tj hj22_5 rfl (wp 8 (lb rfl) rfl rfl rfl rfl rfl)
   ·skip
    refine ⟨_, rfl, rfl, (TOp_lit (nn := 0) (k := 1) sl23 zero3 rfl rfl rfl rfl (by decide) ?_)⟩
    refine tmv 6 8 (by decide) (lb rfl) rfl rfl (lb rfl) ?_
    refine TA_all [1, 3, 10] (by kernel_rfl) (by decide) ⟨?_, ?_, ?_, trivial⟩
    ·skip
     refine ⟨_, rfl, rfl, (TOp_pure (pur_ld_b one46 rfl rfl rfl rfl) rfl ?_)⟩
     exact tj hj35_5 rfl (wp 8 (lb rfl) rfl rfl rfl rfl rfl)
    ·skip
     refine ⟨_, rfl, rfl, (TOp_pure (pur_ld_b one46 rfl rfl rfl rfl) rfl ?_)⟩
     refine tf 5 rfl (purI_ixT (T := tFact) sl46 rfl rfl hz_8 hv_9 rfl) rfl rfl (by kernel_rfl) ?_
     refine tae [(1, (.b 0 0)), (2, (.b 1 0)), (3, (.b 4 0)), (4, (intA i4)), (17, (.b 4 1)), (22, (.q (flat tFact.enc d0.facts) (n_7 * tFact.k))), (25, (.m [6] 0 ([] : (List Int)).length tInt.k)), (26, (.b 0 1)), (28, (intA i4))] rfl ?_
     refine tf 6 rfl (purI_fa_q fld65_0 rfl rfl) rfl rfl (by kernel_rfl) ?_
     exact tj hj32_5 rfl (wp 8 (lb rfl) rfl rfl rfl rfl rfl)
    ·skip
     refine ⟨_, rfl, rfl, (TOp_pure (pur_ld_b one46 rfl rfl rfl rfl) rfl ?_)⟩
     refine tf 12 rfl (purI_ixT (T := tFact) sl46 rfl rfl hz_8 hv_9 rfl) rfl rfl (by kernel_rfl) ?_
     refine tae [(1, (.b 0 0)), (2, (.b 1 0)), (3, (.b 4 0)), (4, (intA i4)), (17, (.b 4 1)), (19, (.b 0 1)), (21, (intA i4)), (25, (.m [6] 0 ([] : (List Int)).length tInt.k)), (29, (.q (flat tFact.enc d0.facts) (n_7 * tFact.k)))] rfl ?_
     refine tf 13 rfl (purI_fa_q fld65_1 rfl rfl) rfl rfl (by kernel_rfl) ?_
     exact tj hj31_5 rfl (wp 8 (lb rfl) rfl rfl rfl rfl rfl)
   ·skip
    refine ⟨_, rfl, rfl, (TOp_pure (pur_ld_b one46 rfl rfl rfl rfl) rfl ?_)⟩
    refine tf 12 rfl (purI_ixT (T := tFact) sl46 rfl rfl hz_8 hv_9 rfl) rfl rfl (by kernel_rfl) ?_
    refine tae [(1, (.b 0 0)), (2, (.b 1 0)), (3, (.b 4 0)), (4, (intA i4)), (17, (.b 4 1)), (19, (.b 0 1)), (21, (intA i4)), (29, (.q (flat tFact.enc d0.facts) (n_7 * tFact.k)))] rfl ?_
    refine tf 13 rfl (purI_fa_q fld65_1 rfl rfl) rfl rfl (by kernel_rfl) ?_
    refine TA_all [1, 3, 8, 14] (by kernel_rfl) (by decide) ⟨?_, ?_, ?_, ?_, trivial⟩
    ·skip
     refine ⟨_, rfl, rfl, (TOp_pure (pur_ld_b one46 rfl rfl rfl rfl) rfl ?_)⟩
     exact tj hj33_5 rfl (wp 8 (lb rfl) rfl rfl rfl rfl rfl)
    ·skip
     refine ⟨_, rfl, rfl, (TOp_pure (pur_ld_b one46 rfl rfl rfl rfl) rfl ?_)⟩
     refine tf 5 rfl (purI_ixT (T := tFact) sl46 rfl rfl hz_8 hv_9 rfl) rfl rfl (by kernel_rfl) ?_
     refine tf 6 rfl (purI_fa_q fld65_0 rfl rfl) rfl rfl (by kernel_rfl) ?_
     exact tj hj22_5 rfl (wp 8 (lb rfl) rfl rfl rfl rfl rfl)
    ·skip
     refine ⟨_, rfl, rfl, (TOp_lit (nn := 0) (k := 1) sl23 zero3 rfl rfl rfl rfl (by decide) ?_)⟩
     refine tmv 6 8 (by decide) (lb rfl) rfl rfl (lb rfl) ?_
     exact tj hj31_5 rfl (wp 8 (lb rfl) rfl rfl rfl rfl rfl)
    ·skip
     refine ⟨_, rfl, rfl, (TOp_pure (pur_ldT (T := tFact) (i := n_7) (off := 1) rfl one23 rfl rfl hv_9 rfl) rfl ?_)⟩
     refine TA_all [1, 3, 8] (by kernel_rfl) (by decide) ⟨?_, ?_, ?_, trivial⟩
     ·skip
      refine ⟨_, rfl, rfl, (TOp_pure (pur_ld_b one46 rfl rfl rfl rfl) rfl ?_)⟩
      exact tj hj27_5 rfl (wp 8 (lb rfl) rfl rfl rfl rfl rfl)
     ·skip
      refine ⟨_, rfl, rfl, (TOp_pure (pur_ld_b one46 rfl rfl rfl rfl) rfl ?_)⟩
      refine tf 5 rfl (purI_ixT (T := tFact) sl46 rfl rfl hz_8 hv_9 rfl) rfl rfl (by kernel_rfl) ?_
      refine tf 6 rfl (purI_fa_q fld65_0 rfl rfl) rfl rfl (by kernel_rfl) ?_
      refine tae [(1, (.b 0 0)), (2, (.b 1 0)), (3, (.b 4 0)), (4, (intA i4)), (17, (.b 4 1)), (23, (.q (flat tFact.enc d0.facts) (n_7 * tFact.k + 0))), (31, (sl tInt v_5.values))] rfl ?_
      exact tj hj17_5 rfl (wp 8 (lb rfl) rfl rfl rfl rfl rfl)
     ·skip
      refine ⟨_, rfl, rfl, (TOp_lit (nn := 0) (k := 1) sl23 zero3 rfl rfl rfl rfl (by decide) ?_)⟩
      refine tmv 6 8 (by decide) (lb rfl) rfl rfl (lb rfl) ?_
      exact tj hj25_5 rfl (wp 8 (lb rfl) rfl rfl rfl rfl rfl)
  ·replace H := cond_f c_4 H
   refine T_exit ?_
   refine then_exit ?_
   refine then_exit ?_
   refine block_exit ?_
   obtain rfl := some_inj H
   obtain rfl := some_inj K3_
   replace H := onS_l N3_
   refine te [(2, (.b 1 0)), (3, (.b 4 0))] rfl ?_
   refine sr ?_
   refine Tp rfl rfl (pur_ldK_b agg48 rfl rfl (lb rfl) rfl) rfl ?_
   refine TO_cons rfl (TOp_storeB sz48 rfl rfl rfl rfl rfl rfl rfl (by decide) (lb rfl) rfl ?_)
   refine TO_st (σ' := [.box [(sl tRelation d0.relations), (sl tFact d0.facts)], .box [(.m [2] 0 us_1.length tRelation.k), (.m [5] 0 box4_facts.length tFact.k)], .row (flat tRelation.enc us_1), .dead, .box [(.m [2] 0 us_1.length tRelation.k), (.m [5] 0 box4_facts.length tFact.k)], .row (flat tFact.enc box4_facts)]) rfl ?_
   refine TO_nil ?_
   refine te [(2, (.b 1 0))] rfl ?_
   refine T_ret ?_
   obtain rfl := some_inj H
   exact end_pick (.cellK rfl agg48 rfl (lb rfl) .nil) rfl [2, 5] (by decide) rfl rfl rfl rfl rfl rfl
theorem m_spec_l4Copy_ok (u : Nat) (d0 : Database) (r : Database) (H : m_spec_l4Copy u d0 = some r) : FnV prg 112 [(.g (tDatabase.enc d0))] (.g (tDatabase.enc r)) := (m_spec_l4Copy_own u d0 r H).frz (frzOK_g (frz_cons (frzTE (T := tRelation) rfl) (frz_cons (frzTE (T := tFact) rfl) frz_nil)).1 (frz_cons (frzTE (T := tRelation) rfl) (frz_cons (frzTE (T := tFact) rfl) frz_nil)).2)
end Go.Proofs.Ytjdpolnakhmkmaa

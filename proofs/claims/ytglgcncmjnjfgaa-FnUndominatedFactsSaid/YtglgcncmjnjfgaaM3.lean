/- Walks. -/
import Derived.Test.YtglgcncmjnjfgaaM1
import Derived.Test.YtglgcncmjnjfgaaM2
set_option linter.unusedVariables false
set_option linter.unusedSimpArgs false
set_option maxRecDepth 4000
namespace Go.Proofs.Ytglgcncmjnjfgaa
open Go Go.Proofs Go.Sep
set_option maxHeartbeats 1000000 in
/-- impl.AreValidEdges -/
theorem m_impl_AreValidEdges_ok (n0 : Int) (edges1 : (List ConflictEdge)) (r : Bool) (H : m_impl_AreValidEdges n0 edges1 = some r) : FnV prg 47 [(intA n0), (sl tConflictEdge edges1)] (boolA r) := by
  unfold m_impl_AreValidEdges at H
  refine fnV_of_T Try.func47 rfl rfl (Nat.le_of_ble_eq_true rfl) ?_
  refine te [(0, (intA n0)), (1, (sl tConflictEdge edges1))] rfl ?_
  refine sr ?_
  refine Tp rfl rfl (pur_assign rfl) rfl ?_
  refine TO_nil ?_
  refine te [(0, (intA n0)), (1, (sl tConflictEdge edges1))] rfl ?_
  refine T_seq ?_
  refine sr ?_
  refine Tp rfl rfl (pur_move rfl) rfl ?_
  obtain ⟨r_1, h_2, H⟩ := bind_inv H
  refine TO_cons rfl (TOp_callV (call_static ent77 rfl) (m_impl_within_ok _ _ _ _ h_2) rfl rfl rfl ?_)
  refine Tp rfl rfl (pur_not rfl rfl) rfl ?_
  refine TO_nil ?_
  refine te [(0, (intA n0)), (1, (sl tConflictEdge edges1)), (9, (boolA (!r_1)))] rfl ?_
  refine T_cond (t := (!r_1)) rfl (fun c_3 => ?_) (fun c_3 => ?_)
  ·replace H := cond_t c_3 H
   refine sr ?_
   refine Tp rfl rfl (pur_assign rfl) rfl ?_
   refine TO_nil ?_
   refine te [(4, (boolA false))] rfl ?_
   refine T_ret ?_
   refine then_ret ?_
   obtain rfl := some_inj H
   refine end_ret (.tmp .nil) rfl rfl ⟨?_, rfl⟩
   rfl
  ·replace H := cond_f c_3 H
   refine T_skip ?_
   refine te [(0, (intA n0)), (1, (sl tConflictEdge edges1))] rfl ?_
   refine T_seq ?_
   refine sr ?_
   refine Tp rfl rfl (pur_move rfl) rfl ?_
   refine Tp rfl rfl (pur_lenT (T := tConflictEdge) sl25 rfl rfl) rfl ?_
   refine Tp rfl rfl (pur_move rfl) rfl ?_
   refine TO_nil ?_
   refine te [(0, (intA n0)), (1, (sl tConflictEdge edges1)), (10, (sl tConflictEdge edges1)), (11, (intA (edges1.length : Int))), (12, (intA 0))] rfl ?_
   obtain ⟨O5_, L5_, N5_⟩ := bind_inv H
   clear H
   obtain ⟨B5_, hb5, L5_⟩ := gen_forL L5_
   refine T_block ?_
   refine T_loopX (fun k => fun (t_4 : Nat) => k = edges1.length - t_4 ∧ forL B5_ (edges1.drop t_4) (t_4 : Int) () = some O5_) (fun (t_4 : Nat) => [(0, (intA n0)), (1, (sl tConflictEdge edges1)), (10, (sl tConflictEdge edges1)), (11, (intA (edges1.length : Int))), (12, (intA (t_4 : Int)))]) (fun (t_4 : Nat) => []) _ (0 : Nat) (wp 0 (lb rfl) rfl rfl rfl rfl rfl) ⟨rfl, L5_⟩ ?_
   rintro _ t_4 ⟨rfl, L5_⟩
   refine te [(0, (intA n0)), (1, (sl tConflictEdge edges1)), (10, (sl tConflictEdge edges1)), (11, (intA (edges1.length : Int))), (12, (intA (t_4 : Int)))] rfl ?_
   refine T_st (σ' := []) rfl ?_
   refine T_fact (len_sl (T := tConflictEdge) (.tmp 1) rfl) (fun hl5 => ?_)
   refine sr ?_
   refine Tp rfl rfl (pur_lss rfl rfl rfl) rfl ?_
   refine TO_nil ?_
   refine te [(0, (intA n0)), (1, (sl tConflictEdge edges1)), (10, (sl tConflictEdge edges1)), (11, (intA (edges1.length : Int))), (12, (intA (t_4 : Int))), (13, (boolA (decide ((t_4 : Int) < (edges1.length : Int)))))] rfl ?_
   refine T_seq ?_
   refine T_cond (t := decide ((t_4 : Int) < (edges1.length : Int))) rfl (fun d5 => ?_) (fun d5 => ?_)
   ·replace d5 := of_decide_eq_true d5
    obtain ⟨x_t_4, hx_t_4⟩ : ∃ v, (edges1)[t_4]? = some v := ⟨_, List.getElem?_eq_getElem (by omega)⟩
    obtain ⟨C5_, H, K5_⟩ := forL_step L5_ hx_t_4
    rw [hb5] at H
    refine T_skip ?_
    refine te [(0, (intA n0)), (1, (sl tConflictEdge edges1)), (10, (sl tConflictEdge edges1)), (11, (intA (edges1.length : Int))), (12, (intA (t_4 : Int)))] rfl ?_
    refine T_seq ?_
    refine T_block ?_
    refine sr ?_
    refine Tp rfl rfl (pur_move rfl) rfl ?_
    refine Tp rfl rfl (pur_ixT (T := tConflictEdge) sl25 rfl rfl rfl hx_t_4 rfl) rfl ?_
    refine Tp rfl rfl (pur_ldTK (T := tConflictEdge) (i := t_4) (off := 0) rfl agg52 rfl rfl hx_t_4 (by decide) rfl) rfl ?_
    refine TO_cons rfl (TOp_alloc zero52 rfl rfl ?_)
    refine Tp rfl rfl (pur_assign rfl) rfl ?_
    refine TO_cons rfl (TOp_storeB sz52 rfl rfl rfl rfl rfl rfl rfl (by decide) (lb rfl) rfl ?_)
    refine TO_st (σ' := [.box [(intA x_t_4.a), (intA x_t_4.b)]]) rfl ?_
    refine TO_nil ?_
    refine te [(0, (intA n0)), (1, (sl tConflictEdge edges1)), (5, (intA (t_4 : Int))), (6, (.b 0 0)), (10, (sl tConflictEdge edges1)), (11, (intA (edges1.length : Int))), (12, (intA (t_4 : Int)))] rfl ?_
    obtain ⟨t69_6, J_6, H_7⟩ := bind_inv H
    refine T_cutX (fun x => t69_6 = x) (fun (t69_6 : Bool) => [(0, (intA n0)), (1, (sl tConflictEdge edges1)), (10, (sl tConflictEdge edges1)), (11, (intA (edges1.length : Int))), (12, (intA (t_4 : Int))), (69, (boolA t69_6))]) (fun (t69_6 : Bool) => []) ?_ ?_
    ·replace H := J_6
     refine T_regionD mixed (by kernel_rfl) ?_
     refine TQ_pure rfl (pur_fa_b fld52_0 rfl rfl) rfl ?_
     refine TQ_pure rfl (pur_ld_b one3 rfl rfl rfl rfl) rfl ?_
     refine TQ_pure rfl (pur_lss rfl rfl rfl) rfl ?_
     refine TQ_pure rfl (pur_move rfl) rfl ?_
     refine TQ_split (t := decide (x_t_4.a < 0)) 20 rfl (fun g_8 => ?_) (fun g_8 => ?_)
     ·replace H := cond_t g_8 H
      refine TQ_off rfl rfl (by decide) rfl rfl rfl ?_
      refine TQ_off rfl rfl (by decide) rfl rfl rfl ?_
      refine TQ_off rfl rfl (by decide) rfl rfl rfl ?_
      refine TQ_off rfl rfl (by decide) rfl rfl rfl ?_
      refine TQ_off rfl rfl (by decide) rfl rfl rfl ?_
      refine TQ_pure rfl (pur_pick (t := true) rfl rfl rfl) rfl ?_
      refine TQ_pure rfl (pur_move rfl) rfl ?_
      refine TQ_off rfl rfl (by decide) rfl rfl rfl ?_
      refine tqe [(0, (intA n0)), (1, (sl tConflictEdge edges1)), (5, (intA (t_4 : Int))), (6, (.b 0 0)), (10, (sl tConflictEdge edges1)), (11, (intA (edges1.length : Int))), (12, (intA (t_4 : Int))), (27, (boolA true)), (28, (.v undef))] rfl ?_
      refine TQ_off rfl rfl (by decide) rfl rfl rfl ?_
      refine TQ_off rfl rfl (by decide) rfl rfl rfl ?_
      refine TQ_off rfl rfl (by decide) rfl rfl rfl ?_
      refine TQ_pure rfl (pur_pick (t := true) rfl rfl rfl) rfl ?_
      refine TQ_pure rfl (pur_move rfl) rfl ?_
      refine TQ_off rfl rfl (by decide) rfl rfl rfl ?_
      refine TQ_off rfl rfl (by decide) rfl rfl rfl ?_
      refine TQ_off rfl rfl (by decide) rfl rfl rfl ?_
      refine tqe [(0, (intA n0)), (1, (sl tConflictEdge edges1)), (5, (intA (t_4 : Int))), (6, (.b 0 0)), (10, (sl tConflictEdge edges1)), (11, (intA (edges1.length : Int))), (12, (intA (t_4 : Int))), (33, (boolA true)), (36, (.v undef))] rfl ?_
      refine TQ_off rfl rfl (by decide) rfl rfl rfl ?_
      refine TQ_off rfl rfl (by decide) rfl rfl rfl ?_
      refine TQ_off rfl rfl (by decide) rfl rfl rfl ?_
      refine TQ_off rfl rfl (by decide) rfl rfl rfl ?_
      refine TQ_off rfl rfl (by decide) rfl rfl rfl ?_
      refine TQ_off rfl rfl (by decide) rfl rfl rfl ?_
      refine TQ_off rfl rfl (by decide) rfl rfl rfl ?_
      refine TQ_off rfl rfl (by decide) rfl rfl rfl ?_
      refine tqe [(0, (intA n0)), (1, (sl tConflictEdge edges1)), (5, (intA (t_4 : Int))), (6, (.b 0 0)), (10, (sl tConflictEdge edges1)), (11, (intA (edges1.length : Int))), (12, (intA (t_4 : Int))), (33, (boolA true)), (36, (.v undef)), (42, (.v undef)), (44, (.v undef))] rfl ?_
      refine TQ_off rfl rfl (by decide) rfl rfl rfl ?_
      refine TQ_off rfl rfl (by decide) rfl rfl rfl ?_
      refine TQ_off rfl rfl (by decide) rfl rfl rfl ?_
      refine TQ_off rfl rfl (by decide) rfl rfl rfl ?_
      refine TQ_off rfl rfl (by decide) rfl rfl rfl ?_
      refine TQ_off rfl rfl (by decide) rfl rfl rfl ?_
      refine TQ_off rfl rfl (by decide) rfl rfl rfl ?_
      refine TQ_off rfl rfl (by decide) rfl rfl rfl ?_
      refine tqe [(0, (intA n0)), (1, (sl tConflictEdge edges1)), (5, (intA (t_4 : Int))), (6, (.b 0 0)), (10, (sl tConflictEdge edges1)), (11, (intA (edges1.length : Int))), (12, (intA (t_4 : Int))), (33, (boolA true)), (36, (.v undef)), (46, (.v undef)), (52, (.v undef))] rfl ?_
      refine TQ_off rfl rfl (by decide) rfl rfl rfl ?_
      refine TQ_off rfl rfl (by decide) rfl rfl rfl ?_
      refine TQ_off rfl rfl (by decide) rfl rfl rfl ?_
      refine TQ_off rfl rfl (by decide) rfl rfl rfl ?_
      refine TQ_off rfl rfl (by decide) rfl rfl rfl ?_
      refine TQ_off rfl rfl (by decide) rfl rfl rfl ?_
      refine TQ_off rfl rfl (by decide) rfl rfl rfl ?_
      refine TQ_off rfl rfl (by decide) rfl rfl rfl ?_
      refine tqe [(0, (intA n0)), (1, (sl tConflictEdge edges1)), (6, (.b 0 0)), (10, (sl tConflictEdge edges1)), (11, (intA (edges1.length : Int))), (12, (intA (t_4 : Int))), (33, (boolA true)), (36, (.v undef)), (46, (.v undef)), (56, (.v undef)), (60, (.v undef))] rfl ?_
      refine TQ_off rfl rfl (by decide) rfl rfl rfl ?_
      refine TQ_off rfl rfl (by decide) rfl rfl rfl ?_
      refine TQ_off rfl rfl (by decide) rfl rfl rfl ?_
      refine TQ_off rfl rfl (by decide) rfl rfl rfl ?_
      refine TQ_off rfl rfl (by decide) rfl rfl rfl ?_
      refine TQ_off rfl rfl (by decide) rfl rfl rfl ?_
      refine TQ_off rfl rfl (by decide) rfl rfl rfl ?_
      refine TQ_off rfl rfl (by decide) rfl rfl rfl ?_
      refine TQ_pure rfl (pur_pick (t := true) rfl rfl rfl) rfl ?_
      refine TQ_nil ?_
      exact joined true (wp 0 (lb rfl) rfl rfl rfl rfl rfl) (some_inj H).symm
     ·replace H := cond_f g_8 H
      refine TQ_on rfl rfl (by decide) rfl (pur_fa_b fld52_0 rfl rfl) rfl ?_
      refine TQ_on rfl rfl (by decide) rfl (pur_ld_b one3 rfl rfl rfl rfl) rfl ?_
      refine TQ_on rfl rfl (by decide) rfl (pur_fa_b fld52_1 rfl rfl) rfl ?_
      refine TQ_on rfl rfl (by decide) rfl (pur_ld_b one3 rfl rfl rfl rfl) rfl ?_
      refine TQ_on rfl rfl (by decide) rfl (pur_geq rfl rfl rfl) rfl ?_
      refine TQ_pure rfl (pur_pick (t := false) rfl rfl rfl) rfl ?_
      refine TQ_pure rfl (pur_move rfl) rfl ?_
      refine TQ_split (t := decide (x_t_4.b ≤ x_t_4.a)) 27 rfl (fun g_9 => ?_) (fun g_9 => ?_)
      ·replace H := cond_t g_9 H
       refine TQ_off rfl rfl (by decide) rfl rfl rfl ?_
       refine TQ_off rfl rfl (by decide) rfl rfl rfl ?_
       refine TQ_off rfl rfl (by decide) rfl rfl rfl ?_
       refine TQ_off rfl rfl (by decide) rfl rfl rfl ?_
       refine TQ_pure rfl (pur_pick (t := true) rfl rfl rfl) rfl ?_
       refine TQ_pure rfl (pur_move rfl) rfl ?_
       refine TQ_off rfl rfl (by decide) rfl rfl rfl ?_
       refine TQ_off rfl rfl (by decide) rfl rfl rfl ?_
       refine tqe [(0, (intA n0)), (1, (sl tConflictEdge edges1)), (5, (intA (t_4 : Int))), (6, (.b 0 0)), (10, (sl tConflictEdge edges1)), (11, (intA (edges1.length : Int))), (12, (intA (t_4 : Int))), (33, (boolA true)), (35, (.v undef))] rfl ?_
       refine TQ_off rfl rfl (by decide) rfl rfl rfl ?_
       refine TQ_off rfl rfl (by decide) rfl rfl rfl ?_
       refine TQ_off rfl rfl (by decide) rfl rfl rfl ?_
       refine TQ_off rfl rfl (by decide) rfl rfl rfl ?_
       refine TQ_off rfl rfl (by decide) rfl rfl rfl ?_
       refine TQ_off rfl rfl (by decide) rfl rfl rfl ?_
       refine TQ_off rfl rfl (by decide) rfl rfl rfl ?_
       refine TQ_off rfl rfl (by decide) rfl rfl rfl ?_
       refine tqe [(0, (intA n0)), (1, (sl tConflictEdge edges1)), (5, (intA (t_4 : Int))), (6, (.b 0 0)), (10, (sl tConflictEdge edges1)), (11, (intA (edges1.length : Int))), (12, (intA (t_4 : Int))), (33, (boolA true)), (36, (.v undef)), (42, (.v undef)), (43, (.v undef))] rfl ?_
       refine TQ_off rfl rfl (by decide) rfl rfl rfl ?_
       refine TQ_off rfl rfl (by decide) rfl rfl rfl ?_
       refine TQ_off rfl rfl (by decide) rfl rfl rfl ?_
       refine TQ_off rfl rfl (by decide) rfl rfl rfl ?_
       refine TQ_off rfl rfl (by decide) rfl rfl rfl ?_
       refine TQ_off rfl rfl (by decide) rfl rfl rfl ?_
       refine TQ_off rfl rfl (by decide) rfl rfl rfl ?_
       refine TQ_off rfl rfl (by decide) rfl rfl rfl ?_
       refine tqe [(0, (intA n0)), (1, (sl tConflictEdge edges1)), (5, (intA (t_4 : Int))), (6, (.b 0 0)), (10, (sl tConflictEdge edges1)), (11, (intA (edges1.length : Int))), (12, (intA (t_4 : Int))), (33, (boolA true)), (36, (.v undef)), (46, (.v undef)), (51, (.v undef))] rfl ?_
       refine TQ_off rfl rfl (by decide) rfl rfl rfl ?_
       refine TQ_off rfl rfl (by decide) rfl rfl rfl ?_
       refine TQ_off rfl rfl (by decide) rfl rfl rfl ?_
       refine TQ_off rfl rfl (by decide) rfl rfl rfl ?_
       refine TQ_off rfl rfl (by decide) rfl rfl rfl ?_
       refine TQ_off rfl rfl (by decide) rfl rfl rfl ?_
       refine TQ_off rfl rfl (by decide) rfl rfl rfl ?_
       refine TQ_off rfl rfl (by decide) rfl rfl rfl ?_
       refine tqe [(0, (intA n0)), (1, (sl tConflictEdge edges1)), (6, (.b 0 0)), (10, (sl tConflictEdge edges1)), (11, (intA (edges1.length : Int))), (12, (intA (t_4 : Int))), (33, (boolA true)), (36, (.v undef)), (46, (.v undef)), (56, (.v undef)), (57, (.v undef)), (59, (.v undef))] rfl ?_
       refine TQ_off rfl rfl (by decide) rfl rfl rfl ?_
       refine TQ_off rfl rfl (by decide) rfl rfl rfl ?_
       refine TQ_off rfl rfl (by decide) rfl rfl rfl ?_
       refine TQ_off rfl rfl (by decide) rfl rfl rfl ?_
       refine TQ_off rfl rfl (by decide) rfl rfl rfl ?_
       refine TQ_off rfl rfl (by decide) rfl rfl rfl ?_
       refine TQ_off rfl rfl (by decide) rfl rfl rfl ?_
       refine TQ_off rfl rfl (by decide) rfl rfl rfl ?_
       refine TQ_off rfl rfl (by decide) rfl rfl rfl ?_
       refine TQ_pure rfl (pur_pick (t := true) rfl rfl rfl) rfl ?_
       refine TQ_nil ?_
       exact joined true (wp 0 (lb rfl) rfl rfl rfl rfl rfl) (some_inj H).symm
      ·replace H := cond_f g_9 H
       refine TQ_on rfl rfl (by decide) rfl (pur_fa_b fld52_1 rfl rfl) rfl ?_
       refine TQ_on rfl rfl (by decide) rfl (pur_ld_b one3 rfl rfl rfl rfl) rfl ?_
       refine TQ_on rfl rfl (by decide) rfl (pur_move rfl) rfl ?_
       refine TQ_on rfl rfl (by decide) rfl (pur_geq rfl rfl rfl) rfl ?_
       refine TQ_pure rfl (pur_pick (t := false) rfl rfl rfl) rfl ?_
       refine TQ_pure rfl (pur_move rfl) rfl ?_
       refine TQ_split (t := decide (n0 ≤ x_t_4.b)) 33 rfl (fun g_10 => ?_) (fun g_10 => ?_)
       ·replace H := cond_t g_10 H
        refine TQ_off rfl rfl (by decide) rfl rfl rfl ?_
        refine TQ_off rfl rfl (by decide) rfl rfl rfl ?_
        refine TQ_off rfl rfl (by decide) rfl rfl rfl ?_
        refine TQ_off rfl rfl (by decide) rfl rfl rfl ?_
        refine TQ_off rfl rfl (by decide) rfl rfl rfl ?_
        refine TQ_off rfl rfl (by decide) rfl rfl rfl ?_
        refine TQ_off rfl rfl (by decide) rfl rfl rfl ?_
        refine TQ_off rfl rfl (by decide) rfl rfl rfl ?_
        refine tqe [(0, (intA n0)), (1, (sl tConflictEdge edges1)), (5, (intA (t_4 : Int))), (6, (.b 0 0)), (10, (sl tConflictEdge edges1)), (11, (intA (edges1.length : Int))), (12, (intA (t_4 : Int))), (33, (boolA true)), (36, (.v undef)), (41, (.v undef))] rfl ?_
        refine TQ_off rfl rfl (by decide) rfl rfl rfl ?_
        refine TQ_off rfl rfl (by decide) rfl rfl rfl ?_
        refine TQ_off rfl rfl (by decide) rfl rfl rfl ?_
        refine TQ_off rfl rfl (by decide) rfl rfl rfl ?_
        refine TQ_off rfl rfl (by decide) rfl rfl rfl ?_
        refine TQ_off rfl rfl (by decide) rfl rfl rfl ?_
        refine TQ_off rfl rfl (by decide) rfl rfl rfl ?_
        refine TQ_off rfl rfl (by decide) rfl rfl rfl ?_
        refine tqe [(0, (intA n0)), (1, (sl tConflictEdge edges1)), (5, (intA (t_4 : Int))), (6, (.b 0 0)), (10, (sl tConflictEdge edges1)), (11, (intA (edges1.length : Int))), (12, (intA (t_4 : Int))), (33, (boolA true)), (36, (.v undef)), (46, (.v undef)), (47, (.v undef)), (49, (.v undef))] rfl ?_
        refine TQ_off rfl rfl (by decide) rfl rfl rfl ?_
        refine TQ_off rfl rfl (by decide) rfl rfl rfl ?_
        refine TQ_off rfl rfl (by decide) rfl rfl rfl ?_
        refine TQ_off rfl rfl (by decide) rfl rfl rfl ?_
        refine TQ_off rfl rfl (by decide) rfl rfl rfl ?_
        refine TQ_off rfl rfl (by decide) rfl rfl rfl ?_
        refine TQ_off rfl rfl (by decide) rfl rfl rfl ?_
        refine TQ_off rfl rfl (by decide) rfl rfl rfl ?_
        refine tqe [(0, (intA n0)), (1, (sl tConflictEdge edges1)), (5, (intA (t_4 : Int))), (6, (.b 0 0)), (10, (sl tConflictEdge edges1)), (11, (intA (edges1.length : Int))), (12, (intA (t_4 : Int))), (33, (boolA true)), (36, (.v undef)), (46, (.v undef)), (56, (.v undef)), (57, (.v undef))] rfl ?_
        refine TQ_off rfl rfl (by decide) rfl rfl rfl ?_
        refine TQ_off rfl rfl (by decide) rfl rfl rfl ?_
        refine TQ_off rfl rfl (by decide) rfl rfl rfl ?_
        refine TQ_off rfl rfl (by decide) rfl rfl rfl ?_
        refine TQ_off rfl rfl (by decide) rfl rfl rfl ?_
        refine TQ_off rfl rfl (by decide) rfl rfl rfl ?_
        refine TQ_off rfl rfl (by decide) rfl rfl rfl ?_
        refine TQ_off rfl rfl (by decide) rfl rfl rfl ?_
        refine tqe [(0, (intA n0)), (1, (sl tConflictEdge edges1)), (10, (sl tConflictEdge edges1)), (11, (intA (edges1.length : Int))), (12, (intA (t_4 : Int))), (33, (boolA true)), (36, (.v undef)), (46, (.v undef)), (56, (.v undef)), (65, (.v undef))] rfl ?_
        refine TQ_off rfl rfl (by decide) rfl rfl rfl ?_
        refine TQ_off rfl rfl (by decide) rfl rfl rfl ?_
        refine TQ_off rfl rfl (by decide) rfl rfl rfl ?_
        refine TQ_pure rfl (pur_pick (t := true) rfl rfl rfl) rfl ?_
        refine TQ_nil ?_
        exact joined true (wp 0 (lb rfl) rfl rfl rfl rfl rfl) (some_inj H).symm
       ·replace H := cond_f g_10 H
        refine TQ_on rfl rfl (by decide) rfl (pur_move rfl) rfl ?_
        refine TQ_on rfl rfl (by decide) rfl (pur_gtr rfl rfl rfl) rfl ?_
        refine TQ_on rfl rfl (by decide) rfl (pur_move rfl) rfl ?_
        refine TQ_split (t := decide (0 < (t_4 : Int))) 36 rfl (fun g_11 => ?_) (fun g_11 => ?_)
        ·replace H := cond_t g_11 H
         refine TQ_on rfl rfl (by decide) rfl (pur_move rfl) rfl ?_
         refine TQ_on rfl rfl (by decide) rfl (pur_move rfl) rfl ?_
         refine TQ_on rfl rfl (by decide) rfl (pur_sub rfl rfl rfl (fits64 (by omega) (by omega))) rfl ?_
         obtain ⟨v_12, h_13, H⟩ := bind_inv H
         obtain ⟨n_14, hz_15, hv_16⟩ := getI_inv h_13
         refine TQ_on rfl rfl (by decide) rfl (pur_ixT (T := tConflictEdge) sl25 rfl rfl hz_15 hv_16 rfl) rfl ?_
         refine TQ_on rfl rfl (by decide) rfl (pur_fa_q fld52_0 rfl rfl) rfl ?_
         refine TQ_on rfl rfl (by decide) rfl (pur_ldT (T := tConflictEdge) (i := n_14) (off := 0) rfl one3 rfl rfl hv_16 rfl) rfl ?_
         refine TQ_on rfl rfl (by decide) rfl (pur_fa_b fld52_0 rfl rfl) rfl ?_
         refine TQ_on rfl rfl (by decide) rfl (pur_ld_b one3 rfl rfl rfl rfl) rfl ?_
         refine tqe [(0, (intA n0)), (1, (sl tConflictEdge edges1)), (5, (intA (t_4 : Int))), (6, (.b 0 0)), (10, (sl tConflictEdge edges1)), (11, (intA (edges1.length : Int))), (12, (intA (t_4 : Int))), (33, (boolA false)), (36, (boolA true)), (42, (intA v_12.a)), (44, (intA x_t_4.a))] rfl ?_
         refine TQ_on rfl rfl (by decide) rfl (pur_gtr rfl rfl rfl) rfl ?_
         refine TQ_on rfl rfl (by decide) rfl (pur_move rfl) rfl ?_
         refine TQ_split (t := decide (x_t_4.a < v_12.a)) 46 rfl (fun g_17 => ?_) (fun g_17 => ?_)
         ·replace H := cond_t g_17 H
          refine TQ_off rfl rfl (by decide) rfl rfl rfl ?_
          refine TQ_off rfl rfl (by decide) rfl rfl rfl ?_
          refine TQ_off rfl rfl (by decide) rfl rfl rfl ?_
          refine TQ_off rfl rfl (by decide) rfl rfl rfl ?_
          refine TQ_off rfl rfl (by decide) rfl rfl rfl ?_
          refine TQ_off rfl rfl (by decide) rfl rfl rfl ?_
          refine TQ_off rfl rfl (by decide) rfl rfl rfl ?_
          refine TQ_off rfl rfl (by decide) rfl rfl rfl ?_
          refine tqe [(0, (intA n0)), (1, (sl tConflictEdge edges1)), (5, (intA (t_4 : Int))), (6, (.b 0 0)), (10, (sl tConflictEdge edges1)), (11, (intA (edges1.length : Int))), (12, (intA (t_4 : Int))), (33, (boolA false)), (36, (boolA true)), (46, (boolA true)), (52, (.v undef)), (54, (.v undef))] rfl ?_
          refine TQ_off rfl rfl (by decide) rfl rfl rfl ?_
          refine TQ_off rfl rfl (by decide) rfl rfl rfl ?_
          refine TQ_off rfl rfl (by decide) rfl rfl rfl ?_
          refine TQ_off rfl rfl (by decide) rfl rfl rfl ?_
          refine TQ_off rfl rfl (by decide) rfl rfl rfl ?_
          refine TQ_off rfl rfl (by decide) rfl rfl rfl ?_
          refine TQ_off rfl rfl (by decide) rfl rfl rfl ?_
          refine TQ_off rfl rfl (by decide) rfl rfl rfl ?_
          refine tqe [(0, (intA n0)), (1, (sl tConflictEdge edges1)), (6, (.b 0 0)), (10, (sl tConflictEdge edges1)), (11, (intA (edges1.length : Int))), (12, (intA (t_4 : Int))), (33, (boolA false)), (36, (boolA true)), (46, (boolA true)), (56, (.v undef)), (62, (.v undef))] rfl ?_
          refine TQ_off rfl rfl (by decide) rfl rfl rfl ?_
          refine TQ_off rfl rfl (by decide) rfl rfl rfl ?_
          refine TQ_off rfl rfl (by decide) rfl rfl rfl ?_
          refine TQ_off rfl rfl (by decide) rfl rfl rfl ?_
          refine TQ_on rfl rfl (by decide) rfl (pur_pick (t := true) rfl rfl rfl) rfl ?_
          refine TQ_on rfl rfl (by decide) rfl (pur_pick (t := true) rfl rfl rfl) rfl ?_
          refine TQ_pure rfl (pur_pick (t := false) rfl rfl rfl) rfl ?_
          refine TQ_nil ?_
          exact joined true (wp 0 (lb rfl) rfl rfl rfl rfl rfl) (some_inj H).symm
         ·replace H := cond_f g_17 H
          refine TQ_on rfl rfl (by decide) rfl (pur_move rfl) rfl ?_
          refine TQ_on rfl rfl (by decide) rfl (pur_move rfl) rfl ?_
          refine TQ_on rfl rfl (by decide) rfl (pur_sub rfl rfl rfl (fits64 (by omega) (by omega))) rfl ?_
          refine TQ_on rfl rfl (by decide) rfl (pur_ixT (T := tConflictEdge) sl25 rfl rfl hz_15 hv_16 rfl) rfl ?_
          refine TQ_on rfl rfl (by decide) rfl (pur_fa_q fld52_0 rfl rfl) rfl ?_
          refine TQ_on rfl rfl (by decide) rfl (pur_ldT (T := tConflictEdge) (i := n_14) (off := 0) rfl one3 rfl rfl hv_16 rfl) rfl ?_
          refine TQ_on rfl rfl (by decide) rfl (pur_fa_b fld52_0 rfl rfl) rfl ?_
          refine TQ_on rfl rfl (by decide) rfl (pur_ld_b one3 rfl rfl rfl rfl) rfl ?_
          refine tqe [(0, (intA n0)), (1, (sl tConflictEdge edges1)), (5, (intA (t_4 : Int))), (6, (.b 0 0)), (10, (sl tConflictEdge edges1)), (11, (intA (edges1.length : Int))), (12, (intA (t_4 : Int))), (33, (boolA false)), (36, (boolA true)), (46, (boolA false)), (52, (intA v_12.a)), (54, (intA x_t_4.a))] rfl ?_
          refine TQ_on rfl rfl (by decide) rfl (pur_eql rfl rfl rfl) rfl ?_
          refine TQ_on rfl rfl (by decide) rfl (pur_move rfl) rfl ?_
          refine TQ_split (t := decide (v_12.a = x_t_4.a)) 56 rfl (fun g_18 => ?_) (fun g_18 => ?_)
          ·replace H := cond_t g_18 H
           refine TQ_on rfl rfl (by decide) rfl (pur_move rfl) rfl ?_
           refine TQ_on rfl rfl (by decide) rfl (pur_move rfl) rfl ?_
           refine TQ_on rfl rfl (by decide) rfl (pur_sub rfl rfl rfl (fits64 (by omega) (by omega))) rfl ?_
           refine TQ_on rfl rfl (by decide) rfl (pur_ixT (T := tConflictEdge) sl25 rfl rfl hz_15 hv_16 rfl) rfl ?_
           refine TQ_on rfl rfl (by decide) rfl (pur_fa_q fld52_1 rfl rfl) rfl ?_
           refine TQ_on rfl rfl (by decide) rfl (pur_ldT (T := tConflictEdge) (i := n_14) (off := 1) rfl one3 rfl rfl hv_16 rfl) rfl ?_
           refine TQ_on rfl rfl (by decide) rfl (pur_fa_b fld52_1 rfl rfl) rfl ?_
           refine TQ_on rfl rfl (by decide) rfl (pur_ld_b one3 rfl rfl rfl rfl) rfl ?_
           refine tqe [(0, (intA n0)), (1, (sl tConflictEdge edges1)), (10, (sl tConflictEdge edges1)), (11, (intA (edges1.length : Int))), (12, (intA (t_4 : Int))), (33, (boolA false)), (36, (boolA true)), (46, (boolA false)), (56, (boolA true)), (62, (intA v_12.b)), (64, (intA x_t_4.b))] rfl ?_
           refine TQ_on rfl rfl (by decide) rfl (pur_geq rfl rfl rfl) rfl ?_
           refine TQ_on rfl rfl (by decide) rfl (pur_pick (t := true) rfl rfl rfl) rfl ?_
           refine TQ_on rfl rfl (by decide) rfl (pur_pick (t := false) rfl rfl rfl) rfl ?_
           refine TQ_on rfl rfl (by decide) rfl (pur_pick (t := true) rfl rfl rfl) rfl ?_
           refine TQ_pure rfl (pur_pick (t := false) rfl rfl rfl) rfl ?_
           refine TQ_nil ?_
           exact joined (decide (x_t_4.b ≤ v_12.b)) (wp 0 (lb rfl) rfl rfl rfl rfl rfl) (some_inj H).symm
          ·replace H := cond_f g_18 H
           refine TQ_off rfl rfl (by decide) rfl rfl rfl ?_
           refine TQ_off rfl rfl (by decide) rfl rfl rfl ?_
           refine TQ_off rfl rfl (by decide) rfl rfl rfl ?_
           refine TQ_off rfl rfl (by decide) rfl rfl rfl ?_
           refine TQ_off rfl rfl (by decide) rfl rfl rfl ?_
           refine TQ_off rfl rfl (by decide) rfl rfl rfl ?_
           refine TQ_off rfl rfl (by decide) rfl rfl rfl ?_
           refine TQ_off rfl rfl (by decide) rfl rfl rfl ?_
           refine tqe [(0, (intA n0)), (1, (sl tConflictEdge edges1)), (10, (sl tConflictEdge edges1)), (11, (intA (edges1.length : Int))), (12, (intA (t_4 : Int))), (33, (boolA false)), (36, (boolA true)), (46, (boolA false)), (56, (boolA false)), (62, (.v undef)), (64, (.v undef))] rfl ?_
           refine TQ_off rfl rfl (by decide) rfl rfl rfl ?_
           refine TQ_on rfl rfl (by decide) rfl (pur_pick (t := false) rfl rfl rfl) rfl ?_
           refine TQ_on rfl rfl (by decide) rfl (pur_pick (t := false) rfl rfl rfl) rfl ?_
           refine TQ_on rfl rfl (by decide) rfl (pur_pick (t := true) rfl rfl rfl) rfl ?_
           refine TQ_pure rfl (pur_pick (t := false) rfl rfl rfl) rfl ?_
           refine TQ_nil ?_
           exact joined false (wp 0 (lb rfl) rfl rfl rfl rfl rfl) (some_inj H).symm
        ·replace H := cond_f g_11 H
         refine TQ_off rfl rfl (by decide) rfl rfl rfl ?_
         refine TQ_off rfl rfl (by decide) rfl rfl rfl ?_
         refine TQ_off rfl rfl (by decide) rfl rfl rfl ?_
         refine TQ_off rfl rfl (by decide) rfl rfl rfl ?_
         refine TQ_off rfl rfl (by decide) rfl rfl rfl ?_
         refine TQ_off rfl rfl (by decide) rfl rfl rfl ?_
         refine TQ_off rfl rfl (by decide) rfl rfl rfl ?_
         refine TQ_off rfl rfl (by decide) rfl rfl rfl ?_
         refine tqe [(0, (intA n0)), (1, (sl tConflictEdge edges1)), (5, (intA (t_4 : Int))), (6, (.b 0 0)), (10, (sl tConflictEdge edges1)), (11, (intA (edges1.length : Int))), (12, (intA (t_4 : Int))), (33, (boolA false)), (36, (boolA false)), (42, (.v undef)), (44, (.v undef))] rfl ?_
         refine TQ_off rfl rfl (by decide) rfl rfl rfl ?_
         refine TQ_off rfl rfl (by decide) rfl rfl rfl ?_
         refine TQ_off rfl rfl (by decide) rfl rfl rfl ?_
         refine TQ_off rfl rfl (by decide) rfl rfl rfl ?_
         refine TQ_off rfl rfl (by decide) rfl rfl rfl ?_
         refine TQ_off rfl rfl (by decide) rfl rfl rfl ?_
         refine TQ_off rfl rfl (by decide) rfl rfl rfl ?_
         refine TQ_off rfl rfl (by decide) rfl rfl rfl ?_
         refine tqe [(0, (intA n0)), (1, (sl tConflictEdge edges1)), (5, (intA (t_4 : Int))), (6, (.b 0 0)), (10, (sl tConflictEdge edges1)), (11, (intA (edges1.length : Int))), (12, (intA (t_4 : Int))), (33, (boolA false)), (36, (boolA false)), (46, (.v undef)), (52, (.v undef))] rfl ?_
         refine TQ_off rfl rfl (by decide) rfl rfl rfl ?_
         refine TQ_off rfl rfl (by decide) rfl rfl rfl ?_
         refine TQ_off rfl rfl (by decide) rfl rfl rfl ?_
         refine TQ_off rfl rfl (by decide) rfl rfl rfl ?_
         refine TQ_off rfl rfl (by decide) rfl rfl rfl ?_
         refine TQ_off rfl rfl (by decide) rfl rfl rfl ?_
         refine TQ_off rfl rfl (by decide) rfl rfl rfl ?_
         refine TQ_off rfl rfl (by decide) rfl rfl rfl ?_
         refine tqe [(0, (intA n0)), (1, (sl tConflictEdge edges1)), (6, (.b 0 0)), (10, (sl tConflictEdge edges1)), (11, (intA (edges1.length : Int))), (12, (intA (t_4 : Int))), (33, (boolA false)), (36, (boolA false)), (46, (.v undef)), (56, (.v undef)), (60, (.v undef))] rfl ?_
         refine TQ_off rfl rfl (by decide) rfl rfl rfl ?_
         refine TQ_off rfl rfl (by decide) rfl rfl rfl ?_
         refine TQ_off rfl rfl (by decide) rfl rfl rfl ?_
         refine TQ_off rfl rfl (by decide) rfl rfl rfl ?_
         refine TQ_off rfl rfl (by decide) rfl rfl rfl ?_
         refine TQ_off rfl rfl (by decide) rfl rfl rfl ?_
         refine TQ_off rfl rfl (by decide) rfl rfl rfl ?_
         refine TQ_on rfl rfl (by decide) rfl (pur_pick (t := false) rfl rfl rfl) rfl ?_
         refine TQ_pure rfl (pur_pick (t := false) rfl rfl rfl) rfl ?_
         refine TQ_nil ?_
         exact joined false (wp 0 (lb rfl) rfl rfl rfl rfl rfl) (some_inj H).symm
    ·rintro _ rfl
     replace H := H_7
     refine te [(0, (intA n0)), (1, (sl tConflictEdge edges1)), (10, (sl tConflictEdge edges1)), (11, (intA (edges1.length : Int))), (12, (intA (t_4 : Int))), (69, (boolA t69_6))] rfl ?_
     refine T_cond (t := t69_6) rfl (fun c_19 => ?_) (fun c_19 => ?_)
     ·replace H := cond_t c_19 H
      refine sr ?_
      refine Tp rfl rfl (pur_assign rfl) rfl ?_
      refine TO_nil ?_
      refine te [(4, (boolA false))] rfl ?_
      refine T_ret ?_
      refine block_ret ?_
      refine then_ret ?_
      refine then_ret ?_
      refine block_ret ?_
      refine then_ret ?_
      obtain rfl := some_inj H
      obtain rfl := some_inj K5_
      replace H := onS_r N5_
      obtain rfl := some_inj H
      refine end_ret (.tmp .nil) rfl rfl ⟨?_, rfl⟩
      rfl
     ·replace H := cond_f c_19 H
      refine T_skip ?_
      refine te [(0, (intA n0)), (1, (sl tConflictEdge edges1)), (10, (sl tConflictEdge edges1)), (11, (intA (edges1.length : Int))), (12, (intA (t_4 : Int)))] rfl ?_
      refine T_region ?_
      refine Tp rfl rfl (pur_add rfl rfl rfl (fits64 (by omega) (by omega))) rfl ?_
      refine Tp rfl rfl (pur_move rfl) rfl ?_
      refine TO_nil ?_
      obtain rfl := some_inj H
      exact again (edges1.length - (t_4 + 1)) (t_4 + 1) (by omega) (wp 0 (lb rfl) rfl rfl rfl rfl rfl) ⟨rfl, K5_⟩
   ·replace d5 := of_decide_eq_false d5
    obtain rfl := forL_end L5_ (by omega)
    refine T_exit ?_
    refine then_exit ?_
    refine then_exit ?_
    refine block_exit ?_
    replace H := onS_l N5_
    refine te [] rfl ?_
    refine sr ?_
    refine Tp rfl rfl (pur_assign rfl) rfl ?_
    refine TO_nil ?_
    refine te [(4, (boolA true))] rfl ?_
    refine T_ret ?_
    obtain rfl := some_inj H
    refine end_ret (.tmp .nil) rfl rfl ⟨?_, rfl⟩
    rfl

set_option maxHeartbeats 1000000 in
/-- slices.IndexFunc[[]int,int] -/
theorem m_slices_IndexFunc_Sint_int_ok (s0 : (List Int)) (f1 : (Int → Option Bool)) (f1_g : Nat) (f1_c : List A) (f1_E : EnT prg f1_g) (f1_l : looseL f1_c = true) (f1_m : firmL f1_c = true ∧ fzL f1_c = f1_c) (f1_H : ∀ (x0 : Int) r, f1 x0 = some r → FnV prg f1_g ([(intA x0)] ++ f1_c) (boolA r)) (r : Int) (H : m_slices_IndexFunc_Sint_int s0 f1 = some r) : FnV prg 83 [(sl tInt s0), (.f f1_g f1_c)] (intA r) := by
  unfold m_slices_IndexFunc_Sint_int at H
  refine fnV_of_T Try.func83 rfl rfl (Nat.le_of_ble_eq_true rfl) ?_
  refine te [(0, (sl tInt s0)), (1, (.f f1_g f1_c))] rfl ?_
  refine sr ?_
  refine Tp rfl rfl (pur_assign rfl) rfl ?_
  refine TO_nil ?_
  refine te [(0, (sl tInt s0)), (1, (.f f1_g f1_c))] rfl ?_
  refine T_seq ?_
  refine sr ?_
  refine Tp rfl rfl (pur_move rfl) rfl ?_
  refine Tp rfl rfl (pur_lenT (T := tInt) sl31 rfl rfl) rfl ?_
  refine Tp rfl rfl (pur_move rfl) rfl ?_
  refine TO_nil ?_
  refine te [(0, (sl tInt s0)), (1, (.f f1_g f1_c)), (7, (intA (s0.length : Int))), (8, (intA 0))] rfl ?_
  obtain ⟨O2_, L2_, N2_⟩ := bind_inv H
  clear H
  obtain ⟨B2_, hb2, L2_⟩ := gen_forL L2_
  refine T_block ?_
  refine T_loopX (fun k => fun (t_1 : Nat) => k = s0.length - t_1 ∧ forL B2_ (s0.drop t_1) (t_1 : Int) () = some O2_) (fun (t_1 : Nat) => [(0, (sl tInt s0)), (1, (.f f1_g f1_c)), (7, (intA (s0.length : Int))), (8, (intA (t_1 : Int)))]) (fun (t_1 : Nat) => []) _ (0 : Nat) (wp 0 (lb rfl) rfl rfl (by simp only [namesE, A.names, namesL_enc, Bool.false_or, Bool.or_false, looseL_names f1_l]) rfl rfl) ⟨rfl, L2_⟩ ?_
  rintro _ t_1 ⟨rfl, L2_⟩
  refine te [(0, (sl tInt s0)), (1, (.f f1_g f1_c)), (7, (intA (s0.length : Int))), (8, (intA (t_1 : Int)))] rfl ?_
  refine T_st (σ' := []) rfl ?_
  refine T_fact (len_sl (T := tInt) (.tmp 0) rfl) (fun hl2 => ?_)
  refine sr ?_
  refine Tp rfl rfl (pur_lss rfl rfl rfl) rfl ?_
  refine TO_nil ?_
  refine te [(0, (sl tInt s0)), (1, (.f f1_g f1_c)), (7, (intA (s0.length : Int))), (8, (intA (t_1 : Int))), (9, (boolA (decide ((t_1 : Int) < (s0.length : Int)))))] rfl ?_
  refine T_seq ?_
  refine T_cond (t := decide ((t_1 : Int) < (s0.length : Int))) rfl (fun d2 => ?_) (fun d2 => ?_)
  ·replace d2 := of_decide_eq_true d2
   obtain ⟨x_t_1, hx_t_1⟩ : ∃ v, (s0)[t_1]? = some v := ⟨_, List.getElem?_eq_getElem (by omega)⟩
   obtain ⟨C2_, H, K2_⟩ := forL_step L2_ hx_t_1
   rw [hb2] at H
   refine T_skip ?_
   refine te [(0, (sl tInt s0)), (1, (.f f1_g f1_c)), (7, (intA (s0.length : Int))), (8, (intA (t_1 : Int)))] rfl ?_
   refine T_seq ?_
   refine T_block ?_
   refine sr ?_
   refine Tp rfl rfl (pur_move rfl) rfl ?_
   refine Tp rfl rfl (pur_assign rfl) rfl ?_
   refine TO_nil ?_
   refine te [(0, (sl tInt s0)), (1, (.f f1_g f1_c)), (5, (intA (t_1 : Int))), (7, (intA (s0.length : Int))), (8, (intA (t_1 : Int)))] rfl ?_
   refine sr ?_
   refine Tp rfl rfl (pur_move rfl) rfl ?_
   refine Tp rfl rfl (pur_move rfl) rfl ?_
   refine Tp rfl rfl (pur_move rfl) rfl ?_
   refine Tp rfl rfl (pur_ixT (T := tInt) sl31 rfl rfl rfl hx_t_1 rfl) rfl ?_
   refine Tp rfl rfl (pur_ldT (T := tInt) (i := t_1) (off := 0) rfl one3 rfl rfl hx_t_1 rfl) rfl ?_
   obtain ⟨r_3, h_4, H⟩ := bind_inv H
   refine TO_cons rfl (TOp_callV (call_closure f1_E rfl rfl) (f1_H _  _ h_4) (looseL_app rfl f1_l) rfl rfl ?_)
   refine TO_nil ?_
   refine te [(0, (sl tInt s0)), (1, (.f f1_g f1_c)), (5, (intA (t_1 : Int))), (7, (intA (s0.length : Int))), (8, (intA (t_1 : Int))), (16, (boolA r_3))] rfl ?_
   refine T_cond (t := r_3) rfl (fun c_5 => ?_) (fun c_5 => ?_)
   ·replace H := cond_t c_5 H
    refine sr ?_
    refine Tp rfl rfl (pur_move rfl) rfl ?_
    refine Tp rfl rfl (pur_assign rfl) rfl ?_
    refine TO_nil ?_
    refine te [(4, (intA (t_1 : Int)))] rfl ?_
    refine T_ret ?_
    refine block_ret ?_
    refine then_ret ?_
    refine then_ret ?_
    refine block_ret ?_
    refine then_ret ?_
    obtain rfl := some_inj H
    obtain rfl := some_inj K2_
    replace H := onS_r N2_
    obtain rfl := some_inj H
    refine end_ret (.tmp .nil) rfl rfl ⟨?_, rfl⟩
    rfl
   ·replace H := cond_f c_5 H
    refine T_skip ?_
    refine te [(0, (sl tInt s0)), (1, (.f f1_g f1_c)), (7, (intA (s0.length : Int))), (8, (intA (t_1 : Int)))] rfl ?_
    refine T_region ?_
    refine Tp rfl rfl (pur_add rfl rfl rfl (fits64 (by omega) (by omega))) rfl ?_
    refine Tp rfl rfl (pur_move rfl) rfl ?_
    refine TO_nil ?_
    obtain rfl := some_inj H
    exact again (s0.length - (t_1 + 1)) (t_1 + 1) (by omega) (wp 0 (lb rfl) rfl rfl (by simp only [namesE, A.names, namesL_enc, Bool.false_or, Bool.or_false, looseL_names f1_l]) rfl rfl) ⟨rfl, K2_⟩
  ·replace d2 := of_decide_eq_false d2
   obtain rfl := forL_end L2_ (by omega)
   refine T_exit ?_
   refine then_exit ?_
   refine then_exit ?_
   refine block_exit ?_
   replace H := onS_l N2_
   refine te [] rfl ?_
   refine sr ?_
   refine Tp rfl rfl (pur_assign rfl) rfl ?_
   refine TO_nil ?_
   refine te [(4, (intA (-1)))] rfl ?_
   refine T_ret ?_
   obtain rfl := some_inj H
   refine end_ret (.tmp .nil) rfl rfl ⟨?_, rfl⟩
   rfl

set_option maxHeartbeats 1000000 in
/-- slices.ContainsFunc[[]int,int] -/
theorem m_slices_ContainsFunc_Sint_int_ok (s0 : (List Int)) (f1 : (Int → Option Bool)) (f1_g : Nat) (f1_c : List A) (f1_E : EnT prg f1_g) (f1_l : looseL f1_c = true) (f1_m : firmL f1_c = true ∧ fzL f1_c = f1_c) (f1_H : ∀ (x0 : Int) r, f1 x0 = some r → FnV prg f1_g ([(intA x0)] ++ f1_c) (boolA r)) (r : Bool) (H : m_slices_ContainsFunc_Sint_int s0 f1 = some r) : FnV prg 55 [(sl tInt s0), (.f f1_g f1_c)] (boolA r) := by
  unfold m_slices_ContainsFunc_Sint_int at H
  refine fnV_of_T Try.func55 rfl rfl (Nat.le_of_ble_eq_true rfl) ?_
  refine te [(0, (sl tInt s0)), (1, (.f f1_g f1_c))] rfl ?_
  refine sr ?_
  refine Tp rfl rfl (pur_assign rfl) rfl ?_
  refine TO_nil ?_
  refine te [(0, (sl tInt s0)), (1, (.f f1_g f1_c))] rfl ?_
  refine sr ?_
  refine Tp rfl rfl (pur_move rfl) rfl ?_
  refine Tp rfl rfl (pur_move rfl) rfl ?_
  obtain ⟨r_1, h_2, H⟩ := bind_inv H
  refine TO_cons rfl (TOp_callV (call_static ent83 rfl) (m_slices_IndexFunc_Sint_int_ok _ f1 f1_g f1_c f1_E f1_l f1_m f1_H _ h_2) (looseC rfl (looseC f1_l rfl)) rfl rfl ?_)
  refine Tp rfl rfl (pur_geq rfl rfl rfl) rfl ?_
  refine Tp rfl rfl (pur_assign rfl) rfl ?_
  refine TO_nil ?_
  refine te [(4, (boolA (decide (0 ≤ r_1))))] rfl ?_
  refine T_ret ?_
  obtain rfl := some_inj H
  refine end_ret (.tmp .nil) rfl rfl ⟨?_, rfl⟩
  rfl

set_option maxHeartbeats 1000000 in
/-- impl.undominated$1 -/
theorem m_impl_undominated_1_ok (a0 : Int) (fv1 : (List ConflictEdge)) (fv2 : Int) (r : Bool) (H : m_impl_undominated_1 a0 fv1 fv2 = some r) : FnV prg 79 [(intA a0), (.q [(sl tConflictEdge fv1)] 0), (.q [(intA fv2)] 0)] (boolA r) := by
  unfold m_impl_undominated_1 at H
  refine fnV_of_T Try.func79 rfl rfl (Nat.le_of_ble_eq_true rfl) ?_
  refine te [(0, (intA a0)), (1, (.q [(sl tConflictEdge fv1)] 0)), (2, (.q [(intA fv2)] 0))] rfl ?_
  refine sr ?_
  refine Tp rfl rfl (pur_assign rfl) rfl ?_
  refine TO_nil ?_
  refine te [(0, (intA a0)), (1, (.q [(sl tConflictEdge fv1)] 0)), (2, (.q [(intA fv2)] 0))] rfl ?_
  refine sr ?_
  refine Tp rfl rfl (pur_ld_q one25 rfl rfl rfl) rfl ?_
  refine Tp rfl rfl (pur_move rfl) rfl ?_
  refine Tp rfl rfl (pur_ld_q one3 rfl rfl rfl) rfl ?_
  obtain ⟨r_1, h_2, H⟩ := bind_inv H
  refine TO_cons rfl (TOp_callV (call_static ent14 rfl) (m_impl_IsPreferred_ok _ _ _ _ h_2) rfl rfl rfl ?_)
  refine Tp rfl rfl (pur_assign rfl) rfl ?_
  refine TO_nil ?_
  refine te [(4, (boolA r_1))] rfl ?_
  refine T_ret ?_
  obtain rfl := some_inj H
  refine end_ret (.tmp .nil) rfl rfl ⟨?_, rfl⟩
  rfl

set_option maxHeartbeats 1000000 in
/-- impl.undominated -/
theorem m_impl_undominated_own (preferences0 : (List ConflictEdge)) (left1 : (List Int)) (r : (List Int)) (H : m_impl_undominated preferences0 left1 = some r) : FnO prg 51 [(sl tConflictEdge preferences0), (sl tInt left1)] (.m [0] 0 r.length tInt.k) [.row (flat tInt.own r)] := by
  unfold m_impl_undominated at H
  refine fnO_of_T Try.func51 rfl rfl (Nat.le_of_ble_eq_true rfl) ?_
  refine te [(0, (sl tConflictEdge preferences0)), (1, (sl tInt left1))] rfl ?_
  refine sr ?_
  refine TO_cons rfl (TOp_box rfl (boxAll rfl) rfl rfl ?_)
  refine Tp rfl rfl (pur_assign rfl) rfl ?_
  refine TO_nil ?_
  refine te [(1, (sl tInt left1)), (2, (.b 0 0))] rfl ?_
  refine sr ?_
  refine TO_cons rfl (TOp_lit (nn := 0) (k := 1) sl31 zero3 rfl rfl rfl rfl (by decide) ?_)
  refine TO_st (σ' := [.box [(sl tConflictEdge preferences0)], .row (flat tInt.enc ([] : (List Int)))]) rfl ?_
  refine Tp rfl rfl (pur_assign rfl) rfl ?_
  refine TO_nil ?_
  refine te [(1, (sl tInt left1)), (2, (.b 0 0)), (5, (.m [1] 0 ([] : (List Int)).length tInt.k))] rfl ?_
  refine T_seq ?_
  refine sr ?_
  refine Tp rfl rfl (pur_move rfl) rfl ?_
  refine Tp rfl rfl (pur_lenT (T := tInt) sl31 rfl rfl) rfl ?_
  refine Tp rfl rfl (pur_move rfl) rfl ?_
  refine TO_nil ?_
  refine te [(1, (sl tInt left1)), (2, (.b 0 0)), (5, (.m [1] 0 ([] : (List Int)).length tInt.k)), (9, (sl tInt left1)), (10, (intA (left1.length : Int))), (11, (intA 0))] rfl ?_
  obtain ⟨O2_, L2_, N2_⟩ := bind_inv H
  clear H
  obtain ⟨B2_, hb2, L2_⟩ := gen_forS L2_
  refine T_block ?_
  refine T_loopX (fun k => fun (x_ : Nat × (List Int)) => k = left1.length - x_.1 ∧ forS B2_ (left1.drop x_.1) (x_.1 : Int) x_.2 = some O2_) (fun (x_ : Nat × (List Int)) => [(1, (sl tInt left1)), (2, (.b 0 0)), (5, (.m [1] 0 x_.2.length tInt.k)), (9, (sl tInt left1)), (10, (intA (left1.length : Int))), (11, (intA (x_.1 : Int)))]) (fun (x_ : Nat × (List Int)) => [.box [(sl tConflictEdge preferences0)], .row (flat tInt.enc x_.2)]) _ (0, ([] : (List Int))) (wp 2 (lb rfl) rfl rfl rfl rfl rfl) ⟨rfl, L2_⟩ ?_
  rintro _ ⟨t_1, out5⟩ ⟨rfl, L2_⟩
  refine te [(1, (sl tInt left1)), (2, (.b 0 0)), (5, (.m [1] 0 out5.length tInt.k)), (9, (sl tInt left1)), (10, (intA (left1.length : Int))), (11, (intA (t_1 : Int)))] rfl ?_
  refine T_st (σ' := [.box [(sl tConflictEdge preferences0)], .row (flat tInt.enc out5)]) rfl ?_
  refine T_fact (len_sl (T := tInt) (.tmp 1) rfl) (fun hl2 => ?_)
  refine sr ?_
  refine Tp rfl rfl (pur_lss rfl rfl rfl) rfl ?_
  refine TO_nil ?_
  refine te [(1, (sl tInt left1)), (2, (.b 0 0)), (5, (.m [1] 0 out5.length tInt.k)), (9, (sl tInt left1)), (10, (intA (left1.length : Int))), (11, (intA (t_1 : Int))), (12, (boolA (decide ((t_1 : Int) < (left1.length : Int)))))] rfl ?_
  refine T_seq ?_
  refine T_cond (t := decide ((t_1 : Int) < (left1.length : Int))) rfl (fun d2 => ?_) (fun d2 => ?_)
  ·replace d2 := of_decide_eq_true d2
   obtain ⟨x_t_1, hx_t_1⟩ : ∃ v, (left1)[t_1]? = some v := ⟨_, List.getElem?_eq_getElem (by omega)⟩
   obtain ⟨C2_, H, K2_⟩ := forS_step L2_ hx_t_1
   rw [hb2] at H
   refine T_skip ?_
   refine te [(1, (sl tInt left1)), (2, (.b 0 0)), (5, (.m [1] 0 out5.length tInt.k)), (9, (sl tInt left1)), (10, (intA (left1.length : Int))), (11, (intA (t_1 : Int)))] rfl ?_
   refine T_seq ?_
   refine T_block ?_
   refine sr ?_
   refine Tp rfl rfl (pur_ixT (T := tInt) sl31 rfl rfl rfl hx_t_1 rfl) rfl ?_
   refine Tp rfl rfl (pur_ldT (T := tInt) (i := t_1) (off := 0) rfl one3 rfl rfl hx_t_1 rfl) rfl ?_
   refine TO_cons rfl (TOp_alloc zero3 rfl rfl ?_)
   refine TO_cons rfl (TOp_storeB sz3 rfl rfl rfl rfl rfl rfl rfl (by decide) (lb rfl) rfl ?_)
   refine TO_st (σ' := [.box [(sl tConflictEdge preferences0)], .row (flat tInt.enc out5), .box [(intA x_t_1)]]) rfl ?_
   refine TO_nil ?_
   refine te [(1, (sl tInt left1)), (2, (.b 0 0)), (5, (.m [1] 0 out5.length tInt.k)), (7, (.b 2 0)), (9, (sl tInt left1)), (10, (intA (left1.length : Int))), (11, (intA (t_1 : Int)))] rfl ?_
   refine sr ?_
   refine Tp rfl rfl (pur_move rfl) rfl ?_
   refine Tp rfl rfl (pur_makeFunc rfl) rfl ?_
   obtain ⟨r_3, h_4, H⟩ := bind_inv H
   refine TO_cons rfl (TOp_callB (call_static ent55 rfl) (frz_cons (frz_loose rfl) (frz_cons (frzOK_f (frz_cons (frzOK_b (xs := [(sl tConflictEdge preferences0)]) (ys := [(sl tConflictEdge preferences0)]) rfl rfl rfl) (frz_cons (frzOK_b (xs := [(intA x_t_1)]) (ys := [(intA x_t_1)]) rfl rfl rfl) frz_nil)).1 (frz_cons (frzOK_b (xs := [(sl tConflictEdge preferences0)]) (ys := [(sl tConflictEdge preferences0)]) rfl rfl rfl) (frz_cons (frzOK_b (xs := [(intA x_t_1)]) (ys := [(intA x_t_1)]) rfl rfl rfl) frz_nil)).2) frz_nil)).1 (frz_cons (frz_loose rfl) (frz_cons (frzOK_f (frz_cons (frzOK_b (xs := [(sl tConflictEdge preferences0)]) (ys := [(sl tConflictEdge preferences0)]) rfl rfl rfl) (frz_cons (frzOK_b (xs := [(intA x_t_1)]) (ys := [(intA x_t_1)]) rfl rfl rfl) frz_nil)).1 (frz_cons (frzOK_b (xs := [(sl tConflictEdge preferences0)]) (ys := [(sl tConflictEdge preferences0)]) rfl rfl rfl) (frz_cons (frzOK_b (xs := [(intA x_t_1)]) (ys := [(intA x_t_1)]) rfl rfl rfl) frz_nil)).2) frz_nil)).2 (m_slices_ContainsFunc_Sint_int_ok _ (fun x0 => m_impl_undominated_1 x0 preferences0 x_t_1) 79 [(.q [(sl tConflictEdge preferences0)] 0), (.q [(intA x_t_1)] 0)] ent79 rfl ⟨rfl, rfl⟩ (fun x0 r h => m_impl_undominated_1_ok x0 preferences0 x_t_1 r h) _ h_4) rfl ?_)
   refine Tp rfl rfl (pur_not rfl rfl) rfl ?_
   refine TO_nil ?_
   refine te [(1, (sl tInt left1)), (2, (.b 0 0)), (5, (.m [1] 0 out5.length tInt.k)), (7, (.b 2 0)), (9, (sl tInt left1)), (10, (intA (left1.length : Int))), (11, (intA (t_1 : Int))), (18, (boolA (!r_3)))] rfl ?_
   refine T_cond (t := (!r_3)) rfl (fun c_5 => ?_) (fun c_5 => ?_)
   ·replace H := cond_t c_5 H
    refine T_region ?_
    refine Tp rfl rfl (pur_move rfl) rfl ?_
    refine Tp rfl rfl (pur_ld_b one3 rfl rfl rfl rfl) rfl ?_
    refine TO_cons rfl (TOp_lit (nn := 1) (k := 1) sl31 zero3 rfl rfl rfl rfl (by decide) ?_)
    refine TO_st (σ' := [.box [(sl tConflictEdge preferences0)], .row (flat tInt.enc out5), .box [(intA x_t_1)], .row (flat tInt.enc ([x_t_1] : (List Int)))]) rfl ?_
    obtain ⟨us_6, h_7, H⟩ := bind_inv H
    refine TO_cons rfl (TOp_appZ (T := tInt) (f := tInt.enc) (xs := out5) (ys := ([x_t_1] : (List Int))) tInt.len sl31 zero3 rfl bytes3 (by decide) rfl rfl rfl rfl (src_mT (f := tInt.enc) tInt.len rfl rfl (flat_cell tInt _)) (flat_cell tInt _) h_7 (lb rfl) ?_)
    refine toe [(1, (sl tInt left1)), (2, (.b 0 0)), (7, (.b 2 0)), (9, (sl tInt left1)), (10, (intA (left1.length : Int))), (11, (intA (t_1 : Int))), (18, (boolA (!r_3))), (20, (intA x_t_1)), (21, (.m [3] 0 ([x_t_1] : (List Int)).length tInt.k)), (22, (.m [1] 0 us_6.length tInt.k))] rfl ?_
    refine TO_st (σ' := [.box [(sl tConflictEdge preferences0)], .row (flat tInt.enc us_6), .box [(intA x_t_1)], .row (flat tInt.enc ([x_t_1] : (List Int))), .dead]) rfl ?_
    refine Tp rfl rfl (pur_assign rfl) rfl ?_
    refine TO_nil ?_
    refine te [(1, (sl tInt left1)), (2, (.b 0 0)), (5, (.m [1] 0 us_6.length tInt.k)), (9, (sl tInt left1)), (10, (intA (left1.length : Int))), (11, (intA (t_1 : Int)))] rfl ?_
    refine T_region ?_
    refine Tp rfl rfl (pur_add rfl rfl rfl (fits64 (by omega) (by omega))) rfl ?_
    refine Tp rfl rfl (pur_move rfl) rfl ?_
    refine TO_nil ?_
    obtain rfl := some_inj H
    exact again (left1.length - (t_1 + 1)) (t_1 + 1, us_6) (by omega) (wp 2 (lb rfl) rfl rfl rfl rfl rfl) ⟨rfl, K2_⟩
   ·replace H := cond_f c_5 H
    refine T_skip ?_
    refine te [(1, (sl tInt left1)), (2, (.b 0 0)), (5, (.m [1] 0 out5.length tInt.k)), (9, (sl tInt left1)), (10, (intA (left1.length : Int))), (11, (intA (t_1 : Int)))] rfl ?_
    refine T_region ?_
    refine Tp rfl rfl (pur_add rfl rfl rfl (fits64 (by omega) (by omega))) rfl ?_
    refine Tp rfl rfl (pur_move rfl) rfl ?_
    refine TO_nil ?_
    obtain rfl := some_inj H
    exact again (left1.length - (t_1 + 1)) (t_1 + 1, out5) (by omega) (wp 2 (lb rfl) rfl rfl rfl rfl rfl) ⟨rfl, K2_⟩
  ·replace d2 := of_decide_eq_false d2
   obtain rfl := forS_end L2_ (by omega)
   refine T_exit ?_
   refine then_exit ?_
   refine then_exit ?_
   refine block_exit ?_
   replace H := N2_
   refine te [(5, (.m [1] 0 out5.length tInt.k))] rfl ?_
   refine sr ?_
   refine Tp rfl rfl (pur_move rfl) rfl ?_
   refine Tp rfl rfl (pur_assign rfl) rfl ?_
   refine TO_nil ?_
   refine te [(4, (.m [1] 0 out5.length tInt.k))] rfl ?_
   refine T_ret ?_
   obtain rfl := some_inj H
   exact end_pick (.tmp .nil) rfl [1] (by decide) rfl rfl rfl rfl rfl rfl
theorem m_impl_undominated_ok (preferences0 : (List ConflictEdge)) (left1 : (List Int)) (r : (List Int)) (H : m_impl_undominated preferences0 left1 = some r) : FnV prg 51 [(sl tConflictEdge preferences0), (sl tInt left1)] (sl tInt r) := (m_impl_undominated_own preferences0 left1 r H).frz (frzT (T := tInt) rfl)

set_option maxHeartbeats 1000000 in
/-- slices.Index[[]int,int] -/
theorem m_slices_Index_Sint_int_ok (s0 : (List Int)) (v1 : Int) (r : Int) (H : m_slices_Index_Sint_int s0 v1 = some r) : FnV prg 82 [(sl tInt s0), (intA v1)] (intA r) := by
  unfold m_slices_Index_Sint_int at H
  refine fnV_of_T Try.func82 rfl rfl (Nat.le_of_ble_eq_true rfl) ?_
  refine te [(0, (sl tInt s0)), (1, (intA v1))] rfl ?_
  refine sr ?_
  refine Tp rfl rfl (pur_assign rfl) rfl ?_
  refine TO_nil ?_
  refine te [(0, (sl tInt s0)), (1, (intA v1))] rfl ?_
  refine T_seq ?_
  refine sr ?_
  refine Tp rfl rfl (pur_move rfl) rfl ?_
  refine Tp rfl rfl (pur_lenT (T := tInt) sl31 rfl rfl) rfl ?_
  refine Tp rfl rfl (pur_move rfl) rfl ?_
  refine TO_nil ?_
  refine te [(0, (sl tInt s0)), (1, (intA v1)), (7, (intA (s0.length : Int))), (8, (intA 0))] rfl ?_
  obtain ⟨O2_, L2_, N2_⟩ := bind_inv H
  clear H
  obtain ⟨B2_, hb2, L2_⟩ := gen_forL L2_
  refine T_block ?_
  refine T_loopX (fun k => fun (t_1 : Nat) => k = s0.length - t_1 ∧ forL B2_ (s0.drop t_1) (t_1 : Int) () = some O2_) (fun (t_1 : Nat) => [(0, (sl tInt s0)), (1, (intA v1)), (7, (intA (s0.length : Int))), (8, (intA (t_1 : Int)))]) (fun (t_1 : Nat) => []) _ (0 : Nat) (wp 0 (lb rfl) rfl rfl rfl rfl rfl) ⟨rfl, L2_⟩ ?_
  rintro _ t_1 ⟨rfl, L2_⟩
  refine te [(0, (sl tInt s0)), (1, (intA v1)), (7, (intA (s0.length : Int))), (8, (intA (t_1 : Int)))] rfl ?_
  refine T_st (σ' := []) rfl ?_
  refine T_fact (len_sl (T := tInt) (.tmp 0) rfl) (fun hl2 => ?_)
  refine sr ?_
  refine Tp rfl rfl (pur_lss rfl rfl rfl) rfl ?_
  refine TO_nil ?_
  refine te [(0, (sl tInt s0)), (1, (intA v1)), (7, (intA (s0.length : Int))), (8, (intA (t_1 : Int))), (9, (boolA (decide ((t_1 : Int) < (s0.length : Int)))))] rfl ?_
  refine T_seq ?_
  refine T_cond (t := decide ((t_1 : Int) < (s0.length : Int))) rfl (fun d2 => ?_) (fun d2 => ?_)
  ·replace d2 := of_decide_eq_true d2
   obtain ⟨x_t_1, hx_t_1⟩ : ∃ v, (s0)[t_1]? = some v := ⟨_, List.getElem?_eq_getElem (by omega)⟩
   obtain ⟨C2_, H, K2_⟩ := forL_step L2_ hx_t_1
   rw [hb2] at H
   refine T_skip ?_
   refine te [(0, (sl tInt s0)), (1, (intA v1)), (7, (intA (s0.length : Int))), (8, (intA (t_1 : Int)))] rfl ?_
   refine T_seq ?_
   refine T_block ?_
   refine sr ?_
   refine Tp rfl rfl (pur_move rfl) rfl ?_
   refine Tp rfl rfl (pur_assign rfl) rfl ?_
   refine TO_nil ?_
   refine te [(0, (sl tInt s0)), (1, (intA v1)), (5, (intA (t_1 : Int))), (7, (intA (s0.length : Int))), (8, (intA (t_1 : Int)))] rfl ?_
   refine sr ?_
   refine Tp rfl rfl (pur_move rfl) rfl ?_
   refine Tp rfl rfl (pur_move rfl) rfl ?_
   refine Tp rfl rfl (pur_move rfl) rfl ?_
   refine Tp rfl rfl (pur_ixT (T := tInt) sl31 rfl rfl rfl hx_t_1 rfl) rfl ?_
   refine Tp rfl rfl (pur_ldT (T := tInt) (i := t_1) (off := 0) rfl one3 rfl rfl hx_t_1 rfl) rfl ?_
   refine Tp rfl rfl (pur_eql rfl rfl rfl) rfl ?_
   refine TO_nil ?_
   refine te [(0, (sl tInt s0)), (1, (intA v1)), (5, (intA (t_1 : Int))), (7, (intA (s0.length : Int))), (8, (intA (t_1 : Int))), (16, (boolA (decide (v1 = x_t_1))))] rfl ?_
   refine T_cond (t := decide (v1 = x_t_1)) rfl (fun c_3 => ?_) (fun c_3 => ?_)
   ·replace H := cond_t c_3 H
    refine sr ?_
    refine Tp rfl rfl (pur_move rfl) rfl ?_
    refine Tp rfl rfl (pur_assign rfl) rfl ?_
    refine TO_nil ?_
    refine te [(4, (intA (t_1 : Int)))] rfl ?_
    refine T_ret ?_
    refine block_ret ?_
    refine then_ret ?_
    refine then_ret ?_
    refine block_ret ?_
    refine then_ret ?_
    obtain rfl := some_inj H
    obtain rfl := some_inj K2_
    replace H := onS_r N2_
    obtain rfl := some_inj H
    refine end_ret (.tmp .nil) rfl rfl ⟨?_, rfl⟩
    rfl
   ·replace H := cond_f c_3 H
    refine T_skip ?_
    refine te [(0, (sl tInt s0)), (1, (intA v1)), (7, (intA (s0.length : Int))), (8, (intA (t_1 : Int)))] rfl ?_
    refine T_region ?_
    refine Tp rfl rfl (pur_add rfl rfl rfl (fits64 (by omega) (by omega))) rfl ?_
    refine Tp rfl rfl (pur_move rfl) rfl ?_
    refine TO_nil ?_
    obtain rfl := some_inj H
    exact again (s0.length - (t_1 + 1)) (t_1 + 1) (by omega) (wp 0 (lb rfl) rfl rfl rfl rfl rfl) ⟨rfl, K2_⟩
  ·replace d2 := of_decide_eq_false d2
   obtain rfl := forL_end L2_ (by omega)
   refine T_exit ?_
   refine then_exit ?_
   refine then_exit ?_
   refine block_exit ?_
   replace H := onS_l N2_
   refine te [] rfl ?_
   refine sr ?_
   refine Tp rfl rfl (pur_assign rfl) rfl ?_
   refine TO_nil ?_
   refine te [(4, (intA (-1)))] rfl ?_
   refine T_ret ?_
   obtain rfl := some_inj H
   refine end_ret (.tmp .nil) rfl rfl ⟨?_, rfl⟩
   rfl

set_option maxHeartbeats 1000000 in
/-- slices.Contains[[]int,int] -/
theorem m_slices_Contains_Sint_int_ok (s0 : (List Int)) (v1 : Int) (r : Bool) (H : m_slices_Contains_Sint_int s0 v1 = some r) : FnV prg 54 [(sl tInt s0), (intA v1)] (boolA r) := by
  unfold m_slices_Contains_Sint_int at H
  refine fnV_of_T Try.func54 rfl rfl (Nat.le_of_ble_eq_true rfl) ?_
  refine te [(0, (sl tInt s0)), (1, (intA v1))] rfl ?_
  refine sr ?_
  refine Tp rfl rfl (pur_assign rfl) rfl ?_
  refine TO_nil ?_
  refine te [(0, (sl tInt s0)), (1, (intA v1))] rfl ?_
  refine sr ?_
  refine Tp rfl rfl (pur_move rfl) rfl ?_
  refine Tp rfl rfl (pur_move rfl) rfl ?_
  obtain ⟨r_1, h_2, H⟩ := bind_inv H
  refine TO_cons rfl (TOp_callV (call_static ent82 rfl) (m_slices_Index_Sint_int_ok _ _ _ h_2) rfl rfl rfl ?_)
  refine Tp rfl rfl (pur_geq rfl rfl rfl) rfl ?_
  refine Tp rfl rfl (pur_assign rfl) rfl ?_
  refine TO_nil ?_
  refine te [(4, (boolA (decide (0 ≤ r_1))))] rfl ?_
  refine T_ret ?_
  obtain rfl := some_inj H
  refine end_ret (.tmp .nil) rfl rfl ⟨?_, rfl⟩
  rfl

set_option maxHeartbeats 1000000 in
/-- impl.without -/
theorem m_impl_without_own (a0 : (List Int)) (b1 : (List Int)) (r : (List Int)) (H : m_impl_without a0 b1 = some r) : FnO prg 78 [(sl tInt a0), (sl tInt b1)] (.m [0] 0 r.length tInt.k) [.row (flat tInt.own r)] := by
  unfold m_impl_without at H
  refine fnO_of_T Try.func78 rfl rfl (Nat.le_of_ble_eq_true rfl) ?_
  refine te [(0, (sl tInt a0)), (1, (sl tInt b1))] rfl ?_
  refine sr ?_
  refine Tp rfl rfl (pur_assign rfl) rfl ?_
  refine TO_nil ?_
  refine te [(0, (sl tInt a0)), (1, (sl tInt b1))] rfl ?_
  refine sr ?_
  refine TO_cons rfl (TOp_lit (nn := 0) (k := 1) sl31 zero3 rfl rfl rfl rfl (by decide) ?_)
  refine TO_st (σ' := [.row (flat tInt.enc ([] : (List Int)))]) rfl ?_
  refine Tp rfl rfl (pur_assign rfl) rfl ?_
  refine TO_nil ?_
  refine te [(0, (sl tInt a0)), (1, (sl tInt b1)), (5, (.m [0] 0 ([] : (List Int)).length tInt.k))] rfl ?_
  refine T_seq ?_
  refine sr ?_
  refine Tp rfl rfl (pur_move rfl) rfl ?_
  refine Tp rfl rfl (pur_lenT (T := tInt) sl31 rfl rfl) rfl ?_
  refine Tp rfl rfl (pur_move rfl) rfl ?_
  refine TO_nil ?_
  refine te [(1, (sl tInt b1)), (5, (.m [0] 0 ([] : (List Int)).length tInt.k)), (9, (sl tInt a0)), (10, (intA (a0.length : Int))), (11, (intA 0))] rfl ?_
  obtain ⟨O2_, L2_, N2_⟩ := bind_inv H
  clear H
  obtain ⟨B2_, hb2, L2_⟩ := gen_forS L2_
  refine T_block ?_
  refine T_loopX (fun k => fun (x_ : Nat × (List Int)) => k = a0.length - x_.1 ∧ forS B2_ (a0.drop x_.1) (x_.1 : Int) x_.2 = some O2_) (fun (x_ : Nat × (List Int)) => [(1, (sl tInt b1)), (5, (.m [0] 0 x_.2.length tInt.k)), (9, (sl tInt a0)), (10, (intA (a0.length : Int))), (11, (intA (x_.1 : Int)))]) (fun (x_ : Nat × (List Int)) => [.row (flat tInt.enc x_.2)]) _ (0, ([] : (List Int))) (wp 1 (lb rfl) rfl rfl rfl rfl rfl) ⟨rfl, L2_⟩ ?_
  rintro _ ⟨t_1, out5⟩ ⟨rfl, L2_⟩
  refine te [(1, (sl tInt b1)), (5, (.m [0] 0 out5.length tInt.k)), (9, (sl tInt a0)), (10, (intA (a0.length : Int))), (11, (intA (t_1 : Int)))] rfl ?_
  refine T_st (σ' := [.row (flat tInt.enc out5)]) rfl ?_
  refine T_fact (len_sl (T := tInt) (.tmp 9) rfl) (fun hl2 => ?_)
  refine sr ?_
  refine Tp rfl rfl (pur_lss rfl rfl rfl) rfl ?_
  refine TO_nil ?_
  refine te [(1, (sl tInt b1)), (5, (.m [0] 0 out5.length tInt.k)), (9, (sl tInt a0)), (10, (intA (a0.length : Int))), (11, (intA (t_1 : Int))), (12, (boolA (decide ((t_1 : Int) < (a0.length : Int)))))] rfl ?_
  refine T_seq ?_
  refine T_cond (t := decide ((t_1 : Int) < (a0.length : Int))) rfl (fun d2 => ?_) (fun d2 => ?_)
  ·replace d2 := of_decide_eq_true d2
   obtain ⟨x_t_1, hx_t_1⟩ : ∃ v, (a0)[t_1]? = some v := ⟨_, List.getElem?_eq_getElem (by omega)⟩
   obtain ⟨C2_, H, K2_⟩ := forS_step L2_ hx_t_1
   rw [hb2] at H
   refine T_skip ?_
   refine te [(1, (sl tInt b1)), (5, (.m [0] 0 out5.length tInt.k)), (9, (sl tInt a0)), (10, (intA (a0.length : Int))), (11, (intA (t_1 : Int)))] rfl ?_
   refine T_seq ?_
   refine T_block ?_
   refine sr ?_
   refine Tp rfl rfl (pur_ixT (T := tInt) sl31 rfl rfl rfl hx_t_1 rfl) rfl ?_
   refine Tp rfl rfl (pur_ldT (T := tInt) (i := t_1) (off := 0) rfl one3 rfl rfl hx_t_1 rfl) rfl ?_
   refine Tp rfl rfl (pur_assign rfl) rfl ?_
   refine TO_nil ?_
   refine te [(1, (sl tInt b1)), (5, (.m [0] 0 out5.length tInt.k)), (7, (intA x_t_1)), (9, (sl tInt a0)), (10, (intA (a0.length : Int))), (11, (intA (t_1 : Int)))] rfl ?_
   refine sr ?_
   refine Tp rfl rfl (pur_move rfl) rfl ?_
   refine Tp rfl rfl (pur_move rfl) rfl ?_
   obtain ⟨r_3, h_4, H⟩ := bind_inv H
   refine TO_cons rfl (TOp_callV (call_static ent54 rfl) (m_slices_Contains_Sint_int_ok _ _ _ h_4) rfl rfl rfl ?_)
   refine Tp rfl rfl (pur_not rfl rfl) rfl ?_
   refine TO_nil ?_
   refine te [(1, (sl tInt b1)), (5, (.m [0] 0 out5.length tInt.k)), (7, (intA x_t_1)), (9, (sl tInt a0)), (10, (intA (a0.length : Int))), (11, (intA (t_1 : Int))), (18, (boolA (!r_3)))] rfl ?_
   refine T_cond (t := (!r_3)) rfl (fun c_5 => ?_) (fun c_5 => ?_)
   ·replace H := cond_t c_5 H
    refine T_region ?_
    refine Tp rfl rfl (pur_move rfl) rfl ?_
    refine Tp rfl rfl (pur_move rfl) rfl ?_
    refine TO_cons rfl (TOp_lit (nn := 1) (k := 1) sl31 zero3 rfl rfl rfl rfl (by decide) ?_)
    refine TO_st (σ' := [.row (flat tInt.enc out5), .row (flat tInt.enc ([x_t_1] : (List Int)))]) rfl ?_
    obtain ⟨us_6, h_7, H⟩ := bind_inv H
    refine TO_cons rfl (TOp_appZ (T := tInt) (f := tInt.enc) (xs := out5) (ys := ([x_t_1] : (List Int))) tInt.len sl31 zero3 rfl bytes3 (by decide) rfl rfl rfl rfl (src_mT (f := tInt.enc) tInt.len rfl rfl (flat_cell tInt _)) (flat_cell tInt _) h_7 (lb rfl) ?_)
    refine toe [(1, (sl tInt b1)), (7, (intA x_t_1)), (9, (sl tInt a0)), (10, (intA (a0.length : Int))), (11, (intA (t_1 : Int))), (18, (boolA (!r_3))), (20, (intA x_t_1)), (21, (.m [1] 0 ([x_t_1] : (List Int)).length tInt.k)), (22, (.m [0] 0 us_6.length tInt.k))] rfl ?_
    refine TO_st (σ' := [.row (flat tInt.enc us_6), .row (flat tInt.enc ([x_t_1] : (List Int))), .dead]) rfl ?_
    refine Tp rfl rfl (pur_assign rfl) rfl ?_
    refine TO_nil ?_
    refine te [(1, (sl tInt b1)), (5, (.m [0] 0 us_6.length tInt.k)), (9, (sl tInt a0)), (10, (intA (a0.length : Int))), (11, (intA (t_1 : Int)))] rfl ?_
    refine T_region ?_
    refine Tp rfl rfl (pur_add rfl rfl rfl (fits64 (by omega) (by omega))) rfl ?_
    refine Tp rfl rfl (pur_move rfl) rfl ?_
    refine TO_nil ?_
    obtain rfl := some_inj H
    exact again (a0.length - (t_1 + 1)) (t_1 + 1, us_6) (by omega) (wp 1 (lb rfl) rfl rfl rfl rfl rfl) ⟨rfl, K2_⟩
   ·replace H := cond_f c_5 H
    refine T_skip ?_
    refine te [(1, (sl tInt b1)), (5, (.m [0] 0 out5.length tInt.k)), (9, (sl tInt a0)), (10, (intA (a0.length : Int))), (11, (intA (t_1 : Int)))] rfl ?_
    refine T_region ?_
    refine Tp rfl rfl (pur_add rfl rfl rfl (fits64 (by omega) (by omega))) rfl ?_
    refine Tp rfl rfl (pur_move rfl) rfl ?_
    refine TO_nil ?_
    obtain rfl := some_inj H
    exact again (a0.length - (t_1 + 1)) (t_1 + 1, out5) (by omega) (wp 1 (lb rfl) rfl rfl rfl rfl rfl) ⟨rfl, K2_⟩
  ·replace d2 := of_decide_eq_false d2
   obtain rfl := forS_end L2_ (by omega)
   refine T_exit ?_
   refine then_exit ?_
   refine then_exit ?_
   refine block_exit ?_
   replace H := N2_
   refine te [(5, (.m [0] 0 out5.length tInt.k))] rfl ?_
   refine sr ?_
   refine Tp rfl rfl (pur_move rfl) rfl ?_
   refine Tp rfl rfl (pur_assign rfl) rfl ?_
   refine TO_nil ?_
   refine te [(4, (.m [0] 0 out5.length tInt.k))] rfl ?_
   refine T_ret ?_
   obtain rfl := some_inj H
   exact end_pick (.tmp .nil) rfl [0] (by decide) rfl rfl rfl rfl rfl rfl
theorem m_impl_without_ok (a0 : (List Int)) (b1 : (List Int)) (r : (List Int)) (H : m_impl_without a0 b1 = some r) : FnV prg 78 [(sl tInt a0), (sl tInt b1)] (sl tInt r) := (m_impl_without_own a0 b1 r H).frz (frzT (T := tInt) rfl)

set_option maxHeartbeats 1000000 in
/-- impl.areAcyclic -/
theorem m_impl_areAcyclic_ok (u : Nat) (n0 : Int) (preferences1 : (List ConflictEdge)) (r : Bool) (H : m_impl_areAcyclic u n0 preferences1 = some r) : FnV prg 48 [(intA n0), (sl tConflictEdge preferences1)] (boolA r) := by
  unfold m_impl_areAcyclic at H
  refine fnV_of_T Try.func48 rfl rfl (Nat.le_of_ble_eq_true rfl) ?_
  refine te [(0, (intA n0)), (1, (sl tConflictEdge preferences1))] rfl ?_
  refine sr ?_
  refine Tp rfl rfl (pur_assign rfl) rfl ?_
  refine TO_nil ?_
  refine te [(0, (intA n0)), (1, (sl tConflictEdge preferences1))] rfl ?_
  refine sr ?_
  refine TO_cons rfl (TOp_lit (nn := 0) (k := 1) sl31 zero3 rfl rfl rfl rfl (by decide) ?_)
  refine TO_st (σ' := [.row (flat tInt.enc ([] : (List Int)))]) rfl ?_
  refine Tp rfl rfl (pur_assign rfl) rfl ?_
  refine TO_nil ?_
  refine te [(0, (intA n0)), (1, (sl tConflictEdge preferences1)), (5, (.m [0] 0 ([] : (List Int)).length tInt.k))] rfl ?_
  refine T_seq ?_
  refine sr ?_
  refine Tp rfl rfl (pur_move rfl) rfl ?_
  refine Tp rfl rfl (pur_move rfl) rfl ?_
  refine TO_nil ?_
  refine te [(1, (sl tConflictEdge preferences1)), (5, (.m [0] 0 ([] : (List Int)).length tInt.k)), (9, (intA n0)), (10, (intA 0))] rfl ?_
  obtain ⟨_, h_3, H⟩ := bind_inv H
  replace h_3 := gN_inv h_3
  obtain ⟨O2_, L2_, N2_⟩ := bind_inv H
  clear H
  obtain ⟨B2_, hb2, L2_⟩ := gen_forM L2_
  refine T_block ?_
  refine T_loopX (fun k => fun (x_ : Int × (List Int)) => k = (n0 - x_.1).toNat ∧ 0 ≤ x_.1 ∧ forM B2_ (n0 - x_.1).toNat x_.1 x_.2 = some O2_) (fun (x_ : Int × (List Int)) => [(1, (sl tConflictEdge preferences1)), (5, (.m [0] 0 x_.2.length tInt.k)), (9, (intA n0)), (10, (intA (x_.1 : Int)))]) (fun (x_ : Int × (List Int)) => [.row (flat tInt.enc x_.2)]) _ (0, ([] : (List Int))) (wp 1 (lb rfl) rfl rfl rfl rfl rfl) ⟨rfl, Int.le_refl _, L2_⟩ ?_
  rintro _ ⟨t_1, left5⟩ ⟨rfl, hi2, L2_⟩
  refine te [(1, (sl tConflictEdge preferences1)), (5, (.m [0] 0 left5.length tInt.k)), (9, (intA n0)), (10, (intA (t_1 : Int)))] rfl ?_
  refine T_st (σ' := [.row (flat tInt.enc left5)]) rfl ?_
  refine sr ?_
  refine Tp rfl rfl (pur_lss rfl rfl rfl) rfl ?_
  refine TO_nil ?_
  refine te [(1, (sl tConflictEdge preferences1)), (5, (.m [0] 0 left5.length tInt.k)), (9, (intA n0)), (10, (intA (t_1 : Int))), (11, (boolA (decide ((t_1 : Int) < n0))))] rfl ?_
  refine T_seq ?_
  refine T_cond (t := decide ((t_1 : Int) < n0)) rfl (fun d2 => ?_) (fun d2 => ?_)
  ·replace d2 := of_decide_eq_true d2
   obtain ⟨C2_, H, K2_⟩ := forM_step L2_ d2
   rw [hb2] at H
   refine T_skip ?_
   refine te [(1, (sl tConflictEdge preferences1)), (5, (.m [0] 0 left5.length tInt.k)), (9, (intA n0)), (10, (intA (t_1 : Int)))] rfl ?_
   refine T_seq ?_
   refine T_block ?_
   refine sr ?_
   refine Tp rfl rfl (pur_move rfl) rfl ?_
   refine Tp rfl rfl (pur_assign rfl) rfl ?_
   refine TO_nil ?_
   refine te [(1, (sl tConflictEdge preferences1)), (5, (.m [0] 0 left5.length tInt.k)), (6, (intA (t_1 : Int))), (9, (intA n0)), (10, (intA (t_1 : Int)))] rfl ?_
   refine T_region ?_
   refine Tp rfl rfl (pur_move rfl) rfl ?_
   refine Tp rfl rfl (pur_move rfl) rfl ?_
   refine TO_cons rfl (TOp_lit (nn := 1) (k := 1) sl31 zero3 rfl rfl rfl rfl (by decide) ?_)
   refine TO_st (σ' := [.row (flat tInt.enc left5), .row (flat tInt.enc ([(t_1 : Int)] : (List Int)))]) rfl ?_
   obtain ⟨us_4, h_5, H⟩ := bind_inv H
   refine TO_cons rfl (TOp_appZ (T := tInt) (f := tInt.enc) (xs := left5) (ys := ([(t_1 : Int)] : (List Int))) tInt.len sl31 zero3 rfl bytes3 (by decide) rfl rfl rfl rfl (src_mT (f := tInt.enc) tInt.len rfl rfl (flat_cell tInt _)) (flat_cell tInt _) h_5 (lb rfl) ?_)
   refine toe [(1, (sl tConflictEdge preferences1)), (6, (intA (t_1 : Int))), (9, (intA n0)), (10, (intA (t_1 : Int))), (14, (intA (t_1 : Int))), (15, (.m [1] 0 ([(t_1 : Int)] : (List Int)).length tInt.k)), (16, (.m [0] 0 us_4.length tInt.k))] rfl ?_
   refine TO_st (σ' := [.row (flat tInt.enc us_4), .row (flat tInt.enc ([(t_1 : Int)] : (List Int))), .dead]) rfl ?_
   refine Tp rfl rfl (pur_assign rfl) rfl ?_
   refine TO_nil ?_
   refine te [(1, (sl tConflictEdge preferences1)), (5, (.m [0] 0 us_4.length tInt.k)), (9, (intA n0)), (10, (intA (t_1 : Int)))] rfl ?_
   refine T_region ?_
   refine Tp rfl rfl (pur_add rfl rfl rfl (fits64 (by omega) (by omega))) rfl ?_
   refine Tp rfl rfl (pur_move rfl) rfl ?_
   refine TO_nil ?_
   obtain rfl := some_inj H
   exact again (n0 - (t_1 + 1)).toNat (t_1 + 1, us_4) (by omega) (wp 1 (lb rfl) rfl rfl rfl rfl rfl) ⟨rfl, by omega, K2_⟩
  ·replace d2 := of_decide_eq_false d2
   obtain rfl := forM_end L2_ (by omega)
   refine T_exit ?_
   refine then_exit ?_
   refine then_exit ?_
   refine block_exit ?_
   replace H := N2_
   refine te [(1, (sl tConflictEdge preferences1)), (5, (.m [0] 0 left5.length tInt.k))] rfl ?_
   obtain ⟨O6_, L6_, N6_⟩ := bind_inv H
   clear H
   obtain ⟨B6_, hb6, L6_⟩ := gen_whileF L6_
   refine T_cutX (fun (x : (List Int)) => O6_ = .inl x) (fun (left5 : (List Int)) => []) (fun (left5 : (List Int)) => []) ?_ ?_
   ·skip
    refine T_block ?_
    refine T_loopX (fun k => fun (left5 : (List Int)) => whileF B6_ k left5 = some O6_) (fun (left5 : (List Int)) => [(1, (sl tConflictEdge preferences1)), (5, (.m [0] 0 left5.length tInt.k))]) (fun (left5 : (List Int)) => [.row (flat tInt.enc left5)]) u left5 (wp 1 (lb rfl) rfl rfl rfl rfl rfl) L6_ ?_
    rintro _ left5 L6_
    obtain ⟨k6, rfl, C6_, H, K6_⟩ := while_step L6_
    rw [hb6] at H
    refine te [(1, (sl tConflictEdge preferences1)), (5, (.m [0] 0 left5.length tInt.k))] rfl ?_
    refine T_st (σ' := [.row (flat tInt.enc left5)]) rfl ?_
    refine T_seq ?_
    refine sr ?_
    refine Tp rfl rfl (pur_move rfl) rfl ?_
    refine Tp rfl rfl (pur_len_m sl31 rfl rfl) rfl ?_
    refine Tp rfl rfl (pur_gtr rfl rfl rfl) rfl ?_
    refine TO_nil ?_
    refine te [(1, (sl tConflictEdge preferences1)), (5, (.m [0] 0 left5.length tInt.k)), (20, (boolA (decide (0 < (left5.length : Int)))))] rfl ?_
    refine T_cond (t := decide (0 < (left5.length : Int))) rfl (fun c_7 => ?_) (fun c_7 => ?_)
    ·replace H := cond_t c_7 H
     refine T_skip ?_
     refine te [(1, (sl tConflictEdge preferences1)), (5, (.m [0] 0 left5.length tInt.k))] rfl ?_
     refine T_block ?_
     refine sr ?_
     refine Tp rfl rfl (pur_move rfl) rfl ?_
     refine Tp rfl rfl (pur_move rfl) rfl ?_
     refine Tp rfl rfl (pur_move rfl) rfl ?_
     refine TO_frz1 0 (E' := [(1, (sl tConflictEdge preferences1)), (5, (sl tInt left5)), (21, (sl tInt left5)), (22, (sl tConflictEdge preferences1)), (23, (sl tInt left5))]) rfl rfl (lb rfl) ⟨(.keep rfl), fz1E, fz1E, (.keep rfl), fz1E, trivial⟩ ?_
     refine TO_st (σ' := [.dead]) rfl ?_
     obtain ⟨r_8, h_9, H⟩ := bind_inv H
     refine TO_cons rfl (TOp_callV (call_static ent51 rfl) (m_impl_undominated_ok _ _ _ h_9) rfl rfl rfl ?_)
     obtain ⟨r_10, h_11, H⟩ := bind_inv H
     refine TO_cons rfl (TOp_callO (call_static ent78 rfl) rfl (m_impl_without_own _ _ _ h_11) rfl rfl rfl ?_)
     refine toe [(1, (sl tConflictEdge preferences1)), (5, (sl tInt left5)), (21, (sl tInt left5)), (22, (sl tConflictEdge preferences1)), (23, (sl tInt left5)), (24, (sl tInt r_8)), (25, (.m [1] 0 r_10.length tInt.k))] rfl ?_
     refine TO_st (σ' := [.dead, .row (flat tInt.own r_10)]) rfl ?_
     refine Tp rfl rfl (pur_assign rfl) rfl ?_
     refine TO_nil ?_
     refine te [(1, (sl tConflictEdge preferences1)), (5, (sl tInt left5)), (7, (.m [1] 0 r_10.length tInt.k))] rfl ?_
     refine T_seq ?_
     refine sr ?_
     refine Tp rfl rfl (pur_move rfl) rfl ?_
     refine Tp rfl rfl (pur_len_m sl31 rfl rfl) rfl ?_
     refine Tp rfl rfl (pur_move rfl) rfl ?_
     refine Tp rfl rfl (pur_lenT (T := tInt) sl31 rfl rfl) rfl ?_
     refine Tp rfl rfl (pur_eql rfl rfl rfl) rfl ?_
     refine TO_nil ?_
     refine te [(1, (sl tConflictEdge preferences1)), (7, (.m [1] 0 r_10.length tInt.k)), (30, (boolA (decide ((r_10.length : Int) = (left5.length : Int)))))] rfl ?_
     refine T_cond (t := decide ((r_10.length : Int) = (left5.length : Int))) rfl (fun c_12 => ?_) (fun c_12 => ?_)
     ·replace H := cond_t c_12 H
      refine sr ?_
      refine Tp rfl rfl (pur_assign rfl) rfl ?_
      refine TO_nil ?_
      refine te [(4, (boolA false))] rfl ?_
      refine T_ret ?_
      refine then_ret ?_
      refine block_ret ?_
      refine then_ret ?_
      refine block_ret ?_
      refine then_ret ?_
      obtain rfl := some_inj H
      obtain rfl := some_inj K6_
      replace H := onS_r N6_
      obtain rfl := some_inj H
      refine end_ret (.tmp .nil) rfl rfl ⟨?_, rfl⟩
      rfl
     ·replace H := cond_f c_12 H
      refine T_skip ?_
      refine te [(1, (sl tConflictEdge preferences1)), (7, (.m [1] 0 r_10.length tInt.k))] rfl ?_
      refine T_region ?_
      refine Tp rfl rfl (pur_move rfl) rfl ?_
      refine Tp rfl rfl (pur_assign rfl) rfl ?_
      refine TO_move 0 1 (by decide) (lb rfl) rfl rfl (lb rfl) ?_
      refine toe [(1, (sl tConflictEdge preferences1)), (5, (.m [0] 0 r_10.length tInt.k)), (7, (.m [0] 0 r_10.length tInt.k)), (31, (.m [0] 0 r_10.length tInt.k))] rfl ?_
      refine TO_st (σ' := [.row (flat tInt.own r_10), .dead]) rfl ?_
      refine TO_nil ?_
      obtain rfl := some_inj H
      exact again k6 r_10 (Nat.lt_succ_self _) (wp 1 (lb rfl) rfl rfl rfl rfl rfl) K6_
    ·replace H := cond_f c_7 H
     refine T_exit ?_
     refine then_exit ?_
     refine then_exit ?_
     refine block_exit ?_
     obtain rfl := some_inj H
     obtain rfl := some_inj K6_
     exact joined left5 (wp 0 (lb rfl) rfl rfl rfl rfl rfl) rfl
   ·rintro left5 rfl
    replace H := onS_l N6_
    refine te [] rfl ?_
    refine sr ?_
    refine Tp rfl rfl (pur_assign rfl) rfl ?_
    refine TO_nil ?_
    refine te [(4, (boolA true))] rfl ?_
    refine T_ret ?_
    obtain rfl := some_inj H
    refine end_ret (.tmp .nil) rfl rfl ⟨?_, rfl⟩
    rfl

set_option maxHeartbeats 1000000 in
/-- impl.IsValidPreference -/
theorem m_impl_IsValidPreference_ok (u : Nat) (n0 : Int) (edges1 : (List ConflictEdge)) (preferences2 : (List ConflictEdge)) (r : Bool) (H : m_impl_IsValidPreference u n0 edges1 preferences2 = some r) : FnV prg 17 [(intA n0), (sl tConflictEdge edges1), (sl tConflictEdge preferences2)] (boolA r) := by
  unfold m_impl_IsValidPreference at H
  refine fnV_of_T Try.func17 rfl rfl (Nat.le_of_ble_eq_true rfl) ?_
  refine te [(0, (intA n0)), (1, (sl tConflictEdge edges1)), (2, (sl tConflictEdge preferences2))] rfl ?_
  refine sr ?_
  refine Tp rfl rfl (pur_assign rfl) rfl ?_
  refine TO_nil ?_
  refine te [(0, (intA n0)), (1, (sl tConflictEdge edges1)), (2, (sl tConflictEdge preferences2))] rfl ?_
  refine T_seq ?_
  refine sr ?_
  refine Tp rfl rfl (pur_move rfl) rfl ?_
  refine Tp rfl rfl (pur_move rfl) rfl ?_
  obtain ⟨r_1, h_2, H⟩ := bind_inv H
  refine TO_cons rfl (TOp_callV (call_static ent47 rfl) (m_impl_AreValidEdges_ok _ _ _ h_2) rfl rfl rfl ?_)
  refine Tp rfl rfl (pur_not rfl rfl) rfl ?_
  refine TO_nil ?_
  refine te [(0, (intA n0)), (1, (sl tConflictEdge edges1)), (2, (sl tConflictEdge preferences2)), (12, (boolA (!r_1)))] rfl ?_
  refine T_cond (t := (!r_1)) rfl (fun c_3 => ?_) (fun c_3 => ?_)
  ·replace H := cond_t c_3 H
   refine sr ?_
   refine Tp rfl rfl (pur_assign rfl) rfl ?_
   refine TO_nil ?_
   refine te [(6, (boolA false))] rfl ?_
   refine T_ret ?_
   refine then_ret ?_
   obtain rfl := some_inj H
   refine end_ret (.tmp .nil) rfl rfl ⟨?_, rfl⟩
   rfl
  ·replace H := cond_f c_3 H
   refine T_skip ?_
   refine te [(0, (intA n0)), (1, (sl tConflictEdge edges1)), (2, (sl tConflictEdge preferences2))] rfl ?_
   refine T_seq ?_
   refine sr ?_
   refine Tp rfl rfl (pur_move rfl) rfl ?_
   refine Tp rfl rfl (pur_lenT (T := tConflictEdge) sl25 rfl rfl) rfl ?_
   refine Tp rfl rfl (pur_move rfl) rfl ?_
   refine TO_nil ?_
   refine te [(0, (intA n0)), (1, (sl tConflictEdge edges1)), (2, (sl tConflictEdge preferences2)), (13, (sl tConflictEdge preferences2)), (14, (intA (preferences2.length : Int))), (15, (intA 0))] rfl ?_
   obtain ⟨O5_, L5_, N5_⟩ := bind_inv H
   clear H
   obtain ⟨B5_, hb5, L5_⟩ := gen_forL L5_
   refine T_block ?_
   refine T_loopX (fun k => fun (t_4 : Nat) => k = preferences2.length - t_4 ∧ forL B5_ (preferences2.drop t_4) (t_4 : Int) () = some O5_) (fun (t_4 : Nat) => [(0, (intA n0)), (1, (sl tConflictEdge edges1)), (2, (sl tConflictEdge preferences2)), (13, (sl tConflictEdge preferences2)), (14, (intA (preferences2.length : Int))), (15, (intA (t_4 : Int)))]) (fun (t_4 : Nat) => []) _ (0 : Nat) (wp 0 (lb rfl) rfl rfl rfl rfl rfl) ⟨rfl, L5_⟩ ?_
   rintro _ t_4 ⟨rfl, L5_⟩
   refine te [(0, (intA n0)), (1, (sl tConflictEdge edges1)), (2, (sl tConflictEdge preferences2)), (13, (sl tConflictEdge preferences2)), (14, (intA (preferences2.length : Int))), (15, (intA (t_4 : Int)))] rfl ?_
   refine T_st (σ' := []) rfl ?_
   refine T_fact (len_sl (T := tConflictEdge) (.tmp 2) rfl) (fun hl5 => ?_)
   refine sr ?_
   refine Tp rfl rfl (pur_lss rfl rfl rfl) rfl ?_
   refine TO_nil ?_
   refine te [(0, (intA n0)), (1, (sl tConflictEdge edges1)), (2, (sl tConflictEdge preferences2)), (13, (sl tConflictEdge preferences2)), (14, (intA (preferences2.length : Int))), (15, (intA (t_4 : Int))), (16, (boolA (decide ((t_4 : Int) < (preferences2.length : Int)))))] rfl ?_
   refine T_seq ?_
   refine T_cond (t := decide ((t_4 : Int) < (preferences2.length : Int))) rfl (fun d5 => ?_) (fun d5 => ?_)
   ·replace d5 := of_decide_eq_true d5
    obtain ⟨x_t_4, hx_t_4⟩ : ∃ v, (preferences2)[t_4]? = some v := ⟨_, List.getElem?_eq_getElem (by omega)⟩
    obtain ⟨C5_, H, K5_⟩ := forL_step L5_ hx_t_4
    rw [hb5] at H
    refine T_skip ?_
    refine te [(0, (intA n0)), (1, (sl tConflictEdge edges1)), (2, (sl tConflictEdge preferences2)), (13, (sl tConflictEdge preferences2)), (14, (intA (preferences2.length : Int))), (15, (intA (t_4 : Int)))] rfl ?_
    refine T_seq ?_
    refine T_block ?_
    refine sr ?_
    refine Tp rfl rfl (pur_ixT (T := tConflictEdge) sl25 rfl rfl rfl hx_t_4 rfl) rfl ?_
    refine Tp rfl rfl (pur_ldTK (T := tConflictEdge) (i := t_4) (off := 0) rfl agg52 rfl rfl hx_t_4 (by decide) rfl) rfl ?_
    refine TO_cons rfl (TOp_alloc zero52 rfl rfl ?_)
    refine TO_cons rfl (TOp_storeB sz52 rfl rfl rfl rfl rfl rfl rfl (by decide) (lb rfl) rfl ?_)
    refine TO_st (σ' := [.box [(intA x_t_4.a), (intA x_t_4.b)]]) rfl ?_
    refine TO_nil ?_
    refine te [(0, (intA n0)), (1, (sl tConflictEdge edges1)), (2, (sl tConflictEdge preferences2)), (8, (.b 0 0)), (13, (sl tConflictEdge preferences2)), (14, (intA (preferences2.length : Int))), (15, (intA (t_4 : Int)))] rfl ?_
    obtain ⟨t32_6, J_6, H_7⟩ := bind_inv H
    refine T_cutX (fun x => t32_6 = x) (fun (t32_6 : Bool) => [(0, (intA n0)), (1, (sl tConflictEdge edges1)), (2, (sl tConflictEdge preferences2)), (13, (sl tConflictEdge preferences2)), (14, (intA (preferences2.length : Int))), (15, (intA (t_4 : Int))), (32, (boolA t32_6))]) (fun (t32_6 : Bool) => []) ?_ ?_
    ·replace H := J_6
     refine T_region ?_
     refine Tp rfl rfl (pur_move rfl) rfl ?_
     refine Tp rfl rfl (pur_ldK_b agg52 rfl rfl (lb rfl) rfl) rfl ?_
     obtain ⟨r_8, h_9, H⟩ := bind_inv H
     refine TO_cons rfl (TOp_callV (call_static ent43 rfl) (m_slices_Contains_Simpl_ConflictEdge_impl_ConflictEdge_ok _ _ _ h_9) rfl rfl rfl ?_)
     refine Tp rfl rfl (pur_not rfl rfl) rfl ?_
     refine Tp rfl rfl (pur_move rfl) rfl ?_
     refine TO_split (t := (!r_8)) 23 rfl (fun g_10 => ?_) (fun g_10 => ?_)
     ·replace H := cond_t g_10 H
      refine TO_on rfl rfl (by decide) rfl rfl (TOp_pure (pur_move rfl) rfl ?_)
      refine TO_on rfl rfl (by decide) rfl rfl (TOp_pure (pur_fa_b fld52_1 rfl rfl) rfl ?_)
      refine TO_on rfl rfl (by decide) rfl rfl (TOp_pure (pur_ld_b one3 rfl rfl rfl rfl) rfl ?_)
      refine TO_on rfl rfl (by decide) rfl rfl (TOp_pure (pur_fa_b fld52_0 rfl rfl) rfl ?_)
      refine TO_on rfl rfl (by decide) rfl rfl (TOp_pure (pur_ld_b one3 rfl rfl rfl rfl) rfl ?_)
      refine TO_on rfl rfl (by decide) rfl rfl (TOp_pure (pur_build bld52 rfl rfl) rfl ?_)
      obtain ⟨r_11, h_12, H⟩ := bind_inv H
      refine TO_on rfl rfl (by decide) rfl rfl (TOp_callV (call_static ent43 rfl) (m_slices_Contains_Simpl_ConflictEdge_impl_ConflictEdge_ok _ _ _ h_12) rfl rfl rfl ?_)
      refine TO_on rfl rfl (by decide) rfl rfl (TOp_pure (pur_not rfl rfl) rfl ?_)
      refine Tp rfl rfl (pur_pick (t := true) rfl rfl rfl) rfl ?_
      refine TO_nil ?_
      exact joined (!r_11) (wp 0 (lb rfl) rfl rfl rfl rfl rfl) (some_inj H).symm
     ·replace H := cond_f g_10 H
      refine TO_off rfl rfl (by decide) rfl rfl rfl ?_
      refine TO_off rfl rfl (by decide) rfl rfl rfl ?_
      refine TO_off rfl rfl (by decide) rfl rfl rfl ?_
      refine TO_off rfl rfl (by decide) rfl rfl rfl ?_
      refine TO_off rfl rfl (by decide) rfl rfl rfl ?_
      refine TO_off rfl rfl (by decide) rfl rfl rfl ?_
      refine TO_off rfl rfl (by decide) rfl rfl rfl ?_
      refine TO_off rfl rfl (by decide) rfl rfl rfl ?_
      refine Tp rfl rfl (pur_pick (t := false) rfl rfl rfl) rfl ?_
      refine TO_nil ?_
      exact joined false (wp 0 (lb rfl) rfl rfl rfl rfl rfl) (some_inj H).symm
    ·rintro _ rfl
     replace H := H_7
     refine te [(0, (intA n0)), (1, (sl tConflictEdge edges1)), (2, (sl tConflictEdge preferences2)), (13, (sl tConflictEdge preferences2)), (14, (intA (preferences2.length : Int))), (15, (intA (t_4 : Int))), (32, (boolA t32_6))] rfl ?_
     refine T_cond (t := t32_6) rfl (fun c_13 => ?_) (fun c_13 => ?_)
     ·replace H := cond_t c_13 H
      refine sr ?_
      refine Tp rfl rfl (pur_assign rfl) rfl ?_
      refine TO_nil ?_
      refine te [(6, (boolA false))] rfl ?_
      refine T_ret ?_
      refine block_ret ?_
      refine then_ret ?_
      refine then_ret ?_
      refine block_ret ?_
      refine then_ret ?_
      obtain rfl := some_inj H
      obtain rfl := some_inj K5_
      replace H := onS_r N5_
      obtain rfl := some_inj H
      refine end_ret (.tmp .nil) rfl rfl ⟨?_, rfl⟩
      rfl
     ·replace H := cond_f c_13 H
      refine T_skip ?_
      refine te [(0, (intA n0)), (1, (sl tConflictEdge edges1)), (2, (sl tConflictEdge preferences2)), (13, (sl tConflictEdge preferences2)), (14, (intA (preferences2.length : Int))), (15, (intA (t_4 : Int)))] rfl ?_
      refine T_region ?_
      refine Tp rfl rfl (pur_add rfl rfl rfl (fits64 (by omega) (by omega))) rfl ?_
      refine Tp rfl rfl (pur_move rfl) rfl ?_
      refine TO_nil ?_
      obtain rfl := some_inj H
      exact again (preferences2.length - (t_4 + 1)) (t_4 + 1) (by omega) (wp 0 (lb rfl) rfl rfl rfl rfl rfl) ⟨rfl, K5_⟩
   ·replace d5 := of_decide_eq_false d5
    obtain rfl := forL_end L5_ (by omega)
    refine T_exit ?_
    refine then_exit ?_
    refine then_exit ?_
    refine block_exit ?_
    replace H := onS_l N5_
    refine te [(0, (intA n0)), (2, (sl tConflictEdge preferences2))] rfl ?_
    refine sr ?_
    refine Tp rfl rfl (pur_move rfl) rfl ?_
    refine Tp rfl rfl (pur_move rfl) rfl ?_
    obtain ⟨r_14, h_15, H⟩ := bind_inv H
    refine TO_cons rfl (TOp_callV (call_static ent48 rfl) (m_impl_areAcyclic_ok u _ _ _ h_15) rfl rfl rfl ?_)
    refine Tp rfl rfl (pur_assign rfl) rfl ?_
    refine TO_nil ?_
    refine te [(6, (boolA r_14))] rfl ?_
    refine T_ret ?_
    obtain rfl := some_inj H
    refine end_ret (.tmp .nil) rfl rfl ⟨?_, rfl⟩
    rfl

set_option maxHeartbeats 1000000 in
/-- impl.areIndices -/
theorem m_impl_areIndices_ok (indices0 : (List Int)) (n1 : Int) (r : Bool) (H : m_impl_areIndices indices0 n1 = some r) : FnV prg 50 [(sl tInt indices0), (intA n1)] (boolA r) := by
  unfold m_impl_areIndices at H
  refine fnV_of_T Try.func50 rfl rfl (Nat.le_of_ble_eq_true rfl) ?_
  refine te [(0, (sl tInt indices0)), (1, (intA n1))] rfl ?_
  refine sr ?_
  refine Tp rfl rfl (pur_assign rfl) rfl ?_
  refine TO_nil ?_
  refine te [(0, (sl tInt indices0)), (1, (intA n1))] rfl ?_
  refine T_seq ?_
  refine sr ?_
  refine Tp rfl rfl (pur_move rfl) rfl ?_
  refine Tp rfl rfl (pur_lenT (T := tInt) sl31 rfl rfl) rfl ?_
  refine Tp rfl rfl (pur_move rfl) rfl ?_
  refine TO_nil ?_
  refine te [(0, (sl tInt indices0)), (1, (intA n1)), (7, (sl tInt indices0)), (8, (intA (indices0.length : Int))), (9, (intA 0))] rfl ?_
  obtain ⟨O2_, L2_, N2_⟩ := bind_inv H
  clear H
  obtain ⟨B2_, hb2, L2_⟩ := gen_forL L2_
  refine T_block ?_
  refine T_loopX (fun k => fun (t_1 : Nat) => k = indices0.length - t_1 ∧ forL B2_ (indices0.drop t_1) (t_1 : Int) () = some O2_) (fun (t_1 : Nat) => [(0, (sl tInt indices0)), (1, (intA n1)), (7, (sl tInt indices0)), (8, (intA (indices0.length : Int))), (9, (intA (t_1 : Int)))]) (fun (t_1 : Nat) => []) _ (0 : Nat) (wp 0 (lb rfl) rfl rfl rfl rfl rfl) ⟨rfl, L2_⟩ ?_
  rintro _ t_1 ⟨rfl, L2_⟩
  refine te [(0, (sl tInt indices0)), (1, (intA n1)), (7, (sl tInt indices0)), (8, (intA (indices0.length : Int))), (9, (intA (t_1 : Int)))] rfl ?_
  refine T_st (σ' := []) rfl ?_
  refine T_fact (len_sl (T := tInt) (.tmp 0) rfl) (fun hl2 => ?_)
  refine sr ?_
  refine Tp rfl rfl (pur_lss rfl rfl rfl) rfl ?_
  refine TO_nil ?_
  refine te [(0, (sl tInt indices0)), (1, (intA n1)), (7, (sl tInt indices0)), (8, (intA (indices0.length : Int))), (9, (intA (t_1 : Int))), (10, (boolA (decide ((t_1 : Int) < (indices0.length : Int)))))] rfl ?_
  refine T_seq ?_
  refine T_cond (t := decide ((t_1 : Int) < (indices0.length : Int))) rfl (fun d2 => ?_) (fun d2 => ?_)
  ·replace d2 := of_decide_eq_true d2
   obtain ⟨x_t_1, hx_t_1⟩ : ∃ v, (indices0)[t_1]? = some v := ⟨_, List.getElem?_eq_getElem (by omega)⟩
   obtain ⟨C2_, H, K2_⟩ := forL_step L2_ hx_t_1
   rw [hb2] at H
   refine T_skip ?_
   refine te [(0, (sl tInt indices0)), (1, (intA n1)), (7, (sl tInt indices0)), (8, (intA (indices0.length : Int))), (9, (intA (t_1 : Int)))] rfl ?_
   refine T_seq ?_
   refine T_block ?_
   refine sr ?_
   refine Tp rfl rfl (pur_move rfl) rfl ?_
   refine Tp rfl rfl (pur_ixT (T := tInt) sl31 rfl rfl rfl hx_t_1 rfl) rfl ?_
   refine Tp rfl rfl (pur_ldT (T := tInt) (i := t_1) (off := 0) rfl one3 rfl rfl hx_t_1 rfl) rfl ?_
   refine Tp rfl rfl (pur_assign rfl) rfl ?_
   refine Tp rfl rfl (pur_assign rfl) rfl ?_
   refine TO_nil ?_
   refine te [(0, (sl tInt indices0)), (1, (intA n1)), (5, (intA (t_1 : Int))), (6, (intA x_t_1)), (7, (sl tInt indices0)), (8, (intA (indices0.length : Int))), (9, (intA (t_1 : Int)))] rfl ?_
   obtain ⟨t31_3, J_3, H_4⟩ := bind_inv H
   refine T_cutX (fun x => t31_3 = x) (fun (t31_3 : Bool) => [(0, (sl tInt indices0)), (1, (intA n1)), (7, (sl tInt indices0)), (8, (intA (indices0.length : Int))), (9, (intA (t_1 : Int))), (31, (boolA t31_3))]) (fun (t31_3 : Bool) => []) ?_ ?_
   ·replace H := J_3
    refine T_region ?_
    refine Tp rfl rfl (pur_move rfl) rfl ?_
    refine Tp rfl rfl (pur_move rfl) rfl ?_
    refine Tp rfl rfl (pur_wsub rfl rfl rfl) rfl ?_
    obtain ⟨r_5, h_6, H⟩ := bind_inv H
    refine TO_cons rfl (TOp_callV (call_static ent77 rfl) (m_impl_within_ok _ _ _ _ h_6) rfl rfl rfl ?_)
    refine Tp rfl rfl (pur_not rfl rfl) rfl ?_
    refine Tp rfl rfl (pur_move rfl) rfl ?_
    refine TO_split (t := (!r_5)) 19 rfl (fun g_7 => ?_) (fun g_7 => ?_)
    ·replace H := cond_t g_7 H
     refine TO_off rfl rfl (by decide) rfl rfl rfl ?_
     refine TO_off rfl rfl (by decide) rfl rfl rfl ?_
     refine TO_off rfl rfl (by decide) rfl rfl rfl ?_
     refine TO_off rfl rfl (by decide) rfl rfl rfl ?_
     refine TO_off rfl rfl (by decide) rfl rfl rfl ?_
     refine TO_off rfl rfl (by decide) rfl rfl rfl ?_
     refine TO_off rfl rfl (by decide) rfl rfl rfl ?_
     refine TO_off rfl rfl (by decide) rfl rfl rfl ?_
     refine toe [(0, (sl tInt indices0)), (1, (intA n1)), (6, (intA x_t_1)), (7, (sl tInt indices0)), (8, (intA (indices0.length : Int))), (9, (intA (t_1 : Int))), (19, (boolA true)), (22, (.v undef)), (27, (.v undef))] rfl ?_
     refine TO_off rfl rfl (by decide) rfl rfl rfl ?_
     refine TO_off rfl rfl (by decide) rfl rfl rfl ?_
     refine TO_off rfl rfl (by decide) rfl rfl rfl ?_
     refine Tp rfl rfl (pur_pick (t := true) rfl rfl rfl) rfl ?_
     refine TO_nil ?_
     exact joined true (wp 0 (lb rfl) rfl rfl rfl rfl rfl) (some_inj H).symm
    ·replace H := cond_f g_7 H
     refine TO_on rfl rfl (by decide) rfl rfl (TOp_pure (pur_move rfl) rfl ?_)
     refine TO_on rfl rfl (by decide) rfl rfl (TOp_pure (pur_gtr rfl rfl rfl) rfl ?_)
     refine TO_on rfl rfl (by decide) rfl rfl (TOp_pure (pur_move rfl) rfl ?_)
     refine TO_split (t := decide (0 < (t_1 : Int))) 22 rfl (fun g_8 => ?_) (fun g_8 => ?_)
     ·replace H := cond_t g_8 H
      refine TO_on rfl rfl (by decide) rfl rfl (TOp_pure (pur_move rfl) rfl ?_)
      refine TO_on rfl rfl (by decide) rfl rfl (TOp_pure (pur_move rfl) rfl ?_)
      refine TO_on rfl rfl (by decide) rfl rfl (TOp_pure (pur_sub rfl rfl rfl (fits64 (by omega) (by omega))) rfl ?_)
      obtain ⟨v_9, h_10, H⟩ := bind_inv H
      obtain ⟨n_11, hz_12, hv_13⟩ := getI_inv h_10
      refine TO_on rfl rfl (by decide) rfl rfl (TOp_pure (pur_ixT (T := tInt) sl31 rfl rfl hz_12 hv_13 rfl) rfl ?_)
      refine TO_on rfl rfl (by decide) rfl rfl (TOp_pure (pur_ldT (T := tInt) (i := n_11) (off := 0) rfl one3 rfl rfl hv_13 rfl) rfl ?_)
      refine TO_on rfl rfl (by decide) rfl rfl (TOp_pure (pur_move rfl) rfl ?_)
      refine TO_on rfl rfl (by decide) rfl rfl (TOp_pure (pur_geq rfl rfl rfl) rfl ?_)
      refine TO_on rfl rfl (by decide) rfl rfl (TOp_pure (pur_pick (t := true) rfl rfl rfl) rfl ?_)
      refine Tp rfl rfl (pur_pick (t := false) rfl rfl rfl) rfl ?_
      refine TO_nil ?_
      exact joined (decide (x_t_1 ≤ v_9)) (wp 0 (lb rfl) rfl rfl rfl rfl rfl) (some_inj H).symm
     ·replace H := cond_f g_8 H
      refine TO_off rfl rfl (by decide) rfl rfl rfl ?_
      refine TO_off rfl rfl (by decide) rfl rfl rfl ?_
      refine TO_off rfl rfl (by decide) rfl rfl rfl ?_
      refine TO_off rfl rfl (by decide) rfl rfl rfl ?_
      refine TO_off rfl rfl (by decide) rfl rfl rfl ?_
      refine TO_off rfl rfl (by decide) rfl rfl rfl ?_
      refine TO_off rfl rfl (by decide) rfl rfl rfl ?_
      refine TO_on rfl rfl (by decide) rfl rfl (TOp_pure (pur_pick (t := false) rfl rfl rfl) rfl ?_)
      refine Tp rfl rfl (pur_pick (t := false) rfl rfl rfl) rfl ?_
      refine TO_nil ?_
      exact joined false (wp 0 (lb rfl) rfl rfl rfl rfl rfl) (some_inj H).symm
   ·rintro _ rfl
    replace H := H_4
    refine te [(0, (sl tInt indices0)), (1, (intA n1)), (7, (sl tInt indices0)), (8, (intA (indices0.length : Int))), (9, (intA (t_1 : Int))), (31, (boolA t31_3))] rfl ?_
    refine T_cond (t := t31_3) rfl (fun c_14 => ?_) (fun c_14 => ?_)
    ·replace H := cond_t c_14 H
     refine sr ?_
     refine Tp rfl rfl (pur_assign rfl) rfl ?_
     refine TO_nil ?_
     refine te [(4, (boolA false))] rfl ?_
     refine T_ret ?_
     refine block_ret ?_
     refine then_ret ?_
     refine then_ret ?_
     refine block_ret ?_
     refine then_ret ?_
     obtain rfl := some_inj H
     obtain rfl := some_inj K2_
     replace H := onS_r N2_
     obtain rfl := some_inj H
     refine end_ret (.tmp .nil) rfl rfl ⟨?_, rfl⟩
     rfl
    ·replace H := cond_f c_14 H
     refine T_skip ?_
     refine te [(0, (sl tInt indices0)), (1, (intA n1)), (7, (sl tInt indices0)), (8, (intA (indices0.length : Int))), (9, (intA (t_1 : Int)))] rfl ?_
     refine T_region ?_
     refine Tp rfl rfl (pur_add rfl rfl rfl (fits64 (by omega) (by omega))) rfl ?_
     refine Tp rfl rfl (pur_move rfl) rfl ?_
     refine TO_nil ?_
     obtain rfl := some_inj H
     exact again (indices0.length - (t_1 + 1)) (t_1 + 1) (by omega) (wp 0 (lb rfl) rfl rfl rfl rfl rfl) ⟨rfl, K2_⟩
  ·replace d2 := of_decide_eq_false d2
   obtain rfl := forL_end L2_ (by omega)
   refine T_exit ?_
   refine then_exit ?_
   refine then_exit ?_
   refine block_exit ?_
   replace H := onS_l N2_
   refine te [] rfl ?_
   refine sr ?_
   refine Tp rfl rfl (pur_assign rfl) rfl ?_
   refine TO_nil ?_
   refine te [(4, (boolA true))] rfl ?_
   refine T_ret ?_
   obtain rfl := some_inj H
   refine end_ret (.tmp .nil) rfl rfl ⟨?_, rfl⟩
   rfl

set_option maxHeartbeats 1000000 in
/-- impl.UndominatedFacts -/
theorem m_impl_UndominatedFacts_own (u : Nat) (n0 : Int) (edges1 : (List ConflictEdge)) (preferences2 : (List ConflictEdge)) (left3 : (List Int)) (r : (List Int)) (H : m_impl_UndominatedFacts u n0 edges1 preferences2 left3 = some r) : FnO prg 20 [(intA n0), (sl tConflictEdge edges1), (sl tConflictEdge preferences2), (sl tInt left3)] (.m [0] 0 r.length tInt.k) [.row (flat tInt.own r)] := by
  unfold m_impl_UndominatedFacts at H
  refine fnO_of_T Try.func20 rfl rfl (Nat.le_of_ble_eq_true rfl) ?_
  refine te [(0, (intA n0)), (1, (sl tConflictEdge edges1)), (2, (sl tConflictEdge preferences2)), (3, (sl tInt left3))] rfl ?_
  refine sr ?_
  refine Tp rfl rfl (pur_assign rfl) rfl ?_
  refine TO_nil ?_
  refine te [(0, (intA n0)), (1, (sl tConflictEdge edges1)), (2, (sl tConflictEdge preferences2)), (3, (sl tInt left3))] rfl ?_
  refine T_seq ?_
  obtain ⟨t19_1, J_1, H_2⟩ := bind_inv H
  refine T_cutX (fun x => t19_1 = x) (fun (t19_1 : Bool) => [(2, (sl tConflictEdge preferences2)), (3, (sl tInt left3)), (19, (boolA t19_1))]) (fun (t19_1 : Bool) => []) ?_ ?_
  ·replace H := J_1
   refine T_region ?_
   refine Tp rfl rfl (pur_move rfl) rfl ?_
   refine Tp rfl rfl (pur_move rfl) rfl ?_
   refine Tp rfl rfl (pur_move rfl) rfl ?_
   obtain ⟨r_3, h_4, H⟩ := bind_inv H
   refine TO_cons rfl (TOp_callV (call_static ent17 rfl) (m_impl_IsValidPreference_ok u _ _ _ _ h_4) rfl rfl rfl ?_)
   refine Tp rfl rfl (pur_not rfl rfl) rfl ?_
   refine Tp rfl rfl (pur_move rfl) rfl ?_
   refine TO_split (t := (!r_3)) 14 rfl (fun g_5 => ?_) (fun g_5 => ?_)
   ·replace H := cond_t g_5 H
    refine TO_off rfl rfl (by decide) rfl rfl rfl ?_
    refine TO_off rfl rfl (by decide) rfl rfl rfl ?_
    refine TO_off rfl rfl (by decide) rfl rfl rfl ?_
    refine TO_off rfl rfl (by decide) rfl rfl rfl ?_
    refine Tp rfl rfl (pur_pick (t := true) rfl rfl rfl) rfl ?_
    refine TO_nil ?_
    exact joined true (wp 0 (lb rfl) rfl rfl rfl rfl rfl) (some_inj H).symm
   ·replace H := cond_f g_5 H
    refine TO_on rfl rfl (by decide) rfl rfl (TOp_pure (pur_move rfl) rfl ?_)
    refine TO_on rfl rfl (by decide) rfl rfl (TOp_pure (pur_move rfl) rfl ?_)
    obtain ⟨r_6, h_7, H⟩ := bind_inv H
    refine TO_on rfl rfl (by decide) rfl rfl (TOp_callV (call_static ent50 rfl) (m_impl_areIndices_ok _ _ _ h_7) rfl rfl rfl ?_)
    refine TO_on rfl rfl (by decide) rfl rfl (TOp_pure (pur_not rfl rfl) rfl ?_)
    refine Tp rfl rfl (pur_pick (t := false) rfl rfl rfl) rfl ?_
    refine TO_nil ?_
    exact joined (!r_6) (wp 0 (lb rfl) rfl rfl rfl rfl rfl) (some_inj H).symm
  ·rintro _ rfl
   replace H := H_2
   refine te [(2, (sl tConflictEdge preferences2)), (3, (sl tInt left3)), (19, (boolA t19_1))] rfl ?_
   refine T_cond (t := t19_1) rfl (fun c_8 => ?_) (fun c_8 => ?_)
   ·replace H := cond_t c_8 H
    refine sr ?_
    refine Tp rfl rfl (pur_assign rfl) rfl ?_
    refine TO_nil ?_
    refine te [(8, .n)] rfl ?_
    refine T_row0 ?_
    refine T_envL (E' := [(8, (.m [0] 0 ([] : (List Int)).length tInt.k))]) ⟨leM, trivial⟩ ?_
    refine T_st (σ' := [.row (flat tInt.own ([] : (List Int)))]) rfl ?_
    refine T_ret ?_
    refine then_ret ?_
    obtain rfl := some_inj H
    exact end_pick (.tmp .nil) rfl [0] (by decide) rfl rfl rfl rfl rfl rfl
   ·replace H := cond_f c_8 H
    refine T_skip ?_
    refine te [(2, (sl tConflictEdge preferences2)), (3, (sl tInt left3))] rfl ?_
    refine sr ?_
    refine Tp rfl rfl (pur_move rfl) rfl ?_
    refine Tp rfl rfl (pur_move rfl) rfl ?_
    obtain ⟨r_9, h_10, H⟩ := bind_inv H
    refine TO_cons rfl (TOp_callO (call_static ent51 rfl) rfl (m_impl_undominated_own _ _ _ h_10) rfl rfl rfl ?_)
    refine toe [(2, (sl tConflictEdge preferences2)), (3, (sl tInt left3)), (20, (sl tConflictEdge preferences2)), (21, (sl tInt left3)), (22, (.m [0] 0 r_9.length tInt.k))] rfl ?_
    refine TO_st (σ' := [.row (flat tInt.own r_9)]) rfl ?_
    refine Tp rfl rfl (pur_assign rfl) rfl ?_
    refine TO_nil ?_
    refine te [(8, (.m [0] 0 r_9.length tInt.k))] rfl ?_
    refine T_ret ?_
    obtain rfl := some_inj H
    exact end_pick (.tmp .nil) rfl [0] (by decide) rfl rfl rfl rfl rfl rfl
theorem m_impl_UndominatedFacts_ok (u : Nat) (n0 : Int) (edges1 : (List ConflictEdge)) (preferences2 : (List ConflictEdge)) (left3 : (List Int)) (r : (List Int)) (H : m_impl_UndominatedFacts u n0 edges1 preferences2 left3 = some r) : FnV prg 20 [(intA n0), (sl tConflictEdge edges1), (sl tConflictEdge preferences2), (sl tInt left3)] (sl tInt r) := (m_impl_UndominatedFacts_own u n0 edges1 preferences2 left3 r H).frz (frzT (T := tInt) rfl)

set_option maxHeartbeats 1000000 in
/-- spec.l7Has -/
theorem m_spec_l7Has_ok (l0 : (List Int)) (x1 : Int) (r : Bool) (H : m_spec_l7Has l0 x1 = some r) : FnV prg 53 [(sl tInt l0), (intA x1)] (boolA r) := by
  unfold m_spec_l7Has at H
  refine fnV_of_T Try.func53 rfl rfl (Nat.le_of_ble_eq_true rfl) ?_
  refine te [(0, (sl tInt l0)), (1, (intA x1))] rfl ?_
  refine sr ?_
  refine Tp rfl rfl (pur_assign rfl) rfl ?_
  refine TO_nil ?_
  refine te [(0, (sl tInt l0)), (1, (intA x1))] rfl ?_
  refine T_seq ?_
  refine sr ?_
  refine Tp rfl rfl (pur_assign rfl) rfl ?_
  refine TO_nil ?_
  refine te [(0, (sl tInt l0)), (1, (intA x1)), (5, (intA 0))] rfl ?_
  obtain ⟨O2_, L2_, N2_⟩ := bind_inv H
  clear H
  obtain ⟨B2_, hb2, L2_⟩ := gen_forL L2_
  refine T_block ?_
  refine T_loopX (fun k => fun (i_1 : Nat) => k = l0.length - i_1 ∧ forL B2_ (l0.drop i_1) (i_1 : Int) () = some O2_) (fun (i_1 : Nat) => [(0, (sl tInt l0)), (1, (intA x1)), (5, (intA (i_1 : Int)))]) (fun (i_1 : Nat) => []) _ (0 : Nat) (wp 0 (lb rfl) rfl rfl rfl rfl rfl) ⟨rfl, L2_⟩ ?_
  rintro _ i_1 ⟨rfl, L2_⟩
  refine te [(0, (sl tInt l0)), (1, (intA x1)), (5, (intA (i_1 : Int)))] rfl ?_
  refine T_st (σ' := []) rfl ?_
  refine T_fact (len_sl (T := tInt) (.tmp 0) rfl) (fun hl2 => ?_)
  refine T_seq ?_
  refine sr ?_
  refine Tp rfl rfl (pur_move rfl) rfl ?_
  refine Tp rfl rfl (pur_move rfl) rfl ?_
  refine Tp rfl rfl (pur_lenT (T := tInt) sl31 rfl rfl) rfl ?_
  refine Tp rfl rfl (pur_lss rfl rfl rfl) rfl ?_
  refine TO_nil ?_
  refine te [(0, (sl tInt l0)), (1, (intA x1)), (5, (intA (i_1 : Int))), (9, (boolA (decide ((i_1 : Int) < (l0.length : Int)))))] rfl ?_
  refine T_cond (t := decide ((i_1 : Int) < (l0.length : Int))) rfl (fun d2 => ?_) (fun d2 => ?_)
  ·replace d2 := of_decide_eq_true d2
   obtain ⟨x_i_1, hx_i_1⟩ : ∃ v, (l0)[i_1]? = some v := ⟨_, List.getElem?_eq_getElem (by omega)⟩
   obtain ⟨C2_, H, K2_⟩ := forL_step L2_ hx_i_1
   rw [hb2] at H
   refine T_skip ?_
   refine te [(0, (sl tInt l0)), (1, (intA x1)), (5, (intA (i_1 : Int)))] rfl ?_
   refine T_seq ?_
   refine T_block ?_
   refine sr ?_
   refine Tp rfl rfl (pur_move rfl) rfl ?_
   refine Tp rfl rfl (pur_move rfl) rfl ?_
   refine Tp rfl rfl (pur_ixT (T := tInt) sl31 rfl rfl rfl hx_i_1 rfl) rfl ?_
   refine Tp rfl rfl (pur_ldT (T := tInt) (i := i_1) (off := 0) rfl one3 rfl rfl hx_i_1 rfl) rfl ?_
   refine Tp rfl rfl (pur_move rfl) rfl ?_
   refine Tp rfl rfl (pur_eql rfl rfl rfl) rfl ?_
   refine TO_nil ?_
   refine te [(0, (sl tInt l0)), (1, (intA x1)), (5, (intA (i_1 : Int))), (17, (boolA (decide (x_i_1 = x1))))] rfl ?_
   refine T_cond (t := decide (x_i_1 = x1)) rfl (fun c_3 => ?_) (fun c_3 => ?_)
   ·replace H := cond_t c_3 H
    refine sr ?_
    refine Tp rfl rfl (pur_assign rfl) rfl ?_
    refine TO_nil ?_
    refine te [(4, (boolA true))] rfl ?_
    refine T_ret ?_
    refine block_ret ?_
    refine then_ret ?_
    refine then_ret ?_
    refine block_ret ?_
    refine then_ret ?_
    obtain rfl := some_inj H
    obtain rfl := some_inj K2_
    replace H := onS_r N2_
    obtain rfl := some_inj H
    refine end_ret (.tmp .nil) rfl rfl ⟨?_, rfl⟩
    rfl
   ·replace H := cond_f c_3 H
    refine T_skip ?_
    refine te [(0, (sl tInt l0)), (1, (intA x1)), (5, (intA (i_1 : Int)))] rfl ?_
    refine T_region ?_
    refine Tp rfl rfl (pur_move rfl) rfl ?_
    refine Tp rfl rfl (pur_add rfl rfl rfl (fits64 (by omega) (by omega))) rfl ?_
    refine Tp rfl rfl (pur_assign rfl) rfl ?_
    refine TO_nil ?_
    obtain rfl := some_inj H
    exact again (l0.length - (i_1 + 1)) (i_1 + 1) (by omega) (wp 0 (lb rfl) rfl rfl rfl rfl rfl) ⟨rfl, K2_⟩
  ·replace d2 := of_decide_eq_false d2
   obtain rfl := forL_end L2_ (by omega)
   refine T_exit ?_
   refine then_exit ?_
   refine then_exit ?_
   refine block_exit ?_
   replace H := onS_l N2_
   refine te [] rfl ?_
   refine sr ?_
   refine Tp rfl rfl (pur_assign rfl) rfl ?_
   refine TO_nil ?_
   refine te [(4, (boolA false))] rfl ?_
   refine T_ret ?_
   obtain rfl := some_inj H
   refine end_ret (.tmp .nil) rfl rfl ⟨?_, rfl⟩
   rfl

set_option maxHeartbeats 1000000 in
/-- spec.IsIndependent -/
theorem m_spec_IsIndependent_ok (l0 : (List ConflictEdge)) (s1 : (List Int)) (r : Bool) (H : m_spec_IsIndependent l0 s1 = some r) : FnV prg 80 [(sl tConflictEdge l0), (sl tInt s1)] (boolA r) := by
  unfold m_spec_IsIndependent at H
  refine fnV_of_T Try.func80 rfl rfl (Nat.le_of_ble_eq_true rfl) ?_
  refine te [(0, (sl tConflictEdge l0)), (1, (sl tInt s1))] rfl ?_
  refine sr ?_
  refine Tp rfl rfl (pur_assign rfl) rfl ?_
  refine TO_nil ?_
  refine te [(0, (sl tConflictEdge l0)), (1, (sl tInt s1))] rfl ?_
  refine T_seq ?_
  refine sr ?_
  refine Tp rfl rfl (pur_assign rfl) rfl ?_
  refine TO_nil ?_
  refine te [(0, (sl tConflictEdge l0)), (1, (sl tInt s1)), (5, (intA 0))] rfl ?_
  obtain ⟨O2_, L2_, N2_⟩ := bind_inv H
  clear H
  obtain ⟨B2_, hb2, L2_⟩ := gen_forL L2_
  refine T_block ?_
  refine T_loopX (fun k => fun (i_1 : Nat) => k = l0.length - i_1 ∧ forL B2_ (l0.drop i_1) (i_1 : Int) () = some O2_) (fun (i_1 : Nat) => [(0, (sl tConflictEdge l0)), (1, (sl tInt s1)), (5, (intA (i_1 : Int)))]) (fun (i_1 : Nat) => []) _ (0 : Nat) (wp 0 (lb rfl) rfl rfl rfl rfl rfl) ⟨rfl, L2_⟩ ?_
  rintro _ i_1 ⟨rfl, L2_⟩
  refine te [(0, (sl tConflictEdge l0)), (1, (sl tInt s1)), (5, (intA (i_1 : Int)))] rfl ?_
  refine T_st (σ' := []) rfl ?_
  refine T_fact (len_sl (T := tConflictEdge) (.tmp 0) rfl) (fun hl2 => ?_)
  refine T_seq ?_
  refine sr ?_
  refine Tp rfl rfl (pur_move rfl) rfl ?_
  refine Tp rfl rfl (pur_move rfl) rfl ?_
  refine Tp rfl rfl (pur_lenT (T := tConflictEdge) sl25 rfl rfl) rfl ?_
  refine Tp rfl rfl (pur_lss rfl rfl rfl) rfl ?_
  refine TO_nil ?_
  refine te [(0, (sl tConflictEdge l0)), (1, (sl tInt s1)), (5, (intA (i_1 : Int))), (9, (boolA (decide ((i_1 : Int) < (l0.length : Int)))))] rfl ?_
  refine T_cond (t := decide ((i_1 : Int) < (l0.length : Int))) rfl (fun d2 => ?_) (fun d2 => ?_)
  ·replace d2 := of_decide_eq_true d2
   obtain ⟨x_i_1, hx_i_1⟩ : ∃ v, (l0)[i_1]? = some v := ⟨_, List.getElem?_eq_getElem (by omega)⟩
   obtain ⟨C2_, H, K2_⟩ := forL_step L2_ hx_i_1
   rw [hb2] at H
   refine T_skip ?_
   refine te [(0, (sl tConflictEdge l0)), (1, (sl tInt s1)), (5, (intA (i_1 : Int)))] rfl ?_
   refine T_seq ?_
   refine T_block ?_
   obtain ⟨t27_3, J_3, H_4⟩ := bind_inv H
   refine T_cutX (fun x => t27_3 = x) (fun (t27_3 : Bool) => [(0, (sl tConflictEdge l0)), (1, (sl tInt s1)), (5, (intA (i_1 : Int))), (27, (boolA t27_3))]) (fun (t27_3 : Bool) => []) ?_ ?_
   ·replace H := J_3
    refine T_region ?_
    refine Tp rfl rfl (pur_move rfl) rfl ?_
    refine Tp rfl rfl (pur_move rfl) rfl ?_
    refine Tp rfl rfl (pur_move rfl) rfl ?_
    refine Tp rfl rfl (pur_ixT (T := tConflictEdge) sl25 rfl rfl rfl hx_i_1 rfl) rfl ?_
    refine Tp rfl rfl (pur_fa_q fld52_0 rfl rfl) rfl ?_
    refine Tp rfl rfl (pur_ldT (T := tConflictEdge) (i := i_1) (off := 0) rfl one3 rfl rfl hx_i_1 rfl) rfl ?_
    obtain ⟨r_5, h_6, H⟩ := bind_inv H
    refine TO_cons rfl (TOp_callV (call_static ent53 rfl) (m_spec_l7Has_ok _ _ _ h_6) rfl rfl rfl ?_)
    refine Tp rfl rfl (pur_move rfl) rfl ?_
    refine toe [(0, (sl tConflictEdge l0)), (1, (sl tInt s1)), (5, (intA (i_1 : Int))), (19, (boolA r_5))] rfl ?_
    refine TO_split (t := r_5) 19 rfl (fun g_7 => ?_) (fun g_7 => ?_)
    ·replace H := cond_t g_7 H
     refine TO_on rfl rfl (by decide) rfl rfl (TOp_pure (pur_move rfl) rfl ?_)
     refine TO_on rfl rfl (by decide) rfl rfl (TOp_pure (pur_move rfl) rfl ?_)
     refine TO_on rfl rfl (by decide) rfl rfl (TOp_pure (pur_move rfl) rfl ?_)
     refine TO_on rfl rfl (by decide) rfl rfl (TOp_pure (pur_ixT (T := tConflictEdge) sl25 rfl rfl rfl hx_i_1 rfl) rfl ?_)
     refine TO_on rfl rfl (by decide) rfl rfl (TOp_pure (pur_fa_q fld52_1 rfl rfl) rfl ?_)
     refine TO_on rfl rfl (by decide) rfl rfl (TOp_pure (pur_ldT (T := tConflictEdge) (i := i_1) (off := 1) rfl one3 rfl rfl hx_i_1 rfl) rfl ?_)
     obtain ⟨r_8, h_9, H⟩ := bind_inv H
     refine TO_on rfl rfl (by decide) rfl rfl (TOp_callV (call_static ent53 rfl) (m_spec_l7Has_ok _ _ _ h_9) rfl rfl rfl ?_)
     refine Tp rfl rfl (pur_pick (t := true) rfl rfl rfl) rfl ?_
     refine TO_nil ?_
     exact joined r_8 (wp 0 (lb rfl) rfl rfl rfl rfl rfl) (some_inj H).symm
    ·replace H := cond_f g_7 H
     refine TO_off rfl rfl (by decide) rfl rfl rfl ?_
     refine TO_off rfl rfl (by decide) rfl rfl rfl ?_
     refine TO_off rfl rfl (by decide) rfl rfl rfl ?_
     refine TO_off rfl rfl (by decide) rfl rfl rfl ?_
     refine TO_off rfl rfl (by decide) rfl rfl rfl ?_
     refine TO_off rfl rfl (by decide) rfl rfl rfl ?_
     refine TO_off rfl rfl (by decide) rfl rfl rfl ?_
     refine Tp rfl rfl (pur_pick (t := false) rfl rfl rfl) rfl ?_
     refine TO_nil ?_
     exact joined false (wp 0 (lb rfl) rfl rfl rfl rfl rfl) (some_inj H).symm
   ·rintro _ rfl
    replace H := H_4
    refine te [(0, (sl tConflictEdge l0)), (1, (sl tInt s1)), (5, (intA (i_1 : Int))), (27, (boolA t27_3))] rfl ?_
    refine T_cond (t := t27_3) rfl (fun c_10 => ?_) (fun c_10 => ?_)
    ·replace H := cond_t c_10 H
     refine sr ?_
     refine Tp rfl rfl (pur_assign rfl) rfl ?_
     refine TO_nil ?_
     refine te [(4, (boolA false))] rfl ?_
     refine T_ret ?_
     refine block_ret ?_
     refine then_ret ?_
     refine then_ret ?_
     refine block_ret ?_
     refine then_ret ?_
     obtain rfl := some_inj H
     obtain rfl := some_inj K2_
     replace H := onS_r N2_
     obtain rfl := some_inj H
     refine end_ret (.tmp .nil) rfl rfl ⟨?_, rfl⟩
     rfl
    ·replace H := cond_f c_10 H
     refine T_skip ?_
     refine te [(0, (sl tConflictEdge l0)), (1, (sl tInt s1)), (5, (intA (i_1 : Int)))] rfl ?_
     refine T_region ?_
     refine Tp rfl rfl (pur_move rfl) rfl ?_
     refine Tp rfl rfl (pur_add rfl rfl rfl (fits64 (by omega) (by omega))) rfl ?_
     refine Tp rfl rfl (pur_assign rfl) rfl ?_
     refine TO_nil ?_
     obtain rfl := some_inj H
     exact again (l0.length - (i_1 + 1)) (i_1 + 1) (by omega) (wp 0 (lb rfl) rfl rfl rfl rfl rfl) ⟨rfl, K2_⟩
  ·replace d2 := of_decide_eq_false d2
   obtain rfl := forL_end L2_ (by omega)
   refine T_exit ?_
   refine then_exit ?_
   refine then_exit ?_
   refine block_exit ?_
   replace H := onS_l N2_
   refine te [] rfl ?_
   refine sr ?_
   refine Tp rfl rfl (pur_assign rfl) rfl ?_
   refine TO_nil ?_
   refine te [(4, (boolA true))] rfl ?_
   refine T_ret ?_
   obtain rfl := some_inj H
   refine end_ret (.tmp .nil) rfl rfl ⟨?_, rfl⟩
   rfl

set_option maxHeartbeats 1000000 in
/-- spec.l8Fits -/
theorem m_spec_l8Fits_ok (l0 : (List ConflictEdge)) (s1 : (List Int)) (x2 : Int) (r : Bool) (H : m_spec_l8Fits l0 s1 x2 = some r) : FnV prg 81 [(sl tConflictEdge l0), (sl tInt s1), (intA x2)] (boolA r) := by
  unfold m_spec_l8Fits at H
  refine fnV_of_T Try.func81 rfl rfl (Nat.le_of_ble_eq_true rfl) ?_
  refine te [(0, (sl tConflictEdge l0)), (1, (sl tInt s1)), (2, (intA x2))] rfl ?_
  refine sr ?_
  refine Tp rfl rfl (pur_assign rfl) rfl ?_
  refine TO_nil ?_
  refine te [(0, (sl tConflictEdge l0)), (1, (sl tInt s1)), (2, (intA x2))] rfl ?_
  obtain ⟨t6_1, J_1, H_2⟩ := bind_inv H
  refine T_cutX (fun x => t6_1 = x) (fun (t6_1 : Bool) => [(6, (boolA t6_1))]) (fun (t6_1 : Bool) => []) ?_ ?_
  ·replace H := J_1
   refine T_region ?_
   refine Tp rfl rfl (pur_move rfl) rfl ?_
   refine Tp rfl rfl (pur_move rfl) rfl ?_
   obtain ⟨r_3, h_4, H⟩ := bind_inv H
   refine TO_cons rfl (TOp_callV (call_static ent53 rfl) (m_spec_l7Has_ok _ _ _ h_4) rfl rfl rfl ?_)
   refine Tp rfl rfl (pur_not rfl rfl) rfl ?_
   refine Tp rfl rfl (pur_move rfl) rfl ?_
   refine TO_split (t := (!r_3)) 11 rfl (fun g_5 => ?_) (fun g_5 => ?_)
   ·replace H := cond_t g_5 H
    refine TO_on rfl rfl (by decide) rfl rfl (TOp_pure (pur_move rfl) rfl ?_)
    refine TO_on rfl rfl (by decide) rfl rfl (TOp_lit (nn := 0) (k := 1) sl31 zero3 rfl rfl rfl rfl (by decide) ?_)
    refine TO_st (σ' := [.row (flat tInt.enc ([] : (List Int)))]) rfl ?_
    refine TO_on rfl rfl (by decide) rfl rfl (TOp_pure (pur_move rfl) rfl ?_)
    obtain ⟨us_6, h_7, H⟩ := bind_inv H
    refine TO_on rfl rfl (by decide) rfl rfl (TOp_appZ (T := tInt) (f := tInt.enc) (xs := ([] : (List Int))) (ys := s1) tInt.len sl31 zero3 rfl bytes3 (by decide) rfl rfl rfl rfl (src_T (T := tInt) rfl) (flat_cell tInt _) h_7 (lb rfl) ?_)
    refine toe [(0, (sl tConflictEdge l0)), (1, (sl tInt s1)), (2, (intA x2)), (7, (sl tInt s1)), (8, (intA x2)), (9, (boolA r_3)), (10, (boolA (!r_3))), (11, (boolA true)), (12, (sl tConflictEdge l0)), (14, (sl tInt s1)), (15, (.m [0] 0 us_6.length tInt.k))] rfl ?_
    refine TO_st (σ' := [.row (flat tInt.enc us_6), .dead]) rfl ?_
    refine TO_on rfl rfl (by decide) rfl rfl (TOp_pure (pur_move rfl) rfl ?_)
    refine TO_on rfl rfl (by decide) rfl rfl (TOp_lit (nn := 1) (k := 1) sl31 zero3 rfl rfl rfl rfl (by decide) ?_)
    refine TO_st (σ' := [.row (flat tInt.enc us_6), .dead, .row (flat tInt.enc ([x2] : (List Int)))]) rfl ?_
    obtain ⟨us_8, h_9, H⟩ := bind_inv H
    refine TO_on rfl rfl (by decide) rfl rfl (TOp_appZ (T := tInt) (f := tInt.enc) (xs := us_6) (ys := ([x2] : (List Int))) tInt.len sl31 zero3 rfl bytes3 (by decide) rfl rfl rfl rfl (src_mT (f := tInt.enc) tInt.len rfl rfl (flat_cell tInt _)) (flat_cell tInt _) h_9 (lb rfl) ?_)
    refine toe [(0, (sl tConflictEdge l0)), (1, (sl tInt s1)), (2, (intA x2)), (7, (sl tInt s1)), (8, (intA x2)), (9, (boolA r_3)), (10, (boolA (!r_3))), (11, (boolA true)), (12, (sl tConflictEdge l0)), (14, (sl tInt s1)), (16, (intA x2)), (17, (.m [2] 0 ([x2] : (List Int)).length tInt.k)), (18, (.m [0] 0 us_8.length tInt.k))] rfl ?_
    refine TO_st (σ' := [.row (flat tInt.enc us_8), .dead, .row (flat tInt.enc ([x2] : (List Int))), .dead]) rfl ?_
    obtain ⟨r_10, h_11, H⟩ := bind_inv H
    refine TO_on rfl rfl (by decide) rfl rfl (TOp_callB (call_static ent80 rfl) (frz_cons (frz_loose rfl) (frz_cons (frzTE (T := tInt) rfl) frz_nil)).1 (frz_cons (frz_loose rfl) (frz_cons (frzTE (T := tInt) rfl) frz_nil)).2 (m_spec_IsIndependent_ok _ _ _ h_11) rfl ?_)
    refine Tp rfl rfl (pur_pick (t := true) rfl rfl rfl) rfl ?_
    refine Tp rfl rfl (pur_assign rfl) rfl ?_
    refine TO_nil ?_
    exact joined r_10 (wp 0 (lb rfl) rfl rfl rfl rfl rfl) (some_inj H).symm
   ·replace H := cond_f g_5 H
    refine TO_off rfl rfl (by decide) rfl rfl rfl ?_
    refine TO_off rfl rfl (by decide) rfl rfl rfl ?_
    refine TO_off rfl rfl (by decide) rfl rfl rfl ?_
    refine TO_off rfl rfl (by decide) rfl rfl rfl ?_
    refine TO_off rfl rfl (by decide) rfl rfl rfl ?_
    refine TO_off rfl rfl (by decide) rfl rfl rfl ?_
    refine TO_off rfl rfl (by decide) rfl rfl rfl ?_
    refine TO_off rfl rfl (by decide) rfl rfl rfl ?_
    refine Tp rfl rfl (pur_pick (t := false) rfl rfl rfl) rfl ?_
    refine Tp rfl rfl (pur_assign rfl) rfl ?_
    refine TO_nil ?_
    exact joined false (wp 0 (lb rfl) rfl rfl rfl rfl rfl) (some_inj H).symm
  ·rintro _ rfl
   replace H := H_2
   refine te [(6, (boolA t6_1))] rfl ?_
   refine T_ret ?_
   obtain rfl := some_inj H
   refine end_ret (.tmp .nil) rfl rfl ⟨?_, rfl⟩
   rfl

set_option maxHeartbeats 1000000 in
/-- spec.IsMaximalIndependent -/
theorem m_spec_IsMaximalIndependent_ok (n0 : Int) (l1 : (List ConflictEdge)) (s2 : (List Int)) (r : Bool) (H : m_spec_IsMaximalIndependent n0 l1 s2 = some r) : FnV prg 52 [(intA n0), (sl tConflictEdge l1), (sl tInt s2)] (boolA r) := by
  unfold m_spec_IsMaximalIndependent at H
  refine fnV_of_T Try.func52 rfl rfl (Nat.le_of_ble_eq_true rfl) ?_
  refine te [(0, (intA n0)), (1, (sl tConflictEdge l1)), (2, (sl tInt s2))] rfl ?_
  refine sr ?_
  refine Tp rfl rfl (pur_assign rfl) rfl ?_
  refine TO_nil ?_
  refine te [(0, (intA n0)), (1, (sl tConflictEdge l1)), (2, (sl tInt s2))] rfl ?_
  refine T_seq ?_
  obtain ⟨t23_1, J_1, H_2⟩ := bind_inv H
  refine T_cutX (fun x => t23_1 = x) (fun (t23_1 : Bool) => [(0, (intA n0)), (1, (sl tConflictEdge l1)), (2, (sl tInt s2)), (23, (boolA t23_1))]) (fun (t23_1 : Bool) => []) ?_ ?_
  ·replace H := J_1
   refine T_region ?_
   refine Tp rfl rfl (pur_move rfl) rfl ?_
   refine Tp rfl rfl (pur_move rfl) rfl ?_
   obtain ⟨r_3, h_4, H⟩ := bind_inv H
   refine TO_cons rfl (TOp_callV (call_static ent45 rfl) (m_spec_AreValidEdges_ok _ _ _ h_4) rfl rfl rfl ?_)
   refine Tp rfl rfl (pur_not rfl rfl) rfl ?_
   refine Tp rfl rfl (pur_move rfl) rfl ?_
   refine TO_split (t := (!r_3)) 12 rfl (fun g_5 => ?_) (fun g_5 => ?_)
   ·replace H := cond_t g_5 H
    refine TO_off rfl rfl (by decide) rfl rfl rfl ?_
    refine TO_off rfl rfl (by decide) rfl rfl rfl ?_
    refine TO_off rfl rfl (by decide) rfl rfl rfl ?_
    refine TO_off rfl rfl (by decide) rfl rfl rfl ?_
    refine Tp rfl rfl (pur_pick (t := true) rfl rfl rfl) rfl ?_
    refine Tp rfl rfl (pur_move rfl) rfl ?_
    refine TO_off rfl rfl (by decide) rfl rfl rfl ?_
    refine TO_off rfl rfl (by decide) rfl rfl rfl ?_
    refine toe [(0, (intA n0)), (1, (sl tConflictEdge l1)), (2, (sl tInt s2)), (18, (boolA true)), (19, (.v undef)), (20, (.v undef))] rfl ?_
    refine TO_off rfl rfl (by decide) rfl rfl rfl ?_
    refine TO_off rfl rfl (by decide) rfl rfl rfl ?_
    refine Tp rfl rfl (pur_pick (t := true) rfl rfl rfl) rfl ?_
    refine TO_nil ?_
    exact joined true (wp 0 (lb rfl) rfl rfl rfl rfl rfl) (some_inj H).symm
   ·replace H := cond_f g_5 H
    refine TO_on rfl rfl (by decide) rfl rfl (TOp_pure (pur_move rfl) rfl ?_)
    refine TO_on rfl rfl (by decide) rfl rfl (TOp_pure (pur_move rfl) rfl ?_)
    obtain ⟨r_6, h_7, H⟩ := bind_inv H
    refine TO_on rfl rfl (by decide) rfl rfl (TOp_callV (call_static ent49 rfl) (m_spec_l8Set_ok _ _ _ h_7) rfl rfl rfl ?_)
    refine TO_on rfl rfl (by decide) rfl rfl (TOp_pure (pur_not rfl rfl) rfl ?_)
    refine Tp rfl rfl (pur_pick (t := false) rfl rfl rfl) rfl ?_
    refine Tp rfl rfl (pur_move rfl) rfl ?_
    refine TO_split (t := (!r_6)) 18 rfl (fun g_8 => ?_) (fun g_8 => ?_)
    ·replace H := cond_t g_8 H
     refine TO_off rfl rfl (by decide) rfl rfl rfl ?_
     refine TO_off rfl rfl (by decide) rfl rfl rfl ?_
     refine TO_off rfl rfl (by decide) rfl rfl rfl ?_
     refine TO_off rfl rfl (by decide) rfl rfl rfl ?_
     refine Tp rfl rfl (pur_pick (t := true) rfl rfl rfl) rfl ?_
     refine TO_nil ?_
     exact joined true (wp 0 (lb rfl) rfl rfl rfl rfl rfl) (some_inj H).symm
    ·replace H := cond_f g_8 H
     refine TO_on rfl rfl (by decide) rfl rfl (TOp_pure (pur_move rfl) rfl ?_)
     refine TO_on rfl rfl (by decide) rfl rfl (TOp_pure (pur_move rfl) rfl ?_)
     obtain ⟨r_9, h_10, H⟩ := bind_inv H
     refine TO_on rfl rfl (by decide) rfl rfl (TOp_callV (call_static ent80 rfl) (m_spec_IsIndependent_ok _ _ _ h_10) rfl rfl rfl ?_)
     refine TO_on rfl rfl (by decide) rfl rfl (TOp_pure (pur_not rfl rfl) rfl ?_)
     refine Tp rfl rfl (pur_pick (t := false) rfl rfl rfl) rfl ?_
     refine TO_nil ?_
     exact joined (!r_9) (wp 0 (lb rfl) rfl rfl rfl rfl rfl) (some_inj H).symm
  ·rintro _ rfl
   replace H := H_2
   refine te [(0, (intA n0)), (1, (sl tConflictEdge l1)), (2, (sl tInt s2)), (23, (boolA t23_1))] rfl ?_
   refine T_cond (t := t23_1) rfl (fun c_11 => ?_) (fun c_11 => ?_)
   ·replace H := cond_t c_11 H
    refine sr ?_
    refine Tp rfl rfl (pur_assign rfl) rfl ?_
    refine TO_nil ?_
    refine te [(6, (boolA false))] rfl ?_
    refine T_ret ?_
    refine then_ret ?_
    obtain rfl := some_inj H
    refine end_ret (.tmp .nil) rfl rfl ⟨?_, rfl⟩
    rfl
   ·replace H := cond_f c_11 H
    refine T_skip ?_
    refine te [(0, (intA n0)), (1, (sl tConflictEdge l1)), (2, (sl tInt s2))] rfl ?_
    refine T_seq ?_
    refine sr ?_
    refine Tp rfl rfl (pur_assign rfl) rfl ?_
    refine TO_nil ?_
    refine te [(0, (intA n0)), (1, (sl tConflictEdge l1)), (2, (sl tInt s2)), (7, (intA 0))] rfl ?_
    obtain ⟨_, h_14, H⟩ := bind_inv H
    replace h_14 := gN_inv h_14
    obtain ⟨O13_, L13_, N13_⟩ := bind_inv H
    clear H
    obtain ⟨B13_, hb13, L13_⟩ := gen_forN L13_
    refine T_block ?_
    refine T_loopX (fun k => fun (x_12 : Int) => k = (n0 - x_12).toNat ∧ 0 ≤ x_12 ∧ forN B13_ (n0 - x_12).toNat x_12 () = some O13_) (fun (x_12 : Int) => [(0, (intA n0)), (1, (sl tConflictEdge l1)), (2, (sl tInt s2)), (7, (intA (x_12 : Int)))]) (fun (x_12 : Int) => []) _ (0 : Int) (wp 0 (lb rfl) rfl rfl rfl rfl rfl) ⟨rfl, Int.le_refl _, L13_⟩ ?_
    rintro _ x_12 ⟨rfl, hi13, L13_⟩
    refine te [(0, (intA n0)), (1, (sl tConflictEdge l1)), (2, (sl tInt s2)), (7, (intA (x_12 : Int)))] rfl ?_
    refine T_st (σ' := []) rfl ?_
    refine T_seq ?_
    refine sr ?_
    refine Tp rfl rfl (pur_move rfl) rfl ?_
    refine Tp rfl rfl (pur_move rfl) rfl ?_
    refine Tp rfl rfl (pur_lss rfl rfl rfl) rfl ?_
    refine TO_nil ?_
    refine te [(0, (intA n0)), (1, (sl tConflictEdge l1)), (2, (sl tInt s2)), (7, (intA (x_12 : Int))), (26, (boolA (decide ((x_12 : Int) < n0))))] rfl ?_
    refine T_cond (t := decide ((x_12 : Int) < n0)) rfl (fun d13 => ?_) (fun d13 => ?_)
    ·replace d13 := of_decide_eq_true d13
     obtain ⟨C13_, H, K13_⟩ := forN_step L13_ d13
     rw [hb13] at H
     refine T_skip ?_
     refine te [(0, (intA n0)), (1, (sl tConflictEdge l1)), (2, (sl tInt s2)), (7, (intA (x_12 : Int)))] rfl ?_
     refine T_seq ?_
     refine T_block ?_
     refine sr ?_
     refine Tp rfl rfl (pur_move rfl) rfl ?_
     refine Tp rfl rfl (pur_move rfl) rfl ?_
     refine Tp rfl rfl (pur_move rfl) rfl ?_
     obtain ⟨r_15, h_16, H⟩ := bind_inv H
     refine TO_cons rfl (TOp_callV (call_static ent81 rfl) (m_spec_l8Fits_ok _ _ _ _ h_16) rfl rfl rfl ?_)
     refine TO_nil ?_
     refine te [(0, (intA n0)), (1, (sl tConflictEdge l1)), (2, (sl tInt s2)), (7, (intA (x_12 : Int))), (32, (boolA r_15))] rfl ?_
     refine T_cond (t := r_15) rfl (fun c_17 => ?_) (fun c_17 => ?_)
     ·replace H := cond_t c_17 H
      refine sr ?_
      refine Tp rfl rfl (pur_assign rfl) rfl ?_
      refine TO_nil ?_
      refine te [(6, (boolA false))] rfl ?_
      refine T_ret ?_
      refine block_ret ?_
      refine then_ret ?_
      refine then_ret ?_
      refine block_ret ?_
      refine then_ret ?_
      obtain rfl := some_inj H
      obtain rfl := some_inj K13_
      replace H := onS_r N13_
      obtain rfl := some_inj H
      refine end_ret (.tmp .nil) rfl rfl ⟨?_, rfl⟩
      rfl
     ·replace H := cond_f c_17 H
      refine T_skip ?_
      refine te [(0, (intA n0)), (1, (sl tConflictEdge l1)), (2, (sl tInt s2)), (7, (intA (x_12 : Int)))] rfl ?_
      refine T_region ?_
      refine Tp rfl rfl (pur_move rfl) rfl ?_
      refine Tp rfl rfl (pur_add rfl rfl rfl (fits64 (by omega) (by omega))) rfl ?_
      refine Tp rfl rfl (pur_assign rfl) rfl ?_
      refine TO_nil ?_
      obtain rfl := some_inj H
      exact again (n0 - (x_12 + 1)).toNat (x_12 + 1) (by omega) (wp 0 (lb rfl) rfl rfl rfl rfl rfl) ⟨rfl, by omega, K13_⟩
    ·replace d13 := of_decide_eq_false d13
     obtain rfl := forN_end L13_ (by omega)
     refine T_exit ?_
     refine then_exit ?_
     refine then_exit ?_
     refine block_exit ?_
     replace H := onS_l N13_
     refine te [] rfl ?_
     refine sr ?_
     refine Tp rfl rfl (pur_assign rfl) rfl ?_
     refine TO_nil ?_
     refine te [(6, (boolA true))] rfl ?_
     refine T_ret ?_
     obtain rfl := some_inj H
     refine end_ret (.tmp .nil) rfl rfl ⟨?_, rfl⟩
     rfl
end Go.Proofs.Ytglgcncmjnjfgaa

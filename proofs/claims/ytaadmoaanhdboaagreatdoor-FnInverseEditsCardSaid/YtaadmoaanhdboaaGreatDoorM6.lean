import Derived.Test.YtaadmoaanhdboaaGreatDoorM1
import Derived.Test.YtaadmoaanhdboaaGreatDoorM2
import Derived.Test.YtaadmoaanhdboaaGreatDoorM4
import Derived.Test.YtaadmoaanhdboaaGreatDoorM5
set_option linter.unusedVariables false
set_option linter.unusedSimpArgs false
set_option maxRecDepth 4000
set_option maxHeartbeats 1000000
namespace Go.Proofs.YtaadmoaanhdboaaGreatDoor
open Go Go.Proofs Go.Sep
theorem msBlockOf_own (u:Nat) (d0:Database) (i1:Int) (r:(List Int)) (H:msBlockOf u d0 i1=some r):FnO prg 55 [.g (tD.enc d0),intA i1] (.m [0] 0 r.length tInt.k) [.row (flat tInt.own r)]:=by
  unfold msBlockOf at H
  refine fnO_of_T Tryz.func55 rfl rfl (Nat.le_of_ble_eq_true rfl) ?_
  refine te [(0,.g (tD.enc d0)),(1,intA i1)] rfl ?_
  refine sr ?_
  refine TO_cons rfl (TOp_box rfl (boxAll rfl) rfl rfl ?_)
  refine pv tb 1 rfl ?_
  refine TO_nil (sr ?_)
  refine TO_cons rfl (TOp_lit (nn:=0) (k:=1) sl28 zero3 rfl rfl rfl rfl (by decide) ?_)
  refine TO_st (σ':=[.box [sl tR d0.relations,sl tF d0.facts],.row (flat tInt.enc ([]:(List Int)))]) rfl ?_
  refine pv tb 1 rfl ?_
  refine TO_nil (T_seq (sr ?_))
  refine pv tb 1 rfl ?_
  refine TO_nil ?_
  obtain ⟨O1_,L1_,N1_⟩:=bind_inv H
  clear H
  obtain ⟨B1_,hb1,L1_⟩:=gen_whileF L1_
  refine T_block ?_
  refine T_loopX (fun k=>fun (⟨out5,k6⟩:(List Int) × Int)=>whileF B1_ k (out5,k6)=some O1_) (fun (⟨out5,k6⟩:(List Int) × Int)=>[(1,intA i1),(2,.b 0 0),(5,.m [1] 0 out5.length tInt.k),(6,intA k6)]) (fun (⟨out5,k6⟩:(List Int) × Int)=>[.box [sl tR d0.relations,sl tF d0.facts],.row (flat tInt.enc out5)]) u (([]:(List Int)),0) (w0 2) L1_ ?_
  rintro _ ⟨out5,k6⟩ L1_
  obtain ⟨k1,rfl,C1_,H,K1_⟩:=while_step L1_
  rw [hb1] at H
  refine T_seq ?_
  obtain ⟨t24_2,J_2,H_3⟩:=bind_inv H
  refine T_cutX (fun x=>t24_2=x) (fun (t24_2:Bool)=>[(1,intA i1),(2,.b 0 0),(5,.m [1] 0 out5.length tInt.k),(6,intA k6),(24,boolA t24_2)]) (fun (t24_2:Bool)=>[.box [sl tR d0.relations,sl tF d0.facts],.row (flat tInt.enc out5)]) ?_ ?_
  ·replace H:=J_2
   refine T_region ?_
   refine pv tb 3 rfl ?_
   refine Tp rfl rfl (pur_lenT (T:=tF) sl25 rfl rfl) rfl ?_
   refine pv tb 2 rfl ?_
   refine TO_split (t:=decide (k6<(d0.facts.length:Int))) 13 rfl (fun g_4=>?_) (fun g_4=>?_)
   ·replace H:=cond_t g_4 H
    obtain ⟨r_5,h_6,H⟩:=bind_inv H
    refine pv tb 1 rfl ?_
    refine TO_on rfl rfl (by decide) rfl rfl (TOp_callV (call_static ent51 rfl) (msIsValidDatabase_ok u _ _ h_6) rfl rfl rfl ?_)
    refine pv tb 2 rfl ?_
    refine TO_split (t:=r_5) 17 rfl (fun g_7=>?_) (fun g_7=>?_)
    ·replace H:=cond_t g_7 H
     refine pv tb 3 rfl ?_
     refine TO_on rfl rfl (by decide) rfl rfl (TOp_pure (pur_lenT (T:=tF) sl25 rfl rfl) rfl ?_)
     refine TO_fact (len_sl (T:=tF) (.tmp 10) rfl) (fun hl_8=>?_)
     refine TO_on rfl rfl (by decide) rfl rfl (TOp_pure (pur_sub rfl rfl rfl (fits64 (by omega) (by omega))) rfl ?_)
     obtain ⟨r_9,h_10,H⟩:=bind_inv H
     refine TO_on rfl rfl (by decide) rfl rfl (TOp_callV (call_static ent39 rfl) (msl1In_ok _ _ _ _ h_10) rfl rfl rfl ?_)
     refine pv tb 1 rfl ?_
     refine TO_nil ?_
     exact joined r_9 (w0 2) (some_inj H).symm
    ·replace H:=cond_f g_7 H
     refine pv tb 7 rfl ?_
     refine TO_nil ?_
     exact joined false (w0 2) (some_inj H).symm
   ·replace H:=cond_f g_4 H
    refine pv tb 11 rfl ?_
    refine TO_nil ?_
    exact joined false (w0 2) (some_inj H).symm
  ·rintro _ rfl
   replace H:=H_3
   refine T_cond (t:=t24_2) rfl (fun c_11=>?_) (fun c_11=>?_)
   ·replace H:=cond_t c_11 H
    refine T_skip ?_
    refine T_seq ?_
    refine T_block ?_
    refine T_seq ?_
    refine T_regionD mixed (by kernel_rfl) ?_
    obtain ⟨v_12,h_13,H⟩:=bind_inv H
    obtain ⟨n_14,hz_15,hv_16⟩:=getI_inv h_13
    refine pq tb 5 rfl ?_
    refine TQ_pure rfl (pur_ixT (T:=tF) sl25 rfl rfl hz_15 hv_16 rfl) rfl ?_
    refine TQ_pure rfl (pur_ldTK (T:=tF) (i:=n_14) (off:=0) rfl agg30 rfl rfl hv_16 (by decide) rfl) rfl ?_
    obtain ⟨v_17,h_18,H⟩:=bind_inv H
    obtain ⟨n_19,hz_20,hv_21⟩:=getI_inv h_18
    refine pq tb 3 rfl ?_
    refine TQ_pure rfl (pur_ixT (T:=tF) sl25 rfl rfl hz_20 hv_21 rfl) rfl ?_
    refine TQ_pure rfl (pur_ldTK (T:=tF) (i:=n_19) (off:=0) rfl agg30 rfl rfl hv_21 (by decide) rfl) rfl ?_
    obtain ⟨r_22,h_23,H⟩:=bind_inv H
    refine TQ_callV rfl (call_static ent84 rfl) (msHaveSameKey_ok u _ _ _ _ h_23) rfl rfl ?_
    refine TQ_nil ?_
    refine T_cond (t:=r_22) rfl (fun c_24=>?_) (fun c_24=>?_)
    ·replace H:=cond_t c_24 H
     refine T_region ?_
     refine pv tb 2 rfl ?_
     refine TO_cons rfl (TOp_lit (nn:=1) (k:=1) sl28 zero3 rfl rfl rfl rfl (by decide) ?_)
     refine TO_st (σ':=[.box [sl tR d0.relations,sl tF d0.facts],.row (flat tInt.enc out5),.row (flat tInt.enc ([k6]:(List Int)))]) rfl ?_
     obtain ⟨us_25,h_26,H⟩:=bind_inv H
     refine TO_cons rfl (TOp_appZ (T:=tInt) (f:=tInt.enc) (xs:=out5) (ys:=([k6]:(List Int))) tInt.len sl28 zero3 rfl bytes3 (by decide) rfl rfl rfl rfl (src_mT (f:=tInt.enc) tInt.len rfl rfl (flat_cell tInt _)) (flat_cell tInt _) h_26 (lb rfl) ?_)
     refine toe [(1,intA i1),(2,.b 0 0),(6,intA k6),(39,boolA r_22),(41,intA k6),(42,.m [2] 0 ([k6]:(List Int)).length tInt.k),(43,.m [1] 0 us_25.length tInt.k)] rfl ?_
     refine TO_st (σ':=[.box [sl tR d0.relations,sl tF d0.facts],.row (flat tInt.enc us_25),.row (flat tInt.enc ([k6]:(List Int))),.dead]) rfl ?_
     refine pv tb 1 rfl ?_
     refine TO_nil (T_region ?_)
     refine pv tb 3 rfl ?_
     refine TO_nil ?_
     obtain rfl:=some_inj H
     exact again k1 (us_25,w64 (k6+1)) (Nat.lt_succ_self _) (w0 2) K1_
    ·replace H:=cond_f c_24 H
     refine T_skip ?_
     refine T_region ?_
     refine pv tb 3 rfl ?_
     refine TO_nil ?_
     obtain rfl:=some_inj H
     exact again k1 (out5,w64 (k6+1)) (Nat.lt_succ_self _) (w0 2) K1_
   ·replace H:=cond_f c_11 H
    refine T_exit ?_
    refine then_exit ?_
    refine then_exit ?_
    refine block_exit ?_
    obtain rfl:=some_inj H
    obtain rfl:=some_inj K1_
    replace H:=onS_l N1_
    refine sr ?_
    refine pv tb 2 rfl ?_
    refine TO_nil ?_
    refine T_ret ?_
    obtain rfl:=some_inj H
    exact end_pick (.tmp .nil) rfl [1] (by decide) rfl rfl rfl rfl rfl rfl
theorem msBlockOf_ok (u:Nat) (d0:Database) (i1:Int) (r:(List Int)) (H:msBlockOf u d0 i1=some r):FnV prg 55 [.g (tD.enc d0),intA i1] (sl tInt r):=(msBlockOf_own u d0 i1 r H).frz (frzT (T:=tInt) rfl)

theorem msl7Has_ok (l0:(List Int)) (x1:Int) (r:Bool) (H:msl7Has l0 x1=some r):FnV prg 56 [sl tInt l0,intA x1] (boolA r):=by
  unfold msl7Has at H
  refine fnV_of_T Tryz.func56 rfl rfl (Nat.le_of_ble_eq_true rfl) ?_
  refine te [(0,sl tInt l0),(1,intA x1)] rfl ?_
  refine sr ?_
  refine pv tb 1 rfl ?_
  refine TO_nil (T_seq (sr ?_))
  refine pv tb 1 rfl ?_
  refine TO_nil ?_
  obtain ⟨O2_,L2_,N2_⟩:=bind_inv H
  clear H
  obtain ⟨B2_,hb2,L2_⟩:=gen_forL L2_
  refine T_block ?_
  refine T_loopX (fun k=>fun (i_1:Nat)=>k=l0.length - i_1∧forL B2_ (l0.drop i_1) (i_1:Int) ()=some O2_) (fun (i_1:Nat)=>[(0,sl tInt l0),(1,intA x1),(5,intA (i_1:Int))]) (fun (i_1:Nat)=>[]) _ (0:Nat) (w0 0) ⟨rfl,L2_⟩ ?_
  rintro _ i_1 ⟨rfl,L2_⟩
  refine T_fact (len_sl (T:=tInt) (.tmp 0) rfl) (fun hl2=>?_)
  refine T_seq (sr ?_)
  refine pv tb 2 rfl ?_
  refine Tp rfl rfl (pur_lenT (T:=tInt) sl28 rfl rfl) rfl ?_
  refine pv tb 1 rfl ?_
  refine TO_nil ?_
  refine T_cond (t:=decide ((i_1:Int)<(l0.length:Int))) rfl (fun d2=>?_) (fun d2=>?_)
  ·replace d2:=of_decide_eq_true d2
   obtain ⟨x_i_1,hx_i_1⟩:∃ v,(l0)[i_1]?=some v:=⟨_,List.getElem?_eq_getElem (by omega)⟩
   obtain ⟨C2_,H,K2_⟩:=forL_step L2_ hx_i_1
   rw [hb2] at H
   refine T_skip ?_
   refine T_seq ?_
   refine T_block ?_
   refine sr ?_
   refine pv tb 2 rfl ?_
   refine Tp rfl rfl (pur_ixT (T:=tInt) sl28 rfl rfl rfl hx_i_1 rfl) rfl ?_
   refine Tp rfl rfl (pur_ldT (T:=tInt) (i:=i_1) (off:=0) rfl one3 rfl rfl hx_i_1 rfl) rfl ?_
   refine pv tb 2 rfl ?_
   refine TO_nil ?_
   refine T_cond (t:=decide (x_i_1=x1)) rfl (fun c_3=>?_) (fun c_3=>?_)
   ·replace H:=cond_t c_3 H
    refine sr ?_
    refine pv tb 1 rfl ?_
    refine TO_nil ?_
    refine T_ret ?_
    refine block_ret ?_
    refine then_ret ?_
    refine then_ret ?_
    refine block_ret ?_
    refine then_ret ?_
    obtain rfl:=some_inj H
    obtain rfl:=some_inj K2_
    replace H:=onS_r N2_
    obtain rfl:=some_inj H
    refine end_ret (.tmp .nil) rfl rfl ⟨?_,rfl⟩
    rfl
   ·replace H:=cond_f c_3 H
    refine T_skip ?_
    refine T_region ?_
    refine pv tb 1 rfl ?_
    refine Tp rfl rfl (pur_add rfl rfl rfl (fits64 (by omega) (by omega))) rfl ?_
    refine pv tb 1 rfl ?_
    refine TO_nil ?_
    obtain rfl:=some_inj H
    exact again (l0.length - (i_1+1)) (i_1+1) (by omega) (w0 0) ⟨rfl,K2_⟩
  ·replace d2:=of_decide_eq_false d2
   obtain rfl:=forL_end L2_ (by omega)
   refine T_exit ?_
   refine then_exit ?_
   refine then_exit ?_
   refine block_exit ?_
   replace H:=onS_l N2_
   refine sr ?_
   refine pv tb 1 rfl ?_
   refine TO_nil ?_
   refine T_ret ?_
   obtain rfl:=some_inj H
   refine end_ret (.tmp .nil) rfl rfl ⟨?_,rfl⟩
   rfl

theorem msl4Set_ok (d0:Database) (l1:(List Int)) (r:Bool) (H:msl4Set d0 l1=some r):FnV prg 85 [.g (tD.enc d0),sl tInt l1] (boolA r):=by
  unfold msl4Set at H
  refine fnV_of_T Tryz.func85 rfl rfl (Nat.le_of_ble_eq_true rfl) ?_
  refine te [(0,.g (tD.enc d0)),(1,sl tInt l1)] rfl ?_
  refine sr ?_
  refine TO_cons rfl (TOp_box rfl (boxAll rfl) rfl rfl ?_)
  refine pv tb 1 rfl ?_
  refine TO_nil (T_seq (sr ?_))
  refine pv tb 1 rfl ?_
  refine TO_nil ?_
  obtain ⟨O2_,L2_,N2_⟩:=bind_inv H
  clear H
  obtain ⟨B2_,hb2,L2_⟩:=gen_forL L2_
  refine T_block ?_
  refine T_loopX (fun k=>fun (i_1:Nat)=>k=l1.length - i_1∧forL B2_ (l1.drop i_1) (i_1:Int) ()=some O2_) (fun (i_1:Nat)=>[(1,sl tInt l1),(2,.b 0 0),(5,intA (i_1:Int))]) (fun (i_1:Nat)=>[.box [sl tR d0.relations,sl tF d0.facts]]) _ (0:Nat) (w0 1) ⟨rfl,L2_⟩ ?_
  rintro _ i_1 ⟨rfl,L2_⟩
  refine T_fact (len_sl (T:=tInt) (.tmp 1) rfl) (fun hl2=>?_)
  refine T_seq (sr ?_)
  refine pv tb 2 rfl ?_
  refine Tp rfl rfl (pur_lenT (T:=tInt) sl28 rfl rfl) rfl ?_
  refine pv tb 1 rfl ?_
  refine TO_nil ?_
  refine T_cond (t:=decide ((i_1:Int)<(l1.length:Int))) rfl (fun d2=>?_) (fun d2=>?_)
  ·replace d2:=of_decide_eq_true d2
   obtain ⟨x_i_1,hx_i_1⟩:∃ v,(l1)[i_1]?=some v:=⟨_,List.getElem?_eq_getElem (by omega)⟩
   obtain ⟨C2_,H,K2_⟩:=forL_step L2_ hx_i_1
   rw [hb2] at H
   refine T_skip ?_
   refine T_seq ?_
   refine T_block ?_
   obtain ⟨t37_3,J_3,H_4⟩:=bind_inv H
   refine T_cutX (fun x=>t37_3=x) (fun (t37_3:Bool)=>[(1,sl tInt l1),(2,.b 0 0),(5,intA (i_1:Int)),(37,boolA t37_3)]) (fun (t37_3:Bool)=>[.box [sl tR d0.relations,sl tF d0.facts]]) ?_ ?_
   ·replace H:=J_3
    refine T_regionD mixed (by kernel_rfl) ?_
    refine pq tb 2 rfl ?_
    refine TQ_pure rfl (pur_ixT (T:=tInt) sl28 rfl rfl rfl hx_i_1 rfl) rfl ?_
    refine TQ_pure rfl (pur_ldT (T:=tInt) (i:=i_1) (off:=0) rfl one3 rfl rfl hx_i_1 rfl) rfl ?_
    refine pq tb 2 rfl ?_
    refine TQ_pure rfl (pur_lenT (T:=tF) sl25 rfl rfl) rfl ?_
    refine TQ_fact (len_sl (T:=tF) (.tmp 17) rfl) (fun hl_5=>?_)
    refine TQ_pure rfl (pur_sub rfl rfl rfl (fits64 (by omega) (by omega))) rfl ?_
    obtain ⟨r_6,h_7,H⟩:=bind_inv H
    refine TQ_callV rfl (call_static ent39 rfl) (msl1In_ok _ _ _ _ h_7) rfl rfl ?_
    refine pq tb 2 rfl ?_
    refine TQ_split (t:=(!r_6)) 22 rfl (fun g_8=>?_) (fun g_8=>?_)
    ·replace H:=cond_t g_8 H
     refine pq tb 8 rfl ?_
     refine tqe [(1,sl tInt l1),(2,.b 0 0),(5,intA (i_1:Int)),(22,boolA true),(25,.v undef),(29,.v undef),(30,.v undef)] rfl ?_
     refine pq tb 7 rfl ?_
     refine TQ_nil ?_
     exact joined true (w0 1) (some_inj H).symm
    ·replace H:=cond_f g_8 H
     refine pq tb 3 rfl ?_
     refine TQ_split (t:=decide (0<(i_1:Int))) 25 rfl (fun g_9=>?_) (fun g_9=>?_)
     ·replace H:=cond_t g_9 H
      refine pq tb 2 rfl ?_
      refine TQ_on rfl rfl (by decide) rfl (pur_ixT (T:=tInt) sl28 rfl rfl rfl hx_i_1 rfl) rfl ?_
      refine TQ_on rfl rfl (by decide) rfl (pur_ldT (T:=tInt) (i:=i_1) (off:=0) rfl one3 rfl rfl hx_i_1 rfl) rfl ?_
      refine pq tb 2 rfl ?_
      refine TQ_on rfl rfl (by decide) rfl (pur_sub rfl rfl rfl (fits64 (by omega) (by omega))) rfl ?_
      obtain ⟨v_10,h_11,H⟩:=bind_inv H
      obtain ⟨n_12,hz_13,hv_14⟩:=getI_inv h_11
      refine TQ_on rfl rfl (by decide) rfl (pur_ixT (T:=tInt) sl28 rfl rfl hz_13 hv_14 rfl) rfl ?_
      refine tqe [(1,sl tInt l1),(2,.b 0 0),(5,intA (i_1:Int)),(22,boolA false),(25,boolA true),(29,intA x_i_1),(33,.q (flat tInt.enc l1) (n_12*tInt.k))] rfl ?_
      refine TQ_on rfl rfl (by decide) rfl (pur_ldT (T:=tInt) (i:=n_12) (off:=0) rfl one3 rfl rfl hv_14 rfl) rfl ?_
      refine pq tb 3 rfl ?_
      refine TQ_nil ?_
      exact joined (decide (x_i_1≤v_10)) (w0 1) (some_inj H).symm
     ·replace H:=cond_f g_9 H
      refine pq tb 8 rfl ?_
      refine tqe [(1,sl tInt l1),(2,.b 0 0),(5,intA (i_1:Int)),(22,boolA false),(25,boolA false),(29,.v undef),(33,.v undef)] rfl ?_
      refine pq tb 4 rfl ?_
      refine TQ_nil ?_
      exact joined false (w0 1) (some_inj H).symm
   ·rintro _ rfl
    replace H:=H_4
    refine T_cond (t:=t37_3) rfl (fun c_15=>?_) (fun c_15=>?_)
    ·replace H:=cond_t c_15 H
     refine sr ?_
     refine pv tb 1 rfl ?_
     refine TO_nil ?_
     refine T_ret ?_
     refine block_ret ?_
     refine then_ret ?_
     refine then_ret ?_
     refine block_ret ?_
     refine then_ret ?_
     obtain rfl:=some_inj H
     obtain rfl:=some_inj K2_
     replace H:=onS_r N2_
     obtain rfl:=some_inj H
     refine end_ret (.tmp .nil) rfl rfl ⟨?_,rfl⟩
     rfl
    ·replace H:=cond_f c_15 H
     refine T_skip ?_
     refine T_region ?_
     refine pv tb 1 rfl ?_
     refine Tp rfl rfl (pur_add rfl rfl rfl (fits64 (by omega) (by omega))) rfl ?_
     refine pv tb 1 rfl ?_
     refine TO_nil ?_
     obtain rfl:=some_inj H
     exact again (l1.length - (i_1+1)) (i_1+1) (by omega) (w0 1) ⟨rfl,K2_⟩
  ·replace d2:=of_decide_eq_false d2
   obtain rfl:=forL_end L2_ (by omega)
   refine T_exit ?_
   refine then_exit ?_
   refine then_exit ?_
   refine block_exit ?_
   replace H:=onS_l N2_
   refine sr ?_
   refine pv tb 1 rfl ?_
   refine TO_nil ?_
   refine T_ret ?_
   obtain rfl:=some_inj H
   refine end_ret (.tmp .nil) rfl rfl ⟨?_,rfl⟩
   rfl

theorem msSelectFacts_own (u:Nat) (d0:Database) (l1:(List Int)) (r:(Database × Bool)) (H:msSelectFacts u d0 l1=some r):FnO prg 57 [.g (tD.enc d0),sl tInt l1] (.t [.g [.m [0] 0 r.1.relations.length tR.k,.m [1] 0 r.1.facts.length tF.k],boolA r.2]) [.row (flat tR.own r.1.relations),.row (flat tF.own r.1.facts)]:=by
  unfold msSelectFacts at H
  refine fnO_of_T Tryz.func57 rfl rfl (Nat.le_of_ble_eq_true rfl) ?_
  refine te [(0,.g (tD.enc d0)),(1,sl tInt l1)] rfl ?_
  refine sr ?_
  refine TO_cons rfl (TOp_box rfl (boxAll rfl) rfl rfl ?_)
  refine TO_cons rfl (TOp_alloc zero27 rfl rfl ?_)
  refine pv tb 1 rfl ?_
  refine TO_nil (T_seq ?_)
  obtain ⟨t17_1,J_1,H_2⟩:=bind_inv H
  refine T_cutX (fun x=>t17_1=x) (fun (t17_1:Bool)=>[(1,sl tInt l1),(2,.b 0 0),(4,.b 1 0),(17,boolA t17_1)]) (fun (t17_1:Bool)=>[.box [sl tR d0.relations,sl tF d0.facts],.box [.n,.n]]) ?_ ?_
  ·replace H:=J_1
   refine T_region ?_
   obtain ⟨r_3,h_4,H⟩:=bind_inv H
   refine pv tb 1 rfl ?_
   refine TO_cons rfl (TOp_callV (call_static ent51 rfl) (msIsValidDatabase_ok u _ _ h_4) rfl rfl rfl ?_)
   refine pv tb 2 rfl ?_
   refine TO_split (t:=(!r_3)) 12 rfl (fun g_5=>?_) (fun g_5=>?_)
   ·replace H:=cond_t g_5 H
    refine pv tb 5 rfl ?_
    refine TO_nil ?_
    exact joined true (w0 2) (some_inj H).symm
   ·replace H:=cond_f g_5 H
    obtain ⟨r_6,h_7,H⟩:=bind_inv H
    refine pv tb 2 rfl ?_
    refine TO_on rfl rfl (by decide) rfl rfl (TOp_callV (call_static ent85 rfl) (msl4Set_ok _ _ _ h_7) rfl rfl rfl ?_)
    refine pv tb 2 rfl ?_
    refine TO_nil ?_
    exact joined (!r_6) (w0 2) (some_inj H).symm
  ·rintro _ rfl
   replace H:=H_2
   refine T_cond (t:=t17_1) rfl (fun c_8=>?_) (fun c_8=>?_)
   ·replace H:=cond_t c_8 H
    refine sr ?_
    refine Tp rfl rfl (pur_build bld27 rfl rfl) rfl ?_
    refine TO_cons rfl (TOp_storeB sz27 rfl rfl rfl rfl rfl rfl rfl (by decide) (lb rfl) rfl ?_)
    refine TO_st (σ':=[.box [sl tR d0.relations,sl tF d0.facts],.box [.n,.n]]) rfl ?_
    refine pv tb 1 rfl ?_
    refine TO_nil ?_
    refine T_row0 ?_
    refine T_row0 ?_
    refine T_boxle (xs:=[.n,.n]) (ys:=[.m [2] 0 ([]:(List Relation)).length tR.k,.m [3] 0 ([]:(List Fact)).length tF.k]) 1 rfl (leCons leM (leCons leM leNil)) ?_
    refine T_st (σ':=[.box [sl tR d0.relations,sl tF d0.facts],.box [.m [2] 0 ([]:(List Relation)).length tR.k,.m [3] 0 ([]:(List Fact)).length tF.k],.row (flat tR.own ([]:(List Relation))),.row (flat tF.own ([]:(List Fact)))]) rfl ?_
    refine T_ret ?_
    refine then_ret ?_
    obtain rfl:=some_inj H
    exact end_pick (.cellK rfl agg27 rfl (lb rfl) (.tmp .nil)) rfl [2,3] (by decide) rfl rfl rfl rfl rfl rfl
   ·replace H:=cond_f c_8 H
    refine T_skip ?_
    refine sr ?_
    refine TO_cons rfl (TOp_lit (nn:=0) (k:=3) sl24 zero53 rfl rfl rfl rfl (by decide) ?_)
    refine TO_st (σ':=[.box [sl tR d0.relations,sl tF d0.facts],.box [.n,.n],.row (flat tR.enc ([]:(List Relation)))]) rfl ?_
    obtain ⟨us_9,h_10,H⟩:=bind_inv H
    refine pv tb 2 rfl ?_
    refine TO_cons rfl (TOp_appZ (T:=tR) (f:=tR.enc) (xs:=([]:(List Relation))) (ys:=d0.relations) tR.len sl24 zero53 rfl bytes53 (by decide) rfl rfl rfl rfl (src_T (T:=tR) rfl) (flat_cell tR _) h_10 (lb rfl) ?_)
    refine toe [(1,sl tInt l1),(2,.b 0 0),(4,.b 1 0),(20,.b 0 0),(21,sl tR d0.relations),(22,.m [2] 0 us_9.length tR.k)] rfl ?_
    refine TO_st (σ':=[.box [sl tR d0.relations,sl tF d0.facts],.box [.n,.n],.row (flat tR.enc us_9),.dead]) rfl ?_
    refine Tp rfl rfl (pur_build bld27 rfl rfl) rfl ?_
    refine TO_cons rfl (TOp_alloc zero27 rfl rfl ?_)
    refine TO_cons rfl (TOp_storeB sz27 rfl rfl rfl rfl rfl rfl rfl (by decide) (lb rfl) rfl ?_)
    refine TO_st (σ':=[.box [sl tR d0.relations,sl tF d0.facts],.box [.n,.n],.row (flat tR.enc us_9),.dead,.box [.m [2] 0 us_9.length tR.k,.n]]) rfl ?_
    refine TO_nil (T_seq (sr ?_))
    refine pv tb 1 rfl ?_
    refine TO_nil ?_
    refine T_row0 ?_
    refine T_boxle (xs:=[.m [2] 0 us_9.length tR.k,.n]) (ys:=[.m [2] 0 us_9.length tR.k,.m [5] 0 ([]:(List Fact)).length tF.k]) 4 rfl (leCons (leR rfl) (leCons leM leNil)) ?_
    refine T_st (σ':=[.box [sl tR d0.relations,sl tF d0.facts],.box [.n,.n],.row (flat tR.enc us_9),.dead,.box [.m [2] 0 us_9.length tR.k,.m [5] 0 ([]:(List Fact)).length tF.k],.row (flat tF.own ([]:(List Fact)))]) rfl ?_
    obtain ⟨O12_,L12_,N12_⟩:=bind_inv H
    clear H
    obtain ⟨B12_,hb12,L12_⟩:=gen_forS L12_
    refine T_block ?_
    refine T_loopX (fun k=>fun (⟨i_11,box4_facts⟩:Nat × (List Fact))=>k=l1.length - i_11∧forS B12_ (l1.drop i_11) (i_11:Int) box4_facts=some O12_) (fun (⟨i_11,box4_facts⟩:Nat × (List Fact))=>[(1,sl tInt l1),(2,.b 0 0),(4,.b 1 0),(6,.b 4 0),(7,intA (i_11:Int))]) (fun (⟨i_11,box4_facts⟩:Nat × (List Fact))=>[.box [sl tR d0.relations,sl tF d0.facts],.box [.n,.n],.row (flat tR.enc us_9),.dead,.box [.m [2] 0 us_9.length tR.k,.m [5] 0 box4_facts.length tF.k],.row (flat tF.own box4_facts)]) _ (0,([]:(List Fact))) (w0 6) ⟨rfl,L12_⟩ ?_
    rintro _ ⟨i_11,box4_facts⟩ ⟨rfl,L12_⟩
    refine T_fact (len_sl (T:=tInt) (.tmp 1) rfl) (fun hl12=>?_)
    refine T_seq (sr ?_)
    refine pv tb 2 rfl ?_
    refine Tp rfl rfl (pur_lenT (T:=tInt) sl28 rfl rfl) rfl ?_
    refine pv tb 1 rfl ?_
    refine TO_nil ?_
    refine T_cond (t:=decide ((i_11:Int)<(l1.length:Int))) rfl (fun d12=>?_) (fun d12=>?_)
    ·replace d12:=of_decide_eq_true d12
     obtain ⟨x_i_11,hx_i_11⟩:∃ v,(l1)[i_11]?=some v:=⟨_,List.getElem?_eq_getElem (by omega)⟩
     obtain ⟨C12_,H,K12_⟩:=forS_step L12_ hx_i_11
     rw [hb12] at H
     refine T_skip ?_
     refine T_seq ?_
     refine T_block ?_
     obtain ⟨v_13,h_14,H⟩:=bind_inv H
     obtain ⟨n_15,hz_16,hv_17⟩:=getI_inv h_14
     refine T_cutX (fun (_:Unit)=>True) (fun _=>[(1,sl tInt l1),(2,.b 0 0),(4,.b 1 0),(6,.b 4 0),(7,intA (i_11:Int)),(8,.b 6 0)]) (fun _=>[.box [sl tR d0.relations,sl tF d0.facts],.box [.n,.n],.row (flat tR.enc us_9),.dead,.box [.m [2] 0 us_9.length tR.k,.m [5] 0 box4_facts.length tF.k],.row (flat tF.own box4_facts),.box [intA v_13.relation,sl tInt v_13.values]]) ?_ ?_
     ·skip
      refine T_regionP 6 mixed rfl ?_
      refine pa tb [0,1,2,3] 6 rfl (by kernel_rfl) rfl ?_
      refine tf 4 rfl (pur_ixT (T:=tInt) sl28 rfl rfl rfl hx_i_11 rfl) rfl rfl (by kernel_rfl) ?_
      refine tf 5 rfl (pur_ldT (T:=tInt) (i:=i_11) (off:=0) rfl one3 rfl rfl hx_i_11 rfl) rfl rfl (by kernel_rfl) ?_
      refine tf 6 rfl (pur_ixT (T:=tF) sl25 rfl rfl hz_16 hv_17 rfl) rfl rfl (by kernel_rfl) ?_
      refine tf 7 rfl (pur_ldTK (T:=tF) (i:=n_15) (off:=0) rfl agg30 rfl rfl hv_17 (by decide) rfl) rfl rfl (by kernel_rfl) ?_
      refine t1 8 (by kernel_rfl) rfl rfl (TOp_alloc zero30 rfl rfl ?_)
      refine t1 9 (by kernel_rfl) rfl rfl (TOp_storeB sz30 rfl rfl rfl rfl rfl rfl rfl (by decide) (lb rfl) rfl ?_)
      refine TA_st (σ':=[.dead,.dead,.row (flat tR.enc us_9),.dead,.dead,.row (flat tF.own box4_facts),.box [intA v_13.relation,sl tInt v_13.values]]) rfl ?_
      exact TA_nil (by kernel_rfl) (joined () (w0 7) trivial)
     ·rintro _ _
      obtain ⟨us_18,h_19,H⟩:=bind_inv H
      obtain ⟨us_20,h_21,H⟩:=bind_inv H
      refine T_pad ?_
      refine T_pad ?_
      refine T_pad ?_
      refine T_pad ?_
      refine T_regionPh 7 12 mixed rfl (by kernel_rfl) ?_
      refine pa tb [0,1,2,3,5,6] 6 rfl (by kernel_rfl) rfl ?_
      refine t1 4 (by kernel_rfl) rfl rfl (TOp_lit (nn:=0) (k:=1) sl28 zero3 rfl rfl rfl rfl (by decide) ?_)
      refine tmw 7 11 (by decide) (lb rfl) rfl rfl (lb rfl) rfl ?_
      refine t1 7 (by kernel_rfl) rfl rfl (TOp_appY (T:=tInt) (f:=tInt.enc) (xs:=([]:(List Int))) (ys:=v_13.values) tInt.len sl28 zero3 rfl bytes3 (by decide) rfl rfl rfl rfl (src_T (T:=tInt) rfl) (flat_cell tInt _) h_19 ?_)
      refine tmw 7 12 (by decide) (lb rfl) rfl rfl (lb rfl) rfl ?_
      refine tae [(1,sl tInt l1),(2,.b 0 0),(4,.b 1 0),(6,.b 4 0),(7,intA (i_11:Int)),(39,.m [5] 0 box4_facts.length tF.k),(41,intA v_13.relation),(45,.m [7] 0 us_18.length tInt.k)] rfl ?_
      refine TA_st (σ':=[.dead,.dead,.row (flat tR.enc us_9),.dead,.dead,.row (flat tF.own box4_facts),.dead,.row (flat tInt.enc us_18),.dead,.dead,.dead,.dead,.dead]) rfl ?_
      refine tf 8 rfl (pur_build bld30 rfl rfl) rfl rfl (by kernel_rfl) ?_
      refine t1 9 (by kernel_rfl) rfl rfl (TOp_ghost (E':=[(1,sl tInt l1),(2,.b 0 0),(4,.b 1 0),(6,.b 4 0),(7,intA (i_11:Int)),(39,.m [5] 0 box4_facts.length tF.k),(41,intA v_13.relation),(45,.m [7] 0 us_18.length tInt.k),(46,.g [intA v_13.relation,.m [7] 0 us_18.length tInt.k])]) (σ':=[.dead,.dead,.row (flat tR.enc us_9),.dead,.dead,.row (flat tF.own box4_facts),.dead,.row (flat tInt.enc us_18),.dead,.dead,.dead]) (by exact Ghost.weak (w0 11)) (TOp_litB (nn:=1) (k:=2) sl25 zero30 rfl rfl rfl rfl (by decide) ?_))
      refine TA_st (σ':=[.dead,.dead,.row (flat tR.enc us_9),.dead,.dead,.row (flat tF.own box4_facts),.dead,.row (flat tInt.enc us_18),.dead,.dead,.dead,.box [intA v_13.relation,.m [7] 0 us_18.length tInt.k]]) rfl ?_
      refine tmw 10 5 (by decide) (lb rfl) rfl rfl (lb rfl) rfl ?_
      refine t1 10 (by kernel_rfl) rfl rfl (TOp_boxify 10 rfl (lb rfl) (TOp_appB (T:=tF) (xs:=box4_facts) (v:=({ relation:=v_13.relation,values:=us_18 }:Fact)) sl25 zero30 rfl bytes30 (by decide) rfl rfl rfl rfl rfl rfl rfl rfl h_21 (lb rfl) ?_))
      refine tae [(1,sl tInt l1),(2,.b 0 0),(4,.b 1 0),(6,.b 4 0),(7,intA (i_11:Int)),(41,intA v_13.relation),(48,.m [12] 0 (box4_facts.length+1) tF.k)] rfl ?_
      refine TA_st (σ':=[.dead,.dead,.row (flat tR.enc us_9),.dead,.dead,.dead,.dead,.row (flat tInt.enc us_18),.dead,.dead,.dead,.box [intA v_13.relation,.m [7] 0 us_18.length tInt.k],.box (flat tF.own box4_facts++[intA v_13.relation,.m [7] 0 us_18.length tInt.k])]) rfl ?_
      refine TA_absorbA (pr:=flat tF.own box4_facts) 12 1 7 rfl rfl rfl (by decide) tInt.pos (flat_len tInt.len _) (lb rfl) (lb rfl) rfl (nms_dead (nms_dead (nms_row (nms_dead (nms_dead (nms_dead (nms_dead (nms_row (nms_dead (nms_dead (nms_dead (nms_box rfl (nms_box (namesA namesL_own rfl) nms_nil))))))))))))) ?_
      refine TA_st (σ':=[.dead,.dead,.row (flat tR.enc us_9),.dead,.dead,.dead,.dead,.dead,.dead,.dead,.dead,.box [intA v_13.relation,.m [7] 0 us_18.length tInt.k],.box (flat tF.own box4_facts++[intA v_13.relation,.o tInt.k (flat tInt.enc us_18)])]) rfl ?_
      refine TA_rowifyT (T:=tF) (xs:=box4_facts) (v:=({ relation:=v_13.relation,values:=us_18 }:Fact)) 12 rfl rfl h_21 (lb rfl) ?_
      refine TA_st (σ':=[.dead,.dead,.row (flat tR.enc us_9),.dead,.dead,.dead,.dead,.dead,.dead,.dead,.dead,.box [intA v_13.relation,.m [7] 0 us_18.length tInt.k],.row (flat tF.own us_20)]) rfl ?_
      refine TA_move 10 12 (by decide) (lb rfl) rfl rfl (lb rfl) ?_
      refine TA_env (E':=[(1,sl tInt l1),(2,.b 0 0),(4,.b 1 0),(6,.b 4 0),(7,intA (i_11:Int)),(41,intA v_13.relation),(48,.m [10] 0 us_20.length tF.k)]) ⟨rfl,rfl,rfl,rfl,rfl,rfl,congrArg (fun q=>A.m [10] 0 q tF.k) (app_len h_21),trivial⟩ ?_
      refine TA_kill 11 (lb rfl) ?_
      refine TA_st (σ':=[.dead,.dead,.row (flat tR.enc us_9),.dead,.dead,.dead,.dead,.dead,.dead,.dead,.row (flat tF.own us_20),.dead,.dead]) rfl ?_
      refine pa tb [11] 0 rfl (by kernel_rfl) rfl ?_
      refine TA_nil (by kernel_rfl) ?_
      refine TA_st (σ':=[.box [sl tR d0.relations,sl tF d0.facts],.box [.n,.n],.row (flat tR.enc us_9),.dead,.box [.m [2] 0 us_9.length tR.k,.m [5] 0 box4_facts.length tF.k],.dead,.box [intA v_13.relation,sl tInt v_13.values],.dead,.dead,.dead,.row (flat tF.own us_20),.dead,.dead]) rfl ?_
      refine tmv 5 10 (by decide) (lb rfl) rfl rfl (lb rfl) ?_
      refine TA_st (σ':=[.box [sl tR d0.relations,sl tF d0.facts],.box [.n,.n],.row (flat tR.enc us_9),.dead,.box [.m [2] 0 us_9.length tR.k,.j],.row (flat tF.own us_20),.box [intA v_13.relation,sl tInt v_13.values],.dead,.dead,.dead,.dead,.dead,.dead]) rfl ?_
      refine t1 12 (by kernel_rfl) rfl rfl (TOp_storeB sz25 rfl rfl rfl rfl rfl rfl rfl (by decide) (lb rfl) rfl ?_)
      refine TA_st (σ':=[.box [sl tR d0.relations,sl tF d0.facts],.box [.n,.n],.row (flat tR.enc us_9),.dead,.box [.m [2] 0 us_9.length tR.k,.m [5] 0 us_20.length tF.k],.row (flat tF.own us_20),.box [intA v_13.relation,sl tInt v_13.values],.dead,.dead,.dead,.dead,.dead,.dead]) rfl ?_
      refine TA_nil (by kernel_rfl) ?_
      refine T_region ?_
      refine pv tb 1 rfl ?_
      refine Tp rfl rfl (pur_add rfl rfl rfl (fits64 (by omega) (by omega))) rfl ?_
      refine pv tb 1 rfl ?_
      refine TO_nil ?_
      obtain rfl:=some_inj H
      exact again (l1.length - (i_11+1)) (i_11+1,us_20) (by omega) (w0 6) ⟨rfl,K12_⟩
    ·replace d12:=of_decide_eq_false d12
     obtain rfl:=forS_end L12_ (by omega)
     refine T_exit ?_
     refine then_exit ?_
     refine then_exit ?_
     refine block_exit ?_
     replace H:=N12_
     refine sr ?_
     refine pv tb 1 rfl ?_
     refine TO_cons rfl (TOp_storeB sz27 rfl rfl rfl rfl rfl rfl rfl (by decide) (lb rfl) rfl ?_)
     refine TO_st (σ':=[.box [sl tR d0.relations,sl tF d0.facts],.box [.m [2] 0 us_9.length tR.k,.m [5] 0 box4_facts.length tF.k],.row (flat tR.enc us_9),.dead,.box [.m [2] 0 us_9.length tR.k,.m [5] 0 box4_facts.length tF.k],.row (flat tF.own box4_facts)]) rfl ?_
     refine pv tb 1 rfl ?_
     refine TO_nil ?_
     refine T_ret ?_
     obtain rfl:=some_inj H
     exact end_pick (.cellK rfl agg27 rfl (lb rfl) (.tmp .nil)) rfl [2,5] (by decide) rfl rfl rfl rfl rfl rfl
theorem msSelectFacts_ok (u:Nat) (d0:Database) (l1:(List Int)) (r:(Database × Bool)) (H:msSelectFacts u d0 l1=some r):FnV prg 57 [.g (tD.enc d0),sl tInt l1] (.t [.g (tD.enc r.1),boolA r.2]):=(msSelectFacts_own u d0 l1 r H).frz (frzOK_t (frz_cons (frzOK_g (frz_cons (frzT (T:=tR) rfl) (frz_cons (frzT (T:=tF) rfl) frz_nil)).1 (frz_cons (frzT (T:=tR) rfl) (frz_cons (frzT (T:=tF) rfl) frz_nil)).2) (frz_cons (frz_loose rfl) frz_nil)).1 (frz_cons (frzOK_g (frz_cons (frzT (T:=tR) rfl) (frz_cons (frzT (T:=tF) rfl) frz_nil)).1 (frz_cons (frzT (T:=tR) rfl) (frz_cons (frzT (T:=tF) rfl) frz_nil)).2) (frz_cons (frz_loose rfl) frz_nil)).2)

theorem msSelectFacts_enc (u:Nat) (d0:Database) (l1:(List Int)) (r:(Database × Bool)) (H:msSelectFacts u d0 l1=some r):FnO prg 57 [.g (tD.enc d0),sl tInt l1] (.t [.g [.m [0] 0 r.1.relations.length tR.k,.m [1] 0 r.1.facts.length tF.k],boolA r.2]) [.row (flat tR.enc r.1.relations),.row (flat tF.enc r.1.facts)]:=by
  unfold msSelectFacts at H
  refine fnO_of_T Tryz.func57 rfl rfl (Nat.le_of_ble_eq_true rfl) ?_
  refine te [(0,.g (tD.enc d0)),(1,sl tInt l1)] rfl ?_
  refine sr ?_
  refine TO_cons rfl (TOp_box rfl (boxAll rfl) rfl rfl ?_)
  refine TO_cons rfl (TOp_alloc zero27 rfl rfl ?_)
  refine pv tb 1 rfl ?_
  refine TO_nil (T_seq ?_)
  obtain ⟨t17_1,J_1,H_2⟩:=bind_inv H
  refine T_cutX (fun x=>t17_1=x) (fun (t17_1:Bool)=>[(1,sl tInt l1),(2,.b 0 0),(4,.b 1 0),(17,boolA t17_1)]) (fun (t17_1:Bool)=>[.box [sl tR d0.relations,sl tF d0.facts],.box [.n,.n]]) ?_ ?_
  ·replace H:=J_1
   refine T_region ?_
   obtain ⟨r_3,h_4,H⟩:=bind_inv H
   refine pv tb 1 rfl ?_
   refine TO_cons rfl (TOp_callV (call_static ent51 rfl) (msIsValidDatabase_ok u _ _ h_4) rfl rfl rfl ?_)
   refine pv tb 2 rfl ?_
   refine TO_split (t:=(!r_3)) 12 rfl (fun g_5=>?_) (fun g_5=>?_)
   ·replace H:=cond_t g_5 H
    refine pv tb 5 rfl ?_
    refine TO_nil ?_
    exact joined true (w0 2) (some_inj H).symm
   ·replace H:=cond_f g_5 H
    obtain ⟨r_6,h_7,H⟩:=bind_inv H
    refine pv tb 2 rfl ?_
    refine TO_on rfl rfl (by decide) rfl rfl (TOp_callV (call_static ent85 rfl) (msl4Set_ok _ _ _ h_7) rfl rfl rfl ?_)
    refine pv tb 2 rfl ?_
    refine TO_nil ?_
    exact joined (!r_6) (w0 2) (some_inj H).symm
  ·rintro _ rfl
   replace H:=H_2
   refine T_cond (t:=t17_1) rfl (fun c_8=>?_) (fun c_8=>?_)
   ·replace H:=cond_t c_8 H
    refine sr ?_
    refine Tp rfl rfl (pur_build bld27 rfl rfl) rfl ?_
    refine TO_cons rfl (TOp_storeB sz27 rfl rfl rfl rfl rfl rfl rfl (by decide) (lb rfl) rfl ?_)
    refine TO_st (σ':=[.box [sl tR d0.relations,sl tF d0.facts],.box [.n,.n]]) rfl ?_
    refine pv tb 1 rfl ?_
    refine TO_nil ?_
    refine T_row0 ?_
    refine T_row0 ?_
    refine T_boxle (xs:=[.n,.n]) (ys:=[.m [2] 0 ([]:(List Relation)).length tR.k,.m [3] 0 ([]:(List Fact)).length tF.k]) 1 rfl (leCons leM (leCons leM leNil)) ?_
    refine T_st (σ':=[.box [sl tR d0.relations,sl tF d0.facts],.box [.m [2] 0 ([]:(List Relation)).length tR.k,.m [3] 0 ([]:(List Fact)).length tF.k],.row (flat tR.enc ([]:(List Relation))),.row (flat tF.enc ([]:(List Fact)))]) rfl ?_
    refine T_ret ?_
    refine then_ret ?_
    obtain rfl:=some_inj H
    exact end_pick (.cellK rfl agg27 rfl (lb rfl) (.tmp .nil)) rfl [2,3] (by decide) rfl rfl rfl rfl rfl rfl
   ·replace H:=cond_f c_8 H
    refine T_skip ?_
    refine sr ?_
    refine TO_cons rfl (TOp_lit (nn:=0) (k:=3) sl24 zero53 rfl rfl rfl rfl (by decide) ?_)
    refine TO_st (σ':=[.box [sl tR d0.relations,sl tF d0.facts],.box [.n,.n],.row (flat tR.enc ([]:(List Relation)))]) rfl ?_
    obtain ⟨us_9,h_10,H⟩:=bind_inv H
    refine pv tb 2 rfl ?_
    refine TO_cons rfl (TOp_appZ (T:=tR) (f:=tR.enc) (xs:=([]:(List Relation))) (ys:=d0.relations) tR.len sl24 zero53 rfl bytes53 (by decide) rfl rfl rfl rfl (src_T (T:=tR) rfl) (flat_cell tR _) h_10 (lb rfl) ?_)
    refine toe [(1,sl tInt l1),(2,.b 0 0),(4,.b 1 0),(20,.b 0 0),(21,sl tR d0.relations),(22,.m [2] 0 us_9.length tR.k)] rfl ?_
    refine TO_st (σ':=[.box [sl tR d0.relations,sl tF d0.facts],.box [.n,.n],.row (flat tR.enc us_9),.dead]) rfl ?_
    refine Tp rfl rfl (pur_build bld27 rfl rfl) rfl ?_
    refine TO_cons rfl (TOp_alloc zero27 rfl rfl ?_)
    refine TO_cons rfl (TOp_storeB sz27 rfl rfl rfl rfl rfl rfl rfl (by decide) (lb rfl) rfl ?_)
    refine TO_st (σ':=[.box [sl tR d0.relations,sl tF d0.facts],.box [.n,.n],.row (flat tR.enc us_9),.dead,.box [.m [2] 0 us_9.length tR.k,.n]]) rfl ?_
    refine TO_nil (T_seq (sr ?_))
    refine pv tb 1 rfl ?_
    refine TO_nil ?_
    refine T_row0 ?_
    refine T_boxle (xs:=[.m [2] 0 us_9.length tR.k,.n]) (ys:=[.m [2] 0 us_9.length tR.k,.m [5] 0 ([]:(List Fact)).length tF.k]) 4 rfl (leCons (leR rfl) (leCons leM leNil)) ?_
    refine T_st (σ':=[.box [sl tR d0.relations,sl tF d0.facts],.box [.n,.n],.row (flat tR.enc us_9),.dead,.box [.m [2] 0 us_9.length tR.k,.m [5] 0 ([]:(List Fact)).length tF.k],.row (flat tF.enc ([]:(List Fact)))]) rfl ?_
    obtain ⟨O12_,L12_,N12_⟩:=bind_inv H
    clear H
    obtain ⟨B12_,hb12,L12_⟩:=gen_forS L12_
    refine T_block ?_
    refine T_loopX (fun k=>fun (⟨i_11,box4_facts⟩:Nat × (List Fact))=>k=l1.length - i_11∧forS B12_ (l1.drop i_11) (i_11:Int) box4_facts=some O12_) (fun (⟨i_11,box4_facts⟩:Nat × (List Fact))=>[(1,sl tInt l1),(2,.b 0 0),(4,.b 1 0),(6,.b 4 0),(7,intA (i_11:Int))]) (fun (⟨i_11,box4_facts⟩:Nat × (List Fact))=>[.box [sl tR d0.relations,sl tF d0.facts],.box [.n,.n],.row (flat tR.enc us_9),.dead,.box [.m [2] 0 us_9.length tR.k,.m [5] 0 box4_facts.length tF.k],.row (flat tF.enc box4_facts)]) _ (0,([]:(List Fact))) (w0 6) ⟨rfl,L12_⟩ ?_
    rintro _ ⟨i_11,box4_facts⟩ ⟨rfl,L12_⟩
    refine T_fact (len_sl (T:=tInt) (.tmp 1) rfl) (fun hl12=>?_)
    refine T_seq (sr ?_)
    refine pv tb 2 rfl ?_
    refine Tp rfl rfl (pur_lenT (T:=tInt) sl28 rfl rfl) rfl ?_
    refine pv tb 1 rfl ?_
    refine TO_nil ?_
    refine T_cond (t:=decide ((i_11:Int)<(l1.length:Int))) rfl (fun d12=>?_) (fun d12=>?_)
    ·replace d12:=of_decide_eq_true d12
     obtain ⟨x_i_11,hx_i_11⟩:∃ v,(l1)[i_11]?=some v:=⟨_,List.getElem?_eq_getElem (by omega)⟩
     obtain ⟨C12_,H,K12_⟩:=forS_step L12_ hx_i_11
     rw [hb12] at H
     refine T_skip ?_
     refine T_seq ?_
     refine T_block ?_
     obtain ⟨v_13,h_14,H⟩:=bind_inv H
     obtain ⟨n_15,hz_16,hv_17⟩:=getI_inv h_14
     refine T_cutX (fun (_:Unit)=>True) (fun _=>[(1,sl tInt l1),(2,.b 0 0),(4,.b 1 0),(6,.b 4 0),(7,intA (i_11:Int)),(8,.b 6 0)]) (fun _=>[.box [sl tR d0.relations,sl tF d0.facts],.box [.n,.n],.row (flat tR.enc us_9),.dead,.box [.m [2] 0 us_9.length tR.k,.m [5] 0 box4_facts.length tF.k],.row (flat tF.enc box4_facts),.box [intA v_13.relation,sl tInt v_13.values]]) ?_ ?_
     ·skip
      refine T_regionP 6 mixed rfl ?_
      refine pa tb [0,1,2,3] 6 rfl (by kernel_rfl) rfl ?_
      refine tf 4 rfl (pur_ixT (T:=tInt) sl28 rfl rfl rfl hx_i_11 rfl) rfl rfl (by kernel_rfl) ?_
      refine tf 5 rfl (pur_ldT (T:=tInt) (i:=i_11) (off:=0) rfl one3 rfl rfl hx_i_11 rfl) rfl rfl (by kernel_rfl) ?_
      refine tf 6 rfl (pur_ixT (T:=tF) sl25 rfl rfl hz_16 hv_17 rfl) rfl rfl (by kernel_rfl) ?_
      refine tf 7 rfl (pur_ldTK (T:=tF) (i:=n_15) (off:=0) rfl agg30 rfl rfl hv_17 (by decide) rfl) rfl rfl (by kernel_rfl) ?_
      refine t1 8 (by kernel_rfl) rfl rfl (TOp_alloc zero30 rfl rfl ?_)
      refine t1 9 (by kernel_rfl) rfl rfl (TOp_storeB sz30 rfl rfl rfl rfl rfl rfl rfl (by decide) (lb rfl) rfl ?_)
      refine TA_st (σ':=[.dead,.dead,.row (flat tR.enc us_9),.dead,.dead,.row (flat tF.enc box4_facts),.box [intA v_13.relation,sl tInt v_13.values]]) rfl ?_
      exact TA_nil (by kernel_rfl) (joined () (w0 7) trivial)
     ·rintro _ _
      obtain ⟨us_18,h_19,H⟩:=bind_inv H
      obtain ⟨us_20,h_21,H⟩:=bind_inv H
      refine T_pad ?_
      refine T_pad ?_
      refine T_pad ?_
      refine T_pad ?_
      refine T_regionPh 7 12 mixed rfl (by kernel_rfl) ?_
      refine pa tb [0,1,2,3,5,6] 6 rfl (by kernel_rfl) rfl ?_
      refine t1 4 (by kernel_rfl) rfl rfl (TOp_lit (nn:=0) (k:=1) sl28 zero3 rfl rfl rfl rfl (by decide) ?_)
      refine tmw 7 11 (by decide) (lb rfl) rfl rfl (lb rfl) rfl ?_
      refine t1 7 (by kernel_rfl) rfl rfl (TOp_appY (T:=tInt) (f:=tInt.enc) (xs:=([]:(List Int))) (ys:=v_13.values) tInt.len sl28 zero3 rfl bytes3 (by decide) rfl rfl rfl rfl (src_T (T:=tInt) rfl) (flat_cell tInt _) h_19 ?_)
      refine tmw 7 12 (by decide) (lb rfl) rfl rfl (lb rfl) rfl ?_
      refine tae [(1,sl tInt l1),(2,.b 0 0),(4,.b 1 0),(6,.b 4 0),(7,intA (i_11:Int)),(39,.m [5] 0 box4_facts.length tF.k),(41,intA v_13.relation),(45,.m [7] 0 us_18.length tInt.k)] rfl ?_
      refine TA_st (σ':=[.dead,.dead,.row (flat tR.enc us_9),.dead,.dead,.row (flat tF.enc box4_facts),.dead,.row (flat tInt.enc us_18),.dead,.dead,.dead,.dead,.dead]) rfl ?_
      refine tf 8 rfl (pur_build bld30 rfl rfl) rfl rfl (by kernel_rfl) ?_
      refine TA_ghost (E':=[(1,sl tInt l1),(2,.b 0 0),(4,.b 1 0),(6,.b 4 0),(7,intA (i_11:Int)),(39,.m [5] 0 box4_facts.length tF.k),(41,intA v_13.relation),(45,.m [7] 0 us_18.length tInt.k),(46,.g [intA v_13.relation,.m [7] 0 us_18.length tInt.k])]) (σ':=[.dead,.dead,.row (flat tR.enc us_9),.dead,.dead,.row (flat tF.enc box4_facts),.dead,.row (flat tInt.enc us_18),.dead,.dead,.dead,.dead,.dead]) (Ghost.weak (WeakL.to 13 (lb rfl) rfl rfl rfl rfl ⟨leR rfl,leR rfl,leR rfl,leR rfl,leR rfl,leR rfl,leR rfl,leR rfl,leR rfl,trivial⟩)) ?_
      refine TA_frz1 7 (E':=[(1,sl tInt l1),(2,.b 0 0),(4,.b 1 0),(6,.b 4 0),(7,intA (i_11:Int)),(39,.m [5] 0 box4_facts.length tF.k),(41,intA v_13.relation),(45,sl tInt us_18),(46,.g [intA v_13.relation,sl tInt us_18])]) rfl rfl (lb rfl) ?_ ?_
      ·exact ⟨.keep rfl,.keep rfl,.keep rfl,.keep rfl,.keep rfl,.keep rfl,.keep rfl,fz1E,fz1G (fzC (.keep rfl) (fzC fz1E fzN)),trivial⟩
      refine TA_st (σ':=[.dead,.dead,.row (flat tR.enc us_9),.dead,.dead,.row (flat tF.enc box4_facts),.dead,.dead,.dead,.dead,.dead,.dead,.dead]) rfl ?_
      refine t1 9 (by kernel_rfl) rfl rfl (TOp_lit (nn:=1) (k:=2) sl25 zero30 rfl rfl rfl rfl (by decide) ?_)
      refine tmw 9 13 (by decide) (lb rfl) rfl rfl (lb rfl) rfl ?_
      refine t1 10 (by kernel_rfl) rfl rfl (TOp_appY (T:=tF) (f:=tF.enc) (xs:=box4_facts) (ys:=([({ relation:=v_13.relation,values:=us_18 }:Fact)]:(List Fact))) tF.len sl25 zero30 rfl bytes30 (by decide) rfl rfl rfl rfl (src_mT (f:=tF.enc) tF.len rfl rfl (flat_cell tF _)) (flat_cell tF _) h_21 ?_)
      refine tmw 10 14 (by decide) (lb rfl) rfl rfl (lb rfl) rfl ?_
      refine tae [(1,sl tInt l1),(2,.b 0 0),(4,.b 1 0),(6,.b 4 0),(7,intA (i_11:Int)),(48,.m [10] 0 us_20.length tF.k)] rfl ?_
      refine TA_st (σ':=[.dead,.dead,.row (flat tR.enc us_9),.dead,.dead,.dead,.dead,.dead,.dead,.row (flat tF.enc ([({ relation:=v_13.relation,values:=us_18 }:Fact)]:(List Fact))),.row (flat tF.enc us_20),.dead,.dead,.dead,.dead]) rfl ?_
      refine pa tb [11] 0 rfl (by kernel_rfl) rfl ?_
      refine TA_nil (by kernel_rfl) ?_
      refine TA_st (σ':=[.box [sl tR d0.relations,sl tF d0.facts],.box [.n,.n],.row (flat tR.enc us_9),.dead,.box [.m [2] 0 us_9.length tR.k,.m [5] 0 box4_facts.length tF.k],.dead,.box [intA v_13.relation,sl tInt v_13.values],.dead,.dead,.row (flat tF.enc ([({ relation:=v_13.relation,values:=us_18 }:Fact)]:(List Fact))),.row (flat tF.enc us_20),.dead,.dead,.dead,.dead]) rfl ?_
      refine tmv 5 10 (by decide) (lb rfl) rfl rfl (lb rfl) ?_
      refine TA_st (σ':=[.box [sl tR d0.relations,sl tF d0.facts],.box [.n,.n],.row (flat tR.enc us_9),.dead,.box [.m [2] 0 us_9.length tR.k,.j],.row (flat tF.enc us_20),.box [intA v_13.relation,sl tInt v_13.values],.dead,.dead,.row (flat tF.enc ([({ relation:=v_13.relation,values:=us_18 }:Fact)]:(List Fact))),.dead,.dead,.dead,.dead,.dead]) rfl ?_
      refine t1 12 (by kernel_rfl) rfl rfl (TOp_storeB sz25 rfl rfl rfl rfl rfl rfl rfl (by decide) (lb rfl) rfl ?_)
      refine TA_st (σ':=[.box [sl tR d0.relations,sl tF d0.facts],.box [.n,.n],.row (flat tR.enc us_9),.dead,.box [.m [2] 0 us_9.length tR.k,.m [5] 0 us_20.length tF.k],.row (flat tF.enc us_20),.box [intA v_13.relation,sl tInt v_13.values],.dead,.dead,.row (flat tF.enc ([({ relation:=v_13.relation,values:=us_18 }:Fact)]:(List Fact))),.dead,.dead,.dead,.dead,.dead]) rfl ?_
      refine TA_nil (by kernel_rfl) ?_
      refine T_region ?_
      refine pv tb 1 rfl ?_
      refine Tp rfl rfl (pur_add rfl rfl rfl (fits64 (by omega) (by omega))) rfl ?_
      refine pv tb 1 rfl ?_
      refine TO_nil ?_
      obtain rfl:=some_inj H
      exact again (l1.length - (i_11+1)) (i_11+1,us_20) (by omega) (w0 6) ⟨rfl,K12_⟩
    ·replace d12:=of_decide_eq_false d12
     obtain rfl:=forS_end L12_ (by omega)
     refine T_exit ?_
     refine then_exit ?_
     refine then_exit ?_
     refine block_exit ?_
     replace H:=N12_
     refine sr ?_
     refine pv tb 1 rfl ?_
     refine TO_cons rfl (TOp_storeB sz27 rfl rfl rfl rfl rfl rfl rfl (by decide) (lb rfl) rfl ?_)
     refine TO_st (σ':=[.box [sl tR d0.relations,sl tF d0.facts],.box [.m [2] 0 us_9.length tR.k,.m [5] 0 box4_facts.length tF.k],.row (flat tR.enc us_9),.dead,.box [.m [2] 0 us_9.length tR.k,.m [5] 0 box4_facts.length tF.k],.row (flat tF.enc box4_facts)]) rfl ?_
     refine pv tb 1 rfl ?_
     refine TO_nil ?_
     refine T_ret ?_
     obtain rfl:=some_inj H
     exact end_pick (.cellK rfl agg27 rfl (lb rfl) (.tmp .nil)) rfl [2,5] (by decide) rfl rfl rfl rfl rfl rfl

theorem msResolveConflict_own (u:Nat) (d0:Database) (f1:Fact) (r:(Database × Bool)) (H:msResolveConflict u d0 f1=some r):FnO prg 25 [.g (tD.enc d0),.g (tF.enc f1)] (.t [.g [.m [0] 0 r.1.relations.length tR.k,.m [1] 0 r.1.facts.length tF.k],boolA r.2]) [.row (flat tR.own r.1.relations),.row (flat tF.own r.1.facts)]:=by
  unfold msResolveConflict at H
  refine fnO_of_T Tryz.func25 rfl rfl (Nat.le_of_ble_eq_true rfl) ?_
  refine te [(0,.g (tD.enc d0)),(1,.g (tF.enc f1))] rfl ?_
  refine sr ?_
  refine TO_cons rfl (TOp_box rfl (boxAll rfl) rfl rfl ?_)
  refine TO_cons rfl (TOp_box rfl (boxAll rfl) rfl rfl ?_)
  refine TO_cons rfl (TOp_alloc zero27 rfl rfl ?_)
  refine pv tb 1 rfl ?_
  refine TO_nil (T_seq (sr ?_))
  obtain ⟨r_1,h_2,H⟩:=bind_inv H
  refine pv tb 2 rfl ?_
  refine TO_cons rfl (TOp_callV (call_static ent53 rfl) (msContainsFact_ok u _ _ _ h_2) rfl rfl rfl ?_)
  refine pv tb 1 rfl ?_
  refine TO_nil ?_
  refine T_cond (t:=(!r_1)) rfl (fun c_3=>?_) (fun c_3=>?_)
  ·replace H:=cond_t c_3 H
   refine sr ?_
   obtain ⟨r_4,h_5,H⟩:=bind_inv H
   refine pv tb 1 rfl ?_
   refine TO_cons rfl (TOp_callO (call_static ent22 rfl) rfl (msl4Copy_own u _ _ h_5) rfl rfl rfl ?_)
   refine toe [(2,.b 0 0),(3,.b 1 0),(4,.b 2 0),(15,boolA (!r_1)),(16,.g (tD.enc d0)),(17,.g [.m [3] 0 r_4.relations.length tR.k,.m [4] 0 r_4.facts.length tF.k])] rfl ?_
   refine TO_st (σ':=[.box [sl tR d0.relations,sl tF d0.facts],.box [intA f1.relation,sl tInt f1.values],.box [.n,.n],.row (flat tR.own r_4.relations),.row (flat tF.own r_4.facts)]) rfl ?_
   refine TO_cons rfl (TOp_storeB sz27 rfl rfl rfl rfl rfl rfl rfl (by decide) (lb rfl) rfl ?_)
   refine TO_st (σ':=[.box [sl tR d0.relations,sl tF d0.facts],.box [intA f1.relation,sl tInt f1.values],.box [.m [3] 0 r_4.relations.length tR.k,.m [4] 0 r_4.facts.length tF.k],.row (flat tR.own r_4.relations),.row (flat tF.own r_4.facts)]) rfl ?_
   refine pv tb 1 rfl ?_
   refine TO_nil ?_
   refine T_ret ?_
   refine then_ret ?_
   obtain rfl:=some_inj H
   exact end_pick (.cellK rfl agg27 rfl (lb rfl) (.tmp .nil)) rfl [3,4] (by decide) rfl rfl rfl rfl rfl rfl
  ·replace H:=cond_f c_3 H
   refine T_skip ?_
   refine sr ?_
   obtain ⟨r_6,h_7,H⟩:=bind_inv H
   refine pv tb 2 rfl ?_
   refine TO_cons rfl (TOp_callV (call_static ent54 rfl) (msFactIndex_ok u _ _ _ h_7) rfl rfl rfl ?_)
   refine pv tb 1 rfl ?_
   refine TO_nil (sr ?_)
   obtain ⟨r_8,h_9,H⟩:=bind_inv H
   refine pv tb 2 rfl ?_
   refine TO_cons rfl (TOp_callV (call_static ent55 rfl) (msBlockOf_ok u _ _ _ h_9) rfl rfl rfl ?_)
   refine pv tb 1 rfl ?_
   refine TO_nil (sr ?_)
   refine TO_cons rfl (TOp_lit (nn:=0) (k:=1) sl28 zero3 rfl rfl rfl rfl (by decide) ?_)
   refine TO_st (σ':=[.box [sl tR d0.relations,sl tF d0.facts],.box [intA f1.relation,sl tInt f1.values],.box [.n,.n],.row (flat tInt.enc ([]:(List Int)))]) rfl ?_
   refine pv tb 1 rfl ?_
   refine TO_nil ?_
   refine te [(2,.b 0 0),(4,.b 2 0),(6,intA r_6),(7,sl tInt r_8),(8,.m [3] 0 ([]:(List Int)).length tInt.k)] rfl ?_
   refine T_seq (sr ?_)
   refine pv tb 1 rfl ?_
   refine TO_nil ?_
   obtain ⟨O10_,L10_,N10_⟩:=bind_inv H
   clear H
   obtain ⟨B10_,hb10,L10_⟩:=gen_whileF L10_
   refine T_block ?_
   refine T_loopX (fun k=>fun (⟨keep8,i9⟩:(List Int) × Int)=>whileF B10_ k (keep8,i9)=some O10_) (fun (⟨keep8,i9⟩:(List Int) × Int)=>[(2,.b 0 0),(4,.b 2 0),(6,intA r_6),(7,sl tInt r_8),(8,.m [3] 0 keep8.length tInt.k),(9,intA i9)]) (fun (⟨keep8,i9⟩:(List Int) × Int)=>[.box [sl tR d0.relations,sl tF d0.facts],.box [intA f1.relation,sl tInt f1.values],.box [.n,.n],.row (flat tInt.enc keep8)]) u (([]:(List Int)),0) (w0 4) L10_ ?_
   rintro _ ⟨keep8,i9⟩ L10_
   obtain ⟨k10,rfl,C10_,H,K10_⟩:=while_step L10_
   rw [hb10] at H
   refine T_seq (sr ?_)
   refine pv tb 3 rfl ?_
   refine Tp rfl rfl (pur_lenT (T:=tF) sl25 rfl rfl) rfl ?_
   refine pv tb 1 rfl ?_
   refine TO_nil ?_
   refine T_cond (t:=decide (i9<(d0.facts.length:Int))) rfl (fun c_11=>?_) (fun c_11=>?_)
   ·replace H:=cond_t c_11 H
    refine T_skip ?_
    refine T_seq ?_
    refine T_block ?_
    obtain ⟨t40_12,J_12,H_13⟩:=bind_inv H
    refine T_cutX (fun x=>t40_12=x) (fun (t40_12:Bool)=>[(2,.b 0 0),(4,.b 2 0),(6,intA r_6),(7,sl tInt r_8),(8,.m [3] 0 keep8.length tInt.k),(9,intA i9),(40,boolA t40_12)]) (fun (t40_12:Bool)=>[.box [sl tR d0.relations,sl tF d0.facts],.box [intA f1.relation,sl tInt f1.values],.box [.n,.n],.row (flat tInt.enc keep8)]) ?_ ?_
    ·replace H:=J_12
     refine T_region ?_
     refine pv tb 4 rfl ?_
     refine TO_split (t:=decide (i9=r_6)) 35 rfl (fun g_14=>?_) (fun g_14=>?_)
     ·replace H:=cond_t g_14 H
      refine pv tb 5 rfl ?_
      refine TO_nil ?_
      exact joined true (w0 4) (some_inj H).symm
     ·replace H:=cond_f g_14 H
      obtain ⟨r_15,h_16,H⟩:=bind_inv H
      refine pv tb 2 rfl ?_
      refine TO_on rfl rfl (by decide) rfl rfl (TOp_callV (call_static ent56 rfl) (msl7Has_ok _ _ _ h_16) rfl rfl rfl ?_)
      refine pv tb 2 rfl ?_
      refine TO_nil ?_
      exact joined (!r_15) (w0 4) (some_inj H).symm
    ·rintro _ rfl
     replace H:=H_13
     refine T_cond (t:=t40_12) rfl (fun c_17=>?_) (fun c_17=>?_)
     ·replace H:=cond_t c_17 H
      refine T_region ?_
      refine pv tb 2 rfl ?_
      refine TO_cons rfl (TOp_lit (nn:=1) (k:=1) sl28 zero3 rfl rfl rfl rfl (by decide) ?_)
      refine TO_st (σ':=[.box [sl tR d0.relations,sl tF d0.facts],.box [intA f1.relation,sl tInt f1.values],.box [.n,.n],.row (flat tInt.enc keep8),.row (flat tInt.enc ([i9]:(List Int)))]) rfl ?_
      obtain ⟨us_18,h_19,H⟩:=bind_inv H
      refine TO_cons rfl (TOp_appZ (T:=tInt) (f:=tInt.enc) (xs:=keep8) (ys:=([i9]:(List Int))) tInt.len sl28 zero3 rfl bytes3 (by decide) rfl rfl rfl rfl (src_mT (f:=tInt.enc) tInt.len rfl rfl (flat_cell tInt _)) (flat_cell tInt _) h_19 (lb rfl) ?_)
      refine toe [(2,.b 0 0),(4,.b 2 0),(6,intA r_6),(7,sl tInt r_8),(9,intA i9),(40,boolA t40_12),(42,intA i9),(43,.m [4] 0 ([i9]:(List Int)).length tInt.k),(44,.m [3] 0 us_18.length tInt.k)] rfl ?_
      refine TO_st (σ':=[.box [sl tR d0.relations,sl tF d0.facts],.box [intA f1.relation,sl tInt f1.values],.box [.n,.n],.row (flat tInt.enc us_18),.row (flat tInt.enc ([i9]:(List Int))),.dead]) rfl ?_
      refine pv tb 1 rfl ?_
      refine TO_nil (T_region ?_)
      refine pv tb 3 rfl ?_
      refine TO_nil ?_
      obtain rfl:=some_inj H
      exact again k10 (us_18,w64 (i9+1)) (Nat.lt_succ_self _) (w0 4) K10_
     ·replace H:=cond_f c_17 H
      refine T_skip ?_
      refine T_region ?_
      refine pv tb 3 rfl ?_
      refine TO_nil ?_
      obtain rfl:=some_inj H
      exact again k10 (keep8,w64 (i9+1)) (Nat.lt_succ_self _) (w0 4) K10_
   ·replace H:=cond_f c_11 H
    refine T_exit ?_
    refine then_exit ?_
    refine then_exit ?_
    refine block_exit ?_
    obtain rfl:=some_inj H
    obtain rfl:=some_inj K10_
    replace H:=onS_l N10_
    refine sr ?_
    obtain ⟨r_20,h_21,H⟩:=bind_inv H
    refine pv tb 2 rfl ?_
    refine TO_cons rfl (TOp_callOG (call_static ent57 rfl) (frz_cons (frz_loose rfl) (frz_cons (frzTE (T:=tInt) rfl) frz_nil)).1 (frz_cons (frz_loose rfl) (frz_cons (frzTE (T:=tInt) rfl) frz_nil)).2 (msSelectFacts_own u _ _ _ h_21) rfl (ownC_of (ownSB_cons (flat_ownR tR _) (ownSB_cons (flat_ownR tF _) ownSB_nil))) rfl rfl rfl ?_)
    refine toe [(2,.b 0 0),(4,.b 2 0),(8,.m [3] 0 keep8.length tInt.k),(46,.g (tD.enc d0)),(47,.m [3] 0 keep8.length tInt.k),(48,.t [.g [.m [4] 0 r_20.1.relations.length tR.k,.m [5] 0 r_20.1.facts.length tF.k],boolA r_20.2])] rfl ?_
    refine TO_st (σ':=[.box [sl tR d0.relations,sl tF d0.facts],.box [intA f1.relation,sl tInt f1.values],.box [.n,.n],.row (flat tInt.enc keep8),.row (flat tR.own r_20.1.relations),.row (flat tF.own r_20.1.facts)]) rfl ?_
    refine pv tb 3 rfl ?_
    refine TO_cons rfl (TOp_alloc zero27 rfl rfl ?_)
    refine TO_cons rfl (TOp_storeB sz27 rfl rfl rfl rfl rfl rfl rfl (by decide) (lb rfl) rfl ?_)
    refine TO_st (σ':=[.box [sl tR d0.relations,sl tF d0.facts],.box [intA f1.relation,sl tInt f1.values],.box [.n,.n],.row (flat tInt.enc keep8),.row (flat tR.own r_20.1.relations),.row (flat tF.own r_20.1.facts),.box [.m [4] 0 r_20.1.relations.length tR.k,.m [5] 0 r_20.1.facts.length tF.k]]) rfl ?_
    refine pv tb 1 rfl ?_
    refine TO_nil (sr ?_)
    refine pv tb 1 rfl ?_
    refine TO_cons rfl (TOp_storeB sz27 rfl rfl rfl rfl rfl rfl rfl (by decide) (lb rfl) rfl ?_)
    refine TO_st (σ':=[.box [sl tR d0.relations,sl tF d0.facts],.box [intA f1.relation,sl tInt f1.values],.box [.m [4] 0 r_20.1.relations.length tR.k,.m [5] 0 r_20.1.facts.length tF.k],.row (flat tInt.enc keep8),.row (flat tR.own r_20.1.relations),.row (flat tF.own r_20.1.facts),.box [.m [4] 0 r_20.1.relations.length tR.k,.m [5] 0 r_20.1.facts.length tF.k]]) rfl ?_
    refine pv tb 1 rfl ?_
    refine TO_nil ?_
    refine T_ret ?_
    obtain rfl:=some_inj H
    exact end_pick (.cellK rfl agg27 rfl (lb rfl) (.tmp .nil)) rfl [4,5] (by decide) rfl rfl rfl rfl rfl rfl
theorem msResolveConflict_ok (u:Nat) (d0:Database) (f1:Fact) (r:(Database × Bool)) (H:msResolveConflict u d0 f1=some r):FnV prg 25 [.g (tD.enc d0),.g (tF.enc f1)] (.t [.g (tD.enc r.1),boolA r.2]):=(msResolveConflict_own u d0 f1 r H).frz (frzOK_t (frz_cons (frzOK_g (frz_cons (frzT (T:=tR) rfl) (frz_cons (frzT (T:=tF) rfl) frz_nil)).1 (frz_cons (frzT (T:=tR) rfl) (frz_cons (frzT (T:=tF) rfl) frz_nil)).2) (frz_cons (frz_loose rfl) frz_nil)).1 (frz_cons (frzOK_g (frz_cons (frzT (T:=tR) rfl) (frz_cons (frzT (T:=tF) rfl) frz_nil)).1 (frz_cons (frzT (T:=tR) rfl) (frz_cons (frzT (T:=tF) rfl) frz_nil)).2) (frz_cons (frz_loose rfl) frz_nil)).2)

theorem msResolveConflict_enc (u:Nat) (d0:Database) (f1:Fact) (r:(Database × Bool)) (H:msResolveConflict u d0 f1=some r):FnO prg 25 [.g (tD.enc d0),.g (tF.enc f1)] (.t [.g [.m [0] 0 r.1.relations.length tR.k,.m [1] 0 r.1.facts.length tF.k],boolA r.2]) [.row (flat tR.enc r.1.relations),.row (flat tF.enc r.1.facts)]:=by
  unfold msResolveConflict at H
  refine fnO_of_T Tryz.func25 rfl rfl (Nat.le_of_ble_eq_true rfl) ?_
  refine te [(0,.g (tD.enc d0)),(1,.g (tF.enc f1))] rfl ?_
  refine sr ?_
  refine TO_cons rfl (TOp_box rfl (boxAll rfl) rfl rfl ?_)
  refine TO_cons rfl (TOp_box rfl (boxAll rfl) rfl rfl ?_)
  refine TO_cons rfl (TOp_alloc zero27 rfl rfl ?_)
  refine pv tb 1 rfl ?_
  refine TO_nil (T_seq (sr ?_))
  obtain ⟨r_1,h_2,H⟩:=bind_inv H
  refine pv tb 2 rfl ?_
  refine TO_cons rfl (TOp_callV (call_static ent53 rfl) (msContainsFact_ok u _ _ _ h_2) rfl rfl rfl ?_)
  refine pv tb 1 rfl ?_
  refine TO_nil ?_
  refine T_cond (t:=(!r_1)) rfl (fun c_3=>?_) (fun c_3=>?_)
  ·replace H:=cond_t c_3 H
   refine sr ?_
   obtain ⟨r_4,h_5,H⟩:=bind_inv H
   refine pv tb 1 rfl ?_
   refine TO_cons rfl (TOp_callO (call_static ent22 rfl) rfl (msl4Copy_enc u _ _ h_5) rfl rfl rfl ?_)
   refine toe [(2,.b 0 0),(3,.b 1 0),(4,.b 2 0),(15,boolA (!r_1)),(16,.g (tD.enc d0)),(17,.g [.m [3] 0 r_4.relations.length tR.k,.m [4] 0 r_4.facts.length tF.k])] rfl ?_
   refine TO_st (σ':=[.box [sl tR d0.relations,sl tF d0.facts],.box [intA f1.relation,sl tInt f1.values],.box [.n,.n],.row (flat tR.enc r_4.relations),.row (flat tF.enc r_4.facts)]) rfl ?_
   refine TO_cons rfl (TOp_storeB sz27 rfl rfl rfl rfl rfl rfl rfl (by decide) (lb rfl) rfl ?_)
   refine TO_st (σ':=[.box [sl tR d0.relations,sl tF d0.facts],.box [intA f1.relation,sl tInt f1.values],.box [.m [3] 0 r_4.relations.length tR.k,.m [4] 0 r_4.facts.length tF.k],.row (flat tR.enc r_4.relations),.row (flat tF.enc r_4.facts)]) rfl ?_
   refine pv tb 1 rfl ?_
   refine TO_nil ?_
   refine T_ret ?_
   refine then_ret ?_
   obtain rfl:=some_inj H
   exact end_pick (.cellK rfl agg27 rfl (lb rfl) (.tmp .nil)) rfl [3,4] (by decide) rfl rfl rfl rfl rfl rfl
  ·replace H:=cond_f c_3 H
   refine T_skip ?_
   refine sr ?_
   obtain ⟨r_6,h_7,H⟩:=bind_inv H
   refine pv tb 2 rfl ?_
   refine TO_cons rfl (TOp_callV (call_static ent54 rfl) (msFactIndex_ok u _ _ _ h_7) rfl rfl rfl ?_)
   refine pv tb 1 rfl ?_
   refine TO_nil (sr ?_)
   obtain ⟨r_8,h_9,H⟩:=bind_inv H
   refine pv tb 2 rfl ?_
   refine TO_cons rfl (TOp_callV (call_static ent55 rfl) (msBlockOf_ok u _ _ _ h_9) rfl rfl rfl ?_)
   refine pv tb 1 rfl ?_
   refine TO_nil (sr ?_)
   refine TO_cons rfl (TOp_lit (nn:=0) (k:=1) sl28 zero3 rfl rfl rfl rfl (by decide) ?_)
   refine TO_st (σ':=[.box [sl tR d0.relations,sl tF d0.facts],.box [intA f1.relation,sl tInt f1.values],.box [.n,.n],.row (flat tInt.enc ([]:(List Int)))]) rfl ?_
   refine pv tb 1 rfl ?_
   refine TO_nil ?_
   refine te [(2,.b 0 0),(4,.b 2 0),(6,intA r_6),(7,sl tInt r_8),(8,.m [3] 0 ([]:(List Int)).length tInt.k)] rfl ?_
   refine T_seq (sr ?_)
   refine pv tb 1 rfl ?_
   refine TO_nil ?_
   obtain ⟨O10_,L10_,N10_⟩:=bind_inv H
   clear H
   obtain ⟨B10_,hb10,L10_⟩:=gen_whileF L10_
   refine T_block ?_
   refine T_loopX (fun k=>fun (⟨keep8,i9⟩:(List Int) × Int)=>whileF B10_ k (keep8,i9)=some O10_) (fun (⟨keep8,i9⟩:(List Int) × Int)=>[(2,.b 0 0),(4,.b 2 0),(6,intA r_6),(7,sl tInt r_8),(8,.m [3] 0 keep8.length tInt.k),(9,intA i9)]) (fun (⟨keep8,i9⟩:(List Int) × Int)=>[.box [sl tR d0.relations,sl tF d0.facts],.box [intA f1.relation,sl tInt f1.values],.box [.n,.n],.row (flat tInt.enc keep8)]) u (([]:(List Int)),0) (w0 4) L10_ ?_
   rintro _ ⟨keep8,i9⟩ L10_
   obtain ⟨k10,rfl,C10_,H,K10_⟩:=while_step L10_
   rw [hb10] at H
   refine T_seq (sr ?_)
   refine pv tb 3 rfl ?_
   refine Tp rfl rfl (pur_lenT (T:=tF) sl25 rfl rfl) rfl ?_
   refine pv tb 1 rfl ?_
   refine TO_nil ?_
   refine T_cond (t:=decide (i9<(d0.facts.length:Int))) rfl (fun c_11=>?_) (fun c_11=>?_)
   ·replace H:=cond_t c_11 H
    refine T_skip ?_
    refine T_seq ?_
    refine T_block ?_
    obtain ⟨t40_12,J_12,H_13⟩:=bind_inv H
    refine T_cutX (fun x=>t40_12=x) (fun (t40_12:Bool)=>[(2,.b 0 0),(4,.b 2 0),(6,intA r_6),(7,sl tInt r_8),(8,.m [3] 0 keep8.length tInt.k),(9,intA i9),(40,boolA t40_12)]) (fun (t40_12:Bool)=>[.box [sl tR d0.relations,sl tF d0.facts],.box [intA f1.relation,sl tInt f1.values],.box [.n,.n],.row (flat tInt.enc keep8)]) ?_ ?_
    ·replace H:=J_12
     refine T_region ?_
     refine pv tb 4 rfl ?_
     refine TO_split (t:=decide (i9=r_6)) 35 rfl (fun g_14=>?_) (fun g_14=>?_)
     ·replace H:=cond_t g_14 H
      refine pv tb 5 rfl ?_
      refine TO_nil ?_
      exact joined true (w0 4) (some_inj H).symm
     ·replace H:=cond_f g_14 H
      obtain ⟨r_15,h_16,H⟩:=bind_inv H
      refine pv tb 2 rfl ?_
      refine TO_on rfl rfl (by decide) rfl rfl (TOp_callV (call_static ent56 rfl) (msl7Has_ok _ _ _ h_16) rfl rfl rfl ?_)
      refine pv tb 2 rfl ?_
      refine TO_nil ?_
      exact joined (!r_15) (w0 4) (some_inj H).symm
    ·rintro _ rfl
     replace H:=H_13
     refine T_cond (t:=t40_12) rfl (fun c_17=>?_) (fun c_17=>?_)
     ·replace H:=cond_t c_17 H
      refine T_region ?_
      refine pv tb 2 rfl ?_
      refine TO_cons rfl (TOp_lit (nn:=1) (k:=1) sl28 zero3 rfl rfl rfl rfl (by decide) ?_)
      refine TO_st (σ':=[.box [sl tR d0.relations,sl tF d0.facts],.box [intA f1.relation,sl tInt f1.values],.box [.n,.n],.row (flat tInt.enc keep8),.row (flat tInt.enc ([i9]:(List Int)))]) rfl ?_
      obtain ⟨us_18,h_19,H⟩:=bind_inv H
      refine TO_cons rfl (TOp_appZ (T:=tInt) (f:=tInt.enc) (xs:=keep8) (ys:=([i9]:(List Int))) tInt.len sl28 zero3 rfl bytes3 (by decide) rfl rfl rfl rfl (src_mT (f:=tInt.enc) tInt.len rfl rfl (flat_cell tInt _)) (flat_cell tInt _) h_19 (lb rfl) ?_)
      refine toe [(2,.b 0 0),(4,.b 2 0),(6,intA r_6),(7,sl tInt r_8),(9,intA i9),(40,boolA t40_12),(42,intA i9),(43,.m [4] 0 ([i9]:(List Int)).length tInt.k),(44,.m [3] 0 us_18.length tInt.k)] rfl ?_
      refine TO_st (σ':=[.box [sl tR d0.relations,sl tF d0.facts],.box [intA f1.relation,sl tInt f1.values],.box [.n,.n],.row (flat tInt.enc us_18),.row (flat tInt.enc ([i9]:(List Int))),.dead]) rfl ?_
      refine pv tb 1 rfl ?_
      refine TO_nil (T_region ?_)
      refine pv tb 3 rfl ?_
      refine TO_nil ?_
      obtain rfl:=some_inj H
      exact again k10 (us_18,w64 (i9+1)) (Nat.lt_succ_self _) (w0 4) K10_
     ·replace H:=cond_f c_17 H
      refine T_skip ?_
      refine T_region ?_
      refine pv tb 3 rfl ?_
      refine TO_nil ?_
      obtain rfl:=some_inj H
      exact again k10 (keep8,w64 (i9+1)) (Nat.lt_succ_self _) (w0 4) K10_
   ·replace H:=cond_f c_11 H
    refine T_exit ?_
    refine then_exit ?_
    refine then_exit ?_
    refine block_exit ?_
    obtain rfl:=some_inj H
    obtain rfl:=some_inj K10_
    replace H:=onS_l N10_
    refine sr ?_
    refine pv tb 2 rfl ?_
    refine TO_frz1 3 (E':=[(2,.b 0 0),(4,.b 2 0),(8,sl tInt keep8),(46,.g (tD.enc d0)),(47,sl tInt keep8)]) rfl rfl (lb rfl) ⟨.keep rfl,.keep rfl,fz1E,.keep rfl,fz1E,trivial⟩ ?_
    refine TO_st (σ':=[.box [sl tR d0.relations,sl tF d0.facts],.box [intA f1.relation,sl tInt f1.values],.box [.n,.n],.dead]) rfl ?_
    obtain ⟨r_20,h_21,H⟩:=bind_inv H
    refine TO_cons rfl (TOp_callO (call_static ent57 rfl) rfl (msSelectFacts_enc u _ _ _ h_21) rfl rfl rfl ?_)
    refine toe [(2,.b 0 0),(4,.b 2 0),(8,sl tInt keep8),(46,.g (tD.enc d0)),(47,sl tInt keep8),(48,.t [.g [.m [4] 0 r_20.1.relations.length tR.k,.m [5] 0 r_20.1.facts.length tF.k],boolA r_20.2])] rfl ?_
    refine TO_st (σ':=[.box [sl tR d0.relations,sl tF d0.facts],.box [intA f1.relation,sl tInt f1.values],.box [.n,.n],.dead,.row (flat tR.enc r_20.1.relations),.row (flat tF.enc r_20.1.facts)]) rfl ?_
    refine pv tb 3 rfl ?_
    refine TO_cons rfl (TOp_alloc zero27 rfl rfl ?_)
    refine TO_cons rfl (TOp_storeB sz27 rfl rfl rfl rfl rfl rfl rfl (by decide) (lb rfl) rfl ?_)
    refine TO_st (σ':=[.box [sl tR d0.relations,sl tF d0.facts],.box [intA f1.relation,sl tInt f1.values],.box [.n,.n],.dead,.row (flat tR.enc r_20.1.relations),.row (flat tF.enc r_20.1.facts),.box [.m [4] 0 r_20.1.relations.length tR.k,.m [5] 0 r_20.1.facts.length tF.k]]) rfl ?_
    refine pv tb 1 rfl ?_
    refine TO_nil (sr ?_)
    refine pv tb 1 rfl ?_
    refine TO_cons rfl (TOp_storeB sz27 rfl rfl rfl rfl rfl rfl rfl (by decide) (lb rfl) rfl ?_)
    refine TO_st (σ':=[.box [sl tR d0.relations,sl tF d0.facts],.box [intA f1.relation,sl tInt f1.values],.box [.m [4] 0 r_20.1.relations.length tR.k,.m [5] 0 r_20.1.facts.length tF.k],.dead,.row (flat tR.enc r_20.1.relations),.row (flat tF.enc r_20.1.facts),.box [.m [4] 0 r_20.1.relations.length tR.k,.m [5] 0 r_20.1.facts.length tF.k]]) rfl ?_
    refine pv tb 1 rfl ?_
    refine TO_nil ?_
    refine T_ret ?_
    obtain rfl:=some_inj H
    exact end_pick (.cellK rfl agg27 rfl (lb rfl) (.tmp .nil)) rfl [4,5] (by decide) rfl rfl rfl rfl rfl rfl

theorem msApplyEdit_own (u:Nat) (d0:Database) (e1:Edit) (r:(Database × Bool)) (H:msApplyEdit u d0 e1=some r):FnO prg 7 [.g (tD.enc d0),.g (tEdit.enc e1)] (.t [.g [.m [0] 0 r.1.relations.length tR.k,.m [1] 0 r.1.facts.length tF.k],boolA r.2]) [.row (flat tR.enc r.1.relations),.row (flat tF.enc r.1.facts)]:=by
  unfold msApplyEdit at H
  refine fnO_of_T Tryz.func7 rfl rfl (Nat.le_of_ble_eq_true rfl) ?_
  refine te [(0,.g (tD.enc d0)),(1,.g (tEdit.enc e1))] rfl ?_
  refine sr ?_
  refine TO_cons rfl (TOp_box rfl (boxAll rfl) rfl rfl ?_)
  refine TO_cons rfl (TOp_box rfl (boxAll rfl) rfl rfl ?_)
  refine TO_cons rfl (TOp_alloc zero27 rfl rfl ?_)
  refine pv tb 1 rfl ?_
  refine TO_nil (sr ?_)
  obtain ⟨r_1,h_2,H⟩:=bind_inv H
  refine pv tb 1 rfl ?_
  refine TO_cons rfl (TOp_callO (call_static ent22 rfl) rfl (msl4Copy_enc u _ _ h_2) rfl rfl rfl ?_)
  refine toe [(2,.b 0 0),(3,.b 1 0),(4,.b 2 0),(8,.g (tD.enc d0)),(9,.g [.m [3] 0 r_1.relations.length tR.k,.m [4] 0 r_1.facts.length tF.k])] rfl ?_
  refine TO_st (σ':=[.box [sl tR d0.relations,sl tF d0.facts],.box [intA e1.kind,intA e1.fact.relation,sl tInt e1.fact.values],.box [.n,.n],.row (flat tR.enc r_1.relations),.row (flat tF.enc r_1.facts)]) rfl ?_
  refine TO_cons rfl (TOp_alloc zero27 rfl rfl ?_)
  refine TO_cons rfl (TOp_storeB sz27 rfl rfl rfl rfl rfl rfl rfl (by decide) (lb rfl) rfl ?_)
  refine TO_st (σ':=[.box [sl tR d0.relations,sl tF d0.facts],.box [intA e1.kind,intA e1.fact.relation,sl tInt e1.fact.values],.box [.n,.n],.row (flat tR.enc r_1.relations),.row (flat tF.enc r_1.facts),.box [.m [3] 0 r_1.relations.length tR.k,.m [4] 0 r_1.facts.length tF.k]]) rfl ?_
  refine TO_nil (sr ?_)
  refine pv tb 1 rfl ?_
  refine TO_nil (T_seq (sr ?_))
  refine pv tb 2 rfl ?_
  refine TO_nil ?_
  refine T_block ?_
  refine sr ?_
  refine pv tb 2 rfl ?_
  refine TO_nil ?_
  refine T_cond (t:=decide (e1.kind=1)) rfl (fun c_3=>?_) (fun c_3=>?_)
  ·replace H:=cond_t c_3 H
   refine T_region ?_
   obtain ⟨r_4,h_5,H⟩:=bind_inv H
   refine pv tb 3 rfl ?_
   refine TO_cons rfl (TOp_callO (call_static ent23 rfl) rfl (msInsertFact_own u _ _ _ h_5) rfl rfl rfl ?_)
   refine toe [(2,.b 0 0),(3,.b 1 0),(4,.b 2 0),(6,.b 5 0),(7,boolA false),(11,intA e1.kind),(12,boolA (decide (e1.kind=1))),(15,.g (tD.enc d0)),(16,.b 1 1),(17,.g (tF.enc e1.fact)),(18,.t [.g [.m [6] 0 r_4.1.relations.length tR.k,.m [7] 0 r_4.1.facts.length tF.k],boolA r_4.2])] rfl ?_
   refine TO_st (σ':=[.box [sl tR d0.relations,sl tF d0.facts],.box [intA e1.kind,intA e1.fact.relation,sl tInt e1.fact.values],.box [.n,.n],.row (flat tR.enc r_1.relations),.row (flat tF.enc r_1.facts),.box [.m [3] 0 r_1.relations.length tR.k,.m [4] 0 r_1.facts.length tF.k],.row (flat tR.enc r_4.1.relations),.row (flat tF.enc r_4.1.facts)]) rfl ?_
   refine pv tb 3 rfl ?_
   refine TO_cons rfl (TOp_storeB sz27 rfl rfl rfl rfl rfl rfl rfl (by decide) (lb rfl) rfl ?_)
   refine TO_st (σ':=[.box [sl tR d0.relations,sl tF d0.facts],.box [intA e1.kind,intA e1.fact.relation,sl tInt e1.fact.values],.box [.n,.n],.row (flat tR.enc r_1.relations),.row (flat tF.enc r_1.facts),.box [.m [6] 0 r_4.1.relations.length tR.k,.m [7] 0 r_4.1.facts.length tF.k],.row (flat tR.enc r_4.1.relations),.row (flat tF.enc r_4.1.facts)]) rfl ?_
   refine pv tb 1 rfl ?_
   refine TO_nil (sr ?_)
   refine pv tb 2 rfl ?_
   refine TO_cons rfl (TOp_storeB sz27 rfl rfl rfl rfl rfl rfl rfl (by decide) (lb rfl) rfl ?_)
   refine TO_st (σ':=[.box [sl tR d0.relations,sl tF d0.facts],.box [intA e1.kind,intA e1.fact.relation,sl tInt e1.fact.values],.box [.m [6] 0 r_4.1.relations.length tR.k,.m [7] 0 r_4.1.facts.length tF.k],.row (flat tR.enc r_1.relations),.row (flat tF.enc r_1.facts),.box [.m [6] 0 r_4.1.relations.length tR.k,.m [7] 0 r_4.1.facts.length tF.k],.row (flat tR.enc r_4.1.relations),.row (flat tF.enc r_4.1.facts)]) rfl ?_
   refine pv tb 1 rfl ?_
   refine TO_nil ?_
   refine te [(4,.b 2 0),(5,boolA r_4.2)] rfl ?_
   refine T_ret ?_
   obtain rfl:=some_inj H
   exact end_pick (.cellK rfl agg27 rfl (lb rfl) (.tmp .nil)) rfl [6,7] (by decide) rfl rfl rfl rfl rfl rfl
  ·replace H:=cond_f c_3 H
   refine sr ?_
   refine pv tb 2 rfl ?_
   refine TO_nil ?_
   refine T_cond (t:=decide (e1.kind=2)) rfl (fun c_6=>?_) (fun c_6=>?_)
   ·replace H:=cond_t c_6 H
    refine T_region ?_
    obtain ⟨r_7,h_8,H⟩:=bind_inv H
    refine pv tb 3 rfl ?_
    refine TO_cons rfl (TOp_callO (call_static ent24 rfl) rfl (msDeleteFact_own u _ _ _ h_8) rfl rfl rfl ?_)
    refine toe [(2,.b 0 0),(3,.b 1 0),(4,.b 2 0),(6,.b 5 0),(7,boolA false),(11,intA e1.kind),(21,boolA (decide (e1.kind=2))),(24,.g (tD.enc d0)),(25,.b 1 1),(26,.g (tF.enc e1.fact)),(27,.t [.g [.m [6] 0 r_7.1.relations.length tR.k,.m [7] 0 r_7.1.facts.length tF.k],boolA r_7.2])] rfl ?_
    refine TO_st (σ':=[.box [sl tR d0.relations,sl tF d0.facts],.box [intA e1.kind,intA e1.fact.relation,sl tInt e1.fact.values],.box [.n,.n],.row (flat tR.enc r_1.relations),.row (flat tF.enc r_1.facts),.box [.m [3] 0 r_1.relations.length tR.k,.m [4] 0 r_1.facts.length tF.k],.row (flat tR.enc r_7.1.relations),.row (flat tF.enc r_7.1.facts)]) rfl ?_
    refine pv tb 3 rfl ?_
    refine TO_cons rfl (TOp_storeB sz27 rfl rfl rfl rfl rfl rfl rfl (by decide) (lb rfl) rfl ?_)
    refine TO_st (σ':=[.box [sl tR d0.relations,sl tF d0.facts],.box [intA e1.kind,intA e1.fact.relation,sl tInt e1.fact.values],.box [.n,.n],.row (flat tR.enc r_1.relations),.row (flat tF.enc r_1.facts),.box [.m [6] 0 r_7.1.relations.length tR.k,.m [7] 0 r_7.1.facts.length tF.k],.row (flat tR.enc r_7.1.relations),.row (flat tF.enc r_7.1.facts)]) rfl ?_
    refine pv tb 1 rfl ?_
    refine TO_nil (sr ?_)
    refine pv tb 2 rfl ?_
    refine TO_cons rfl (TOp_storeB sz27 rfl rfl rfl rfl rfl rfl rfl (by decide) (lb rfl) rfl ?_)
    refine TO_st (σ':=[.box [sl tR d0.relations,sl tF d0.facts],.box [intA e1.kind,intA e1.fact.relation,sl tInt e1.fact.values],.box [.m [6] 0 r_7.1.relations.length tR.k,.m [7] 0 r_7.1.facts.length tF.k],.row (flat tR.enc r_1.relations),.row (flat tF.enc r_1.facts),.box [.m [6] 0 r_7.1.relations.length tR.k,.m [7] 0 r_7.1.facts.length tF.k],.row (flat tR.enc r_7.1.relations),.row (flat tF.enc r_7.1.facts)]) rfl ?_
    refine pv tb 1 rfl ?_
    refine TO_nil ?_
    refine te [(4,.b 2 0),(5,boolA r_7.2)] rfl ?_
    refine T_ret ?_
    obtain rfl:=some_inj H
    exact end_pick (.cellK rfl agg27 rfl (lb rfl) (.tmp .nil)) rfl [6,7] (by decide) rfl rfl rfl rfl rfl rfl
   ·replace H:=cond_f c_6 H
    refine sr ?_
    refine pv tb 2 rfl ?_
    refine TO_nil ?_
    refine T_cond (t:=decide (e1.kind=3)) rfl (fun c_9=>?_) (fun c_9=>?_)
    ·replace H:=cond_t c_9 H
     refine T_region ?_
     obtain ⟨r_10,h_11,H⟩:=bind_inv H
     refine pv tb 3 rfl ?_
     refine TO_cons rfl (TOp_callO (call_static ent25 rfl) rfl (msResolveConflict_enc u _ _ _ h_11) rfl rfl rfl ?_)
     refine toe [(2,.b 0 0),(3,.b 1 0),(4,.b 2 0),(6,.b 5 0),(7,boolA false),(30,boolA (decide (e1.kind=3))),(33,.g (tD.enc d0)),(34,.b 1 1),(35,.g (tF.enc e1.fact)),(36,.t [.g [.m [6] 0 r_10.1.relations.length tR.k,.m [7] 0 r_10.1.facts.length tF.k],boolA r_10.2])] rfl ?_
     refine TO_st (σ':=[.box [sl tR d0.relations,sl tF d0.facts],.box [intA e1.kind,intA e1.fact.relation,sl tInt e1.fact.values],.box [.n,.n],.row (flat tR.enc r_1.relations),.row (flat tF.enc r_1.facts),.box [.m [3] 0 r_1.relations.length tR.k,.m [4] 0 r_1.facts.length tF.k],.row (flat tR.enc r_10.1.relations),.row (flat tF.enc r_10.1.facts)]) rfl ?_
     refine pv tb 3 rfl ?_
     refine TO_cons rfl (TOp_storeB sz27 rfl rfl rfl rfl rfl rfl rfl (by decide) (lb rfl) rfl ?_)
     refine TO_st (σ':=[.box [sl tR d0.relations,sl tF d0.facts],.box [intA e1.kind,intA e1.fact.relation,sl tInt e1.fact.values],.box [.n,.n],.row (flat tR.enc r_1.relations),.row (flat tF.enc r_1.facts),.box [.m [6] 0 r_10.1.relations.length tR.k,.m [7] 0 r_10.1.facts.length tF.k],.row (flat tR.enc r_10.1.relations),.row (flat tF.enc r_10.1.facts)]) rfl ?_
     refine pv tb 1 rfl ?_
     refine TO_nil (sr ?_)
     refine pv tb 2 rfl ?_
     refine TO_cons rfl (TOp_storeB sz27 rfl rfl rfl rfl rfl rfl rfl (by decide) (lb rfl) rfl ?_)
     refine TO_st (σ':=[.box [sl tR d0.relations,sl tF d0.facts],.box [intA e1.kind,intA e1.fact.relation,sl tInt e1.fact.values],.box [.m [6] 0 r_10.1.relations.length tR.k,.m [7] 0 r_10.1.facts.length tF.k],.row (flat tR.enc r_1.relations),.row (flat tF.enc r_1.facts),.box [.m [6] 0 r_10.1.relations.length tR.k,.m [7] 0 r_10.1.facts.length tF.k],.row (flat tR.enc r_10.1.relations),.row (flat tF.enc r_10.1.facts)]) rfl ?_
     refine pv tb 1 rfl ?_
     refine TO_nil ?_
     refine T_ret ?_
     obtain rfl:=some_inj H
     exact end_pick (.cellK rfl agg27 rfl (lb rfl) (.tmp .nil)) rfl [6,7] (by decide) rfl rfl rfl rfl rfl rfl
    ·replace H:=cond_f c_9 H
     refine T_skip ?_
     refine sr ?_
     refine pv tb 2 rfl ?_
     refine TO_cons rfl (TOp_storeB sz27 rfl rfl rfl rfl rfl rfl rfl (by decide) (lb rfl) rfl ?_)
     refine TO_st (σ':=[.box [sl tR d0.relations,sl tF d0.facts],.box [intA e1.kind,intA e1.fact.relation,sl tInt e1.fact.values],.box [.m [3] 0 r_1.relations.length tR.k,.m [4] 0 r_1.facts.length tF.k],.row (flat tR.enc r_1.relations),.row (flat tF.enc r_1.facts),.box [.m [3] 0 r_1.relations.length tR.k,.m [4] 0 r_1.facts.length tF.k]]) rfl ?_
     refine pv tb 1 rfl ?_
     refine TO_nil ?_
     refine te [(4,.b 2 0),(5,boolA false)] rfl ?_
     refine T_ret ?_
     obtain rfl:=some_inj H
     exact end_pick (.cellK rfl agg27 rfl (lb rfl) (.tmp .nil)) rfl [3,4] (by decide) rfl rfl rfl rfl rfl rfl
theorem msApplyEdit_ok (u:Nat) (d0:Database) (e1:Edit) (r:(Database × Bool)) (H:msApplyEdit u d0 e1=some r):FnV prg 7 [.g (tD.enc d0),.g (tEdit.enc e1)] (.t [.g (tD.enc r.1),boolA r.2]):=(msApplyEdit_own u d0 e1 r H).frz (frzOK_t (frz_cons (frzOK_g (frz_cons (frzTE (T:=tR) rfl) (frz_cons (frzTE (T:=tF) rfl) frz_nil)).1 (frz_cons (frzTE (T:=tR) rfl) (frz_cons (frzTE (T:=tF) rfl) frz_nil)).2) (frz_cons (frz_loose rfl) frz_nil)).1 (frz_cons (frzOK_g (frz_cons (frzTE (T:=tR) rfl) (frz_cons (frzTE (T:=tF) rfl) frz_nil)).1 (frz_cons (frzTE (T:=tR) rfl) (frz_cons (frzTE (T:=tF) rfl) frz_nil)).2) (frz_cons (frz_loose rfl) frz_nil)).2)

theorem mieditsFor_own (kind0:Int) (a1:Database) (b2:Database) (r:(List Edit)) (H:mieditsFor kind0 a1 b2=some r):FnO prg 26 [intA kind0,.g (tD.enc a1),.g (tD.enc b2)] (.m [0] 0 r.length tEdit.k) [.row (flat tEdit.own r)]:=by
  unfold mieditsFor at H
  refine fnO_of_T Tryz.func26 rfl rfl (Nat.le_of_ble_eq_true rfl) ?_
  refine te [(0,intA kind0),(1,.g (tD.enc a1)),(2,.g (tD.enc b2))] rfl ?_
  refine sr ?_
  refine TO_cons rfl (TOp_box rfl (boxAll rfl) rfl rfl ?_)
  refine TO_cons rfl (TOp_box rfl (boxAll rfl) rfl rfl ?_)
  refine pv tb 1 rfl ?_
  refine TO_nil (sr ?_)
  refine TO_cons rfl (TOp_lit (nn:=0) (k:=3) sl37 zero32 rfl rfl rfl rfl (by decide) ?_)
  refine TO_st (σ':=[.box [sl tR a1.relations,sl tF a1.facts],.box [sl tR b2.relations,sl tF b2.facts],.row (flat tEdit.own ([]:(List Edit)))]) rfl ?_
  refine pv tb 1 rfl ?_
  refine TO_nil (T_seq (sr ?_))
  obtain ⟨r_1,h_2,H⟩:=bind_inv H
  refine pv tb 1 rfl ?_
  refine TO_cons rfl (TOp_callO (call_static ent21 rfl) rfl (micopyDatabase_own _ _ h_2) rfl rfl rfl ?_)
  refine toe [(0,intA kind0),(4,.b 0 0),(5,.b 1 0),(7,.m [2] 0 ([]:(List Edit)).length tEdit.k),(11,.g (tD.enc a1)),(12,.g [.m [3] 0 r_1.relations.length tR.k,.m [4] 0 r_1.facts.length tF.k])] rfl ?_
  refine TO_st (σ':=[.box [sl tR a1.relations,sl tF a1.facts],.box [sl tR b2.relations,sl tF b2.facts],.row (flat tEdit.own ([]:(List Edit))),.row (flat tR.own r_1.relations),.row (flat tF.own r_1.facts)]) rfl ?_
  refine pv tb 1 rfl ?_
  refine Tp rfl rfl (pur_len_m sl25 rfl rfl) rfl ?_
  refine pv tb 1 rfl ?_
  refine TO_nil ?_
  obtain ⟨O4_,L4_,N4_⟩:=bind_inv H
  clear H
  obtain ⟨B4_,hb4,L4_⟩:=gen_forS L4_
  refine T_block ?_
  refine T_st (σ':=[.box [sl tR a1.relations,sl tF a1.facts],.box [sl tR b2.relations,sl tF b2.facts],.row (flat tEdit.own ([]:(List Edit))),.row (flat tR.own r_1.relations),.row (hideTo (0*tF.k) (flat tF.own r_1.facts))]) (by rw [Nat.zero_mul,hideTo_zero]) ?_
  refine T_loopX (fun k=>fun (⟨t_3,out7⟩:Nat × (List Edit))=>k=r_1.facts.length - t_3∧forS B4_ (r_1.facts.drop t_3) (t_3:Int) out7=some O4_) (fun (⟨t_3,out7⟩:Nat × (List Edit))=>[(0,intA kind0),(5,.b 1 0),(7,.m [2] 0 out7.length tEdit.k),(13,.m [4] 0 r_1.facts.length tF.k),(14,intA (r_1.facts.length:Int)),(15,intA (t_3:Int))]) (fun (⟨t_3,out7⟩:Nat × (List Edit))=>[.box [sl tR a1.relations,sl tF a1.facts],.box [sl tR b2.relations,sl tF b2.facts],.row (flat tEdit.own out7),.row (flat tR.own r_1.relations),.row (hideTo (t_3*tF.k) (flat tF.own r_1.facts))]) _ (0,([]:(List Edit))) (w0 5) ⟨rfl,L4_⟩ ?_
  rintro _ ⟨t_3,out7⟩ ⟨rfl,L4_⟩
  refine T_fact (len_m (.tmp 13) rfl) (fun hl4=>?_)
  refine sr ?_
  refine pv tb 1 rfl ?_
  refine TO_nil (T_seq ?_)
  refine T_cond (t:=decide ((t_3:Int)<(r_1.facts.length:Int))) rfl (fun d4=>?_) (fun d4=>?_)
  ·replace d4:=of_decide_eq_true d4
   obtain ⟨x_t_3,hx_t_3⟩:∃ v,(r_1.facts)[t_3]?=some v:=⟨_,List.getElem?_eq_getElem (by omega)⟩
   obtain ⟨C4_,H,K4_⟩:=forS_step L4_ hx_t_3
   rw [hb4] at H
   refine T_skip ?_
   refine T_seq ?_
   refine T_block ?_
   refine sr ?_
   refine Tp rfl rfl (pur_ixM (T:=tF) sl25 rfl rfl rfl hx_t_3 rfl) rfl ?_
   refine Tp rfl rfl (pur_ldGK (T:=tF) (i:=t_3) (off:=0) rfl agg30 rfl rfl rfl (Nat.le_refl _) hx_t_3 (by decide) (cvCons rfl (cvCons cellVal_sl cvNil))) rfl ?_
   refine TO_gh (E':=[(0,intA kind0),(5,.b 1 0),(7,.m [2] 0 out7.length tEdit.k),(13,.m [4] 0 r_1.facts.length tF.k),(14,intA (r_1.facts.length:Int)),(15,intA (t_3:Int)),(18,.g [intA x_t_3.relation,.m [5] 0 x_t_3.values.length tInt.k])]) (Ghost.detT (T:=tF) (T2:=tInt) (s:=4) (c:=t_3*tF.k) (i:=t_3) (off:=1) (xs:=r_1.facts) (v:=x_t_3) (ys:=x_t_3.values) rfl hx_t_3 (by omega) rfl (by exact lb rfl) ⟨.r _,.r _,.r _,.r _,.r _,.r _,.g (.cons (.r _) (.cons (.m _ _ _) .nil)),trivial⟩) ?_
   refine TO_st (σ':=[.box [sl tR a1.relations,sl tF a1.facts],.box [sl tR b2.relations,sl tF b2.facts],.row (flat tEdit.own out7),.row (flat tR.own r_1.relations),.row (hideTo (t_3*tF.k+1+1) (flat tF.own r_1.facts)),.row (flat tInt.own x_t_3.values)]) rfl ?_
   refine TO_cons rfl (TOp_alloc zero30 rfl rfl ?_)
   refine TO_cons rfl (TOp_storeB sz30 rfl rfl rfl rfl rfl rfl rfl (by decide) (lb rfl) rfl ?_)
   refine TO_st (σ':=[.box [sl tR a1.relations,sl tF a1.facts],.box [sl tR b2.relations,sl tF b2.facts],.row (flat tEdit.own out7),.row (flat tR.own r_1.relations),.row (hideTo (t_3*tF.k+1+1) (flat tF.own r_1.facts)),.row (flat tInt.own x_t_3.values),.box [intA x_t_3.relation,.m [5] 0 x_t_3.values.length tInt.k]]) rfl ?_
   refine TO_nil (sr ?_)
   obtain ⟨r_5,h_6,H⟩:=bind_inv H
   refine pv tb 2 rfl ?_
   refine TO_cons rfl (TOp_callB (call_static ent44 rfl) (frz_cons (frz_loose rfl) (frz_cons (frzOK_g (frz_cons (frz_loose rfl) (frz_cons (frzT (T:=tInt) rfl) frz_nil)).1 (frz_cons (frz_loose rfl) (frz_cons (frzT (T:=tInt) rfl) frz_nil)).2) frz_nil)).1 (frz_cons (frz_loose rfl) (frz_cons (frzOK_g (frz_cons (frz_loose rfl) (frz_cons (frzT (T:=tInt) rfl) frz_nil)).1 (frz_cons (frz_loose rfl) (frz_cons (frzT (T:=tInt) rfl) frz_nil)).2) frz_nil)).2 (miFactIndex_ok _ _ _ h_6) rfl ?_)
   refine pv tb 1 rfl ?_
   refine TO_nil ?_
   refine T_cond (t:=decide (r_5<0)) rfl (fun c_7=>?_) (fun c_7=>?_)
   ·replace H:=cond_t c_7 H
    refine T_region ?_
    refine pv tb 3 rfl ?_
    refine Tp rfl rfl (pur_build bld32 rfl rfl) rfl ?_
    refine TO_cons rfl (TOp_litB (nn:=1) (k:=3) sl37 zero32 rfl rfl rfl rfl (by decide) ?_)
    refine TO_st (σ':=[.box [sl tR a1.relations,sl tF a1.facts],.box [sl tR b2.relations,sl tF b2.facts],.row (flat tEdit.own out7),.row (flat tR.own r_1.relations),.row (hideTo (t_3*tF.k+1+1) (flat tF.own r_1.facts)),.row (flat tInt.own x_t_3.values),.box [intA x_t_3.relation,.m [5] 0 x_t_3.values.length tInt.k],.box [intA kind0,intA x_t_3.relation,.m [5] 0 x_t_3.values.length tInt.k]]) rfl ?_
    refine TO_boxify 2 rfl (lb rfl) ?_
    obtain ⟨us_8,h_9,H⟩:=bind_inv H
    refine TO_cons rfl (TOp_appB (T:=tEdit) (xs:=out7) (v:=({ kind:=kind0,fact:=x_t_3 }:Edit)) sl37 zero32 rfl bytes32 (by decide) rfl rfl rfl rfl rfl rfl rfl rfl h_9 (lb rfl) ?_)
    refine toe [(0,intA kind0),(5,.b 1 0),(9,.b 6 0),(13,.m [4] 0 r_1.facts.length tF.k),(14,intA (r_1.facts.length:Int)),(15,intA (t_3:Int)),(22,boolA (decide (r_5<0))),(24,intA kind0),(28,.m [8] 0 (out7.length+1) tEdit.k)] rfl ?_
    refine TO_st (σ':=[.box [sl tR a1.relations,sl tF a1.facts],.box [sl tR b2.relations,sl tF b2.facts],.dead,.row (flat tR.own r_1.relations),.row (hideTo (t_3*tF.k+1+1) (flat tF.own r_1.facts)),.row (flat tInt.own x_t_3.values),.box [intA x_t_3.relation,.m [5] 0 x_t_3.values.length tInt.k],.box [intA kind0,intA x_t_3.relation,.m [5] 0 x_t_3.values.length tInt.k],.box (flat tEdit.own out7++[intA kind0,intA x_t_3.relation,.m [5] 0 x_t_3.values.length tInt.k])]) rfl ?_
    refine TO_absorbA (pr:=flat tEdit.own out7) 8 2 5 rfl rfl rfl (by decide) tInt.pos (flat_len tInt.lenO _) (lb rfl) (lb rfl) rfl (nms_box rfl (nms_box rfl (nms_dead (nms_row (nms_row (nms_row (nms_box rfl (nms_box rfl (nms_box (namesA namesL_own rfl) nms_nil))))))))) ?_
    refine TO_st (σ':=[.box [sl tR a1.relations,sl tF a1.facts],.box [sl tR b2.relations,sl tF b2.facts],.dead,.row (flat tR.own r_1.relations),.row (hideTo (t_3*tF.k+1+1) (flat tF.own r_1.facts)),.dead,.box [intA x_t_3.relation,.m [5] 0 x_t_3.values.length tInt.k],.box [intA kind0,intA x_t_3.relation,.m [5] 0 x_t_3.values.length tInt.k],.box (flat tEdit.own out7++[intA kind0,intA x_t_3.relation,.o tInt.k (flat tInt.own x_t_3.values)])]) rfl ?_
    refine TO_rowifyT (T:=tEdit) (xs:=out7) (v:=({ kind:=kind0,fact:=x_t_3 }:Edit)) 8 rfl rfl h_9 (lb rfl) ?_
    refine TO_st (σ':=[.box [sl tR a1.relations,sl tF a1.facts],.box [sl tR b2.relations,sl tF b2.facts],.dead,.row (flat tR.own r_1.relations),.row (hideTo (t_3*tF.k+1+1) (flat tF.own r_1.facts)),.dead,.box [intA x_t_3.relation,.m [5] 0 x_t_3.values.length tInt.k],.box [intA kind0,intA x_t_3.relation,.m [5] 0 x_t_3.values.length tInt.k],.row (flat tEdit.own us_8)]) rfl ?_
    refine TO_move 2 8 (by decide) (lb rfl) rfl rfl (lb rfl) ?_
    refine TO_env (E':=[(0,intA kind0),(5,.b 1 0),(9,.b 6 0),(13,.m [4] 0 r_1.facts.length tF.k),(14,intA (r_1.facts.length:Int)),(15,intA (t_3:Int)),(22,boolA (decide (r_5<0))),(24,intA kind0),(28,.m [2] 0 us_8.length tEdit.k)]) ⟨rfl,rfl,rfl,rfl,rfl,rfl,rfl,rfl,congrArg (fun q=>A.m [2] 0 q tEdit.k) (app_len h_9),trivial⟩ ?_
    refine TO_kill 7 (lb rfl) ?_
    refine TO_st (σ':=[.box [sl tR a1.relations,sl tF a1.facts],.box [sl tR b2.relations,sl tF b2.facts],.row (flat tEdit.own us_8),.row (flat tR.own r_1.relations),.row (hideTo (t_3*tF.k+1+1) (flat tF.own r_1.facts)),.dead,.box [intA x_t_3.relation,.m [5] 0 x_t_3.values.length tInt.k],.dead,.dead]) rfl ?_
    refine pv tb 1 rfl ?_
    refine TO_nil ?_
    refine T_gh (Ghost.hide (s:=4) (c:=t_3*tF.k+1+1) (c':=(t_3+1)*tF.k) (hide_le1 (d:=1) (by decide)) rfl (by exact lb rfl)) ?_
    refine T_st (σ':=[.box [sl tR a1.relations,sl tF a1.facts],.box [sl tR b2.relations,sl tF b2.facts],.row (flat tEdit.own us_8),.row (flat tR.own r_1.relations),.row (hideTo ((t_3+1)*tF.k) (flat tF.own r_1.facts)),.dead,.box [intA x_t_3.relation,.m [5] 0 x_t_3.values.length tInt.k],.dead,.dead]) rfl ?_
    refine T_region ?_
    refine Tp rfl rfl (pur_add rfl rfl rfl (fits64 (by omega) (by omega))) rfl ?_
    refine pv tb 1 rfl ?_
    refine TO_nil ?_
    obtain rfl:=some_inj H
    exact again (r_1.facts.length - (t_3+1)) (t_3+1,us_8) (by omega) (w0 5) ⟨rfl,K4_⟩
   ·replace H:=cond_f c_7 H
    refine T_skip ?_
    refine T_gh (Ghost.hide (s:=4) (c:=t_3*tF.k+1+1) (c':=(t_3+1)*tF.k) (hide_le1 (d:=1) (by decide)) rfl (by exact lb rfl)) ?_
    refine T_st (σ':=[.box [sl tR a1.relations,sl tF a1.facts],.box [sl tR b2.relations,sl tF b2.facts],.row (flat tEdit.own out7),.row (flat tR.own r_1.relations),.row (hideTo ((t_3+1)*tF.k) (flat tF.own r_1.facts)),.row (flat tInt.own x_t_3.values),.box [intA x_t_3.relation,.m [5] 0 x_t_3.values.length tInt.k]]) rfl ?_
    refine T_region ?_
    refine Tp rfl rfl (pur_add rfl rfl rfl (fits64 (by omega) (by omega))) rfl ?_
    refine pv tb 1 rfl ?_
    refine TO_nil ?_
    obtain rfl:=some_inj H
    exact again (r_1.facts.length - (t_3+1)) (t_3+1,out7) (by omega) (w0 5) ⟨rfl,K4_⟩
  ·replace d4:=of_decide_eq_false d4
   obtain rfl:=forS_end L4_ (by omega)
   refine T_exit ?_
   refine then_exit ?_
   refine then_exit ?_
   refine block_exit ?_
   refine T_kill 4 (lb rfl) ?_
   refine T_st (σ':=[.box [sl tR a1.relations,sl tF a1.facts],.box [sl tR b2.relations,sl tF b2.facts],.row (flat tEdit.own out7),.row (flat tR.own r_1.relations),.dead]) rfl ?_
   replace H:=N4_
   refine sr ?_
   refine pv tb 2 rfl ?_
   refine TO_nil ?_
   refine T_ret ?_
   obtain rfl:=some_inj H
   exact end_pick (.tmp .nil) rfl [2] (by decide) rfl rfl rfl rfl rfl rfl
theorem mieditsFor_ok (kind0:Int) (a1:Database) (b2:Database) (r:(List Edit)) (H:mieditsFor kind0 a1 b2=some r):FnV prg 26 [intA kind0,.g (tD.enc a1),.g (tD.enc b2)] (sl tEdit r):=(mieditsFor_own kind0 a1 b2 r H).frz (frzT (T:=tEdit) rfl)

theorem miInverseEdits_own (u:Nat) (db0:Database) (edit1:Edit) (r:((List Edit) × Bool)) (H:miInverseEdits u db0 edit1=some r):FnO prg 8 [.g (tD.enc db0),.g (tEdit.enc edit1)] (.t [.m [0] 0 r.1.length tEdit.k,boolA r.2]) [.row (flat tEdit.own r.1)]:=by
  unfold miInverseEdits at H
  refine fnO_of_T Tryz.func8 rfl rfl (Nat.le_of_ble_eq_true rfl) ?_
  refine te [(0,.g (tD.enc db0)),(1,.g (tEdit.enc edit1))] rfl ?_
  refine sr ?_
  refine TO_cons rfl (TOp_box rfl (boxAll rfl) rfl rfl ?_)
  refine TO_cons rfl (TOp_box rfl (boxAll rfl) rfl rfl ?_)
  refine pv tb 2 rfl ?_
  refine TO_nil (sr ?_)
  obtain ⟨r_1,h_2,H⟩:=bind_inv H
  refine pv tb 2 rfl ?_
  refine TO_cons rfl (TOp_callV (call_static ent6 rfl) (miApplyEdit_ok u _ _ _ h_2) rfl rfl rfl ?_)
  refine pv tb 3 rfl ?_
  refine TO_cons rfl (TOp_alloc zero27 rfl rfl ?_)
  refine TO_cons rfl (TOp_storeB sz27 rfl rfl rfl rfl rfl rfl rfl (by decide) (lb rfl) rfl ?_)
  refine TO_st (σ':=[.box [sl tR db0.relations,sl tF db0.facts],.box [intA edit1.kind,intA edit1.fact.relation,sl tInt edit1.fact.values],.box [sl tR r_1.1.relations,sl tF r_1.1.facts]]) rfl ?_
  refine pv tb 1 rfl ?_
  refine TO_nil (T_seq (sr ?_))
  refine pv tb 2 rfl ?_
  refine TO_nil ?_
  refine T_cond (t:=(!r_1.2)) rfl (fun c_3=>?_) (fun c_3=>?_)
  ·replace H:=cond_t c_3 H
   refine sr ?_
   refine pv tb 2 rfl ?_
   refine TO_nil ?_
   refine te [(4,.n),(5,boolA false)] rfl ?_
   refine T_row0 ?_
   refine T_envL (E':=[(4,.m [3] 0 ([]:(List Edit)).length tEdit.k),(5,boolA false)]) ⟨leM,leR rfl,trivial⟩ ?_
   refine T_st (σ':=[.box [sl tR db0.relations,sl tF db0.facts],.box [intA edit1.kind,intA edit1.fact.relation,sl tInt edit1.fact.values],.box [sl tR r_1.1.relations,sl tF r_1.1.facts],.row (flat tEdit.own ([]:(List Edit)))]) rfl ?_
   refine T_ret ?_
   refine then_ret ?_
   obtain rfl:=some_inj H
   exact end_pick (.tmp (.tmp .nil)) rfl [3] (by decide) rfl rfl rfl rfl rfl rfl
  ·replace H:=cond_f c_3 H
   refine T_skip ?_
   obtain ⟨r_4,h_5,H⟩:=bind_inv H
   obtain ⟨r_6,h_7,H⟩:=bind_inv H
   obtain ⟨us_8,h_9,H⟩:=bind_inv H
   refine T_pad ?_
   refine T_cutX (fun (_:Unit)=>True) (fun _=>[(4,.m [3] 0 us_8.length tEdit.k),(5,boolA true)]) (fun _=>[.box [sl tR db0.relations,sl tF db0.facts],.box [intA edit1.kind,intA edit1.fact.relation,sl tInt edit1.fact.values],.box [sl tR r_1.1.relations,sl tF r_1.1.facts],.row (flat tEdit.own us_8)]) ?_ ?_
   ·skip
    refine T_regionP 3 mixed rfl ?_
    refine pa tb [0,1,3,4] 5 rfl (by kernel_rfl) rfl ?_
    refine t1 2 (by kernel_rfl) rfl rfl (TOp_callO (call_static ent26 rfl) rfl (mieditsFor_own _ _ _ _ h_5) rfl rfl rfl ?_)
    refine tae [(2,.b 0 0),(6,.b 2 0),(16,.g (tD.enc r_1.1)),(17,.g (tD.enc db0)),(18,.m [4] 0 r_4.length tEdit.k),(19,.g (tD.enc db0)),(20,.g (tD.enc r_1.1))] rfl ?_
    refine TA_st (σ':=[.dead,.dead,.dead,.dead,.row (flat tEdit.own r_4)]) rfl ?_
    refine t1 5 (by kernel_rfl) rfl rfl (TOp_callO (call_static ent26 rfl) rfl (mieditsFor_own _ _ _ _ h_7) rfl rfl rfl ?_)
    refine tae [(2,.b 0 0),(6,.b 2 0),(16,.g (tD.enc r_1.1)),(17,.g (tD.enc db0)),(18,.m [4] 0 r_4.length tEdit.k),(19,.g (tD.enc db0)),(20,.g (tD.enc r_1.1)),(21,.m [5] 0 r_6.length tEdit.k)] rfl ?_
    refine TA_st (σ':=[.dead,.dead,.dead,.dead,.row (flat tEdit.own r_4),.row (flat tEdit.own r_6)]) rfl ?_
    refine t1 6 (by kernel_rfl) rfl rfl (TOp_appOO (Y:=tEdit) (xs:=r_4) (ys:=r_6) sl37 zero32 rfl bytes32 (by decide) rfl rfl rfl rfl rfl rfl (by decide) h_9 ?_)
    refine tmw 4 6 (by decide) (lb rfl) rfl rfl (lb rfl) rfl ?_
    refine tae [(2,.b 0 0),(6,.b 2 0),(16,.g (tD.enc r_1.1)),(17,.g (tD.enc db0)),(19,.g (tD.enc db0)),(20,.g (tD.enc r_1.1)),(22,.m [4] 0 us_8.length tEdit.k)] rfl ?_
    refine TA_st (σ':=[.dead,.dead,.dead,.dead,.row (flat tEdit.own us_8),.dead,.dead]) rfl ?_
    refine pa tb [7,8] 0 rfl (by kernel_rfl) rfl ?_
    refine TA_ghost (E':=[(4,.m [3] 0 us_8.length tEdit.k),(5,boolA true)]) (σ':=[.dead,.dead,.dead,.row (flat tEdit.own us_8),.dead,.dead,.dead]) (Ghost.move 3 4 (by decide) (lb rfl) rfl rfl (lb rfl) (Ghost.weak (WeakL.to 7 (lb rfl) rfl rfl rfl rfl ⟨leR rfl,leR rfl,trivial⟩))) ?_
    exact TA_nil (by kernel_rfl) (joined () (w0 4) trivial)
   ·rintro _ _
    refine T_ret ?_
    obtain rfl:=some_inj H
    exact end_pick (.tmp (.tmp .nil)) rfl [3] (by decide) rfl rfl rfl rfl rfl rfl
theorem miInverseEdits_ok (u:Nat) (db0:Database) (edit1:Edit) (r:((List Edit) × Bool)) (H:miInverseEdits u db0 edit1=some r):FnV prg 8 [.g (tD.enc db0),.g (tEdit.enc edit1)] (.t [sl tEdit r.1,boolA r.2]):=(miInverseEdits_own u db0 edit1 r H).frz (frzOK_t (frz_cons (frzT (T:=tEdit) rfl) (frz_cons (frz_loose rfl) frz_nil)).1 (frz_cons (frzT (T:=tEdit) rfl) (frz_cons (frz_loose rfl) frz_nil)).2)

theorem msEqualDatabases_ok (u:Nat) (a0:Database) (b1:Database) (r:Bool) (H:msEqualDatabases u a0 b1=some r):FnV prg 9 [.g (tD.enc a0),.g (tD.enc b1)] (boolA r):=by
  unfold msEqualDatabases at H
  refine fnV_of_T Tryz.func9 rfl rfl (Nat.le_of_ble_eq_true rfl) ?_
  refine te [(0,.g (tD.enc a0)),(1,.g (tD.enc b1))] rfl ?_
  refine sr ?_
  refine TO_cons rfl (TOp_box rfl (boxAll rfl) rfl rfl ?_)
  refine TO_cons rfl (TOp_box rfl (boxAll rfl) rfl rfl ?_)
  refine pv tb 1 rfl ?_
  refine TO_nil (T_seq ?_)
  refine T_cutX (fun x=>((decide ((a0.relations.length:Int)≠(b1.relations.length:Int))) || (decide ((a0.facts.length:Int)≠(b1.facts.length:Int))))=x) (fun (t22_1:Bool)=>[(2,.b 0 0),(3,.b 1 0),(22,boolA t22_1)]) (fun (t22_1:Bool)=>[.box [sl tR a0.relations,sl tF a0.facts],.box [sl tR b1.relations,sl tF b1.facts]]) ?_ ?_
  ·skip
   refine T_region ?_
   refine pv tb 2 rfl ?_
   refine Tp rfl rfl (pur_lenT (T:=tR) sl24 rfl rfl) rfl ?_
   refine pv tb 2 rfl ?_
   refine Tp rfl rfl (pur_lenT (T:=tR) sl24 rfl rfl) rfl ?_
   refine pv tb 2 rfl ?_
   refine TO_split (t:=decide ((a0.relations.length:Int)≠(b1.relations.length:Int))) 14 rfl (fun g_3=>?_) (fun g_3=>?_)
   ·skip
    refine pv tb 8 rfl ?_
    refine TO_nil ?_
    exact joined true (w0 2) (by first | exact Eq.symm ((or_T g_3 rfl)))
   ·skip
    refine pv tb 2 rfl ?_
    refine TO_on rfl rfl (by decide) rfl rfl (TOp_pure (pur_lenT (T:=tF) sl25 rfl rfl) rfl ?_)
    refine pv tb 2 rfl ?_
    refine TO_on rfl rfl (by decide) rfl rfl (TOp_pure (pur_lenT (T:=tF) sl25 rfl rfl) rfl ?_)
    refine pv tb 2 rfl ?_
    refine TO_nil ?_
    exact joined (decide ((a0.facts.length:Int)≠(b1.facts.length:Int))) (w0 2) (by first | exact Eq.symm ((or_F g_3 rfl)))
  ·rintro _ rfl
   refine T_cond (t:=((decide ((a0.relations.length:Int)≠(b1.relations.length:Int))) || (decide ((a0.facts.length:Int)≠(b1.facts.length:Int))))) rfl (fun c_4=>?_) (fun c_4=>?_)
   ·replace H:=cond_t c_4 H
    refine sr ?_
    refine pv tb 1 rfl ?_
    refine TO_nil ?_
    refine T_ret ?_
    refine then_ret ?_
    obtain rfl:=some_inj H
    refine end_ret (.tmp .nil) rfl rfl ⟨?_,rfl⟩
    rfl
   ·replace H:=cond_f c_4 H
    refine T_skip ?_
    refine T_seq (sr ?_)
    refine pv tb 1 rfl ?_
    refine TO_nil ?_
    obtain ⟨O5_,L5_,N5_⟩:=bind_inv H
    clear H
    obtain ⟨B5_,hb5,L5_⟩:=gen_whileF L5_
    refine T_block ?_
    refine T_loopX (fun k=>fun (i5:Int)=>whileF B5_ k i5=some O5_) (fun (i5:Int)=>[(2,.b 0 0),(3,.b 1 0),(5,intA i5)]) (fun (i5:Int)=>[.box [sl tR a0.relations,sl tF a0.facts],.box [sl tR b1.relations,sl tF b1.facts]]) u 0 (w0 2) L5_ ?_
    rintro _ i5 L5_
    obtain ⟨k5,rfl,C5_,H,K5_⟩:=while_step L5_
    rw [hb5] at H
    refine T_seq (sr ?_)
    refine pv tb 3 rfl ?_
    refine Tp rfl rfl (pur_lenT (T:=tR) sl24 rfl rfl) rfl ?_
    refine pv tb 1 rfl ?_
    refine TO_nil ?_
    refine T_cond (t:=decide (i5<(a0.relations.length:Int))) rfl (fun c_6=>?_) (fun c_6=>?_)
    ·replace H:=cond_t c_6 H
     refine T_skip ?_
     refine T_seq ?_
     refine T_block ?_
     refine T_seq ?_
     refine T_regionD mixed (by kernel_rfl) ?_
     obtain ⟨v_7,h_8,H⟩:=bind_inv H
     obtain ⟨n_9,hz_10,hv_11⟩:=getI_inv h_8
     refine pq tb 3 rfl ?_
     refine TQ_pure rfl (pur_ixT (T:=tR) sl24 rfl rfl hz_10 hv_11 rfl) rfl ?_
     refine TQ_pure rfl (pur_ldTK (T:=tR) (i:=n_9) (off:=0) rfl agg53 rfl rfl hv_11 (by decide) rfl) rfl ?_
     obtain ⟨v_12,h_13,H⟩:=bind_inv H
     obtain ⟨n_14,hz_15,hv_16⟩:=getI_inv h_13
     refine pq tb 3 rfl ?_
     refine TQ_pure rfl (pur_ixT (T:=tR) sl24 rfl rfl hz_15 hv_16 rfl) rfl ?_
     refine TQ_pure rfl (pur_ldTK (T:=tR) (i:=n_14) (off:=0) rfl agg53 rfl rfl hv_16 (by decide) rfl) rfl ?_
     refine TQ_pure rfl (pur_neqT [.s v_7.name v_12.name,.i v_7.arity v_12.arity,.i v_7.keyLength v_12.keyLength] eqs53 rfl rfl rfl rfl) rfl ?_
     refine TQ_nil ?_
     refine te [(2,.b 0 0),(3,.b 1 0),(5,intA i5),(40,boolA (!(cmpSc [.s v_7.name v_12.name,.i v_7.arity v_12.arity,.i v_7.keyLength v_12.keyLength])))] rfl ?_
     refine T_cond (t:=(!(cmpSc [.s v_7.name v_12.name,.i v_7.arity v_12.arity,.i v_7.keyLength v_12.keyLength]))) rfl (fun c_17=>?_) (fun c_17=>?_)
     ·replace H:=cond_t c_17 H
      refine sr ?_
      refine pv tb 1 rfl ?_
      refine TO_nil ?_
      refine T_ret ?_
      refine block_ret ?_
      refine then_ret ?_
      refine then_ret ?_
      refine block_ret ?_
      refine then_ret ?_
      obtain rfl:=some_inj H
      obtain rfl:=some_inj K5_
      replace H:=onS_r N5_
      obtain rfl:=some_inj H
      refine end_ret (.tmp .nil) rfl rfl ⟨?_,rfl⟩
      rfl
     ·replace H:=cond_f c_17 H
      refine T_skip ?_
      refine T_region ?_
      refine pv tb 3 rfl ?_
      refine TO_nil ?_
      obtain rfl:=some_inj H
      exact again k5 (w64 (i5+1)) (Nat.lt_succ_self _) (w0 2) K5_
    ·replace H:=cond_f c_6 H
     refine T_exit ?_
     refine then_exit ?_
     refine then_exit ?_
     refine block_exit ?_
     obtain rfl:=some_inj H
     obtain rfl:=some_inj K5_
     replace H:=onS_l N5_
     refine T_seq (sr ?_)
     refine pv tb 1 rfl ?_
     refine TO_nil ?_
     obtain ⟨O18_,L18_,N18_⟩:=bind_inv H
     clear H
     obtain ⟨B18_,hb18,L18_⟩:=gen_whileF L18_
     refine T_block ?_
     refine T_loopX (fun k=>fun (i6:Int)=>whileF B18_ k i6=some O18_) (fun (i6:Int)=>[(2,.b 0 0),(3,.b 1 0),(6,intA i6)]) (fun (i6:Int)=>[.box [sl tR a0.relations,sl tF a0.facts],.box [sl tR b1.relations,sl tF b1.facts]]) u 0 (w0 2) L18_ ?_
     rintro _ i6 L18_
     obtain ⟨k18,rfl,C18_,H,K18_⟩:=while_step L18_
     rw [hb18] at H
     refine T_seq (sr ?_)
     refine pv tb 3 rfl ?_
     refine Tp rfl rfl (pur_lenT (T:=tF) sl25 rfl rfl) rfl ?_
     refine pv tb 1 rfl ?_
     refine TO_nil ?_
     refine T_cond (t:=decide (i6<(a0.facts.length:Int))) rfl (fun c_19=>?_) (fun c_19=>?_)
     ·replace H:=cond_t c_19 H
      refine T_skip ?_
      refine T_seq ?_
      refine T_block ?_
      refine T_seq ?_
      refine T_regionD mixed (by kernel_rfl) ?_
      obtain ⟨v_20,h_21,H⟩:=bind_inv H
      obtain ⟨n_22,hz_23,hv_24⟩:=getI_inv h_21
      refine pq tb 3 rfl ?_
      refine TQ_pure rfl (pur_ixT (T:=tF) sl25 rfl rfl hz_23 hv_24 rfl) rfl ?_
      refine TQ_pure rfl (pur_ldTK (T:=tF) (i:=n_22) (off:=0) rfl agg30 rfl rfl hv_24 (by decide) rfl) rfl ?_
      obtain ⟨v_25,h_26,H⟩:=bind_inv H
      obtain ⟨n_27,hz_28,hv_29⟩:=getI_inv h_26
      refine pq tb 3 rfl ?_
      refine TQ_pure rfl (pur_ixT (T:=tF) sl25 rfl rfl hz_28 hv_29 rfl) rfl ?_
      refine TQ_pure rfl (pur_ldTK (T:=tF) (i:=n_27) (off:=0) rfl agg30 rfl rfl hv_29 (by decide) rfl) rfl ?_
      obtain ⟨r_30,h_31,H⟩:=bind_inv H
      refine TQ_callV rfl (call_static ent27 rfl) (msCompareFacts_ok u _ _ _ h_31) rfl rfl ?_
      refine pq tb 1 rfl ?_
      refine TQ_nil ?_
      refine te [(2,.b 0 0),(3,.b 1 0),(6,intA i6),(59,boolA (decide (r_30≠0)))] rfl ?_
      refine T_cond (t:=decide (r_30≠0)) rfl (fun c_32=>?_) (fun c_32=>?_)
      ·replace H:=cond_t c_32 H
       refine sr ?_
       refine pv tb 1 rfl ?_
       refine TO_nil ?_
       refine T_ret ?_
       refine block_ret ?_
       refine then_ret ?_
       refine then_ret ?_
       refine block_ret ?_
       refine then_ret ?_
       obtain rfl:=some_inj H
       obtain rfl:=some_inj K18_
       replace H:=onS_r N18_
       obtain rfl:=some_inj H
       refine end_ret (.tmp .nil) rfl rfl ⟨?_,rfl⟩
       rfl
      ·replace H:=cond_f c_32 H
       refine T_skip ?_
       refine T_region ?_
       refine pv tb 3 rfl ?_
       refine TO_nil ?_
       obtain rfl:=some_inj H
       exact again k18 (w64 (i6+1)) (Nat.lt_succ_self _) (w0 2) K18_
     ·replace H:=cond_f c_19 H
      refine T_exit ?_
      refine then_exit ?_
      refine then_exit ?_
      refine block_exit ?_
      obtain rfl:=some_inj H
      obtain rfl:=some_inj K18_
      replace H:=onS_l N18_
      refine sr ?_
      refine pv tb 1 rfl ?_
      refine TO_nil ?_
      refine T_ret ?_
      obtain rfl:=some_inj H
      refine end_ret (.tmp .nil) rfl rfl ⟨?_,rfl⟩
      rfl

theorem miIsValidFact_ok (relations0:(List Relation)) (fact1:Fact) (r:Bool) (H:miIsValidFact relations0 fact1=some r):FnV prg 59 [sl tR relations0,.g (tF.enc fact1)] (boolA r):=by
  unfold miIsValidFact at H
  refine fnV_of_T Tryz.func59 rfl rfl (Nat.le_of_ble_eq_true rfl) ?_
  refine te [(0,sl tR relations0),(1,.g (tF.enc fact1))] rfl ?_
  refine sr ?_
  refine TO_cons rfl (TOp_box rfl (boxAll rfl) rfl rfl ?_)
  refine pv tb 1 rfl ?_
  refine TO_nil ?_
  obtain ⟨t4_1,J_1,H_2⟩:=bind_inv H
  refine T_cutX (fun x=>t4_1=x) (fun (t4_1:Bool)=>[(4,boolA t4_1)]) (fun (t4_1:Bool)=>[]) ?_ ?_
  ·replace H:=J_1
   refine T_region ?_
   obtain ⟨r_3,h_4,H⟩:=bind_inv H
   refine pv tb 1 rfl ?_
   refine TO_cons rfl (TOp_callV (call_static ent74 rfl) (miAreValidRelations_ok _ _ h_4) rfl rfl rfl ?_)
   refine pv tb 1 rfl ?_
   refine TO_split (t:=r_3) 7 rfl (fun g_5=>?_) (fun g_5=>?_)
   ·replace H:=cond_t g_5 H
    obtain ⟨r_6,h_7,H⟩:=bind_inv H
    refine pv tb 2 rfl ?_
    refine TO_on rfl rfl (by decide) rfl rfl (TOp_callV (call_static ent43 rfl) (miisFact_ok _ _ _ h_7) rfl rfl rfl ?_)
    refine pv tb 2 rfl ?_
    refine TO_nil ?_
    exact joined r_6 (w0 0) (some_inj H).symm
   ·replace H:=cond_f g_5 H
    refine pv tb 5 rfl ?_
    refine TO_nil ?_
    exact joined false (w0 0) (some_inj H).symm
  ·rintro _ rfl
   replace H:=H_2
   refine T_ret ?_
   obtain rfl:=some_inj H
   refine end_ret (.tmp .nil) rfl rfl ⟨?_,rfl⟩
   rfl

theorem m_strconv_Itoa_ok (v0:Int) (r:ByteArray) (H:m_strconv_Itoa v0=some r):FnV prg 86 [intA v0] (strA r):=by
  unfold m_strconv_Itoa at H
  split at H
  case isFalse=>cases H
  rename_i h0
  cases H
  refine FnV.ofCalls [.int .i64 v0] fun w hw=>?_
  obtain ⟨te,fr,hg⟩:=hw _ (List.mem_singleton.2 rfl)
  have ht:Go.Lib.TabIs prg w "internal/strconv.uint64pow10" .u64 Go.Lib.pow10Tab:=by
   unfold Go.Lib.TabIs World.var?
   rw [show prg.globalNamed "internal/strconv.uint64pow10" = some 0 by kernel_rfl]
   simp only [Option.bind_some,hg]
  refine Calls.mono (Any.strconv_Itoa shl171 v0 h0.1 h0.2 w ht) fun e w' h=>?_
  obtain ⟨h1,k,os,rfl⟩:=h
  exact ⟨h1,below_grown w k os,fun _=>Nat.le_add_right _ _⟩


theorem miFormatInt_ok (n0:Int) (r:ByteArray) (H:miFormatInt n0=some r):FnV prg 60 [intA n0] (strA r):=by
  unfold miFormatInt at H
  refine fnV_of_T Tryz.func60 rfl rfl (Nat.le_of_ble_eq_true rfl) ?_
  refine te [(0,intA n0)] rfl ?_
  refine sr ?_
  refine pv tb 1 rfl ?_
  refine TO_nil (sr ?_)
  obtain ⟨r_1,h_2,H⟩:=bind_inv H
  refine pv tb 1 rfl ?_
  refine TO_cons rfl (TOp_callV (call_static ent86 rfl) (m_strconv_Itoa_ok _ _ h_2) rfl rfl rfl ?_)
  refine pv tb 1 rfl ?_
  refine TO_nil ?_
  refine T_ret ?_
  obtain rfl:=some_inj H
  refine end_ret (.tmp .nil) rfl rfl ⟨?_,rfl⟩
  rfl

theorem m_strings_Join_ok (s0:List ByteArray) (v1:ByteArray) (r:ByteArray) (H:m_strings_Join s0 v1=some r):FnV prg 87 [sl tStr s0,strA v1] (strA r):=by
  unfold m_strings_Join at H
  split at H
  case isFalse=>cases H
  rename_i h0
  cases H
  refine FnV.ofStrs (fun e ad c w=>?_) fun b o c w hc hb hn=>?_
  ·subst e
   refine Calls.mono (Any.strings_Join_none shl156 shl156X ad c v1 w) fun e w' h=>?_
   rw [h.2]
   exact ⟨h.1,Go.RowKit.Below.refl _ _,fun _=>Nat.le_refl _⟩
  ·exact Calls.mono (Any.strings_Join shl156 shl156X b o c s0 v1 w hc hb h0.1 hn h0.2) fun e w' h=>⟨h.1,h.2,fun d=>d.elim⟩


theorem mibarred_ok (parts0:(List ByteArray)) (at1:Int) (r:ByteArray) (H:mibarred parts0 at1=some r):FnV prg 61 [sl tStr parts0,intA at1] (strA r):=by
  unfold mibarred at H
  refine fnV_of_T Tryz.func61 rfl rfl (Nat.le_of_ble_eq_true rfl) ?_
  refine te [(0,sl tStr parts0),(1,intA at1)] rfl ?_
  refine sr ?_
  refine pv tb 1 rfl ?_
  refine TO_nil (sr ?_)
  obtain ⟨ys_1,h_2,H⟩:=bind_inv H
  refine pv tb 2 rfl ?_
  refine Tp rfl rfl (pur_cutT (T:=tStr) (lo:=none) (hi:=(some (.tmp 7))) sl65 rfl rfl ⟨_,rfl⟩ h_2 rfl) rfl ?_
  obtain ⟨r_3,h_4,H⟩:=bind_inv H
  refine TO_cons rfl (TOp_callV (call_static ent87 rfl) (m_strings_Join_ok _ _ _ h_4) rfl rfl rfl ?_)
  refine pv tb 1 rfl ?_
  refine TO_nil (T_seq (sr ?_))
  refine pv tb 2 rfl ?_
  refine Tp rfl rfl (pur_lenT (T:=tStr) sl65 rfl rfl) rfl ?_
  refine pv tb 1 rfl ?_
  refine TO_nil ?_
  refine T_cond (t:=decide (at1<(parts0.length:Int))) rfl (fun c_5=>?_) (fun c_5=>?_)
  ·replace H:=cond_t c_5 H
   refine T_region ?_
   obtain ⟨ys_6,h_7,H⟩:=bind_inv H
   refine pv tb 3 rfl ?_
   refine Tp rfl rfl (pur_cutT (T:=tStr) (lo:=(some (.tmp 16))) (hi:=none) sl65 rfl ⟨_,rfl⟩ rfl h_7 rfl) rfl ?_
   obtain ⟨r_8,h_9,H⟩:=bind_inv H
   refine TO_cons rfl (TOp_callV (call_static ent87 rfl) (m_strings_Join_ok _ _ _ h_9) rfl rfl rfl ?_)
   obtain ⟨cat_10,h_11,H⟩:=bind_inv H
   refine Tp rfl rfl (pur_cat rfl rfl rfl h_11) rfl ?_
   obtain ⟨cat_12,h_13,H⟩:=bind_inv H
   refine Tp rfl rfl (pur_cat rfl rfl rfl h_13) rfl ?_
   refine pv tb 1 rfl ?_
   refine TO_nil ?_
   refine te [(5,strA cat_12)] rfl ?_
   refine sr ?_
   refine pv tb 2 rfl ?_
   refine TO_nil ?_
   refine T_ret ?_
   obtain rfl:=some_inj H
   refine end_ret (.tmp .nil) rfl rfl ⟨?_,rfl⟩
   rfl
  ·replace H:=cond_f c_5 H
   refine T_skip ?_
   refine sr ?_
   refine pv tb 2 rfl ?_
   refine TO_nil ?_
   refine T_ret ?_
   obtain rfl:=some_inj H
   refine end_ret (.tmp .nil) rfl rfl ⟨?_,rfl⟩
   rfl

theorem miFormatFact_ok (relations0:(List Relation)) (fact1:Fact) (r:ByteArray) (H:miFormatFact relations0 fact1=some r):FnV prg 28 [sl tR relations0,.g (tF.enc fact1)] (strA r):=by
  unfold miFormatFact at H
  refine fnV_of_T Tryz.func28 rfl rfl (Nat.le_of_ble_eq_true rfl) ?_
  refine te [(0,sl tR relations0),(1,.g (tF.enc fact1))] rfl ?_
  refine sr ?_
  refine TO_cons rfl (TOp_box rfl (boxAll rfl) rfl rfl ?_)
  refine pv tb 1 rfl ?_
  refine TO_nil (T_seq (sr ?_))
  obtain ⟨r_1,h_2,H⟩:=bind_inv H
  refine pv tb 2 rfl ?_
  refine TO_cons rfl (TOp_callV (call_static ent59 rfl) (miIsValidFact_ok _ _ _ h_2) rfl rfl rfl ?_)
  refine pv tb 1 rfl ?_
  refine TO_nil ?_
  refine T_cond (t:=(!r_1)) rfl (fun c_3=>?_) (fun c_3=>?_)
  ·replace H:=cond_t c_3 H
   refine sr ?_
   refine pv tb 1 rfl ?_
   refine TO_nil ?_
   refine T_ret ?_
   refine then_ret ?_
   obtain rfl:=some_inj H
   refine end_ret (.tmp .nil) rfl rfl ⟨?_,rfl⟩
   rfl
  ·replace H:=cond_f c_3 H
   refine T_skip ?_
   refine sr ?_
   refine TO_cons rfl (TOp_lit (nn:=0) (k:=1) sl65 zero9 rfl rfl rfl rfl (by decide) ?_)
   refine TO_st (σ':=[.box [intA fact1.relation,sl tInt fact1.values],.row (flat tStr.enc ([]:(List ByteArray)))]) rfl ?_
   refine pv tb 1 rfl ?_
   refine TO_nil (T_seq (sr ?_))
   refine pv tb 2 rfl ?_
   refine Tp rfl rfl (pur_lenT (T:=tInt) sl28 rfl rfl) rfl ?_
   refine pv tb 1 rfl ?_
   refine TO_nil ?_
   obtain ⟨O5_,L5_,N5_⟩:=bind_inv H
   clear H
   obtain ⟨B5_,hb5,L5_⟩:=gen_forS L5_
   refine T_block ?_
   refine T_loopX (fun k=>fun (⟨t_4,parts5⟩:Nat × (List ByteArray))=>k=fact1.values.length - t_4∧forS B5_ (fact1.values.drop t_4) (t_4:Int) parts5=some O5_) (fun (⟨t_4,parts5⟩:Nat × (List ByteArray))=>[(0,sl tR relations0),(3,.b 0 0),(5,.m [1] 0 parts5.length tStr.k),(15,sl tInt fact1.values),(16,intA (fact1.values.length:Int)),(17,intA (t_4:Int))]) (fun (⟨t_4,parts5⟩:Nat × (List ByteArray))=>[.box [intA fact1.relation,sl tInt fact1.values],.row (flat tStr.enc parts5)]) _ (0,([]:(List ByteArray))) (w0 2) ⟨rfl,L5_⟩ ?_
   rintro _ ⟨t_4,parts5⟩ ⟨rfl,L5_⟩
   refine T_fact (len_sl (T:=tInt) (.tmp 15) rfl) (fun hl5=>?_)
   refine sr ?_
   refine pv tb 1 rfl ?_
   refine TO_nil (T_seq ?_)
   refine T_cond (t:=decide ((t_4:Int)<(fact1.values.length:Int))) rfl (fun d5=>?_) (fun d5=>?_)
   ·replace d5:=of_decide_eq_true d5
    obtain ⟨x_t_4,hx_t_4⟩:∃ v,(fact1.values)[t_4]?=some v:=⟨_,List.getElem?_eq_getElem (by omega)⟩
    obtain ⟨C5_,H,K5_⟩:=forS_step L5_ hx_t_4
    rw [hb5] at H
    refine T_skip ?_
    refine T_seq ?_
    refine T_block ?_
    refine sr ?_
    refine Tp rfl rfl (pur_ixT (T:=tInt) sl28 rfl rfl rfl hx_t_4 rfl) rfl ?_
    refine Tp rfl rfl (pur_ldT (T:=tInt) (i:=t_4) (off:=0) rfl one3 rfl rfl hx_t_4 rfl) rfl ?_
    refine pv tb 1 rfl ?_
    refine TO_nil (T_region ?_)
    obtain ⟨r_6,h_7,H⟩:=bind_inv H
    refine pv tb 2 rfl ?_
    refine TO_cons rfl (TOp_callV (call_static ent60 rfl) (miFormatInt_ok _ _ h_7) rfl rfl rfl ?_)
    refine TO_cons rfl (TOp_lit (nn:=1) (k:=1) sl65 zero9 rfl rfl rfl rfl (by decide) ?_)
    refine TO_st (σ':=[.box [intA fact1.relation,sl tInt fact1.values],.row (flat tStr.enc parts5),.row (flat tStr.enc ([r_6]:(List ByteArray)))]) rfl ?_
    obtain ⟨us_8,h_9,H⟩:=bind_inv H
    refine TO_cons rfl (TOp_appZ (T:=tStr) (f:=tStr.enc) (xs:=parts5) (ys:=([r_6]:(List ByteArray))) tStr.len sl65 zero9 rfl bytes9 (by decide) rfl rfl rfl rfl (src_mT (f:=tStr.enc) tStr.len rfl rfl (flat_cell tStr _)) (flat_cell tStr _) h_9 (lb rfl) ?_)
    refine toe [(0,sl tR relations0),(3,.b 0 0),(7,intA x_t_4),(15,sl tInt fact1.values),(16,intA (fact1.values.length:Int)),(17,intA (t_4:Int)),(22,intA x_t_4),(23,strA r_6),(24,.m [2] 0 ([r_6]:(List ByteArray)).length tStr.k),(25,.m [1] 0 us_8.length tStr.k)] rfl ?_
    refine TO_st (σ':=[.box [intA fact1.relation,sl tInt fact1.values],.row (flat tStr.enc us_8),.row (flat tStr.enc ([r_6]:(List ByteArray))),.dead]) rfl ?_
    refine pv tb 1 rfl ?_
    refine TO_nil (T_region ?_)
    refine Tp rfl rfl (pur_add rfl rfl rfl (fits64 (by omega) (by omega))) rfl ?_
    refine pv tb 1 rfl ?_
    refine TO_nil ?_
    obtain rfl:=some_inj H
    exact again (fact1.values.length - (t_4+1)) (t_4+1,us_8) (by omega) (w0 2) ⟨rfl,K5_⟩
   ·replace d5:=of_decide_eq_false d5
    obtain rfl:=forS_end L5_ (by omega)
    refine T_exit ?_
    refine then_exit ?_
    refine then_exit ?_
    refine block_exit ?_
    replace H:=N5_
    refine sr ?_
    obtain ⟨v_10,h_11,H⟩:=bind_inv H
    obtain ⟨n_12,hz_13,hv_14⟩:=getI_inv h_11
    refine pv tb 3 rfl ?_
    refine Tp rfl rfl (pur_ixT (T:=tR) sl24 rfl rfl hz_13 hv_14 rfl) rfl ?_
    refine Tp rfl rfl (pur_ldTK (T:=tR) (i:=n_12) (off:=0) rfl agg53 rfl rfl hv_14 (by decide) rfl) rfl ?_
    refine TO_cons rfl (TOp_alloc zero53 rfl rfl ?_)
    refine TO_cons rfl (TOp_storeB sz53 rfl rfl rfl rfl rfl rfl rfl (by decide) (lb rfl) rfl ?_)
    refine TO_st (σ':=[.box [intA fact1.relation,sl tInt fact1.values],.row (flat tStr.enc parts5),.box [strA v_10.name,intA v_10.arity,intA v_10.keyLength]]) rfl ?_
    refine TO_nil (T_seq ?_)
    refine T_frz1 1 (E':=[(5,sl tStr parts5),(8,.b 2 0)]) rfl rfl (lb rfl) ⟨fz1E,.keep rfl,trivial⟩ ?_
    refine T_st (σ':=[.box [intA fact1.relation,sl tInt fact1.values],.dead,.box [strA v_10.name,intA v_10.arity,intA v_10.keyLength]]) rfl ?_
    refine T_regionD mixed (by kernel_rfl) ?_
    obtain ⟨r_15,h_16,H⟩:=bind_inv H
    refine pq tb 5 rfl ?_
    refine TQ_callV rfl (call_static ent61 rfl) (mibarred_ok _ _ _ h_16) rfl rfl ?_
    obtain ⟨cat_17,h_18,H⟩:=bind_inv H
    refine TQ_pure rfl (pur_cat rfl rfl rfl h_18) rfl ?_
    refine pq tb 1 rfl ?_
    refine TQ_nil ?_
    refine te [(4,strA cat_17)] rfl ?_
    refine T_ret ?_
    obtain rfl:=some_inj H
    refine end_ret (.tmp .nil) rfl rfl ⟨?_,rfl⟩
    rfl

theorem miFormatEdit_ok (db0:Database) (edit1:Edit) (r:ByteArray) (H:miFormatEdit db0 edit1=some r):FnV prg 10 [.g (tD.enc db0),.g (tEdit.enc edit1)] (strA r):=by
  unfold miFormatEdit at H
  refine fnV_of_T Tryz.func10 rfl rfl (Nat.le_of_ble_eq_true rfl) ?_
  refine te [(0,.g (tD.enc db0)),(1,.g (tEdit.enc edit1))] rfl ?_
  refine sr ?_
  refine TO_cons rfl (TOp_box rfl (boxAll rfl) rfl rfl ?_)
  refine TO_cons rfl (TOp_box rfl (boxAll rfl) rfl rfl ?_)
  refine pv tb 1 rfl ?_
  refine TO_nil (sr ?_)
  obtain ⟨r_1,h_2,H⟩:=bind_inv H
  refine pv tb 4 rfl ?_
  refine TO_cons rfl (TOp_callV (call_static ent28 rfl) (miFormatFact_ok _ _ _ h_2) rfl rfl rfl ?_)
  refine pv tb 1 rfl ?_
  refine TO_nil (T_seq ?_)
  obtain ⟨t18_3,J_3,H_4⟩:=bind_inv H
  refine T_cutX (fun x=>t18_3=x) (fun (t18_3:Bool)=>[(3,.b 1 0),(5,strA r_1),(18,boolA t18_3)]) (fun (t18_3:Bool)=>[.box [sl tR db0.relations,sl tF db0.facts],.box [intA edit1.kind,intA edit1.fact.relation,sl tInt edit1.fact.values]]) ?_ ?_
  ·replace H:=J_3
   refine T_region ?_
   refine pv tb 1 rfl ?_
   refine Tp rfl rfl (pur_eqlS rfl rfl rfl) rfl ?_
   refine pv tb 1 rfl ?_
   refine TO_split (t:=decide (r_1=(⟨#[]⟩:ByteArray))) 13 rfl (fun g_5=>?_) (fun g_5=>?_)
   ·replace H:=cond_t g_5 H
    refine pv tb 5 rfl ?_
    refine TO_nil ?_
    exact joined true (w0 2) (some_inj H).symm
   ·replace H:=cond_f g_5 H
    obtain ⟨r_6,h_7,H⟩:=bind_inv H
    refine pv tb 2 rfl ?_
    refine TO_on rfl rfl (by decide) rfl rfl (TOp_callV (call_static ent29 rfl) (miwithin_ok _ _ _ _ h_7) rfl rfl rfl ?_)
    refine pv tb 2 rfl ?_
    refine TO_nil ?_
    exact joined (!r_6) (w0 2) (some_inj H).symm
  ·rintro _ rfl
   replace H:=H_4
   refine T_cond (t:=t18_3) rfl (fun c_8=>?_) (fun c_8=>?_)
   ·replace H:=cond_t c_8 H
    refine sr ?_
    refine pv tb 1 rfl ?_
    refine TO_nil ?_
    refine T_ret ?_
    refine then_ret ?_
    obtain rfl:=some_inj H
    refine end_ret (.tmp .nil) rfl rfl ⟨?_,rfl⟩
    rfl
   ·replace H:=cond_f c_8 H
    refine T_skip ?_
    refine sr ?_
    obtain ⟨ss_9,h_10,H⟩:=bind_inv H
    refine pv tb 5 rfl ?_
    refine Tp rfl rfl (pur_cutB (lo:=(some (.tmp 20))) (hi:=(some (.tmp 23))) (by kernel_rfl) rfl ⟨_,rfl⟩ ⟨_,rfl⟩ h_10 rfl) rfl ?_
    obtain ⟨cat_11,h_12,H⟩:=bind_inv H
    refine pv tb 1 rfl ?_
    refine Tp rfl rfl (pur_cat rfl rfl rfl h_12) rfl ?_
    refine pv tb 1 rfl ?_
    refine TO_nil ?_
    refine T_ret ?_
    obtain rfl:=some_inj H
    refine end_ret (.tmp .nil) rfl rfl ⟨?_,rfl⟩
    rfl
end Go.Proofs.YtaadmoaanhdboaaGreatDoor

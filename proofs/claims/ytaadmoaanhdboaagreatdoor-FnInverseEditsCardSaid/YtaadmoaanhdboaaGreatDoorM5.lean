import Derived.Test.YtaadmoaanhdboaaGreatDoorM1
import Derived.Test.YtaadmoaanhdboaaGreatDoorM2
import Derived.Test.YtaadmoaanhdboaaGreatDoorM4
set_option linter.unusedVariables false
set_option linter.unusedSimpArgs false
set_option maxRecDepth 4000
set_option maxHeartbeats 1000000
namespace Go.Proofs.YtaadmoaanhdboaaGreatDoor
open Go Go.Proofs Go.Sep
theorem m_slices_Delete_Simpl_Fact_impl_Fact_x (s0:List Fact) (i1 j2:Int) (r:List Fact) (H:m_slices_Delete_Simpl_Fact_impl_Fact s0 i1 j2=some r):FnS prg 47 [.m [0] 0 s0.length tF.k,intA i1,intA j2] [.row (flat tF.enc s0)] (.m [0] 0 r.length tF.k) [.row (flat tF.enc r)]:=by
  unfold m_slices_Delete_Simpl_Fact_impl_Fact at H
  obtain ⟨i,j,rfl,rfl,h1,h2,rfl⟩:=cutOut_inv H
  refine fnS_of_T Tryz.func47 rfl rfl (lb rfl) ?_
  refine te [(0,.m [0] 0 s0.length tF.k),(1,intA (i:Int)),(2,intA (j:Int))] rfl ?_
  refine sr ?_
  refine Tp rfl rfl (pur_assign rfl) rfl ?_
  refine TO_nil ?_
  refine te [(0,.m [0] 0 s0.length tF.k),(1,intA (i:Int)),(2,intA (j:Int))] rfl ?_
  refine sr ?_
  refine Tp rfl rfl (pur_move rfl) rfl ?_
  refine Tp rfl rfl (pur_move rfl) rfl ?_
  refine Tp rfl rfl (pur_move rfl) rfl ?_
  refine Tp rfl rfl (pur_move rfl) rfl ?_
  refine Tp rfl rfl (pur_len_m sl25 rfl rfl) rfl ?_
  refine Tp rfl rfl (pur_cut3J (i:=i) (j:=j) (q:=s0.length) sl25 rfl rfl rfl rfl h1 h2 (Nat.le_refl _) rfl) rfl ?_
  refine TO_nil ?_
  refine te [(0,.m [0] 0 s0.length tF.k),(1,intA (i:Int)),(2,intA (j:Int))] rfl ?_
  refine T_seq (sr ?_)
  refine Tp rfl rfl (pur_move rfl) rfl ?_
  refine Tp rfl rfl (pur_move rfl) rfl ?_
  refine Tp rfl rfl (pur_eql rfl rfl rfl) rfl ?_
  refine TO_nil ?_
  refine te [(0,.m [0] 0 s0.length tF.k),(1,intA (i:Int)),(2,intA (j:Int)),(16,boolA (decide ((i:Int)=(j:Int))))] rfl ?_
  refine T_cond (t:=decide ((i:Int)=(j:Int))) rfl (fun c=>?_) (fun c=>?_)
  ·have e:i=j:=by have:=of_decide_eq_true c;omega
   subst e
   refine sr ?_
   refine Tp rfl rfl (pur_move rfl) rfl ?_
   refine Tp rfl rfl (pur_assign rfl) rfl ?_
   refine TO_nil ?_
   refine te [(6,.m [0] 0 s0.length tF.k)] rfl ?_
   refine T_ret ?_
   refine then_ret ?_
   rw [List.take_append_drop]
   exact end_pickX (.tmp .nil) rfl [0] (by decide) (lb rfl) rfl (lb rfl) rfl rfl rfl rfl rfl rfl
  ·have hij:i<j:=by have:=of_decide_eq_false c;omega
   refine T_skip ?_
   refine te [(0,.m [0] 0 s0.length tF.k),(1,intA (i:Int)),(2,intA (j:Int))] rfl ?_
   refine sr ?_
   refine Tp rfl rfl (pur_move rfl) rfl ?_
   refine Tp rfl rfl (pur_len_m sl25 rfl rfl) rfl ?_
   refine Tp rfl rfl (pur_assign rfl) rfl ?_
   refine TO_nil ?_
   refine te [(0,.m [0] 0 s0.length tF.k),(1,intA (i:Int)),(2,intA (j:Int)),(7,intA (s0.length:Int))] rfl ?_
   refine T_del (Y:=tF) (i:=i) (j:=j) (l:=0) sl25 zero30 rfl mixed ⟨rfl,rfl,rfl⟩ ⟨rfl,rfl,rfl⟩ ⟨rfl,rfl,rfl⟩ ⟨rfl,rfl,rfl⟩ ⟨rfl,rfl,rfl⟩ ⟨rfl,rfl,rfl⟩ ⟨rfl,rfl,rfl⟩ ⟨rfl,rfl,rfl⟩
    (c:=fun q=>#[decide (0<q),decide (1<q),decide (2<q),decide (3<q),decide (4<q),decide (5<q),decide (6<q),decide (7<q)]) (by decide) (by decide)
    (fun q h1 h2=>match q,h1,h2 with | 0,_,_=>(by kernel_rfl) | 1,_,_=>(by kernel_rfl) | 2,_,_=>(by kernel_rfl) | 3,_,_=>(by kernel_rfl) | 4,_,_=>(by kernel_rfl) | 5,_,_=>(by kernel_rfl) | 6,_,h=>absurd rfl h | 7,_,_=>(by kernel_rfl) | _+8,h,_=>absurd h (by omega))
    (by kernel_rfl) (by kernel_rfl) ⟨rfl,rfl,rfl⟩ ⟨rfl,rfl,rfl⟩ ⟨rfl,rfl,rfl⟩ ⟨rfl,rfl,rfl⟩ ⟨rfl,rfl,rfl⟩ ⟨rfl,rfl,rfl⟩ (by decide) hij h2 rfl rfl rfl rfl rfl ?_
   refine sr ?_
   refine Tp rfl rfl (pur_move rfl) rfl ?_
   refine Tp rfl rfl (pur_assign rfl) rfl ?_
   refine TO_nil ?_
   refine te [(6,.m [0] 0 (s0.take i++s0.drop j).length tF.k)] rfl ?_
   refine T_ret ?_
   exact end_pickX (.tmp .nil) rfl [0] (by decide) (lb rfl) rfl (lb rfl) rfl rfl rfl rfl rfl rfl


theorem m_slices_Delete_Simpl_Fact_impl_Fact_xo (s0:List Fact) (i1 j2:Int) (r:List Fact) (H:m_slices_Delete_Simpl_Fact_impl_Fact s0 i1 j2=some r):FnS prg 47 [.m [0] 0 s0.length tF.k,intA i1,intA j2] [.row (flat tF.own s0)] (.m [1] 0 r.length tF.k) [.dead,.row (flat tF.own r)]:=by
  unfold m_slices_Delete_Simpl_Fact_impl_Fact at H
  obtain ⟨i,j,rfl,rfl,h1,h2,rfl⟩:=cutOut_inv H
  refine fnS_of_T Tryz.func47 rfl rfl (lb rfl) ?_
  refine te [(0,.m [0] 0 s0.length tF.k),(1,intA (i:Int)),(2,intA (j:Int))] rfl ?_
  refine sr ?_
  refine Tp rfl rfl (pur_assign rfl) rfl ?_
  refine TO_nil ?_
  refine te [(0,.m [0] 0 s0.length tF.k),(1,intA (i:Int)),(2,intA (j:Int))] rfl ?_
  refine sr ?_
  refine Tp rfl rfl (pur_move rfl) rfl ?_
  refine Tp rfl rfl (pur_move rfl) rfl ?_
  refine Tp rfl rfl (pur_move rfl) rfl ?_
  refine Tp rfl rfl (pur_move rfl) rfl ?_
  refine Tp rfl rfl (pur_len_m sl25 rfl rfl) rfl ?_
  refine Tp rfl rfl (pur_cut3J (i:=i) (j:=j) (q:=s0.length) sl25 rfl rfl rfl rfl h1 h2 (Nat.le_refl _) rfl) rfl ?_
  refine TO_nil ?_
  refine te [(0,.m [0] 0 s0.length tF.k),(1,intA (i:Int)),(2,intA (j:Int))] rfl ?_
  refine T_seq (sr ?_)
  refine Tp rfl rfl (pur_move rfl) rfl ?_
  refine Tp rfl rfl (pur_move rfl) rfl ?_
  refine Tp rfl rfl (pur_eql rfl rfl rfl) rfl ?_
  refine TO_nil ?_
  refine te [(0,.m [0] 0 s0.length tF.k),(1,intA (i:Int)),(2,intA (j:Int)),(16,boolA (decide ((i:Int)=(j:Int))))] rfl ?_
  refine T_cond (t:=decide ((i:Int)=(j:Int))) rfl (fun c=>?_) (fun c=>?_)
  ·have e:i=j:=by have:=of_decide_eq_true c;omega
   subst e
   refine T_pad ?_
   refine T_move' 1 0 (by decide) (lb rfl) rfl rfl (lb rfl) ?_
   refine te [(0,.m [1] 0 s0.length tF.k)] rfl ?_
   refine T_st (σ':=[.dead,.row (flat tF.own s0)]) rfl ?_
   refine sr ?_
   refine Tp rfl rfl (pur_move rfl) rfl ?_
   refine Tp rfl rfl (pur_assign rfl) rfl ?_
   refine TO_nil ?_
   refine te [(6,.m [1] 0 s0.length tF.k)] rfl ?_
   refine T_ret ?_
   refine then_ret ?_
   rw [List.take_append_drop]
   exact end_pickX (.tmp .nil) rfl [0,1] (by decide) (lb rfl) rfl (lb rfl) rfl rfl rfl rfl rfl rfl
  ·have hij:i<j:=by have:=of_decide_eq_false c;omega
   refine T_skip ?_
   refine te [(0,.m [0] 0 s0.length tF.k),(1,intA (i:Int)),(2,intA (j:Int))] rfl ?_
   refine sr ?_
   refine Tp rfl rfl (pur_move rfl) rfl ?_
   refine Tp rfl rfl (pur_len_m sl25 rfl rfl) rfl ?_
   refine Tp rfl rfl (pur_assign rfl) rfl ?_
   refine TO_nil ?_
   refine te [(0,.m [0] 0 s0.length tF.k),(1,intA (i:Int)),(2,intA (j:Int)),(7,intA (s0.length:Int))] rfl ?_
   refine T_delO (Y:=tF) (i:=i) (j:=j) (l:=0) sl25 zero30 rfl mixed ⟨rfl,rfl,rfl⟩ ⟨rfl,rfl,rfl⟩ ⟨rfl,rfl,rfl⟩ ⟨rfl,rfl,rfl⟩ ⟨rfl,rfl,rfl⟩ ⟨rfl,rfl,rfl⟩ ⟨rfl,rfl,rfl⟩ ⟨rfl,rfl,rfl⟩
    (c:=fun q=>#[decide (0<q),decide (1<q),decide (2<q),decide (3<q),decide (4<q),decide (5<q),decide (6<q),decide (7<q)]) (by decide) (by decide)
    (fun q h1 h2=>match q,h1,h2 with | 0,_,_=>(by kernel_rfl) | 1,_,_=>(by kernel_rfl) | 2,_,_=>(by kernel_rfl) | 3,_,_=>(by kernel_rfl) | 4,_,_=>(by kernel_rfl) | 5,_,_=>(by kernel_rfl) | 6,_,h=>absurd rfl h | 7,_,_=>(by kernel_rfl) | _+8,h,_=>absurd h (by omega))
    (by kernel_rfl) (by kernel_rfl) ⟨rfl,rfl,rfl⟩ ⟨rfl,rfl,rfl⟩ ⟨rfl,rfl,rfl⟩ ⟨rfl,rfl,rfl⟩ ⟨rfl,rfl,rfl⟩ ⟨rfl,rfl,rfl⟩ (by decide) hij h2 rfl rfl rfl rfl rfl ?_
   refine sr ?_
   refine Tp rfl rfl (pur_move rfl) rfl ?_
   refine Tp rfl rfl (pur_assign rfl) rfl ?_
   refine TO_nil ?_
   refine te [(6,.m [1] 0 (s0.take i++s0.drop j).length tF.k)] rfl ?_
   refine T_ret ?_
   exact end_pickX (.tmp .nil) rfl [0,1] (by decide) (lb rfl) rfl (lb rfl) rfl rfl rfl rfl rfl rfl


theorem miDeleteFact_own (db0:Database) (fact1:Fact) (r:(Database × Bool)) (H:miDeleteFact db0 fact1=some r):FnO prg 19 [.g (tD.enc db0),.g (tF.enc fact1)] (.t [.g [.m [0] 0 r.1.relations.length tR.k,.m [1] 0 r.1.facts.length tF.k],boolA r.2]) [.row (flat tR.own r.1.relations),.row (flat tF.own r.1.facts)]:=by
  unfold miDeleteFact at H
  refine fnO_of_T Tryz.func19 rfl rfl (Nat.le_of_ble_eq_true rfl) ?_
  refine te [(0,.g (tD.enc db0)),(1,.g (tF.enc fact1))] rfl ?_
  refine sr ?_
  refine TO_cons rfl (TOp_box rfl (boxAll rfl) rfl rfl ?_)
  refine TO_cons rfl (TOp_box rfl (boxAll rfl) rfl rfl ?_)
  refine TO_cons rfl (TOp_alloc zero27 rfl rfl ?_)
  refine pv tb 1 rfl ?_
  refine TO_nil (sr ?_)
  obtain ⟨r_1,h_2,H⟩:=bind_inv H
  refine pv tb 1 rfl ?_
  refine TO_cons rfl (TOp_callO (call_static ent21 rfl) rfl (micopyDatabase_own _ _ h_2) rfl rfl rfl ?_)
  refine toe [(2,.b 0 0),(3,.b 1 0),(4,.b 2 0),(8,.g (tD.enc db0)),(9,.g [.m [3] 0 r_1.relations.length tR.k,.m [4] 0 r_1.facts.length tF.k])] rfl ?_
  refine TO_st (σ':=[.box [sl tR db0.relations,sl tF db0.facts],.box [intA fact1.relation,sl tInt fact1.values],.box [.n,.n],.row (flat tR.own r_1.relations),.row (flat tF.own r_1.facts)]) rfl ?_
  refine TO_cons rfl (TOp_alloc zero27 rfl rfl ?_)
  refine TO_cons rfl (TOp_storeB sz27 rfl rfl rfl rfl rfl rfl rfl (by decide) (lb rfl) rfl ?_)
  refine TO_st (σ':=[.box [sl tR db0.relations,sl tF db0.facts],.box [intA fact1.relation,sl tInt fact1.values],.box [.n,.n],.row (flat tR.own r_1.relations),.row (flat tF.own r_1.facts),.box [.m [3] 0 r_1.relations.length tR.k,.m [4] 0 r_1.facts.length tF.k]]) rfl ?_
  refine TO_nil (T_seq (sr ?_))
  obtain ⟨r_3,h_4,H⟩:=bind_inv H
  refine pv tb 2 rfl ?_
  refine TO_cons rfl (TOp_callV (call_static ent46 rfl) (miContainsFact_ok _ _ _ h_4) rfl rfl rfl ?_)
  refine pv tb 1 rfl ?_
  refine TO_nil ?_
  refine T_cond (t:=(!r_3)) rfl (fun c_5=>?_) (fun c_5=>?_)
  ·replace H:=cond_t c_5 H
   refine sr ?_
   refine pv tb 1 rfl ?_
   refine TO_cons rfl (TOp_storeB sz27 rfl rfl rfl rfl rfl rfl rfl (by decide) (lb rfl) rfl ?_)
   refine TO_st (σ':=[.box [sl tR db0.relations,sl tF db0.facts],.box [intA fact1.relation,sl tInt fact1.values],.box [.m [3] 0 r_1.relations.length tR.k,.m [4] 0 r_1.facts.length tF.k],.row (flat tR.own r_1.relations),.row (flat tF.own r_1.facts),.box [.m [3] 0 r_1.relations.length tR.k,.m [4] 0 r_1.facts.length tF.k]]) rfl ?_
   refine pv tb 1 rfl ?_
   refine TO_nil ?_
   refine T_ret ?_
   refine then_ret ?_
   obtain rfl:=some_inj H
   exact end_pick (.cellK rfl agg27 rfl (lb rfl) (.tmp .nil)) rfl [3,4] (by decide) rfl rfl rfl rfl rfl rfl
  ·replace H:=cond_f c_5 H
   refine T_skip ?_
   refine sr ?_
   obtain ⟨r_6,h_7,H⟩:=bind_inv H
   refine pv tb 2 rfl ?_
   refine TO_cons rfl (TOp_callV (call_static ent44 rfl) (miFactIndex_ok _ _ _ h_7) rfl rfl rfl ?_)
   refine pv tb 1 rfl ?_
   refine TO_nil (sr ?_)
   obtain ⟨r_8,h_9,H⟩:=bind_inv H
   refine pv tb 5 rfl ?_
   refine TO_cons rfl (TOp_callS [4] (call_static ent47 rfl) (by decide) rfl rfl rfl rfl rfl rfl (m_slices_Delete_Simpl_Fact_impl_Fact_xo _ _ _ _ h_9) rfl rfl ?_)
   refine toe [(4,.b 2 0),(6,.b 5 0),(7,intA r_6),(18,.b 5 1),(20,intA r_6),(21,intA r_6),(22,intA (w64 (r_6+1))),(23,.m [6] 0 r_8.length tF.k)] rfl ?_
   refine TO_st (σ':=[.box [sl tR db0.relations,sl tF db0.facts],.box [intA fact1.relation,sl tInt fact1.values],.box [.n,.n],.row (flat tR.own r_1.relations),.dead,.box [.m [3] 0 r_1.relations.length tR.k,.m [4] 0 r_1.facts.length tF.k],.row (flat tF.own r_8)]) rfl ?_
   refine pv tb 1 rfl ?_
   refine TO_cons rfl (TOp_storeB sz25 rfl rfl rfl rfl rfl rfl rfl (by decide) (lb rfl) rfl ?_)
   refine TO_st (σ':=[.box [sl tR db0.relations,sl tF db0.facts],.box [intA fact1.relation,sl tInt fact1.values],.box [.n,.n],.row (flat tR.own r_1.relations),.dead,.box [.m [3] 0 r_1.relations.length tR.k,.m [6] 0 r_8.length tF.k],.row (flat tF.own r_8)]) rfl ?_
   refine TO_nil (sr ?_)
   refine pv tb 1 rfl ?_
   refine TO_cons rfl (TOp_storeB sz27 rfl rfl rfl rfl rfl rfl rfl (by decide) (lb rfl) rfl ?_)
   refine TO_st (σ':=[.box [sl tR db0.relations,sl tF db0.facts],.box [intA fact1.relation,sl tInt fact1.values],.box [.m [3] 0 r_1.relations.length tR.k,.m [6] 0 r_8.length tF.k],.row (flat tR.own r_1.relations),.dead,.box [.m [3] 0 r_1.relations.length tR.k,.m [6] 0 r_8.length tF.k],.row (flat tF.own r_8)]) rfl ?_
   refine pv tb 1 rfl ?_
   refine TO_nil ?_
   refine T_ret ?_
   obtain rfl:=some_inj H
   exact end_pick (.cellK rfl agg27 rfl (lb rfl) (.tmp .nil)) rfl [3,6] (by decide) rfl rfl rfl rfl rfl rfl
theorem miDeleteFact_ok (db0:Database) (fact1:Fact) (r:(Database × Bool)) (H:miDeleteFact db0 fact1=some r):FnV prg 19 [.g (tD.enc db0),.g (tF.enc fact1)] (.t [.g (tD.enc r.1),boolA r.2]):=(miDeleteFact_own db0 fact1 r H).frz (frzOK_t (frz_cons (frzOK_g (frz_cons (frzT (T:=tR) rfl) (frz_cons (frzT (T:=tF) rfl) frz_nil)).1 (frz_cons (frzT (T:=tR) rfl) (frz_cons (frzT (T:=tF) rfl) frz_nil)).2) (frz_cons (frz_loose rfl) frz_nil)).1 (frz_cons (frzOK_g (frz_cons (frzT (T:=tR) rfl) (frz_cons (frzT (T:=tF) rfl) frz_nil)).1 (frz_cons (frzT (T:=tR) rfl) (frz_cons (frzT (T:=tF) rfl) frz_nil)).2) (frz_cons (frz_loose rfl) frz_nil)).2)

theorem m_slices_Index_Sint_int_ok (s0:(List Int)) (v1:Int) (r:Int) (H:m_slices_Index_Sint_int s0 v1=some r):FnV prg 98 [sl tInt s0,intA v1] (intA r):=by
  unfold m_slices_Index_Sint_int at H
  refine fnV_of_T Tryz.func98 rfl rfl (Nat.le_of_ble_eq_true rfl) ?_
  refine te [(0,sl tInt s0),(1,intA v1)] rfl ?_
  refine sr ?_
  refine pv tb 1 rfl ?_
  refine TO_nil (T_seq (sr ?_))
  refine pv tb 1 rfl ?_
  refine Tp rfl rfl (pur_lenT (T:=tInt) sl28 rfl rfl) rfl ?_
  refine pv tb 1 rfl ?_
  refine TO_nil ?_
  obtain ⟨O2_,L2_,N2_⟩:=bind_inv H
  clear H
  obtain ⟨B2_,hb2,L2_⟩:=gen_forL L2_
  refine T_block ?_
  refine T_loopX (fun k=>fun (t_1:Nat)=>k=s0.length - t_1∧forL B2_ (s0.drop t_1) (t_1:Int) ()=some O2_) (fun (t_1:Nat)=>[(0,sl tInt s0),(1,intA v1),(7,intA (s0.length:Int)),(8,intA (t_1:Int))]) (fun (t_1:Nat)=>[]) _ (0:Nat) (w0 0) ⟨rfl,L2_⟩ ?_
  rintro _ t_1 ⟨rfl,L2_⟩
  refine T_fact (len_sl (T:=tInt) (.tmp 0) rfl) (fun hl2=>?_)
  refine sr ?_
  refine pv tb 1 rfl ?_
  refine TO_nil (T_seq ?_)
  refine T_cond (t:=decide ((t_1:Int)<(s0.length:Int))) rfl (fun d2=>?_) (fun d2=>?_)
  ·replace d2:=of_decide_eq_true d2
   obtain ⟨x_t_1,hx_t_1⟩:∃ v,(s0)[t_1]?=some v:=⟨_,List.getElem?_eq_getElem (by omega)⟩
   obtain ⟨C2_,H,K2_⟩:=forL_step L2_ hx_t_1
   rw [hb2] at H
   refine T_skip ?_
   refine T_seq ?_
   refine T_block ?_
   refine sr ?_
   refine pv tb 2 rfl ?_
   refine TO_nil (sr ?_)
   refine pv tb 3 rfl ?_
   refine Tp rfl rfl (pur_ixT (T:=tInt) sl28 rfl rfl rfl hx_t_1 rfl) rfl ?_
   refine Tp rfl rfl (pur_ldT (T:=tInt) (i:=t_1) (off:=0) rfl one3 rfl rfl hx_t_1 rfl) rfl ?_
   refine pv tb 1 rfl ?_
   refine TO_nil ?_
   refine T_cond (t:=decide (v1=x_t_1)) rfl (fun c_3=>?_) (fun c_3=>?_)
   ·replace H:=cond_t c_3 H
    refine sr ?_
    refine pv tb 2 rfl ?_
    refine TO_nil ?_
    refine T_ret ?_
    refine block_ret ?_
    refine then_ret ?_
    refine then_ret ?_
    refine block_ret ?_
    refine then_ret ?_
    obtain rfl:=some_inj H
    obtain rfl:=some_inj K2_
    replace H:=onS_r N2_
    obtain rfl:=some_inj H
    refine end_ret (.tmp .nil) rfl rfl ⟨?_,rfl⟩
    rfl
   ·replace H:=cond_f c_3 H
    refine T_skip ?_
    refine T_region ?_
    refine Tp rfl rfl (pur_add rfl rfl rfl (fits64 (by omega) (by omega))) rfl ?_
    refine pv tb 1 rfl ?_
    refine TO_nil ?_
    obtain rfl:=some_inj H
    exact again (s0.length - (t_1+1)) (t_1+1) (by omega) (w0 0) ⟨rfl,K2_⟩
  ·replace d2:=of_decide_eq_false d2
   obtain rfl:=forL_end L2_ (by omega)
   refine T_exit ?_
   refine then_exit ?_
   refine then_exit ?_
   refine block_exit ?_
   replace H:=onS_l N2_
   refine sr ?_
   refine pv tb 1 rfl ?_
   refine TO_nil ?_
   refine T_ret ?_
   obtain rfl:=some_inj H
   refine end_ret (.tmp .nil) rfl rfl ⟨?_,rfl⟩
   rfl

theorem m_slices_Contains_Sint_int_ok (s0:(List Int)) (v1:Int) (r:Bool) (H:m_slices_Contains_Sint_int s0 v1=some r):FnV prg 81 [sl tInt s0,intA v1] (boolA r):=by
  unfold m_slices_Contains_Sint_int at H
  refine fnV_of_T Tryz.func81 rfl rfl (Nat.le_of_ble_eq_true rfl) ?_
  refine te [(0,sl tInt s0),(1,intA v1)] rfl ?_
  refine sr ?_
  refine pv tb 1 rfl ?_
  refine TO_nil (sr ?_)
  obtain ⟨r_1,h_2,H⟩:=bind_inv H
  refine pv tb 2 rfl ?_
  refine TO_cons rfl (TOp_callV (call_static ent98 rfl) (m_slices_Index_Sint_int_ok _ _ _ h_2) rfl rfl rfl ?_)
  refine pv tb 2 rfl ?_
  refine TO_nil ?_
  refine T_ret ?_
  obtain rfl:=some_inj H
  refine end_ret (.tmp .nil) rfl rfl ⟨?_,rfl⟩
  rfl

theorem miwithout_own (a0:(List Int)) (b1:(List Int)) (r:(List Int)) (H:miwithout a0 b1=some r):FnO prg 49 [sl tInt a0,sl tInt b1] (.m [0] 0 r.length tInt.k) [.row (flat tInt.own r)]:=by
  unfold miwithout at H
  refine fnO_of_T Tryz.func49 rfl rfl (Nat.le_of_ble_eq_true rfl) ?_
  refine te [(0,sl tInt a0),(1,sl tInt b1)] rfl ?_
  refine sr ?_
  refine pv tb 1 rfl ?_
  refine TO_nil (sr ?_)
  refine TO_cons rfl (TOp_lit (nn:=0) (k:=1) sl28 zero3 rfl rfl rfl rfl (by decide) ?_)
  refine TO_st (σ':=[.row (flat tInt.enc ([]:(List Int)))]) rfl ?_
  refine pv tb 1 rfl ?_
  refine TO_nil (T_seq (sr ?_))
  refine pv tb 1 rfl ?_
  refine Tp rfl rfl (pur_lenT (T:=tInt) sl28 rfl rfl) rfl ?_
  refine pv tb 1 rfl ?_
  refine TO_nil ?_
  obtain ⟨O2_,L2_,N2_⟩:=bind_inv H
  clear H
  obtain ⟨B2_,hb2,L2_⟩:=gen_forS L2_
  refine T_block ?_
  refine T_loopX (fun k=>fun (⟨t_1,out5⟩:Nat × (List Int))=>k=a0.length - t_1∧forS B2_ (a0.drop t_1) (t_1:Int) out5=some O2_) (fun (⟨t_1,out5⟩:Nat × (List Int))=>[(1,sl tInt b1),(5,.m [0] 0 out5.length tInt.k),(9,sl tInt a0),(10,intA (a0.length:Int)),(11,intA (t_1:Int))]) (fun (⟨t_1,out5⟩:Nat × (List Int))=>[.row (flat tInt.enc out5)]) _ (0,([]:(List Int))) (w0 1) ⟨rfl,L2_⟩ ?_
  rintro _ ⟨t_1,out5⟩ ⟨rfl,L2_⟩
  refine T_fact (len_sl (T:=tInt) (.tmp 9) rfl) (fun hl2=>?_)
  refine sr ?_
  refine pv tb 1 rfl ?_
  refine TO_nil (T_seq ?_)
  refine T_cond (t:=decide ((t_1:Int)<(a0.length:Int))) rfl (fun d2=>?_) (fun d2=>?_)
  ·replace d2:=of_decide_eq_true d2
   obtain ⟨x_t_1,hx_t_1⟩:∃ v,(a0)[t_1]?=some v:=⟨_,List.getElem?_eq_getElem (by omega)⟩
   obtain ⟨C2_,H,K2_⟩:=forS_step L2_ hx_t_1
   rw [hb2] at H
   refine T_skip ?_
   refine T_seq ?_
   refine T_block ?_
   refine sr ?_
   refine Tp rfl rfl (pur_ixT (T:=tInt) sl28 rfl rfl rfl hx_t_1 rfl) rfl ?_
   refine Tp rfl rfl (pur_ldT (T:=tInt) (i:=t_1) (off:=0) rfl one3 rfl rfl hx_t_1 rfl) rfl ?_
   refine pv tb 1 rfl ?_
   refine TO_nil (sr ?_)
   obtain ⟨r_3,h_4,H⟩:=bind_inv H
   refine pv tb 2 rfl ?_
   refine TO_cons rfl (TOp_callV (call_static ent81 rfl) (m_slices_Contains_Sint_int_ok _ _ _ h_4) rfl rfl rfl ?_)
   refine pv tb 1 rfl ?_
   refine TO_nil ?_
   refine T_cond (t:=(!r_3)) rfl (fun c_5=>?_) (fun c_5=>?_)
   ·replace H:=cond_t c_5 H
    refine T_region ?_
    refine pv tb 2 rfl ?_
    refine TO_cons rfl (TOp_lit (nn:=1) (k:=1) sl28 zero3 rfl rfl rfl rfl (by decide) ?_)
    refine TO_st (σ':=[.row (flat tInt.enc out5),.row (flat tInt.enc ([x_t_1]:(List Int)))]) rfl ?_
    obtain ⟨us_6,h_7,H⟩:=bind_inv H
    refine TO_cons rfl (TOp_appZ (T:=tInt) (f:=tInt.enc) (xs:=out5) (ys:=([x_t_1]:(List Int))) tInt.len sl28 zero3 rfl bytes3 (by decide) rfl rfl rfl rfl (src_mT (f:=tInt.enc) tInt.len rfl rfl (flat_cell tInt _)) (flat_cell tInt _) h_7 (lb rfl) ?_)
    refine toe [(1,sl tInt b1),(7,intA x_t_1),(9,sl tInt a0),(10,intA (a0.length:Int)),(11,intA (t_1:Int)),(18,boolA (!r_3)),(20,intA x_t_1),(21,.m [1] 0 ([x_t_1]:(List Int)).length tInt.k),(22,.m [0] 0 us_6.length tInt.k)] rfl ?_
    refine TO_st (σ':=[.row (flat tInt.enc us_6),.row (flat tInt.enc ([x_t_1]:(List Int))),.dead]) rfl ?_
    refine pv tb 1 rfl ?_
    refine TO_nil (T_region ?_)
    refine Tp rfl rfl (pur_add rfl rfl rfl (fits64 (by omega) (by omega))) rfl ?_
    refine pv tb 1 rfl ?_
    refine TO_nil ?_
    obtain rfl:=some_inj H
    exact again (a0.length - (t_1+1)) (t_1+1,us_6) (by omega) (w0 1) ⟨rfl,K2_⟩
   ·replace H:=cond_f c_5 H
    refine T_skip ?_
    refine T_region ?_
    refine Tp rfl rfl (pur_add rfl rfl rfl (fits64 (by omega) (by omega))) rfl ?_
    refine pv tb 1 rfl ?_
    refine TO_nil ?_
    obtain rfl:=some_inj H
    exact again (a0.length - (t_1+1)) (t_1+1,out5) (by omega) (w0 1) ⟨rfl,K2_⟩
  ·replace d2:=of_decide_eq_false d2
   obtain rfl:=forS_end L2_ (by omega)
   refine T_exit ?_
   refine then_exit ?_
   refine then_exit ?_
   refine block_exit ?_
   replace H:=N2_
   refine sr ?_
   refine pv tb 2 rfl ?_
   refine TO_nil ?_
   refine T_ret ?_
   obtain rfl:=some_inj H
   exact end_pick (.tmp .nil) rfl [0] (by decide) rfl rfl rfl rfl rfl rfl
theorem miwithout_ok (a0:(List Int)) (b1:(List Int)) (r:(List Int)) (H:miwithout a0 b1=some r):FnV prg 49 [sl tInt a0,sl tInt b1] (sl tInt r):=(miwithout_own a0 b1 r H).frz (frzT (T:=tInt) rfl)

theorem miareIndices_ok (indices0:(List Int)) (n1:Int) (r:Bool) (H:miareIndices indices0 n1=some r):FnV prg 97 [sl tInt indices0,intA n1] (boolA r):=by
  unfold miareIndices at H
  refine fnV_of_T Tryz.func97 rfl rfl (Nat.le_of_ble_eq_true rfl) ?_
  refine te [(0,sl tInt indices0),(1,intA n1)] rfl ?_
  refine sr ?_
  refine pv tb 1 rfl ?_
  refine TO_nil (T_seq (sr ?_))
  refine pv tb 1 rfl ?_
  refine Tp rfl rfl (pur_lenT (T:=tInt) sl28 rfl rfl) rfl ?_
  refine pv tb 1 rfl ?_
  refine TO_nil ?_
  obtain ⟨O2_,L2_,N2_⟩:=bind_inv H
  clear H
  obtain ⟨B2_,hb2,L2_⟩:=gen_forL L2_
  refine T_block ?_
  refine T_loopX (fun k=>fun (t_1:Nat)=>k=indices0.length - t_1∧forL B2_ (indices0.drop t_1) (t_1:Int) ()=some O2_) (fun (t_1:Nat)=>[(0,sl tInt indices0),(1,intA n1),(7,sl tInt indices0),(8,intA (indices0.length:Int)),(9,intA (t_1:Int))]) (fun (t_1:Nat)=>[]) _ (0:Nat) (w0 0) ⟨rfl,L2_⟩ ?_
  rintro _ t_1 ⟨rfl,L2_⟩
  refine T_fact (len_sl (T:=tInt) (.tmp 0) rfl) (fun hl2=>?_)
  refine sr ?_
  refine pv tb 1 rfl ?_
  refine TO_nil (T_seq ?_)
  refine T_cond (t:=decide ((t_1:Int)<(indices0.length:Int))) rfl (fun d2=>?_) (fun d2=>?_)
  ·replace d2:=of_decide_eq_true d2
   obtain ⟨x_t_1,hx_t_1⟩:∃ v,(indices0)[t_1]?=some v:=⟨_,List.getElem?_eq_getElem (by omega)⟩
   obtain ⟨C2_,H,K2_⟩:=forL_step L2_ hx_t_1
   rw [hb2] at H
   refine T_skip ?_
   refine T_seq ?_
   refine T_block ?_
   refine sr ?_
   refine pv tb 1 rfl ?_
   refine Tp rfl rfl (pur_ixT (T:=tInt) sl28 rfl rfl rfl hx_t_1 rfl) rfl ?_
   refine Tp rfl rfl (pur_ldT (T:=tInt) (i:=t_1) (off:=0) rfl one3 rfl rfl hx_t_1 rfl) rfl ?_
   refine pv tb 2 rfl ?_
   refine TO_nil ?_
   obtain ⟨t31_3,J_3,H_4⟩:=bind_inv H
   refine T_cutX (fun x=>t31_3=x) (fun (t31_3:Bool)=>[(0,sl tInt indices0),(1,intA n1),(7,sl tInt indices0),(8,intA (indices0.length:Int)),(9,intA (t_1:Int)),(31,boolA t31_3)]) (fun (t31_3:Bool)=>[]) ?_ ?_
   ·replace H:=J_3
    refine T_region ?_
    obtain ⟨r_5,h_6,H⟩:=bind_inv H
    refine pv tb 3 rfl ?_
    refine TO_cons rfl (TOp_callV (call_static ent29 rfl) (miwithin_ok _ _ _ _ h_6) rfl rfl rfl ?_)
    refine pv tb 2 rfl ?_
    refine TO_split (t:=(!r_5)) 19 rfl (fun g_7=>?_) (fun g_7=>?_)
    ·replace H:=cond_t g_7 H
     refine pv tb 8 rfl ?_
     refine toe [(0,sl tInt indices0),(1,intA n1),(6,intA x_t_1),(7,sl tInt indices0),(8,intA (indices0.length:Int)),(9,intA (t_1:Int)),(19,boolA true),(22,.v undef),(27,.v undef)] rfl ?_
     refine pv tb 4 rfl ?_
     refine TO_nil ?_
     exact joined true (w0 0) (some_inj H).symm
    ·replace H:=cond_f g_7 H
     refine pv tb 3 rfl ?_
     refine TO_split (t:=decide (0<(t_1:Int))) 22 rfl (fun g_8=>?_) (fun g_8=>?_)
     ·replace H:=cond_t g_8 H
      refine pv tb 2 rfl ?_
      refine TO_on rfl rfl (by decide) rfl rfl (TOp_pure (pur_sub rfl rfl rfl (fits64 (by omega) (by omega))) rfl ?_)
      obtain ⟨v_9,h_10,H⟩:=bind_inv H
      obtain ⟨n_11,hz_12,hv_13⟩:=getI_inv h_10
      refine TO_on rfl rfl (by decide) rfl rfl (TOp_pure (pur_ixT (T:=tInt) sl28 rfl rfl hz_12 hv_13 rfl) rfl ?_)
      refine TO_on rfl rfl (by decide) rfl rfl (TOp_pure (pur_ldT (T:=tInt) (i:=n_11) (off:=0) rfl one3 rfl rfl hv_13 rfl) rfl ?_)
      refine pv tb 4 rfl ?_
      refine TO_nil ?_
      exact joined (decide (x_t_1≤v_9)) (w0 0) (some_inj H).symm
     ·replace H:=cond_f g_8 H
      refine pv tb 9 rfl ?_
      refine TO_nil ?_
      exact joined false (w0 0) (some_inj H).symm
   ·rintro _ rfl
    replace H:=H_4
    refine T_cond (t:=t31_3) rfl (fun c_14=>?_) (fun c_14=>?_)
    ·replace H:=cond_t c_14 H
     refine sr ?_
     refine pv tb 1 rfl ?_
     refine TO_nil ?_
     refine T_ret ?_
     refine block_ret ?_
     refine then_ret ?_
     refine then_ret ?_
     refine block_ret ?_
     refine then_ret ?_
     obtain rfl:=some_inj H
     obtain rfl:=some_inj K2_
     replace H:=onS_r N2_
     obtain rfl:=some_inj H
     refine end_ret (.tmp .nil) rfl rfl ⟨?_,rfl⟩
     rfl
    ·replace H:=cond_f c_14 H
     refine T_skip ?_
     refine T_region ?_
     refine Tp rfl rfl (pur_add rfl rfl rfl (fits64 (by omega) (by omega))) rfl ?_
     refine pv tb 1 rfl ?_
     refine TO_nil ?_
     obtain rfl:=some_inj H
     exact again (indices0.length - (t_1+1)) (t_1+1) (by omega) (w0 0) ⟨rfl,K2_⟩
  ·replace d2:=of_decide_eq_false d2
   obtain rfl:=forL_end L2_ (by omega)
   refine T_exit ?_
   refine then_exit ?_
   refine then_exit ?_
   refine block_exit ?_
   replace H:=onS_l N2_
   refine sr ?_
   refine pv tb 1 rfl ?_
   refine TO_nil ?_
   refine T_ret ?_
   obtain rfl:=some_inj H
   refine end_ret (.tmp .nil) rfl rfl ⟨?_,rfl⟩
   rfl

theorem miSelectFacts_own (db0:Database) (indices1:(List Int)) (r:(Database × Bool)) (H:miSelectFacts db0 indices1=some r):FnO prg 80 [.g (tD.enc db0),sl tInt indices1] (.t [.g [.m [0] 0 r.1.relations.length tR.k,.m [1] 0 r.1.facts.length tF.k],boolA r.2]) [.row (flat tR.enc r.1.relations),.row (flat tF.enc r.1.facts)]:=by
  unfold miSelectFacts at H
  refine fnO_of_T Tryz.func80 rfl rfl (Nat.le_of_ble_eq_true rfl) ?_
  refine te [(0,.g (tD.enc db0)),(1,sl tInt indices1)] rfl ?_
  refine sr ?_
  refine TO_cons rfl (TOp_box rfl (boxAll rfl) rfl rfl ?_)
  refine TO_cons rfl (TOp_alloc zero27 rfl rfl ?_)
  refine pv tb 1 rfl ?_
  refine TO_nil (T_seq ?_)
  obtain ⟨t20_1,J_1,H_2⟩:=bind_inv H
  refine T_cutX (fun x=>t20_1=x) (fun (t20_1:Bool)=>[(1,sl tInt indices1),(2,.b 0 0),(4,.b 1 0),(20,boolA t20_1)]) (fun (t20_1:Bool)=>[.box [sl tR db0.relations,sl tF db0.facts],.box [.n,.n]]) ?_ ?_
  ·replace H:=J_1
   refine T_region ?_
   obtain ⟨r_3,h_4,H⟩:=bind_inv H
   refine pv tb 1 rfl ?_
   refine TO_cons rfl (TOp_callV (call_static ent42 rfl) (miIsValidDatabase_ok _ _ h_4) rfl rfl rfl ?_)
   refine pv tb 2 rfl ?_
   refine TO_split (t:=(!r_3)) 13 rfl (fun g_5=>?_) (fun g_5=>?_)
   ·replace H:=cond_t g_5 H
    refine pv tb 7 rfl ?_
    refine TO_nil ?_
    exact joined true (w0 2) (some_inj H).symm
   ·replace H:=cond_f g_5 H
    refine pv tb 3 rfl ?_
    refine TO_on rfl rfl (by decide) rfl rfl (TOp_pure (pur_lenT (T:=tF) sl25 rfl rfl) rfl ?_)
    obtain ⟨r_6,h_7,H⟩:=bind_inv H
    refine TO_on rfl rfl (by decide) rfl rfl (TOp_callV (call_static ent97 rfl) (miareIndices_ok _ _ _ h_7) rfl rfl rfl ?_)
    refine pv tb 2 rfl ?_
    refine TO_nil ?_
    exact joined (!r_6) (w0 2) (some_inj H).symm
  ·rintro _ rfl
   replace H:=H_2
   refine T_cond (t:=t20_1) rfl (fun c_8=>?_) (fun c_8=>?_)
   ·replace H:=cond_t c_8 H
    refine sr ?_
    refine Tp rfl rfl (pur_build bld27 rfl rfl) rfl ?_
    refine TO_cons rfl (TOp_storeB sz27 rfl rfl rfl rfl rfl rfl rfl (by decide) (lb rfl) rfl ?_)
    refine TO_st (σ':=[.box [sl tR db0.relations,sl tF db0.facts],.box [.n,.n]]) rfl ?_
    refine pv tb 1 rfl ?_
    refine TO_nil ?_
    refine T_row0 ?_
    refine T_row0 ?_
    refine T_boxle (xs:=[.n,.n]) (ys:=[.m [2] 0 ([]:(List Relation)).length tR.k,.m [3] 0 ([]:(List Fact)).length tF.k]) 1 rfl (leCons leM (leCons leM leNil)) ?_
    refine T_st (σ':=[.box [sl tR db0.relations,sl tF db0.facts],.box [.m [2] 0 ([]:(List Relation)).length tR.k,.m [3] 0 ([]:(List Fact)).length tF.k],.row (flat tR.enc ([]:(List Relation))),.row (flat tF.enc ([]:(List Fact)))]) rfl ?_
    refine T_ret ?_
    refine then_ret ?_
    obtain rfl:=some_inj H
    exact end_pick (.cellK rfl agg27 rfl (lb rfl) (.tmp .nil)) rfl [2,3] (by decide) rfl rfl rfl rfl rfl rfl
   ·replace H:=cond_f c_8 H
    refine T_skip ?_
    refine sr ?_
    obtain ⟨r_9,h_10,H⟩:=bind_inv H
    refine pv tb 1 rfl ?_
    refine TO_cons rfl (TOp_callO (call_static ent21 rfl) rfl (micopyDatabase_enc _ _ h_10) rfl rfl rfl ?_)
    refine toe [(1,sl tInt indices1),(2,.b 0 0),(4,.b 1 0),(22,.g (tD.enc db0)),(23,.g [.m [2] 0 r_9.relations.length tR.k,.m [3] 0 r_9.facts.length tF.k])] rfl ?_
    refine TO_st (σ':=[.box [sl tR db0.relations,sl tF db0.facts],.box [.n,.n],.row (flat tR.enc r_9.relations),.row (flat tF.enc r_9.facts)]) rfl ?_
    refine TO_cons rfl (TOp_alloc zero27 rfl rfl ?_)
    refine TO_cons rfl (TOp_storeB sz27 rfl rfl rfl rfl rfl rfl rfl (by decide) (lb rfl) rfl ?_)
    refine TO_st (σ':=[.box [sl tR db0.relations,sl tF db0.facts],.box [.n,.n],.row (flat tR.enc r_9.relations),.row (flat tF.enc r_9.facts),.box [.m [2] 0 r_9.relations.length tR.k,.m [3] 0 r_9.facts.length tF.k]]) rfl ?_
    refine TO_nil (sr ?_)
    refine pv tb 2 rfl ?_
    refine Tp rfl rfl (pur_build bld27 rfl rfl) rfl ?_
    refine TO_cons rfl (TOp_alloc zero27 rfl rfl ?_)
    refine TO_cons rfl (TOp_storeB sz27 rfl rfl rfl rfl rfl rfl rfl (by decide) (lb rfl) rfl ?_)
    refine TO_st (σ':=[.box [sl tR db0.relations,sl tF db0.facts],.box [.n,.n],.row (flat tR.enc r_9.relations),.row (flat tF.enc r_9.facts),.box [.m [2] 0 r_9.relations.length tR.k,.m [3] 0 r_9.facts.length tF.k],.box [.m [2] 0 r_9.relations.length tR.k,.n]]) rfl ?_
    refine TO_nil (T_seq (sr ?_))
    refine pv tb 1 rfl ?_
    refine Tp rfl rfl (pur_lenT (T:=tInt) sl28 rfl rfl) rfl ?_
    refine pv tb 1 rfl ?_
    refine TO_nil ?_
    refine T_row0 ?_
    refine T_boxle (xs:=[.m [2] 0 r_9.relations.length tR.k,.n]) (ys:=[.m [2] 0 r_9.relations.length tR.k,.m [6] 0 ([]:(List Fact)).length tF.k]) 5 rfl (leCons (leR rfl) (leCons leM leNil)) ?_
    refine T_st (σ':=[.box [sl tR db0.relations,sl tF db0.facts],.box [.n,.n],.row (flat tR.enc r_9.relations),.row (flat tF.enc r_9.facts),.box [.m [2] 0 r_9.relations.length tR.k,.m [3] 0 r_9.facts.length tF.k],.box [.m [2] 0 r_9.relations.length tR.k,.m [6] 0 ([]:(List Fact)).length tF.k],.row (flat tF.enc ([]:(List Fact)))]) rfl ?_
    obtain ⟨O12_,L12_,N12_⟩:=bind_inv H
    clear H
    obtain ⟨B12_,hb12,L12_⟩:=gen_forS L12_
    refine T_block ?_
    refine T_loopX (fun k=>fun (⟨t_11,box5_facts⟩:Nat × (List Fact))=>k=indices1.length - t_11∧forS B12_ (indices1.drop t_11) (t_11:Int) box5_facts=some O12_) (fun (⟨t_11,box5_facts⟩:Nat × (List Fact))=>[(4,.b 1 0),(6,.b 4 0),(7,.b 5 0),(27,sl tInt indices1),(28,intA (indices1.length:Int)),(29,intA (t_11:Int))]) (fun (⟨t_11,box5_facts⟩:Nat × (List Fact))=>[.box [sl tR db0.relations,sl tF db0.facts],.box [.n,.n],.row (flat tR.enc r_9.relations),.row (flat tF.enc r_9.facts),.box [.m [2] 0 r_9.relations.length tR.k,.m [3] 0 r_9.facts.length tF.k],.box [.m [2] 0 r_9.relations.length tR.k,.m [6] 0 box5_facts.length tF.k],.row (flat tF.enc box5_facts)]) _ (0,([]:(List Fact))) (w0 7) ⟨rfl,L12_⟩ ?_
    rintro _ ⟨t_11,box5_facts⟩ ⟨rfl,L12_⟩
    refine T_fact (len_sl (T:=tInt) (.tmp 27) rfl) (fun hl12=>?_)
    refine sr ?_
    refine pv tb 1 rfl ?_
    refine TO_nil (T_seq ?_)
    refine T_cond (t:=decide ((t_11:Int)<(indices1.length:Int))) rfl (fun d12=>?_) (fun d12=>?_)
    ·replace d12:=of_decide_eq_true d12
     obtain ⟨x_t_11,hx_t_11⟩:∃ v,(indices1)[t_11]?=some v:=⟨_,List.getElem?_eq_getElem (by omega)⟩
     obtain ⟨C12_,H,K12_⟩:=forS_step L12_ hx_t_11
     rw [hb12] at H
     refine T_skip ?_
     refine T_seq ?_
     refine T_block ?_
     refine sr ?_
     refine Tp rfl rfl (pur_ixT (T:=tInt) sl28 rfl rfl rfl hx_t_11 rfl) rfl ?_
     refine Tp rfl rfl (pur_ldT (T:=tInt) (i:=t_11) (off:=0) rfl one3 rfl rfl hx_t_11 rfl) rfl ?_
     refine pv tb 1 rfl ?_
     refine TO_nil ?_
     obtain ⟨v_13,h_14,H⟩:=bind_inv H
     obtain ⟨n_15,hz_16,hv_17⟩:=getI_inv h_14
     obtain ⟨us_18,h_19,H⟩:=bind_inv H
     refine T_pad ?_
     refine T_pad ?_
     refine T_regionPh 7 10 mixed rfl (by kernel_rfl) ?_
     refine pa tb [0,1,2,3,4] 5 rfl (by kernel_rfl) rfl ?_
     refine tf 5 rfl (pur_ixM (T:=tF) sl25 rfl rfl hz_16 hv_17 rfl) rfl rfl (by kernel_rfl) ?_
     refine t1 6 (by kernel_rfl) rfl rfl (TOp_pure (pur_ldEK (f:=tF.enc) (k:=tF.k) (i:=n_15) (off:=0) tF.len rfl agg30 rfl rfl rfl hv_17 (by decide) rfl) rfl ?_)
     refine t1 7 (by kernel_rfl) rfl rfl (TOp_lit (nn:=1) (k:=2) sl25 zero30 rfl rfl rfl rfl (by decide) ?_)
     refine tmw 7 9 (by decide) (lb rfl) rfl rfl (lb rfl) rfl ?_
     refine t1 8 (by kernel_rfl) rfl rfl (TOp_appY (T:=tF) (f:=tF.enc) (xs:=box5_facts) (ys:=([v_13]:(List Fact))) tF.len sl25 zero30 rfl bytes30 (by decide) rfl rfl rfl rfl (src_mT (f:=tF.enc) tF.len rfl rfl (flat_cell tF _)) (flat_cell tF _) h_19 ?_)
     refine tmw 8 10 (by decide) (lb rfl) rfl rfl (lb rfl) rfl ?_
     refine tae [(4,.b 1 0),(6,.b 4 0),(7,.b 5 0),(27,sl tInt indices1),(28,intA (indices1.length:Int)),(29,intA (t_11:Int)),(41,.m [8] 0 us_18.length tF.k)] rfl ?_
     refine TA_st (σ':=[.dead,.dead,.row (flat tR.enc r_9.relations),.row (flat tF.enc r_9.facts),.dead,.dead,.dead,.row (flat tF.enc ([v_13]:(List Fact))),.row (flat tF.enc us_18),.dead,.dead]) rfl ?_
     refine pa tb [9] 0 rfl (by kernel_rfl) rfl ?_
     refine TA_nil (by kernel_rfl) ?_
     refine TA_st (σ':=[.box [sl tR db0.relations,sl tF db0.facts],.box [.n,.n],.row (flat tR.enc r_9.relations),.row (flat tF.enc r_9.facts),.box [.m [2] 0 r_9.relations.length tR.k,.m [3] 0 r_9.facts.length tF.k],.box [.m [2] 0 r_9.relations.length tR.k,.m [6] 0 box5_facts.length tF.k],.dead,.row (flat tF.enc ([v_13]:(List Fact))),.row (flat tF.enc us_18),.dead,.dead]) rfl ?_
     refine tmv 6 8 (by decide) (lb rfl) rfl rfl (lb rfl) ?_
     refine TA_st (σ':=[.box [sl tR db0.relations,sl tF db0.facts],.box [.n,.n],.row (flat tR.enc r_9.relations),.row (flat tF.enc r_9.facts),.box [.m [2] 0 r_9.relations.length tR.k,.m [3] 0 r_9.facts.length tF.k],.box [.m [2] 0 r_9.relations.length tR.k,.j],.row (flat tF.enc us_18),.row (flat tF.enc ([v_13]:(List Fact))),.dead,.dead,.dead]) rfl ?_
     refine t1 10 (by kernel_rfl) rfl rfl (TOp_storeB sz25 rfl rfl rfl rfl rfl rfl rfl (by decide) (lb rfl) rfl ?_)
     refine TA_st (σ':=[.box [sl tR db0.relations,sl tF db0.facts],.box [.n,.n],.row (flat tR.enc r_9.relations),.row (flat tF.enc r_9.facts),.box [.m [2] 0 r_9.relations.length tR.k,.m [3] 0 r_9.facts.length tF.k],.box [.m [2] 0 r_9.relations.length tR.k,.m [6] 0 us_18.length tF.k],.row (flat tF.enc us_18),.row (flat tF.enc ([v_13]:(List Fact))),.dead,.dead,.dead]) rfl ?_
     refine TA_nil (by kernel_rfl) ?_
     refine T_region ?_
     refine Tp rfl rfl (pur_add rfl rfl rfl (fits64 (by omega) (by omega))) rfl ?_
     refine pv tb 1 rfl ?_
     refine TO_nil ?_
     obtain rfl:=some_inj H
     exact again (indices1.length - (t_11+1)) (t_11+1,us_18) (by omega) (w0 7) ⟨rfl,K12_⟩
    ·replace d12:=of_decide_eq_false d12
     obtain rfl:=forS_end L12_ (by omega)
     refine T_exit ?_
     refine then_exit ?_
     refine then_exit ?_
     refine block_exit ?_
     replace H:=N12_
     refine sr ?_
     refine pv tb 1 rfl ?_
     refine TO_cons rfl (TOp_storeB sz27 rfl rfl rfl rfl rfl rfl rfl (by decide) (lb rfl) rfl ?_)
     refine TO_st (σ':=[.box [sl tR db0.relations,sl tF db0.facts],.box [.m [2] 0 r_9.relations.length tR.k,.m [6] 0 box5_facts.length tF.k],.row (flat tR.enc r_9.relations),.row (flat tF.enc r_9.facts),.box [.m [2] 0 r_9.relations.length tR.k,.m [3] 0 r_9.facts.length tF.k],.box [.m [2] 0 r_9.relations.length tR.k,.m [6] 0 box5_facts.length tF.k],.row (flat tF.enc box5_facts)]) rfl ?_
     refine pv tb 1 rfl ?_
     refine TO_nil ?_
     refine T_ret ?_
     obtain rfl:=some_inj H
     exact end_pick (.cellK rfl agg27 rfl (lb rfl) (.tmp .nil)) rfl [2,6] (by decide) rfl rfl rfl rfl rfl rfl
theorem miSelectFacts_ok (db0:Database) (indices1:(List Int)) (r:(Database × Bool)) (H:miSelectFacts db0 indices1=some r):FnV prg 80 [.g (tD.enc db0),sl tInt indices1] (.t [.g (tD.enc r.1),boolA r.2]):=(miSelectFacts_own db0 indices1 r H).frz (frzOK_t (frz_cons (frzOK_g (frz_cons (frzTE (T:=tR) rfl) (frz_cons (frzTE (T:=tF) rfl) frz_nil)).1 (frz_cons (frzTE (T:=tR) rfl) (frz_cons (frzTE (T:=tF) rfl) frz_nil)).2) (frz_cons (frz_loose rfl) frz_nil)).1 (frz_cons (frzOK_g (frz_cons (frzTE (T:=tR) rfl) (frz_cons (frzTE (T:=tF) rfl) frz_nil)).1 (frz_cons (frzTE (T:=tR) rfl) (frz_cons (frzTE (T:=tF) rfl) frz_nil)).2) (frz_cons (frz_loose rfl) frz_nil)).2)

theorem miwithoutFacts_own (db0:Database) (indices1:(List Int)) (r:Database) (H:miwithoutFacts db0 indices1=some r):FnO prg 48 [.g (tD.enc db0),sl tInt indices1] (.g [.m [0] 0 r.relations.length tR.k,.m [1] 0 r.facts.length tF.k]) [.row (flat tR.enc r.relations),.row (flat tF.enc r.facts)]:=by
  unfold miwithoutFacts at H
  refine fnO_of_T Tryz.func48 rfl rfl (Nat.le_of_ble_eq_true rfl) ?_
  refine te [(0,.g (tD.enc db0)),(1,sl tInt indices1)] rfl ?_
  refine sr ?_
  refine TO_cons rfl (TOp_box rfl (boxAll rfl) rfl rfl ?_)
  refine TO_cons rfl (TOp_alloc zero27 rfl rfl ?_)
  refine TO_nil (sr ?_)
  refine TO_cons rfl (TOp_lit (nn:=0) (k:=1) sl28 zero3 rfl rfl rfl rfl (by decide) ?_)
  refine TO_st (σ':=[.box [sl tR db0.relations,sl tF db0.facts],.box [.n,.n],.row (flat tInt.enc ([]:(List Int)))]) rfl ?_
  refine pv tb 1 rfl ?_
  refine TO_nil (T_seq (sr ?_))
  refine pv tb 2 rfl ?_
  refine Tp rfl rfl (pur_lenT (T:=tF) sl25 rfl rfl) rfl ?_
  refine pv tb 1 rfl ?_
  refine TO_nil ?_
  obtain ⟨_,h_3,H⟩:=bind_inv H
  replace h_3:=gN_inv h_3
  obtain ⟨O2_,L2_,N2_⟩:=bind_inv H
  clear H
  obtain ⟨B2_,hb2,L2_⟩:=gen_forM L2_
  refine T_block ?_
  refine T_loopX (fun k=>fun (⟨t_1,all5⟩:Int × (List Int))=>k=((db0.facts.length:Int) - t_1).toNat∧0≤t_1∧forM B2_ ((db0.facts.length:Int) - t_1).toNat t_1 all5=some O2_) (fun (⟨t_1,all5⟩:Int × (List Int))=>[(1,sl tInt indices1),(2,.b 0 0),(4,.b 1 0),(5,.m [2] 0 all5.length tInt.k),(12,intA (db0.facts.length:Int)),(13,intA (t_1:Int))]) (fun (⟨t_1,all5⟩:Int × (List Int))=>[.box [sl tR db0.relations,sl tF db0.facts],.box [.n,.n],.row (flat tInt.enc all5)]) _ (0,([]:(List Int))) (w0 3) ⟨rfl,Int.le_refl _,L2_⟩ ?_
  rintro _ ⟨t_1,all5⟩ ⟨rfl,hi2,L2_⟩
  refine sr ?_
  refine pv tb 1 rfl ?_
  refine TO_nil (T_seq ?_)
  refine T_cond (t:=decide ((t_1:Int)<(db0.facts.length:Int))) rfl (fun d2=>?_) (fun d2=>?_)
  ·replace d2:=of_decide_eq_true d2
   obtain ⟨C2_,H,K2_⟩:=forM_step L2_ d2
   rw [hb2] at H
   refine T_skip ?_
   refine T_seq ?_
   refine T_block ?_
   refine sr ?_
   refine pv tb 2 rfl ?_
   refine TO_nil (T_region ?_)
   refine pv tb 2 rfl ?_
   refine TO_cons rfl (TOp_lit (nn:=1) (k:=1) sl28 zero3 rfl rfl rfl rfl (by decide) ?_)
   refine TO_st (σ':=[.box [sl tR db0.relations,sl tF db0.facts],.box [.n,.n],.row (flat tInt.enc all5),.row (flat tInt.enc ([(t_1:Int)]:(List Int)))]) rfl ?_
   obtain ⟨us_4,h_5,H⟩:=bind_inv H
   refine TO_cons rfl (TOp_appZ (T:=tInt) (f:=tInt.enc) (xs:=all5) (ys:=([(t_1:Int)]:(List Int))) tInt.len sl28 zero3 rfl bytes3 (by decide) rfl rfl rfl rfl (src_mT (f:=tInt.enc) tInt.len rfl rfl (flat_cell tInt _)) (flat_cell tInt _) h_5 (lb rfl) ?_)
   refine toe [(1,sl tInt indices1),(2,.b 0 0),(4,.b 1 0),(6,intA (t_1:Int)),(12,intA (db0.facts.length:Int)),(13,intA (t_1:Int)),(17,intA (t_1:Int)),(18,.m [3] 0 ([(t_1:Int)]:(List Int)).length tInt.k),(19,.m [2] 0 us_4.length tInt.k)] rfl ?_
   refine TO_st (σ':=[.box [sl tR db0.relations,sl tF db0.facts],.box [.n,.n],.row (flat tInt.enc us_4),.row (flat tInt.enc ([(t_1:Int)]:(List Int))),.dead]) rfl ?_
   refine pv tb 1 rfl ?_
   refine TO_nil (T_region ?_)
   refine Tp rfl rfl (pur_add rfl rfl rfl (fits64 (by omega) (by omega))) rfl ?_
   refine pv tb 1 rfl ?_
   refine TO_nil ?_
   obtain rfl:=some_inj H
   exact again ((db0.facts.length:Int) - (t_1+1)).toNat (t_1+1,us_4) (by omega) (w0 3) ⟨rfl,by omega,K2_⟩
  ·replace d2:=of_decide_eq_false d2
   obtain rfl:=forM_end L2_ (by omega)
   refine T_exit ?_
   refine then_exit ?_
   refine then_exit ?_
   refine block_exit ?_
   replace H:=N2_
   obtain ⟨r_6,h_7,H⟩:=bind_inv H
   obtain ⟨r_8,h_9,H⟩:=bind_inv H
   refine T_pad ?_
   refine T_pad ?_
   refine T_pad ?_
   refine T_pad ?_
   refine T_pad ?_
   refine T_cutX (fun (_:Unit)=>True) (fun _=>[(4,.b 1 0),(7,.b 8 0)]) (fun _=>[.box [sl tR db0.relations,sl tF db0.facts],.box [.n,.n],.dead,.row (flat tR.enc r_8.1.relations),.row (flat tF.enc r_8.1.facts),.dead,.dead,.dead,.box [.m [3] 0 r_8.1.relations.length tR.k,.m [4] 0 r_8.1.facts.length tF.k]]) ?_ ?_
   ·skip
    refine T_regionP 2 mixed rfl ?_
    refine TA_have 2 #[true,true,true,true,true,true,true,true,true,false,false] [(4,.b 1 0),(7,.b 8 0),(27,.g [.m [5] 0 r_8.1.relations.length tR.k,.m [6] 0 r_8.1.facts.length tF.k]),(28,boolA r_8.2)] [.dead,.dead,.dead,.dead,.dead,.row (flat tR.enc r_8.1.relations),.row (flat tF.enc r_8.1.facts),.dead,.box [.n,.n]] ?_ (fun hj0_7=>?_)
    ·skip
     refine t1 9 (by kernel_rfl) rfl rfl (TOp_storeB sz27 rfl rfl rfl rfl rfl rfl rfl (by decide) (lb rfl) rfl ?_)
     refine TA_st (σ':=[.dead,.dead,.dead,.dead,.dead,.row (flat tR.enc r_8.1.relations),.row (flat tF.enc r_8.1.facts),.dead,.box [.m [5] 0 r_8.1.relations.length tR.k,.m [6] 0 r_8.1.facts.length tF.k]]) rfl ?_
     refine pa tb [10] 0 rfl (by kernel_rfl) rfl ?_
     refine TA_ghost (E':=[(4,.b 1 0),(7,.b 8 0)]) (σ':=[.dead,.dead,.dead,.row (flat tR.enc r_8.1.relations),.dead,.dead,.row (flat tF.enc r_8.1.facts),.dead,.box [.m [3] 0 r_8.1.relations.length tR.k,.m [6] 0 r_8.1.facts.length tF.k]]) (Ghost.move 3 5 (by decide) (lb rfl) rfl rfl (lb rfl) (Ghost.weak (WeakL.to 9 (lb rfl) rfl rfl rfl rfl ⟨leR rfl,leR rfl,trivial⟩))) ?_
     refine TA_ghost (E':=[(4,.b 1 0),(7,.b 8 0)]) (σ':=[.dead,.dead,.dead,.row (flat tR.enc r_8.1.relations),.row (flat tF.enc r_8.1.facts),.dead,.dead,.dead,.box [.m [3] 0 r_8.1.relations.length tR.k,.m [4] 0 r_8.1.facts.length tF.k]]) (Ghost.move 4 6 (by decide) (lb rfl) rfl rfl (lb rfl) (Ghost.weak (WeakL.to 9 (lb rfl) rfl rfl rfl rfl ⟨leR rfl,leR rfl,trivial⟩))) ?_
     exact TA_nil (by kernel_rfl) (joined () (w0 9) trivial)
    refine TA_have 6 #[true,true,true,true,false,false,false,false,true,false,false] [(4,.b 1 0),(7,.b 8 0),(22,.g (tD.enc db0)),(25,sl tInt r_6)] [.dead,.dead,.dead,.dead,.dead,.dead,.dead,.dead,.box [.n,.n]] ?_ (fun hj1_7=>?_)
    ·skip
     refine t1 4 (by kernel_rfl) rfl rfl (TOp_callO (call_static ent80 rfl) rfl (miSelectFacts_own _ _ _ h_9) rfl rfl rfl ?_)
     refine tae [(4,.b 1 0),(7,.b 8 0),(22,.g (tD.enc db0)),(25,sl tInt r_6),(26,.t [.g [.m [9] 0 r_8.1.relations.length tR.k,.m [10] 0 r_8.1.facts.length tF.k],boolA r_8.2])] rfl ?_
     refine TA_st (σ':=[.dead,.dead,.dead,.dead,.dead,.dead,.dead,.dead,.box [.n,.n],.row (flat tR.enc r_8.1.relations),.row (flat tF.enc r_8.1.facts)]) rfl ?_
     refine TA_ghost (E':=[(4,.b 1 0),(7,.b 8 0),(22,.g (tD.enc db0)),(25,sl tInt r_6),(26,.t [.g [.m [5] 0 r_8.1.relations.length tR.k,.m [10] 0 r_8.1.facts.length tF.k],boolA r_8.2])]) (σ':=[.dead,.dead,.dead,.dead,.dead,.row (flat tR.enc r_8.1.relations),.dead,.dead,.box [.n,.n],.dead,.row (flat tF.enc r_8.1.facts)]) (Ghost.move 5 9 (by decide) (lb rfl) rfl rfl (lb rfl) (Ghost.weak (WeakL.to 11 (lb rfl) rfl rfl rfl rfl ⟨leR rfl,leR rfl,leR rfl,leR rfl,leR rfl,trivial⟩))) ?_
     refine TA_ghost (E':=[(4,.b 1 0),(7,.b 8 0),(22,.g (tD.enc db0)),(25,sl tInt r_6),(26,.t [.g [.m [5] 0 r_8.1.relations.length tR.k,.m [6] 0 r_8.1.facts.length tF.k],boolA r_8.2])]) (σ':=[.dead,.dead,.dead,.dead,.dead,.row (flat tR.enc r_8.1.relations),.row (flat tF.enc r_8.1.facts),.dead,.box [.n,.n]]) (Ghost.move 6 10 (by decide) (lb rfl) rfl rfl (lb rfl) (Ghost.weak (WeakL.to 9 (lb rfl) rfl rfl rfl rfl ⟨leR rfl,leR rfl,leR rfl,leR rfl,leR rfl,trivial⟩))) ?_
     refine pa tb [5,6,7] 2 rfl (by kernel_rfl) rfl ?_
     exact tj hj0_7 rfl (w0 9)
    refine pa tb [0,1,2] 8 rfl (by kernel_rfl) rfl ?_
    refine TA_ghost (E':=[(1,sl tInt indices1),(2,.b 0 0),(4,.b 1 0),(5,.m [2] 0 all5.length tInt.k),(22,.g (tD.enc db0)),(23,.m [2] 0 all5.length tInt.k),(24,sl tInt indices1)]) (σ':=[.dead,.dead,.row (flat tInt.enc all5),.dead,.dead,.dead,.dead,.dead]) (Ghost.weak (WeakL.to 8 (lb rfl) rfl rfl rfl rfl ⟨leR rfl,leR rfl,leR rfl,leR rfl,leR rfl,leR rfl,leR rfl,trivial⟩)) ?_
    refine TA_frz1 2 (E':=[(1,sl tInt indices1),(2,.b 0 0),(4,.b 1 0),(5,sl tInt all5),(22,.g (tD.enc db0)),(23,sl tInt all5),(24,sl tInt indices1)]) rfl rfl (lb rfl) ⟨.keep rfl,.keep rfl,.keep rfl,fz1E,.keep rfl,fz1E,.keep rfl,trivial⟩ ?_
    refine TA_st (σ':=[.dead,.dead,.dead,.dead,.dead,.dead,.dead,.dead]) rfl ?_
    refine TA_all [3,8] (by kernel_rfl) (by decide) ⟨?_,?_,trivial⟩
    ·skip
     refine ⟨_,rfl,rfl,TOp_callV (call_static ent49 rfl) (miwithout_ok _ _ _ h_7) rfl rfl rfl ?_⟩
     refine TA_all [4,8] (by kernel_rfl) (by decide) ⟨?_,?_,trivial⟩
     ·skip
      refine ⟨_,rfl,rfl,TOp_callO (call_static ent80 rfl) rfl (miSelectFacts_own _ _ _ h_9) rfl rfl rfl ?_⟩
      refine tae [(1,sl tInt indices1),(2,.b 0 0),(4,.b 1 0),(5,sl tInt all5),(22,.g (tD.enc db0)),(23,sl tInt all5),(24,sl tInt indices1),(25,sl tInt r_6),(26,.t [.g [.m [8] 0 r_8.1.relations.length tR.k,.m [9] 0 r_8.1.facts.length tF.k],boolA r_8.2])] rfl ?_
      refine TA_st (σ':=[.dead,.dead,.dead,.dead,.dead,.dead,.dead,.dead,.row (flat tR.enc r_8.1.relations),.row (flat tF.enc r_8.1.facts)]) rfl ?_
      refine TA_ghost (E':=[(1,sl tInt indices1),(2,.b 0 0),(4,.b 1 0),(5,sl tInt all5),(22,.g (tD.enc db0)),(23,sl tInt all5),(24,sl tInt indices1),(25,sl tInt r_6),(26,.t [.g [.m [5] 0 r_8.1.relations.length tR.k,.m [9] 0 r_8.1.facts.length tF.k],boolA r_8.2])]) (σ':=[.dead,.dead,.dead,.dead,.dead,.row (flat tR.enc r_8.1.relations),.dead,.dead,.dead,.row (flat tF.enc r_8.1.facts)]) (Ghost.move 5 8 (by decide) (lb rfl) rfl rfl (lb rfl) (Ghost.weak (WeakL.to 10 (lb rfl) rfl rfl rfl rfl ⟨leR rfl,leR rfl,leR rfl,leR rfl,leR rfl,leR rfl,leR rfl,leR rfl,leR rfl,trivial⟩))) ?_
      refine TA_ghost (E':=[(1,sl tInt indices1),(2,.b 0 0),(4,.b 1 0),(5,sl tInt all5),(22,.g (tD.enc db0)),(23,sl tInt all5),(24,sl tInt indices1),(25,sl tInt r_6),(26,.t [.g [.m [5] 0 r_8.1.relations.length tR.k,.m [6] 0 r_8.1.facts.length tF.k],boolA r_8.2])]) (σ':=[.dead,.dead,.dead,.dead,.dead,.row (flat tR.enc r_8.1.relations),.row (flat tF.enc r_8.1.facts),.dead]) (Ghost.move 6 9 (by decide) (lb rfl) rfl rfl (lb rfl) (Ghost.weak (WeakL.to 8 (lb rfl) rfl rfl rfl rfl ⟨leR rfl,leR rfl,leR rfl,leR rfl,leR rfl,leR rfl,leR rfl,leR rfl,leR rfl,trivial⟩))) ?_
      refine pa tb [5,6,7] 3 rfl (by kernel_rfl) rfl ?_
      refine t1 8 (by kernel_rfl) rfl rfl (TOp_alloc zero27 rfl rfl ?_)
      refine tae [(4,.b 1 0),(7,.b 8 0),(27,.g [.m [5] 0 r_8.1.relations.length tR.k,.m [6] 0 r_8.1.facts.length tF.k]),(28,boolA r_8.2)] rfl ?_
      refine TA_st (σ':=[.dead,.dead,.dead,.dead,.dead,.row (flat tR.enc r_8.1.relations),.row (flat tF.enc r_8.1.facts),.dead,.box [.n,.n]]) rfl ?_
      exact tj hj0_7 rfl (w0 9)
     ·skip
      refine ⟨_,rfl,rfl,TOp_alloc zero27 rfl rfl ?_⟩
      exact tj hj1_7 rfl (w0 9)
    ·skip
     refine ⟨_,rfl,rfl,TOp_alloc zero27 rfl rfl ?_⟩
     refine t1 3 (by kernel_rfl) rfl rfl (TOp_callV (call_static ent49 rfl) (miwithout_ok _ _ _ h_7) rfl rfl rfl ?_)
     exact tj hj1_7 rfl (w0 9)
   ·rintro _ _
    refine sr ?_
    refine pv tb 1 rfl ?_
    refine TO_cons rfl (TOp_storeB sz27 rfl rfl rfl rfl rfl rfl rfl (by decide) (lb rfl) rfl ?_)
    refine TO_st (σ':=[.box [sl tR db0.relations,sl tF db0.facts],.box [.m [3] 0 r_8.1.relations.length tR.k,.m [4] 0 r_8.1.facts.length tF.k],.dead,.row (flat tR.enc r_8.1.relations),.row (flat tF.enc r_8.1.facts),.dead,.dead,.dead,.box [.m [3] 0 r_8.1.relations.length tR.k,.m [4] 0 r_8.1.facts.length tF.k]]) rfl ?_
    refine TO_nil ?_
    refine T_ret ?_
    obtain rfl:=some_inj H
    exact end_pick (.cellK rfl agg27 rfl (lb rfl) .nil) rfl [3,4] (by decide) rfl rfl rfl rfl rfl rfl
theorem miwithoutFacts_ok (db0:Database) (indices1:(List Int)) (r:Database) (H:miwithoutFacts db0 indices1=some r):FnV prg 48 [.g (tD.enc db0),sl tInt indices1] (.g (tD.enc r)):=(miwithoutFacts_own db0 indices1 r H).frz (frzOK_g (frz_cons (frzTE (T:=tR) rfl) (frz_cons (frzTE (T:=tF) rfl) frz_nil)).1 (frz_cons (frzTE (T:=tR) rfl) (frz_cons (frzTE (T:=tF) rfl) frz_nil)).2)

theorem m_slices_Equal_Sint_int_ok (s10:(List Int)) (s21:(List Int)) (r:Bool) (H:m_slices_Equal_Sint_int s10 s21=some r):FnV prg 112 [sl tInt s10,sl tInt s21] (boolA r):=by
  unfold m_slices_Equal_Sint_int at H
  refine fnV_of_T Tryz.func112 rfl rfl (Nat.le_of_ble_eq_true rfl) ?_
  refine te [(0,sl tInt s10),(1,sl tInt s21)] rfl ?_
  refine sr ?_
  refine pv tb 1 rfl ?_
  refine TO_nil (T_seq (sr ?_))
  refine pv tb 1 rfl ?_
  refine Tp rfl rfl (pur_lenT (T:=tInt) sl28 rfl rfl) rfl ?_
  refine pv tb 1 rfl ?_
  refine Tp rfl rfl (pur_lenT (T:=tInt) sl28 rfl rfl) rfl ?_
  refine pv tb 1 rfl ?_
  refine TO_nil ?_
  refine T_cond (t:=decide ((s10.length:Int)≠(s21.length:Int))) rfl (fun c_1=>?_) (fun c_1=>?_)
  ·replace H:=cond_t c_1 H
   refine sr ?_
   refine pv tb 1 rfl ?_
   refine TO_nil ?_
   refine T_ret ?_
   refine then_ret ?_
   obtain rfl:=some_inj H
   refine end_ret (.tmp .nil) rfl rfl ⟨?_,rfl⟩
   rfl
  ·replace H:=cond_f c_1 H
   refine T_skip ?_
   refine T_seq (sr ?_)
   refine pv tb 1 rfl ?_
   refine Tp rfl rfl (pur_lenT (T:=tInt) sl28 rfl rfl) rfl ?_
   refine pv tb 1 rfl ?_
   refine TO_nil ?_
   obtain ⟨O3_,L3_,N3_⟩:=bind_inv H
   clear H
   obtain ⟨B3_,hb3,L3_⟩:=gen_forL L3_
   refine T_block ?_
   refine T_loopX (fun k=>fun (t_2:Nat)=>k=s10.length - t_2∧forL B3_ (s10.drop t_2) (t_2:Int) ()=some O3_) (fun (t_2:Nat)=>[(0,sl tInt s10),(1,sl tInt s21),(12,intA (s10.length:Int)),(13,intA (t_2:Int))]) (fun (t_2:Nat)=>[]) _ (0:Nat) (w0 0) ⟨rfl,L3_⟩ ?_
   rintro _ t_2 ⟨rfl,L3_⟩
   refine T_fact (len_sl (T:=tInt) (.tmp 0) rfl) (fun hl3=>?_)
   refine sr ?_
   refine pv tb 1 rfl ?_
   refine TO_nil (T_seq ?_)
   refine T_cond (t:=decide ((t_2:Int)<(s10.length:Int))) rfl (fun d3=>?_) (fun d3=>?_)
   ·replace d3:=of_decide_eq_true d3
    obtain ⟨x_t_2,hx_t_2⟩:∃ v,(s10)[t_2]?=some v:=⟨_,List.getElem?_eq_getElem (by omega)⟩
    obtain ⟨C3_,H,K3_⟩:=forL_step L3_ hx_t_2
    rw [hb3] at H
    refine T_skip ?_
    refine T_seq ?_
    refine T_block ?_
    refine sr ?_
    refine pv tb 2 rfl ?_
    refine TO_nil (T_seq ?_)
    refine T_regionD mixed (by kernel_rfl) ?_
    refine pq tb 2 rfl ?_
    refine TQ_pure rfl (pur_ixT (T:=tInt) sl28 rfl rfl rfl hx_t_2 rfl) rfl ?_
    refine TQ_pure rfl (pur_ldT (T:=tInt) (i:=t_2) (off:=0) rfl one3 rfl rfl hx_t_2 rfl) rfl ?_
    obtain ⟨v_4,h_5,H⟩:=bind_inv H
    obtain ⟨n_6,hz_7,hv_8⟩:=getI_inv h_5
    refine pq tb 2 rfl ?_
    refine TQ_pure rfl (pur_ixT (T:=tInt) sl28 rfl rfl hz_7 hv_8 rfl) rfl ?_
    refine TQ_pure rfl (pur_ldT (T:=tInt) (i:=n_6) (off:=0) rfl one3 rfl rfl hv_8 rfl) rfl ?_
    refine pq tb 1 rfl ?_
    refine TQ_nil ?_
    refine T_cond (t:=decide (x_t_2≠v_4)) rfl (fun c_9=>?_) (fun c_9=>?_)
    ·replace H:=cond_t c_9 H
     refine sr ?_
     refine pv tb 1 rfl ?_
     refine TO_nil ?_
     refine te [(4,boolA false)] rfl ?_
     refine T_ret ?_
     refine block_ret ?_
     refine then_ret ?_
     refine then_ret ?_
     refine block_ret ?_
     refine then_ret ?_
     obtain rfl:=some_inj H
     obtain rfl:=some_inj K3_
     replace H:=onS_r N3_
     obtain rfl:=some_inj H
     refine end_ret (.tmp .nil) rfl rfl ⟨?_,rfl⟩
     rfl
    ·replace H:=cond_f c_9 H
     refine T_skip ?_
     refine T_region ?_
     refine Tp rfl rfl (pur_add rfl rfl rfl (fits64 (by omega) (by omega))) rfl ?_
     refine pv tb 1 rfl ?_
     refine TO_nil ?_
     obtain rfl:=some_inj H
     exact again (s10.length - (t_2+1)) (t_2+1) (by omega) (w0 0) ⟨rfl,K3_⟩
   ·replace d3:=of_decide_eq_false d3
    obtain rfl:=forL_end L3_ (by omega)
    refine T_exit ?_
    refine then_exit ?_
    refine then_exit ?_
    refine block_exit ?_
    replace H:=onS_l N3_
    refine sr ?_
    refine pv tb 1 rfl ?_
    refine TO_nil ?_
    refine T_ret ?_
    obtain rfl:=some_inj H
    refine end_ret (.tmp .nil) rfl rfl ⟨?_,rfl⟩
    rfl

theorem misameKey_ok (relations0:(List Relation)) (a1:Fact) (b2:Fact) (r:Bool) (H:misameKey relations0 a1 b2=some r):FnV prg 108 [sl tR relations0,.g (tF.enc a1),.g (tF.enc b2)] (boolA r):=by
  unfold misameKey at H
  refine fnV_of_T Tryz.func108 rfl rfl (Nat.le_of_ble_eq_true rfl) ?_
  refine te [(0,sl tR relations0),(1,.g (tF.enc a1)),(2,.g (tF.enc b2))] rfl ?_
  refine sr ?_
  refine TO_cons rfl (TOp_box rfl (boxAll rfl) rfl rfl ?_)
  refine TO_cons rfl (TOp_box rfl (boxAll rfl) rfl rfl ?_)
  refine pv tb 1 rfl ?_
  refine TO_nil (T_seq (sr ?_))
  refine pv tb 5 rfl ?_
  refine TO_nil ?_
  refine T_cond (t:=decide (a1.relation≠b2.relation)) rfl (fun c_1=>?_) (fun c_1=>?_)
  ·replace H:=cond_t c_1 H
   refine sr ?_
   refine pv tb 1 rfl ?_
   refine TO_nil ?_
   refine T_ret ?_
   refine then_ret ?_
   obtain rfl:=some_inj H
   refine end_ret (.tmp .nil) rfl rfl ⟨?_,rfl⟩
   rfl
  ·replace H:=cond_f c_1 H
   refine T_skip ?_
   refine sr ?_
   obtain ⟨v_2,h_3,H⟩:=bind_inv H
   obtain ⟨n_4,hz_5,hv_6⟩:=getI_inv h_3
   refine pv tb 3 rfl ?_
   refine Tp rfl rfl (pur_ixT (T:=tR) sl24 rfl rfl hz_5 hv_6 rfl) rfl ?_
   refine pv tb 1 rfl ?_
   refine Tp rfl rfl (pur_ldT (T:=tR) (i:=n_4) (off:=2) rfl one3 rfl rfl hv_6 rfl) rfl ?_
   refine pv tb 1 rfl ?_
   refine TO_nil ?_
   refine te [(4,.b 0 0),(5,.b 1 0),(7,intA v_2.keyLength)] rfl ?_
   refine T_seq ?_
   refine T_regionD mixed (by kernel_rfl) ?_
   obtain ⟨ys_7,h_8,H⟩:=bind_inv H
   refine pq tb 3 rfl ?_
   refine TQ_pure rfl (pur_cutT (T:=tInt) (lo:=none) (hi:=(some (.tmp 21))) sl28 rfl rfl ⟨_,rfl⟩ h_8 rfl) rfl ?_
   obtain ⟨ys_9,h_10,H⟩:=bind_inv H
   refine pq tb 3 rfl ?_
   refine TQ_pure rfl (pur_cutT (T:=tInt) (lo:=none) (hi:=(some (.tmp 25))) sl28 rfl rfl ⟨_,rfl⟩ h_10 rfl) rfl ?_
   obtain ⟨r_11,h_12,H⟩:=bind_inv H
   refine TQ_callV rfl (call_static ent112 rfl) (m_slices_Equal_Sint_int_ok _ _ _ h_12) rfl rfl ?_
   refine pq tb 1 rfl ?_
   refine TQ_nil ?_
   refine T_ret ?_
   obtain rfl:=some_inj H
   refine end_ret (.tmp .nil) rfl rfl ⟨?_,rfl⟩
   rfl

theorem miblocks_own (db0:Database) (r:(List (List Int))) (H:miblocks db0=some r):FnO prg 99 [.g (tD.enc db0)] (.m [0] 0 r.length (tSl tInt).k) [.row (flat (tSl tInt).own r)]:=by
  unfold miblocks at H
  refine fnO_of_T Tryz.func99 rfl rfl (Nat.le_of_ble_eq_true rfl) ?_
  refine te [(0,.g (tD.enc db0))] rfl ?_
  refine sr ?_
  refine TO_cons rfl (TOp_box rfl (boxAll rfl) rfl rfl ?_)
  refine pv tb 1 rfl ?_
  refine TO_nil (sr ?_)
  refine TO_cons rfl (TOp_lit (nn:=0) (k:=1) sl97 zero28 rfl rfl rfl rfl (by decide) ?_)
  refine TO_st (σ':=[.box [sl tR db0.relations,sl tF db0.facts],.row (flat (tSl tInt).own ([]:(List (List Int))))]) rfl ?_
  refine pv tb 1 rfl ?_
  refine TO_nil (T_seq (sr ?_))
  refine pv tb 2 rfl ?_
  refine Tp rfl rfl (pur_lenT (T:=tF) sl25 rfl rfl) rfl ?_
  refine pv tb 1 rfl ?_
  refine TO_nil ?_
  obtain ⟨O2_,L2_,N2_⟩:=bind_inv H
  clear H
  obtain ⟨B2_,hb2,L2_⟩:=gen_forS L2_
  refine T_block ?_
  refine T_loopX (fun k=>fun (⟨t_1,out3⟩:Nat × (List (List Int)))=>k=db0.facts.length - t_1∧forS B2_ (db0.facts.drop t_1) (t_1:Int) out3=some O2_) (fun (⟨t_1,out3⟩:Nat × (List (List Int)))=>[(1,.b 0 0),(3,.m [1] 0 out3.length (tSl tInt).k),(9,sl tF db0.facts),(10,intA (db0.facts.length:Int)),(11,intA (t_1:Int))]) (fun (⟨t_1,out3⟩:Nat × (List (List Int)))=>[.box [sl tR db0.relations,sl tF db0.facts],.row (flat (tSl tInt).own out3)]) _ (0,([]:(List (List Int)))) (w0 2) ⟨rfl,L2_⟩ ?_
  rintro _ ⟨t_1,out3⟩ ⟨rfl,L2_⟩
  refine T_fact (len_sl (T:=tF) (.tmp 9) rfl) (fun hl2=>?_)
  refine sr ?_
  refine pv tb 1 rfl ?_
  refine TO_nil (T_seq ?_)
  refine T_cond (t:=decide ((t_1:Int)<(db0.facts.length:Int))) rfl (fun d2=>?_) (fun d2=>?_)
  ·replace d2:=of_decide_eq_true d2
   obtain ⟨x_t_1,hx_t_1⟩:∃ v,(db0.facts)[t_1]?=some v:=⟨_,List.getElem?_eq_getElem (by omega)⟩
   obtain ⟨C2_,H,K2_⟩:=forS_step L2_ hx_t_1
   rw [hb2] at H
   refine T_skip ?_
   refine T_seq ?_
   refine T_block ?_
   refine sr ?_
   refine pv tb 1 rfl ?_
   refine Tp rfl rfl (pur_ixT (T:=tF) sl25 rfl rfl rfl hx_t_1 rfl) rfl ?_
   refine Tp rfl rfl (pur_ldTK (T:=tF) (i:=t_1) (off:=0) rfl agg30 rfl rfl hx_t_1 (by decide) rfl) rfl ?_
   refine TO_cons rfl (TOp_alloc zero30 rfl rfl ?_)
   refine pv tb 1 rfl ?_
   refine TO_cons rfl (TOp_storeB sz30 rfl rfl rfl rfl rfl rfl rfl (by decide) (lb rfl) rfl ?_)
   refine TO_st (σ':=[.box [sl tR db0.relations,sl tF db0.facts],.row (flat (tSl tInt).own out3),.box [intA x_t_1.relation,sl tInt x_t_1.values]]) rfl ?_
   refine TO_nil (sr ?_)
   refine pv tb 1 rfl ?_
   refine Tp rfl rfl (pur_len_m sl97 rfl rfl) rfl ?_
   refine TO_fact (len_m (.tmp 3) rfl) (fun hl_3=>?_)
   refine Tp rfl rfl (pur_sub rfl rfl rfl (fits64 (by omega) (by omega))) rfl ?_
   refine pv tb 1 rfl ?_
   refine TO_nil ?_
   obtain ⟨t36_4,J_4,H_5⟩:=bind_inv H
   refine T_cutX (fun x=>t36_4=x) (fun (t36_4:Bool)=>[(1,.b 0 0),(3,.m [1] 0 out3.length (tSl tInt).k),(4,intA (t_1:Int)),(6,intA ((out3.length:Int) - 1)),(9,sl tF db0.facts),(10,intA (db0.facts.length:Int)),(11,intA (t_1:Int)),(36,boolA t36_4)]) (fun (t36_4:Bool)=>[.box [sl tR db0.relations,sl tF db0.facts],.row (flat (tSl tInt).own out3)]) ?_ ?_
   ·replace H:=J_4
    refine T_regionD mixed (by kernel_rfl) ?_
    refine pq tb 3 rfl ?_
    refine TQ_split (t:=decide (0≤((out3.length:Int) - 1))) 21 rfl (fun g_6=>?_) (fun g_6=>?_)
    ·replace H:=cond_t g_6 H
     obtain ⟨v_7,h_8,H⟩:=bind_inv H
     obtain ⟨n_9,hz_10,hv_11⟩:=getI_inv h_8
     refine pq tb 6 rfl ?_
     refine TQ_on rfl rfl (by decide) rfl (pur_ixM (T:=(tSl tInt)) sl97 rfl rfl hz_10 hv_11 rfl) rfl ?_
     refine TQ_on rfl rfl (by decide) rfl (pur_ldE (f:=(tSl tInt).own) (k:=(tSl tInt).k) (i:=n_9) (off:=0) (tSl tInt).lenO rfl one28 rfl rfl rfl hv_11 rfl cellVal_sl) rfl ?_
     obtain ⟨v_12,h_13,H⟩:=bind_inv H
     obtain ⟨n_14,hz_15,hv_16⟩:=getI_inv h_13
     refine TQ_on rfl rfl (by decide) rfl (pur_ixM (T:=tInt) sl28 rfl rfl hz_15 hv_16 rfl) rfl ?_
     refine TQ_on rfl rfl (by decide) rfl (pur_ldE (f:=tInt.own) (k:=tInt.k) (i:=n_14) (off:=0) tInt.lenO rfl one3 rfl (rowAt_el (f:=(tSl tInt).own) (i:=n_9) (off:=0) (tSl tInt).lenO rfl hv_11 rfl) rfl hv_16 rfl rfl) rfl ?_
     obtain ⟨v_17,h_18,H⟩:=bind_inv H
     obtain ⟨n_19,hz_20,hv_21⟩:=getI_inv h_18
     refine TQ_on rfl rfl (by decide) rfl (pur_ixT (T:=tF) sl25 rfl rfl hz_20 hv_21 rfl) rfl ?_
     refine TQ_on rfl rfl (by decide) rfl (pur_ldTK (T:=tF) (i:=n_19) (off:=0) rfl agg30 rfl rfl hv_21 (by decide) rfl) rfl ?_
     obtain ⟨r_22,h_23,H⟩:=bind_inv H
     refine pq tb 1 rfl ?_
     refine TQ_onV rfl rfl (by decide) rfl (call_static ent108 rfl) (misameKey_ok _ _ _ _ h_23) rfl rfl ?_
     refine pq tb 1 rfl ?_
     refine TQ_nil ?_
     exact joined r_22 (w0 2) (some_inj H).symm
    ·replace H:=cond_f g_6 H
     refine pq tb 15 rfl ?_
     refine TQ_nil ?_
     exact joined false (w0 2) (some_inj H).symm
   ·rintro _ rfl
    replace H:=H_5
    refine T_cond (t:=t36_4) rfl (fun c_24=>?_) (fun c_24=>?_)
    ·replace H:=cond_t c_24 H
     refine T_region ?_
     obtain ⟨v_25,h_26,H⟩:=bind_inv H
     obtain ⟨n_27,hz_28,hv_29⟩:=getI_inv h_26
     refine pv tb 4 rfl ?_
     refine Tp rfl rfl (pur_ixM (T:=(tSl tInt)) sl97 rfl rfl hz_28 hv_29 rfl) rfl ?_
     refine Tp rfl rfl (pur_ldE (f:=(tSl tInt).own) (k:=(tSl tInt).k) (i:=n_27) (off:=0) (tSl tInt).lenO rfl one28 rfl rfl rfl hv_29 rfl cellVal_sl) rfl ?_
     refine pv tb 1 rfl ?_
     refine TO_cons rfl (TOp_lit (nn:=1) (k:=1) sl28 zero3 rfl rfl rfl rfl (by decide) ?_)
     refine TO_st (σ':=[.box [sl tR db0.relations,sl tF db0.facts],.row (flat (tSl tInt).own out3),.row (flat tInt.enc ([(t_1:Int)]:(List Int)))]) rfl ?_
     refine TO_boxify 1 rfl (lb rfl) ?_
     refine TO_detach (k:=tInt.k) (xs:=flat (tSl tInt).own out3) (ys:=flat tInt.own v_25) (E':=[(1,.b 0 0),(3,.m [1] 0 out3.length (tSl tInt).k),(9,sl tF db0.facts),(10,intA (db0.facts.length:Int)),(11,intA (t_1:Int)),(37,.m [1] 0 out3.length (tSl tInt).k),(38,intA ((out3.length:Int) - 1)),(42,.m [3] 0 v_25.length tInt.k),(44,.m [2] 0 ([(t_1:Int)]:(List Int)).length tInt.k)]) 1 (n_27*(tSl tInt).k+0) 42 rfl (flat_at' (tSl tInt).lenO hv_29 rfl) rfl (lb rfl) (nms_box rfl (nms_box namesL_own (nms_row nms_nil))) ⟨.inr ⟨rfl,rfl⟩,.inr ⟨rfl,rfl⟩,.inr ⟨rfl,rfl⟩,.inr ⟨rfl,rfl⟩,.inr ⟨rfl,rfl⟩,.inr ⟨rfl,rfl⟩,.inr ⟨rfl,rfl⟩,.inl ⟨rfl,rfl⟩,.inr ⟨rfl,rfl⟩,trivial⟩ ?_
     refine TO_st (σ':=[.box [sl tR db0.relations,sl tF db0.facts],.box (spl (flat (tSl tInt).own out3) (n_27*(tSl tInt).k) [.j]),.row (flat tInt.enc ([(t_1:Int)]:(List Int))),.row (flat tInt.own v_25)]) (by rw [open_T (T:=(tSl tInt)) hv_29 (by decide)];rfl) ?_
     obtain ⟨us_30,h_31,H⟩:=bind_inv H
     refine TO_cons rfl (TOp_appY (T:=tInt) (f:=tInt.own) (xs:=v_25) (ys:=([(t_1:Int)]:(List Int))) tInt.lenO sl28 zero3 rfl bytes3 (by decide) rfl rfl rfl rfl (src_mT (f:=tInt.own) tInt.lenO rfl rfl (flat_cell tInt _)) (flat_cell tInt _) h_31 ?_)
     refine toe [(1,.b 0 0),(3,.m [1] 0 out3.length (tSl tInt).k),(9,sl tF db0.facts),(10,intA (db0.facts.length:Int)),(11,intA (t_1:Int)),(37,.m [1] 0 out3.length (tSl tInt).k),(38,intA ((out3.length:Int) - 1)),(44,.m [2] 0 ([(t_1:Int)]:(List Int)).length tInt.k),(45,.m [4] 0 us_30.length tInt.k)] rfl ?_
     refine TO_st (σ':=[.box [sl tR db0.relations,sl tF db0.facts],.box (spl (flat (tSl tInt).own out3) (n_27*(tSl tInt).k) [.j]),.row (flat tInt.enc ([(t_1:Int)]:(List Int))),.dead,.row (flat tInt.own us_30)]) rfl ?_
     refine Tp rfl rfl (pur_ixM (T:=(tSl tInt)) sl97 rfl rfl hz_28 hv_29 rfl) rfl ?_
     refine TO_cons rfl (TOp_setH (T:=(tSl tInt)) (i:=n_27) (off:=0) (xs:=out3) (v:=v_25) (zs:=[.j]) sz28 (by decide) rfl rfl rfl rfl rfl rfl hv_29 rfl rfl (lb rfl) rfl ?_)
     refine toe [(1,.b 0 0),(3,.m [1] 0 out3.length (tSl tInt).k),(9,sl tF db0.facts),(10,intA (db0.facts.length:Int)),(11,intA (t_1:Int)),(37,.m [1] 0 out3.length (tSl tInt).k),(38,intA ((out3.length:Int) - 1)),(44,.m [2] 0 ([(t_1:Int)]:(List Int)).length tInt.k)] rfl ?_
     refine TO_st (σ':=[.box [sl tR db0.relations,sl tF db0.facts],.box (spl (flat (tSl tInt).own out3) (n_27*(tSl tInt).k) [.m [4] 0 us_30.length tInt.k]),.row (flat tInt.enc ([(t_1:Int)]:(List Int))),.dead,.row (flat tInt.own us_30)]) rfl ?_
     refine TO_absorbS (T:=(tSl tInt)) (i:=n_27) (xs:=out3) (v:=v_25) 1 0 4 rfl hv_29 rfl rfl rfl (by decide) tInt.pos (flat_len tInt.lenO _) (lb rfl) (lb rfl) rfl (nms_box rfl (nms_box (namesL_spl namesL_own rfl) (nms_row (nms_dead (nms_row nms_nil))))) ?_
     refine TO_st (σ':=[.box [sl tR db0.relations,sl tF db0.facts],.box (spl (flat (tSl tInt).own out3) (n_27*(tSl tInt).k) [.o tInt.k (flat tInt.own us_30)]),.row (flat tInt.enc ([(t_1:Int)]:(List Int))),.dead,.dead]) rfl ?_
     refine TO_rowifyS (T:=(tSl tInt)) (i:=n_27) (xs:=out3) 1 us_30 hz_28 rfl hv_29 rfl (lb rfl) ?_
     refine TO_env (E':=[(1,.b 0 0),(3,.m [1] 0 (out3.set (((out3.length:Int) - 1)).toNat us_30).length (tSl tInt).k),(9,sl tF db0.facts),(10,intA (db0.facts.length:Int)),(11,intA (t_1:Int)),(37,.m [1] 0 (out3.set (((out3.length:Int) - 1)).toNat us_30).length (tSl tInt).k),(38,intA ((out3.length:Int) - 1)),(44,.m [2] 0 ([(t_1:Int)]:(List Int)).length tInt.k)]) ⟨rfl,congrArg (fun q=>A.m [1] 0 q (tSl tInt).k) (List.length_set ..).symm,rfl,rfl,rfl,congrArg (fun q=>A.m [1] 0 q (tSl tInt).k) (List.length_set ..).symm,rfl,rfl,trivial⟩ ?_
     refine TO_st (σ':=[.box [sl tR db0.relations,sl tF db0.facts],.row (flat (tSl tInt).own (out3.set (((out3.length:Int) - 1)).toNat us_30)),.row (flat tInt.enc ([(t_1:Int)]:(List Int))),.dead,.dead]) rfl ?_
     refine TO_nil (T_region ?_)
     refine Tp rfl rfl (pur_add rfl rfl rfl (fits64 (by omega) (by omega))) rfl ?_
     refine pv tb 1 rfl ?_
     refine TO_nil ?_
     obtain rfl:=some_inj H
     exact again (db0.facts.length - (t_1+1)) (t_1+1,out3.set (((out3.length:Int) - 1)).toNat us_30) (by omega) (w0 2) ⟨rfl,K2_⟩
    ·replace H:=cond_f c_24 H
     refine T_region ?_
     refine pv tb 2 rfl ?_
     refine TO_cons rfl (TOp_lit (nn:=1) (k:=1) sl28 zero3 rfl rfl rfl rfl (by decide) ?_)
     refine TO_st (σ':=[.box [sl tR db0.relations,sl tF db0.facts],.row (flat (tSl tInt).own out3),.row (flat tInt.enc ([(t_1:Int)]:(List Int)))]) rfl ?_
     refine TO_cons rfl (TOp_litB (nn:=1) (k:=1) sl97 zero28 rfl rfl rfl rfl (by decide) ?_)
     refine TO_st (σ':=[.box [sl tR db0.relations,sl tF db0.facts],.row (flat (tSl tInt).own out3),.row (flat tInt.enc ([(t_1:Int)]:(List Int))),.box [.m [2] 0 ([(t_1:Int)]:(List Int)).length tInt.k]]) rfl ?_
     refine TO_boxify 1 rfl (lb rfl) ?_
     obtain ⟨us_32,h_33,H⟩:=bind_inv H
     refine TO_cons rfl (TOp_appB (T:=(tSl tInt)) (xs:=out3) (v:=([(t_1:Int)]:(List Int))) sl97 zero28 rfl bytes28 (by decide) rfl rfl rfl rfl rfl rfl rfl rfl h_33 (lb rfl) ?_)
     refine toe [(1,.b 0 0),(4,intA (t_1:Int)),(6,intA ((out3.length:Int) - 1)),(9,sl tF db0.facts),(10,intA (db0.facts.length:Int)),(11,intA (t_1:Int)),(36,boolA t36_4),(48,intA (t_1:Int)),(51,.m [4] 0 (out3.length+1) (tSl tInt).k)] rfl ?_
     refine TO_st (σ':=[.box [sl tR db0.relations,sl tF db0.facts],.dead,.row (flat tInt.enc ([(t_1:Int)]:(List Int))),.box [.m [2] 0 ([(t_1:Int)]:(List Int)).length tInt.k],.box (flat (tSl tInt).own out3++[.m [2] 0 ([(t_1:Int)]:(List Int)).length tInt.k])]) rfl ?_
     refine TO_absorbA (pr:=flat (tSl tInt).own out3) 4 0 2 rfl rfl rfl (by decide) tInt.pos (flat_len tInt.len _) (lb rfl) (lb rfl) rfl (nms_box rfl (nms_dead (nms_row (nms_box rfl (nms_box (namesA namesL_own rfl) nms_nil))))) ?_
     refine TO_st (σ':=[.box [sl tR db0.relations,sl tF db0.facts],.dead,.dead,.box [.m [2] 0 ([(t_1:Int)]:(List Int)).length tInt.k],.box (flat (tSl tInt).own out3++[.o tInt.k (flat tInt.enc ([(t_1:Int)]:(List Int)))])]) rfl ?_
     refine TO_rowifyT (T:=(tSl tInt)) (xs:=out3) (v:=([(t_1:Int)]:(List Int))) 4 rfl rfl h_33 (lb rfl) ?_
     refine TO_st (σ':=[.box [sl tR db0.relations,sl tF db0.facts],.dead,.dead,.box [.m [2] 0 ([(t_1:Int)]:(List Int)).length tInt.k],.row (flat (tSl tInt).own us_32)]) rfl ?_
     refine TO_move 1 4 (by decide) (lb rfl) rfl rfl (lb rfl) ?_
     refine TO_env (E':=[(1,.b 0 0),(4,intA (t_1:Int)),(6,intA ((out3.length:Int) - 1)),(9,sl tF db0.facts),(10,intA (db0.facts.length:Int)),(11,intA (t_1:Int)),(36,boolA t36_4),(48,intA (t_1:Int)),(51,.m [1] 0 us_32.length (tSl tInt).k)]) ⟨rfl,rfl,rfl,rfl,rfl,rfl,rfl,rfl,congrArg (fun q=>A.m [1] 0 q (tSl tInt).k) (app_len h_33),trivial⟩ ?_
     refine TO_kill 3 (lb rfl) ?_
     refine TO_st (σ':=[.box [sl tR db0.relations,sl tF db0.facts],.row (flat (tSl tInt).own us_32),.dead,.dead,.dead]) rfl ?_
     refine pv tb 1 rfl ?_
     refine TO_nil (T_region ?_)
     refine Tp rfl rfl (pur_add rfl rfl rfl (fits64 (by omega) (by omega))) rfl ?_
     refine pv tb 1 rfl ?_
     refine TO_nil ?_
     obtain rfl:=some_inj H
     exact again (db0.facts.length - (t_1+1)) (t_1+1,us_32) (by omega) (w0 2) ⟨rfl,K2_⟩
  ·replace d2:=of_decide_eq_false d2
   obtain rfl:=forS_end L2_ (by omega)
   refine T_exit ?_
   refine then_exit ?_
   refine then_exit ?_
   refine block_exit ?_
   replace H:=N2_
   refine sr ?_
   refine pv tb 2 rfl ?_
   refine TO_nil ?_
   refine T_ret ?_
   obtain rfl:=some_inj H
   exact end_pick (.tmp .nil) rfl [1] (by decide) rfl rfl rfl rfl rfl rfl
theorem miblocks_ok (db0:Database) (r:(List (List Int))) (H:miblocks db0=some r):FnV prg 99 [.g (tD.enc db0)] (sl (tSl tInt) r):=(miblocks_own db0 r H).frz (frzT (T:=(tSl tInt)) rfl)

theorem miBlocks_own (db0:Database) (r:(List (List Int))) (H:miBlocks db0=some r):FnO prg 82 [.g (tD.enc db0)] (.m [0] 0 r.length (tSl tInt).k) [.row (flat (tSl tInt).own r)]:=by
  unfold miBlocks at H
  refine fnO_of_T Tryz.func82 rfl rfl (Nat.le_of_ble_eq_true rfl) ?_
  refine te [(0,.g (tD.enc db0))] rfl ?_
  refine sr ?_
  refine TO_cons rfl (TOp_box rfl (boxAll rfl) rfl rfl ?_)
  refine pv tb 1 rfl ?_
  refine TO_nil (T_seq (sr ?_))
  obtain ⟨r_1,h_2,H⟩:=bind_inv H
  refine pv tb 1 rfl ?_
  refine TO_cons rfl (TOp_callV (call_static ent42 rfl) (miIsValidDatabase_ok _ _ h_2) rfl rfl rfl ?_)
  refine pv tb 1 rfl ?_
  refine TO_nil ?_
  refine T_cond (t:=(!r_1)) rfl (fun c_3=>?_) (fun c_3=>?_)
  ·replace H:=cond_t c_3 H
   refine sr ?_
   refine pv tb 1 rfl ?_
   refine TO_nil ?_
   refine T_row0 ?_
   refine T_envL (E':=[(2,.m [1] 0 ([]:(List (List Int))).length (tSl tInt).k)]) ⟨leM,trivial⟩ ?_
   refine T_st (σ':=[.box [sl tR db0.relations,sl tF db0.facts],.row (flat (tSl tInt).own ([]:(List (List Int))))]) rfl ?_
   refine T_ret ?_
   refine then_ret ?_
   obtain rfl:=some_inj H
   exact end_pick (.tmp .nil) rfl [1] (by decide) rfl rfl rfl rfl rfl rfl
  ·replace H:=cond_f c_3 H
   refine T_skip ?_
   refine sr ?_
   obtain ⟨r_4,h_5,H⟩:=bind_inv H
   refine pv tb 1 rfl ?_
   refine TO_cons rfl (TOp_callO (call_static ent99 rfl) rfl (miblocks_own _ _ h_5) rfl rfl rfl ?_)
   refine toe [(1,.b 0 0),(6,.g (tD.enc db0)),(7,.m [1] 0 r_4.length (tSl tInt).k)] rfl ?_
   refine TO_st (σ':=[.box [sl tR db0.relations,sl tF db0.facts],.row (flat (tSl tInt).own r_4)]) rfl ?_
   refine pv tb 1 rfl ?_
   refine TO_nil ?_
   refine T_ret ?_
   obtain rfl:=some_inj H
   exact end_pick (.tmp .nil) rfl [1] (by decide) rfl rfl rfl rfl rfl rfl
theorem miBlocks_ok (db0:Database) (r:(List (List Int))) (H:miBlocks db0=some r):FnV prg 82 [.g (tD.enc db0)] (sl (tSl tInt) r):=(miBlocks_own db0 r H).frz (frzT (T:=(tSl tInt)) rfl)

theorem miBlockOf_own (db0:Database) (index1:Int) (r:(List Int)) (H:miBlockOf db0 index1=some r):FnO prg 50 [.g (tD.enc db0),intA index1] (.m [0] 0 r.length tInt.k) [.row (flat tInt.own r)]:=by
  unfold miBlockOf at H
  refine fnO_of_T Tryz.func50 rfl rfl (Nat.le_of_ble_eq_true rfl) ?_
  refine te [(0,.g (tD.enc db0)),(1,intA index1)] rfl ?_
  refine sr ?_
  refine TO_cons rfl (TOp_box rfl (boxAll rfl) rfl rfl ?_)
  refine pv tb 1 rfl ?_
  refine TO_nil (T_seq (sr ?_))
  obtain ⟨r_1,h_2,H⟩:=bind_inv H
  refine pv tb 1 rfl ?_
  refine TO_cons rfl (TOp_callO (call_static ent82 rfl) rfl (miBlocks_own _ _ h_2) rfl rfl rfl ?_)
  refine toe [(1,intA index1),(2,.b 0 0),(7,.g (tD.enc db0)),(8,.m [1] 0 r_1.length (tSl tInt).k)] rfl ?_
  refine TO_st (σ':=[.box [sl tR db0.relations,sl tF db0.facts],.row (flat (tSl tInt).own r_1)]) rfl ?_
  refine Tp rfl rfl (pur_len_m sl97 rfl rfl) rfl ?_
  refine pv tb 1 rfl ?_
  refine TO_nil ?_
  obtain ⟨O4_,L4_,N4_⟩:=bind_inv H
  clear H
  obtain ⟨B4_,hb4,L4_⟩:=gen_forL L4_
  refine T_block ?_
  refine T_st (σ':=[.box [sl tR db0.relations,sl tF db0.facts],.row (hideTo (0*(tSl tInt).k) (flat (tSl tInt).own r_1))]) (by rw [Nat.zero_mul,hideTo_zero]) ?_
  refine T_loopX (fun k=>fun (t_3:Nat)=>k=r_1.length - t_3∧forL B4_ (r_1.drop t_3) (t_3:Int) ()=some O4_) (fun (t_3:Nat)=>[(1,intA index1),(8,.m [1] 0 r_1.length (tSl tInt).k),(9,intA (r_1.length:Int)),(10,intA (t_3:Int))]) (fun (t_3:Nat)=>[.box [sl tR db0.relations,sl tF db0.facts],.row (hideTo (t_3*(tSl tInt).k) (flat (tSl tInt).own r_1))]) _ (0:Nat) (w0 2) ⟨rfl,L4_⟩ ?_
  rintro _ t_3 ⟨rfl,L4_⟩
  refine T_fact (len_m (.tmp 8) rfl) (fun hl4=>?_)
  refine sr ?_
  refine pv tb 1 rfl ?_
  refine TO_nil (T_seq ?_)
  refine T_cond (t:=decide ((t_3:Int)<(r_1.length:Int))) rfl (fun d4=>?_) (fun d4=>?_)
  ·replace d4:=of_decide_eq_true d4
   obtain ⟨x_t_3,hx_t_3⟩:∃ v,(r_1)[t_3]?=some v:=⟨_,List.getElem?_eq_getElem (by omega)⟩
   obtain ⟨C4_,H,K4_⟩:=forL_step L4_ hx_t_3
   rw [hb4] at H
   refine T_skip ?_
   refine T_seq ?_
   refine T_block ?_
   refine sr ?_
   refine Tp rfl rfl (pur_ixM (T:=(tSl tInt)) sl97 rfl rfl rfl hx_t_3 rfl) rfl ?_
   refine Tp rfl rfl (pur_ldG (T:=(tSl tInt)) (i:=t_3) (off:=0) rfl one28 rfl rfl rfl (Nat.le_refl _) hx_t_3 rfl cellVal_sl) rfl ?_
   refine TO_gh (E':=[(1,intA index1),(8,.m [1] 0 r_1.length (tSl tInt).k),(9,intA (r_1.length:Int)),(10,intA (t_3:Int)),(13,.m [2] 0 x_t_3.length tInt.k)]) (Ghost.detT (T:=(tSl tInt)) (T2:=tInt) (s:=1) (c:=t_3*(tSl tInt).k) (i:=t_3) (off:=0) (xs:=r_1) (v:=x_t_3) (ys:=x_t_3) rfl hx_t_3 (by omega) rfl (by exact lb rfl) ⟨.r _,.r _,.r _,.r _,.m _ _ _,trivial⟩) ?_
   refine TO_st (σ':=[.box [sl tR db0.relations,sl tF db0.facts],.row (hideTo (t_3*(tSl tInt).k+0+1) (flat (tSl tInt).own r_1)),.row (flat tInt.own x_t_3)]) rfl ?_
   refine pv tb 1 rfl ?_
   refine TO_nil (sr ?_)
   obtain ⟨r_5,h_6,H⟩:=bind_inv H
   refine pv tb 2 rfl ?_
   refine TO_cons rfl (TOp_callB (call_static ent81 rfl) (frz_cons (frzT (T:=tInt) rfl) (frz_cons (frz_loose rfl) frz_nil)).1 (frz_cons (frzT (T:=tInt) rfl) (frz_cons (frz_loose rfl) frz_nil)).2 (m_slices_Contains_Sint_int_ok _ _ _ h_6) rfl ?_)
   refine TO_nil ?_
   refine T_cond (t:=r_5) rfl (fun c_7=>?_) (fun c_7=>?_)
   ·replace H:=cond_t c_7 H
    refine sr ?_
    refine pv tb 2 rfl ?_
    refine TO_nil ?_
    refine T_ret ?_
    refine block_ret ?_
    refine then_ret ?_
    refine then_ret ?_
    refine block_ret ?_
    refine then_ret ?_
    obtain rfl:=some_inj H
    obtain rfl:=some_inj K4_
    replace H:=onS_r N4_
    obtain rfl:=some_inj H
    exact end_pick (.tmp .nil) rfl [2] (by decide) rfl rfl rfl rfl rfl rfl
   ·replace H:=cond_f c_7 H
    refine T_skip ?_
    refine T_gh (Ghost.hide (s:=1) (c:=t_3*(tSl tInt).k+0+1) (c':=(t_3+1)*(tSl tInt).k) (hide_le1 (d:=0) (by decide)) rfl (by exact lb rfl)) ?_
    refine T_st (σ':=[.box [sl tR db0.relations,sl tF db0.facts],.row (hideTo ((t_3+1)*(tSl tInt).k) (flat (tSl tInt).own r_1)),.row (flat tInt.own x_t_3)]) rfl ?_
    refine T_region ?_
    refine Tp rfl rfl (pur_add rfl rfl rfl (fits64 (by omega) (by omega))) rfl ?_
    refine pv tb 1 rfl ?_
    refine TO_nil ?_
    obtain rfl:=some_inj H
    exact again (r_1.length - (t_3+1)) (t_3+1) (by omega) (w0 2) ⟨rfl,K4_⟩
  ·replace d4:=of_decide_eq_false d4
   obtain rfl:=forL_end L4_ (by omega)
   refine T_exit ?_
   refine then_exit ?_
   refine then_exit ?_
   refine block_exit ?_
   refine T_kill 1 (lb rfl) ?_
   refine T_st (σ':=[.box [sl tR db0.relations,sl tF db0.facts],.dead]) rfl ?_
   replace H:=onS_l N4_
   refine sr ?_
   refine pv tb 1 rfl ?_
   refine TO_nil ?_
   refine T_row0 ?_
   refine T_envL (E':=[(4,.m [2] 0 ([]:(List Int)).length tInt.k)]) ⟨leM,trivial⟩ ?_
   refine T_st (σ':=[.box [sl tR db0.relations,sl tF db0.facts],.dead,.row (flat tInt.own ([]:(List Int)))]) rfl ?_
   refine T_ret ?_
   obtain rfl:=some_inj H
   exact end_pick (.tmp .nil) rfl [2] (by decide) rfl rfl rfl rfl rfl rfl
theorem miBlockOf_ok (db0:Database) (index1:Int) (r:(List Int)) (H:miBlockOf db0 index1=some r):FnV prg 50 [.g (tD.enc db0),intA index1] (sl tInt r):=(miBlockOf_own db0 index1 r H).frz (frzT (T:=tInt) rfl)

theorem miResolveConflict_own (db0:Database) (fact1:Fact) (r:(Database × Bool)) (H:miResolveConflict db0 fact1=some r):FnO prg 20 [.g (tD.enc db0),.g (tF.enc fact1)] (.t [.g [.m [0] 0 r.1.relations.length tR.k,.m [1] 0 r.1.facts.length tF.k],boolA r.2]) [.row (flat tR.enc r.1.relations),.row (flat tF.enc r.1.facts)]:=by
  unfold miResolveConflict at H
  refine fnO_of_T Tryz.func20 rfl rfl (Nat.le_of_ble_eq_true rfl) ?_
  refine te [(0,.g (tD.enc db0)),(1,.g (tF.enc fact1))] rfl ?_
  refine sr ?_
  refine TO_cons rfl (TOp_box rfl (boxAll rfl) rfl rfl ?_)
  refine TO_cons rfl (TOp_box rfl (boxAll rfl) rfl rfl ?_)
  refine TO_cons rfl (TOp_alloc zero27 rfl rfl ?_)
  refine pv tb 1 rfl ?_
  refine TO_nil (T_seq (sr ?_))
  obtain ⟨r_1,h_2,H⟩:=bind_inv H
  refine pv tb 2 rfl ?_
  refine TO_cons rfl (TOp_callV (call_static ent46 rfl) (miContainsFact_ok _ _ _ h_2) rfl rfl rfl ?_)
  refine pv tb 1 rfl ?_
  refine TO_nil ?_
  refine T_cond (t:=(!r_1)) rfl (fun c_3=>?_) (fun c_3=>?_)
  ·replace H:=cond_t c_3 H
   refine sr ?_
   obtain ⟨r_4,h_5,H⟩:=bind_inv H
   refine pv tb 1 rfl ?_
   refine TO_cons rfl (TOp_callO (call_static ent21 rfl) rfl (micopyDatabase_enc _ _ h_5) rfl rfl rfl ?_)
   refine toe [(2,.b 0 0),(3,.b 1 0),(4,.b 2 0),(10,boolA (!r_1)),(11,.g (tD.enc db0)),(12,.g [.m [3] 0 r_4.relations.length tR.k,.m [4] 0 r_4.facts.length tF.k])] rfl ?_
   refine TO_st (σ':=[.box [sl tR db0.relations,sl tF db0.facts],.box [intA fact1.relation,sl tInt fact1.values],.box [.n,.n],.row (flat tR.enc r_4.relations),.row (flat tF.enc r_4.facts)]) rfl ?_
   refine TO_cons rfl (TOp_storeB sz27 rfl rfl rfl rfl rfl rfl rfl (by decide) (lb rfl) rfl ?_)
   refine TO_st (σ':=[.box [sl tR db0.relations,sl tF db0.facts],.box [intA fact1.relation,sl tInt fact1.values],.box [.m [3] 0 r_4.relations.length tR.k,.m [4] 0 r_4.facts.length tF.k],.row (flat tR.enc r_4.relations),.row (flat tF.enc r_4.facts)]) rfl ?_
   refine pv tb 1 rfl ?_
   refine TO_nil ?_
   refine T_ret ?_
   refine then_ret ?_
   obtain rfl:=some_inj H
   exact end_pick (.cellK rfl agg27 rfl (lb rfl) (.tmp .nil)) rfl [3,4] (by decide) rfl rfl rfl rfl rfl rfl
  ·replace H:=cond_f c_3 H
   refine T_skip ?_
   refine sr ?_
   obtain ⟨r_6,h_7,H⟩:=bind_inv H
   refine pv tb 2 rfl ?_
   refine TO_cons rfl (TOp_callV (call_static ent44 rfl) (miFactIndex_ok _ _ _ h_7) rfl rfl rfl ?_)
   refine pv tb 1 rfl ?_
   refine TO_nil ?_
   obtain ⟨r_8,h_9,H⟩:=bind_inv H
   obtain ⟨r_10,h_11,H⟩:=bind_inv H
   obtain ⟨r_12,h_13,H⟩:=bind_inv H
   refine T_pad ?_
   refine T_pad ?_
   refine T_pad ?_
   refine T_pad ?_
   refine T_pad ?_
   refine T_cutX (fun (_:Unit)=>True) (fun _=>[(4,.b 2 0),(5,boolA true)]) (fun _=>[.box [sl tR db0.relations,sl tF db0.facts],.box [intA fact1.relation,sl tInt fact1.values],.box [.m [3] 0 r_12.relations.length tR.k,.m [4] 0 r_12.facts.length tF.k],.row (flat tR.enc r_12.relations),.row (flat tF.enc r_12.facts)]) ?_ ?_
   ·skip
    refine T_regionPh 3 8 mixed rfl (by kernel_rfl) ?_
    refine TA_have 2 #[true,true,true,true,true,true,false,false] [(4,.b 2 0),(16,.g (tD.enc db0)),(19,sl tInt r_8),(21,sl tInt ([r_6]:(List Int)))] [.dead,.dead,.dead,.dead,.dead,.dead,.dead,.dead] ?_ (fun hj0_4=>?_)
    ·skip
     refine t1 6 (by kernel_rfl) rfl rfl (TOp_callV (call_static ent49 rfl) (miwithout_ok _ _ _ h_11) rfl rfl rfl ?_)
     refine t1 7 (by kernel_rfl) rfl rfl (TOp_callO (call_static ent48 rfl) rfl (miwithoutFacts_own _ _ _ h_13) rfl rfl rfl ?_)
     refine tae [(4,.b 2 0),(16,.g (tD.enc db0)),(19,sl tInt r_8),(21,sl tInt ([r_6]:(List Int))),(22,sl tInt r_10),(23,.g [.m [8] 0 r_12.relations.length tR.k,.m [9] 0 r_12.facts.length tF.k])] rfl ?_
     refine TA_st (σ':=[.dead,.dead,.dead,.dead,.dead,.dead,.dead,.dead,.row (flat tR.enc r_12.relations),.row (flat tF.enc r_12.facts)]) rfl ?_
     refine tmw 6 8 (by decide) (lb rfl) rfl rfl (lb rfl) rfl ?_
     refine tmw 7 9 (by decide) (lb rfl) rfl rfl (lb rfl) rfl ?_
     refine TA_nil (by kernel_rfl) ?_
     refine TA_st (σ':=[.box [sl tR db0.relations,sl tF db0.facts],.box [intA fact1.relation,sl tInt fact1.values],.box [.n,.n],.dead,.dead,.dead,.row (flat tR.enc r_12.relations),.row (flat tF.enc r_12.facts),.dead,.dead]) rfl ?_
     refine t1 8 (by kernel_rfl) rfl rfl (TOp_storeB sz27 rfl rfl rfl rfl rfl rfl rfl (by decide) (lb rfl) rfl ?_)
     refine TA_st (σ':=[.box [sl tR db0.relations,sl tF db0.facts],.box [intA fact1.relation,sl tInt fact1.values],.box [.m [6] 0 r_12.relations.length tR.k,.m [7] 0 r_12.facts.length tF.k],.dead,.dead,.dead,.row (flat tR.enc r_12.relations),.row (flat tF.enc r_12.facts),.dead,.dead]) rfl ?_
     refine pa tb [9] 0 rfl (by kernel_rfl) rfl ?_
     refine TA_ghost (E':=[(4,.b 2 0),(5,boolA true)]) (σ':=[.box [sl tR db0.relations,sl tF db0.facts],.box [intA fact1.relation,sl tInt fact1.values],.box [.m [3] 0 r_12.relations.length tR.k,.m [7] 0 r_12.facts.length tF.k],.row (flat tR.enc r_12.relations),.dead,.dead,.dead,.row (flat tF.enc r_12.facts),.dead,.dead]) (Ghost.move 3 6 (by decide) (lb rfl) rfl rfl (lb rfl) (Ghost.weak (WeakL.to 10 (lb rfl) rfl rfl rfl rfl ⟨leR rfl,leR rfl,trivial⟩))) ?_
     refine TA_ghost (E':=[(4,.b 2 0),(5,boolA true)]) (σ':=[.box [sl tR db0.relations,sl tF db0.facts],.box [intA fact1.relation,sl tInt fact1.values],.box [.m [3] 0 r_12.relations.length tR.k,.m [4] 0 r_12.facts.length tF.k],.row (flat tR.enc r_12.relations),.row (flat tF.enc r_12.facts),.dead,.dead,.dead,.dead,.dead]) (Ghost.move 4 7 (by decide) (lb rfl) rfl rfl (lb rfl) (Ghost.weak (WeakL.to 10 (lb rfl) rfl rfl rfl rfl ⟨leR rfl,leR rfl,trivial⟩))) ?_
     exact TA_nil (by kernel_rfl) (joined () (w0 5) trivial)
    refine pa tb [0,1,2,4] 4 rfl (by kernel_rfl) rfl ?_
    refine TA_all [3,5] (by kernel_rfl) (by decide) ⟨?_,?_,trivial⟩
    ·skip
     refine ⟨_,rfl,rfl,TOp_callV (call_static ent50 rfl) (miBlockOf_ok _ _ _ h_9) rfl rfl rfl ?_⟩
     refine t1 5 (by kernel_rfl) rfl rfl (TOp_lit (nn:=1) (k:=1) sl28 zero3 rfl rfl rfl rfl (by decide) ?_)
     refine tmw 5 8 (by decide) (lb rfl) rfl rfl (lb rfl) rfl ?_
     refine TA_ghost (E':=[(2,.b 0 0),(4,.b 2 0),(6,intA r_6),(16,.g (tD.enc db0)),(17,.g (tD.enc db0)),(18,intA r_6),(19,sl tInt r_8),(20,intA r_6),(21,.m [5] 0 ([r_6]:(List Int)).length tInt.k)]) (σ':=[.dead,.dead,.dead,.dead,.dead,.row (flat tInt.enc ([r_6]:(List Int))),.dead,.dead,.dead]) (Ghost.weak (WeakL.to 9 (lb rfl) rfl rfl rfl rfl ⟨leR rfl,leR rfl,leR rfl,leR rfl,leR rfl,leR rfl,leR rfl,leR rfl,leR rfl,trivial⟩)) ?_
     refine TA_frz1 5 (E':=[(2,.b 0 0),(4,.b 2 0),(6,intA r_6),(16,.g (tD.enc db0)),(17,.g (tD.enc db0)),(18,intA r_6),(19,sl tInt r_8),(20,intA r_6),(21,sl tInt ([r_6]:(List Int)))]) rfl rfl (lb rfl) ⟨.keep rfl,.keep rfl,.keep rfl,.keep rfl,.keep rfl,.keep rfl,.keep rfl,.keep rfl,fz1E,trivial⟩ ?_
     refine TA_st (σ':=[.dead,.dead,.dead,.dead,.dead,.dead,.dead,.dead,.dead]) rfl ?_
     exact tj hj0_4 rfl (w0 8)
    ·skip
     refine ⟨_,rfl,rfl,TOp_lit (nn:=1) (k:=1) sl28 zero3 rfl rfl rfl rfl (by decide) ?_⟩
     refine tmw 5 8 (by decide) (lb rfl) rfl rfl (lb rfl) rfl ?_
     refine t1 3 (by kernel_rfl) rfl rfl (TOp_callV (call_static ent50 rfl) (miBlockOf_ok _ _ _ h_9) rfl rfl rfl ?_)
     refine TA_ghost (E':=[(2,.b 0 0),(4,.b 2 0),(6,intA r_6),(16,.g (tD.enc db0)),(17,.g (tD.enc db0)),(18,intA r_6),(19,sl tInt r_8),(20,intA r_6),(21,.m [5] 0 ([r_6]:(List Int)).length tInt.k)]) (σ':=[.dead,.dead,.dead,.dead,.dead,.row (flat tInt.enc ([r_6]:(List Int))),.dead,.dead,.dead]) (Ghost.weak (WeakL.to 9 (lb rfl) rfl rfl rfl rfl ⟨leR rfl,leR rfl,leR rfl,leR rfl,leR rfl,leR rfl,leR rfl,leR rfl,leR rfl,trivial⟩)) ?_
     refine TA_frz1 5 (E':=[(2,.b 0 0),(4,.b 2 0),(6,intA r_6),(16,.g (tD.enc db0)),(17,.g (tD.enc db0)),(18,intA r_6),(19,sl tInt r_8),(20,intA r_6),(21,sl tInt ([r_6]:(List Int)))]) rfl rfl (lb rfl) ⟨.keep rfl,.keep rfl,.keep rfl,.keep rfl,.keep rfl,.keep rfl,.keep rfl,.keep rfl,fz1E,trivial⟩ ?_
     refine TA_st (σ':=[.dead,.dead,.dead,.dead,.dead,.dead,.dead,.dead,.dead]) rfl ?_
     exact tj hj0_4 rfl (w0 8)
   ·rintro _ _
    refine T_ret ?_
    obtain rfl:=some_inj H
    exact end_pick (.cellK rfl agg27 rfl (lb rfl) (.tmp .nil)) rfl [3,4] (by decide) rfl rfl rfl rfl rfl rfl
theorem miResolveConflict_ok (db0:Database) (fact1:Fact) (r:(Database × Bool)) (H:miResolveConflict db0 fact1=some r):FnV prg 20 [.g (tD.enc db0),.g (tF.enc fact1)] (.t [.g (tD.enc r.1),boolA r.2]):=(miResolveConflict_own db0 fact1 r H).frz (frzOK_t (frz_cons (frzOK_g (frz_cons (frzTE (T:=tR) rfl) (frz_cons (frzTE (T:=tF) rfl) frz_nil)).1 (frz_cons (frzTE (T:=tR) rfl) (frz_cons (frzTE (T:=tF) rfl) frz_nil)).2) (frz_cons (frz_loose rfl) frz_nil)).1 (frz_cons (frzOK_g (frz_cons (frzTE (T:=tR) rfl) (frz_cons (frzTE (T:=tF) rfl) frz_nil)).1 (frz_cons (frzTE (T:=tR) rfl) (frz_cons (frzTE (T:=tF) rfl) frz_nil)).2) (frz_cons (frz_loose rfl) frz_nil)).2)

theorem miApplyEdit_ok (u:Nat) (db0:Database) (edit1:Edit) (r:(Database × Bool)) (H:miApplyEdit u db0 edit1=some r):FnV prg 6 [.g (tD.enc db0),.g (tEdit.enc edit1)] (.t [.g (tD.enc r.1),boolA r.2]):=by
  unfold miApplyEdit at H
  refine fnV_of_T Tryz.func6 rfl rfl (Nat.le_of_ble_eq_true rfl) ?_
  refine te [(0,.g (tD.enc db0)),(1,.g (tEdit.enc edit1))] rfl ?_
  refine sr ?_
  refine TO_cons rfl (TOp_box rfl (boxAll rfl) rfl rfl ?_)
  refine TO_cons rfl (TOp_box rfl (boxAll rfl) rfl rfl ?_)
  refine TO_cons rfl (TOp_alloc zero27 rfl rfl ?_)
  refine pv tb 1 rfl ?_
  refine TO_nil (T_seq (sr ?_))
  refine pv tb 2 rfl ?_
  refine TO_nil ?_
  refine T_block ?_
  refine sr ?_
  refine pv tb 2 rfl ?_
  refine TO_nil ?_
  refine T_cond (t:=decide (edit1.kind=1)) rfl (fun c_1=>?_) (fun c_1=>?_)
  ·replace H:=cond_t c_1 H
   refine sr ?_
   obtain ⟨r_2,h_3,H⟩:=bind_inv H
   refine pv tb 3 rfl ?_
   refine TO_cons rfl (TOp_callV (call_static ent18 rfl) (miInsertFact_ok u _ _ _ h_3) rfl rfl rfl ?_)
   refine pv tb 2 rfl ?_
   refine TO_cons rfl (TOp_storeB sz27 rfl rfl rfl rfl rfl rfl rfl (by decide) (lb rfl) rfl ?_)
   refine TO_st (σ':=[.box [sl tR db0.relations,sl tF db0.facts],.box [intA edit1.kind,intA edit1.fact.relation,sl tInt edit1.fact.values],.box [sl tR r_2.1.relations,sl tF r_2.1.facts]]) rfl ?_
   refine pv tb 1 rfl ?_
   refine TO_nil ?_
   refine te [(4,.b 2 0),(5,boolA r_2.2)] rfl ?_
   refine T_ret ?_
   refine block_ret ?_
   refine then_ret ?_
   obtain rfl:=some_inj H
   refine end_ret (.cellK rfl agg27 rfl (lb rfl) (.tmp .nil)) rfl rfl ⟨?_,rfl⟩
   rfl
  ·replace H:=cond_f c_1 H
   refine sr ?_
   refine pv tb 2 rfl ?_
   refine TO_nil ?_
   refine T_cond (t:=decide (edit1.kind=2)) rfl (fun c_4=>?_) (fun c_4=>?_)
   ·replace H:=cond_t c_4 H
    refine sr ?_
    obtain ⟨r_5,h_6,H⟩:=bind_inv H
    refine pv tb 3 rfl ?_
    refine TO_cons rfl (TOp_callV (call_static ent19 rfl) (miDeleteFact_ok _ _ _ h_6) rfl rfl rfl ?_)
    refine pv tb 2 rfl ?_
    refine TO_cons rfl (TOp_storeB sz27 rfl rfl rfl rfl rfl rfl rfl (by decide) (lb rfl) rfl ?_)
    refine TO_st (σ':=[.box [sl tR db0.relations,sl tF db0.facts],.box [intA edit1.kind,intA edit1.fact.relation,sl tInt edit1.fact.values],.box [sl tR r_5.1.relations,sl tF r_5.1.facts]]) rfl ?_
    refine pv tb 1 rfl ?_
    refine TO_nil ?_
    refine te [(4,.b 2 0),(5,boolA r_5.2)] rfl ?_
    refine T_ret ?_
    refine block_ret ?_
    refine then_ret ?_
    obtain rfl:=some_inj H
    refine end_ret (.cellK rfl agg27 rfl (lb rfl) (.tmp .nil)) rfl rfl ⟨?_,rfl⟩
    rfl
   ·replace H:=cond_f c_4 H
    refine sr ?_
    refine pv tb 2 rfl ?_
    refine TO_nil ?_
    refine T_cond (t:=decide (edit1.kind=3)) rfl (fun c_7=>?_) (fun c_7=>?_)
    ·replace H:=cond_t c_7 H
     refine sr ?_
     obtain ⟨r_8,h_9,H⟩:=bind_inv H
     refine pv tb 3 rfl ?_
     refine TO_cons rfl (TOp_callV (call_static ent20 rfl) (miResolveConflict_ok _ _ _ h_9) rfl rfl rfl ?_)
     refine pv tb 2 rfl ?_
     refine TO_cons rfl (TOp_storeB sz27 rfl rfl rfl rfl rfl rfl rfl (by decide) (lb rfl) rfl ?_)
     refine TO_st (σ':=[.box [sl tR db0.relations,sl tF db0.facts],.box [intA edit1.kind,intA edit1.fact.relation,sl tInt edit1.fact.values],.box [sl tR r_8.1.relations,sl tF r_8.1.facts]]) rfl ?_
     refine pv tb 1 rfl ?_
     refine TO_nil ?_
     refine te [(4,.b 2 0),(5,boolA r_8.2)] rfl ?_
     refine T_ret ?_
     refine block_ret ?_
     refine then_ret ?_
     obtain rfl:=some_inj H
     refine end_ret (.cellK rfl agg27 rfl (lb rfl) (.tmp .nil)) rfl rfl ⟨?_,rfl⟩
     rfl
    ·replace H:=cond_f c_7 H
     refine T_skip ?_
     refine sr ?_
     obtain ⟨r_10,h_11,H⟩:=bind_inv H
     refine pv tb 1 rfl ?_
     refine TO_cons rfl (TOp_callV (call_static ent21 rfl) (micopyDatabase_ok _ _ h_11) rfl rfl rfl ?_)
     refine TO_cons rfl (TOp_storeB sz27 rfl rfl rfl rfl rfl rfl rfl (by decide) (lb rfl) rfl ?_)
     refine TO_st (σ':=[.box [sl tR db0.relations,sl tF db0.facts],.box [intA edit1.kind,intA edit1.fact.relation,sl tInt edit1.fact.values],.box [sl tR r_10.relations,sl tF r_10.facts]]) rfl ?_
     refine pv tb 1 rfl ?_
     refine TO_nil ?_
     refine te [(4,.b 2 0),(5,boolA false)] rfl ?_
     refine T_ret ?_
     obtain rfl:=some_inj H
     refine end_ret (.cellK rfl agg27 rfl (lb rfl) (.tmp .nil)) rfl rfl ⟨?_,rfl⟩
     rfl

theorem msDeleteFact_own (u:Nat) (d0:Database) (f1:Fact) (r:(Database × Bool)) (H:msDeleteFact u d0 f1=some r):FnO prg 24 [.g (tD.enc d0),.g (tF.enc f1)] (.t [.g [.m [0] 0 r.1.relations.length tR.k,.m [1] 0 r.1.facts.length tF.k],boolA r.2]) [.row (flat tR.enc r.1.relations),.row (flat tF.enc r.1.facts)]:=by
  unfold msDeleteFact at H
  refine fnO_of_T Tryz.func24 rfl rfl (Nat.le_of_ble_eq_true rfl) ?_
  refine te [(0,.g (tD.enc d0)),(1,.g (tF.enc f1))] rfl ?_
  refine sr ?_
  refine TO_cons rfl (TOp_box rfl (boxAll rfl) rfl rfl ?_)
  refine TO_cons rfl (TOp_box rfl (boxAll rfl) rfl rfl ?_)
  refine TO_cons rfl (TOp_alloc zero27 rfl rfl ?_)
  refine pv tb 1 rfl ?_
  refine TO_nil (sr ?_)
  obtain ⟨r_1,h_2,H⟩:=bind_inv H
  refine pv tb 1 rfl ?_
  refine TO_cons rfl (TOp_callO (call_static ent22 rfl) rfl (msl4Copy_enc u _ _ h_2) rfl rfl rfl ?_)
  refine toe [(2,.b 0 0),(3,.b 1 0),(4,.b 2 0),(8,.g (tD.enc d0)),(9,.g [.m [3] 0 r_1.relations.length tR.k,.m [4] 0 r_1.facts.length tF.k])] rfl ?_
  refine TO_st (σ':=[.box [sl tR d0.relations,sl tF d0.facts],.box [intA f1.relation,sl tInt f1.values],.box [.n,.n],.row (flat tR.enc r_1.relations),.row (flat tF.enc r_1.facts)]) rfl ?_
  refine TO_cons rfl (TOp_alloc zero27 rfl rfl ?_)
  refine TO_cons rfl (TOp_storeB sz27 rfl rfl rfl rfl rfl rfl rfl (by decide) (lb rfl) rfl ?_)
  refine TO_st (σ':=[.box [sl tR d0.relations,sl tF d0.facts],.box [intA f1.relation,sl tInt f1.values],.box [.n,.n],.row (flat tR.enc r_1.relations),.row (flat tF.enc r_1.facts),.box [.m [3] 0 r_1.relations.length tR.k,.m [4] 0 r_1.facts.length tF.k]]) rfl ?_
  refine TO_nil (T_seq (sr ?_))
  obtain ⟨r_3,h_4,H⟩:=bind_inv H
  refine pv tb 2 rfl ?_
  refine TO_cons rfl (TOp_callV (call_static ent53 rfl) (msContainsFact_ok u _ _ _ h_4) rfl rfl rfl ?_)
  refine pv tb 1 rfl ?_
  refine TO_nil ?_
  refine T_cond (t:=(!r_3)) rfl (fun c_5=>?_) (fun c_5=>?_)
  ·replace H:=cond_t c_5 H
   refine sr ?_
   refine pv tb 1 rfl ?_
   refine TO_cons rfl (TOp_storeB sz27 rfl rfl rfl rfl rfl rfl rfl (by decide) (lb rfl) rfl ?_)
   refine TO_st (σ':=[.box [sl tR d0.relations,sl tF d0.facts],.box [intA f1.relation,sl tInt f1.values],.box [.m [3] 0 r_1.relations.length tR.k,.m [4] 0 r_1.facts.length tF.k],.row (flat tR.enc r_1.relations),.row (flat tF.enc r_1.facts),.box [.m [3] 0 r_1.relations.length tR.k,.m [4] 0 r_1.facts.length tF.k]]) rfl ?_
   refine pv tb 1 rfl ?_
   refine TO_nil ?_
   refine T_ret ?_
   refine then_ret ?_
   obtain rfl:=some_inj H
   exact end_pick (.cellK rfl agg27 rfl (lb rfl) (.tmp .nil)) rfl [3,4] (by decide) rfl rfl rfl rfl rfl rfl
  ·replace H:=cond_f c_5 H
   refine T_skip ?_
   refine sr ?_
   obtain ⟨r_6,h_7,H⟩:=bind_inv H
   refine pv tb 2 rfl ?_
   refine TO_cons rfl (TOp_callV (call_static ent54 rfl) (msFactIndex_ok u _ _ _ h_7) rfl rfl rfl ?_)
   refine pv tb 1 rfl ?_
   refine TO_nil ?_
   obtain ⟨ys_8,h_9,H⟩:=bind_inv H
   obtain ⟨i_10,j_11,hi_12,hj_13,hij_14,hjl_15,hys_16,_⟩:=cutI_inv h_9
   obtain ⟨us_17,h_18,H⟩:=bind_inv H
   obtain ⟨ys_19,h_20,H⟩:=bind_inv H
   obtain ⟨i_21,j_22,hi_23,hj_24,hij_25,hjl_26,hys_27,_⟩:=cutI_inv h_20
   obtain ⟨us_28,h_29,H⟩:=bind_inv H
   refine T_pad ?_
   refine T_cutX (fun (_:Unit)=>True) (fun _=>[(4,.b 2 0),(6,.b 5 0)]) (fun _=>[.box [sl tR d0.relations,sl tF d0.facts],.box [intA f1.relation,sl tInt f1.values],.box [.n,.n],.row (flat tR.enc r_1.relations),.row (flat tF.enc r_1.facts),.box [.m [3] 0 r_1.relations.length tR.k,.m [6] 0 us_28.length tF.k],.row (flat tF.enc us_28)]) ?_ ?_
   ·skip
    refine T_regionPh 6 13 mixed rfl (by kernel_rfl) ?_
    refine pa tb [1,2,3] 10 rfl (by kernel_rfl) rfl ?_
    refine tf 4 rfl (pur_cutM (lo:=none) (hi:=(some (.tmp 21))) sl25 rfl hi_12.symm ⟨_,congrArg (fun z=>A.v (.int .i64 z)) hj_13⟩ hij_14 hjl_15 rfl) rfl rfl (by kernel_rfl) ?_
    refine pa tb [6,7] 7 rfl (by kernel_rfl) rfl ?_
    refine tae [(4,.b 2 0),(6,.b 5 0),(7,intA r_6),(22,.m [4] (i_10*tF.k) (j_11 - i_10) tF.k),(25,.m [4] 0 r_1.facts.length tF.k)] rfl ?_
    refine pa tb [8,9] 5 rfl (by kernel_rfl) rfl ?_
    refine tf 10 rfl (pur_cutM (lo:=(some (.tmp 27))) (hi:=none) sl25 rfl ⟨_,congrArg (fun z=>A.v (.int .i64 z)) hi_23⟩ hj_24.symm hij_25 hjl_26 rfl) rfl rfl (by kernel_rfl) ?_
    refine t1 0 (by kernel_rfl) rfl rfl (TOp_lit (nn:=0) (k:=2) sl25 zero30 rfl rfl rfl rfl (by decide) ?_)
    refine t1 5 (by kernel_rfl) rfl rfl (TOp_appY (T:=tF) (f:=tF.enc) (xs:=([]:(List Fact))) (ys:=ys_8) tF.len sl25 zero30 rfl bytes30 (by decide) rfl rfl rfl rfl (src_cut (T:=tF) (xs:=r_1.facts) (i:=i_10) (j:=j_11) rfl rfl hij_14 hjl_15 hys_16) (flat_cell tF _) h_18 ?_)
    refine tmw 7 8 (by decide) (lb rfl) rfl rfl (lb rfl) rfl ?_
    refine t1 11 (by kernel_rfl) rfl rfl (TOp_appY (T:=tF) (f:=tF.enc) (xs:=us_17) (ys:=ys_19) tF.len sl25 zero30 rfl bytes30 (by decide) rfl rfl rfl rfl (src_cut (T:=tF) (xs:=r_1.facts) (i:=i_21) (j:=j_22) rfl rfl hij_25 hjl_26 hys_27) (flat_cell tF _) h_29 ?_)
    refine tmw 7 9 (by decide) (lb rfl) rfl rfl (lb rfl) rfl ?_
    refine pa tb [12] 0 rfl (by kernel_rfl) rfl ?_
    refine TA_nil (by kernel_rfl) ?_
    refine TA_st (σ':=[.box [sl tR d0.relations,sl tF d0.facts],.box [intA f1.relation,sl tInt f1.values],.box [.n,.n],.row (flat tR.enc r_1.relations),.row (flat tF.enc r_1.facts),.box [.m [3] 0 r_1.relations.length tR.k,.m [4] 0 r_1.facts.length tF.k],.dead,.row (flat tF.enc us_28),.dead,.dead]) rfl ?_
    refine t1 13 (by kernel_rfl) rfl rfl (TOp_storeB sz25 rfl rfl rfl rfl rfl rfl rfl (by decide) (lb rfl) rfl ?_)
    refine TA_st (σ':=[.box [sl tR d0.relations,sl tF d0.facts],.box [intA f1.relation,sl tInt f1.values],.box [.n,.n],.row (flat tR.enc r_1.relations),.row (flat tF.enc r_1.facts),.box [.m [3] 0 r_1.relations.length tR.k,.m [7] 0 us_28.length tF.k],.dead,.row (flat tF.enc us_28),.dead,.dead]) rfl ?_
    refine TA_ghost (E':=[(4,.b 2 0),(6,.b 5 0)]) (σ':=[.box [sl tR d0.relations,sl tF d0.facts],.box [intA f1.relation,sl tInt f1.values],.box [.n,.n],.row (flat tR.enc r_1.relations),.row (flat tF.enc r_1.facts),.box [.m [3] 0 r_1.relations.length tR.k,.m [6] 0 us_28.length tF.k],.row (flat tF.enc us_28),.dead,.dead,.dead]) (Ghost.move 6 7 (by decide) (lb rfl) rfl rfl (lb rfl) (Ghost.weak (WeakL.to 10 (lb rfl) rfl rfl rfl rfl ⟨leR rfl,leR rfl,trivial⟩))) ?_
    exact TA_nil (by kernel_rfl) (joined () (w0 7) trivial)
   ·rintro _ _
    refine sr ?_
    refine pv tb 1 rfl ?_
    refine TO_cons rfl (TOp_storeB sz27 rfl rfl rfl rfl rfl rfl rfl (by decide) (lb rfl) rfl ?_)
    refine TO_st (σ':=[.box [sl tR d0.relations,sl tF d0.facts],.box [intA f1.relation,sl tInt f1.values],.box [.m [3] 0 r_1.relations.length tR.k,.m [6] 0 us_28.length tF.k],.row (flat tR.enc r_1.relations),.row (flat tF.enc r_1.facts),.box [.m [3] 0 r_1.relations.length tR.k,.m [6] 0 us_28.length tF.k],.row (flat tF.enc us_28)]) rfl ?_
    refine pv tb 1 rfl ?_
    refine TO_nil ?_
    refine T_ret ?_
    obtain rfl:=some_inj H
    exact end_pick (.cellK rfl agg27 rfl (lb rfl) (.tmp .nil)) rfl [3,6] (by decide) rfl rfl rfl rfl rfl rfl
theorem msDeleteFact_ok (u:Nat) (d0:Database) (f1:Fact) (r:(Database × Bool)) (H:msDeleteFact u d0 f1=some r):FnV prg 24 [.g (tD.enc d0),.g (tF.enc f1)] (.t [.g (tD.enc r.1),boolA r.2]):=(msDeleteFact_own u d0 f1 r H).frz (frzOK_t (frz_cons (frzOK_g (frz_cons (frzTE (T:=tR) rfl) (frz_cons (frzTE (T:=tF) rfl) frz_nil)).1 (frz_cons (frzTE (T:=tR) rfl) (frz_cons (frzTE (T:=tF) rfl) frz_nil)).2) (frz_cons (frz_loose rfl) frz_nil)).1 (frz_cons (frzOK_g (frz_cons (frzTE (T:=tR) rfl) (frz_cons (frzTE (T:=tF) rfl) frz_nil)).1 (frz_cons (frzTE (T:=tR) rfl) (frz_cons (frzTE (T:=tF) rfl) frz_nil)).2) (frz_cons (frz_loose rfl) frz_nil)).2)

theorem msKeyOf_own (u:Nat) (l0:(List Relation)) (f1:Fact) (r:(List Int)) (H:msKeyOf u l0 f1=some r):FnO prg 101 [sl tR l0,.g (tF.enc f1)] (.m [0] 0 r.length tInt.k) [.row (flat tInt.own r)]:=by
  unfold msKeyOf at H
  refine fnO_of_T Tryz.func101 rfl rfl (Nat.le_of_ble_eq_true rfl) ?_
  refine te [(0,sl tR l0),(1,.g (tF.enc f1))] rfl ?_
  refine sr ?_
  refine TO_cons rfl (TOp_box rfl (boxAll rfl) rfl rfl ?_)
  refine pv tb 1 rfl ?_
  refine TO_nil (T_seq (sr ?_))
  obtain ⟨r_1,h_2,H⟩:=bind_inv H
  refine pv tb 2 rfl ?_
  refine TO_cons rfl (TOp_callV (call_static ent52 rfl) (msIsValidFact_ok u _ _ _ h_2) rfl rfl rfl ?_)
  refine pv tb 1 rfl ?_
  refine TO_nil ?_
  refine T_cond (t:=(!r_1)) rfl (fun c_3=>?_) (fun c_3=>?_)
  ·replace H:=cond_t c_3 H
   refine sr ?_
   refine TO_cons rfl (TOp_lit (nn:=0) (k:=1) sl28 zero3 rfl rfl rfl rfl (by decide) ?_)
   refine TO_st (σ':=[.box [intA f1.relation,sl tInt f1.values],.row (flat tInt.enc ([]:(List Int)))]) rfl ?_
   refine pv tb 1 rfl ?_
   refine TO_nil ?_
   refine T_ret ?_
   refine then_ret ?_
   obtain rfl:=some_inj H
   exact end_pick (.tmp .nil) rfl [1] (by decide) rfl rfl rfl rfl rfl rfl
  ·replace H:=cond_f c_3 H
   refine T_skip ?_
   obtain ⟨v_4,h_5,H⟩:=bind_inv H
   obtain ⟨n_6,hz_7,hv_8⟩:=getI_inv h_5
   obtain ⟨ys_9,h_10,H⟩:=bind_inv H
   obtain ⟨us_11,h_12,H⟩:=bind_inv H
   refine T_pad ?_
   refine T_cutX (fun (_:Unit)=>True) (fun _=>[(4,.m [1] 0 us_11.length tInt.k)]) (fun _=>[.box [intA f1.relation,sl tInt f1.values],.row (flat tInt.enc us_11)]) ?_ ?_
   ·skip
    refine T_regionP 1 mixed rfl ?_
    refine pa tb [1,2,3,4,5] 7 rfl (by kernel_rfl) rfl ?_
    refine tf 6 rfl (pur_ixT (T:=tR) sl24 rfl rfl hz_7 hv_8 rfl) rfl rfl (by kernel_rfl) ?_
    refine pa tb [7] 5 rfl (by kernel_rfl) rfl ?_
    refine tf 8 rfl (pur_ldT (T:=tR) (i:=n_6) (off:=2) rfl one3 rfl rfl hv_8 rfl) rfl rfl (by kernel_rfl) ?_
    refine tf 9 rfl (pur_cutT (T:=tInt) (lo:=none) (hi:=(some (.tmp 18))) sl28 rfl rfl ⟨_,rfl⟩ h_10 rfl) rfl rfl (by kernel_rfl) ?_
    refine t1 0 (by kernel_rfl) rfl rfl (TOp_lit (nn:=0) (k:=1) sl28 zero3 rfl rfl rfl rfl (by decide) ?_)
    refine t1 10 (by kernel_rfl) rfl rfl (TOp_appY (T:=tInt) (f:=tInt.enc) (xs:=([]:(List Int))) (ys:=ys_9) tInt.len sl28 zero3 rfl bytes3 (by decide) rfl rfl rfl rfl (src_T (T:=tInt) rfl) (flat_cell tInt _) h_12 ?_)
    refine tmw 2 3 (by decide) (lb rfl) rfl rfl (lb rfl) rfl ?_
    refine pa tb [11] 0 rfl (by kernel_rfl) rfl ?_
    refine tae [(4,.m [2] 0 us_11.length tInt.k)] rfl ?_
    refine TA_ghost (E':=[(4,.m [1] 0 us_11.length tInt.k)]) (σ':=[.dead,.row (flat tInt.enc us_11),.dead,.dead]) (Ghost.move 1 2 (by decide) (lb rfl) rfl rfl (lb rfl) (Ghost.weak (WeakL.to 4 (lb rfl) rfl rfl rfl rfl ⟨leR rfl,trivial⟩))) ?_
    exact TA_nil (by kernel_rfl) (joined () (w0 2) trivial)
   ·rintro _ _
    refine T_ret ?_
    obtain rfl:=some_inj H
    exact end_pick (.tmp .nil) rfl [1] (by decide) rfl rfl rfl rfl rfl rfl
theorem msKeyOf_ok (u:Nat) (l0:(List Relation)) (f1:Fact) (r:(List Int)) (H:msKeyOf u l0 f1=some r):FnV prg 101 [sl tR l0,.g (tF.enc f1)] (sl tInt r):=(msKeyOf_own u l0 f1 r H).frz (frzT (T:=tInt) rfl)

theorem msHaveSameKey_ok (u:Nat) (l0:(List Relation)) (a1:Fact) (b2:Fact) (r:Bool) (H:msHaveSameKey u l0 a1 b2=some r):FnV prg 84 [sl tR l0,.g (tF.enc a1),.g (tF.enc b2)] (boolA r):=by
  unfold msHaveSameKey at H
  refine fnV_of_T Tryz.func84 rfl rfl (Nat.le_of_ble_eq_true rfl) ?_
  refine te [(0,sl tR l0),(1,.g (tF.enc a1)),(2,.g (tF.enc b2))] rfl ?_
  refine sr ?_
  refine TO_cons rfl (TOp_box rfl (boxAll rfl) rfl rfl ?_)
  refine TO_cons rfl (TOp_box rfl (boxAll rfl) rfl rfl ?_)
  refine pv tb 1 rfl ?_
  refine TO_nil ?_
  obtain ⟨t6_1,J_1,H_2⟩:=bind_inv H
  refine T_cutX (fun x=>t6_1=x) (fun (t6_1:Bool)=>[(6,boolA t6_1)]) (fun (t6_1:Bool)=>[]) ?_ ?_
  ·replace H:=J_1
   obtain ⟨r_3,h_4,H⟩:=bind_inv H
   refine T_caseB r_3 (fun g_5=>?_) (fun g_5=>?_)
   ·replace H:=cond_t g_5 H
    obtain ⟨r_6,h_7,H⟩:=bind_inv H
    refine T_caseB r_6 (fun g_8=>?_) (fun g_8=>?_)
    ·replace H:=cond_t g_8 H
     refine T_caseB (decide (a1.relation=b2.relation)) (fun g_9=>?_) (fun g_9=>?_)
     ·replace H:=cond_t g_9 H
      obtain ⟨r_10,h_11,H⟩:=bind_inv H
      obtain ⟨r_12,h_13,H⟩:=bind_inv H
      obtain ⟨r_14,h_15,H⟩:=bind_inv H
      refine T_regionP 2 mixed rfl ?_
      refine pa tb [0,1] 24 rfl (by kernel_rfl) rfl ?_
      refine TA_allG [2] (by kernel_rfl) (by decide) ⟨⟨_,rfl,goN rfl,TOp_callV (call_static ent52 rfl) (msIsValidFact_ok u _ _ _ h_4) rfl rfl rfl ?_⟩,trivial⟩
      refine pa tb [3] 22 rfl (by kernel_rfl) rfl ?_
      refine TA_bool 10 g_5 rfl ?_
      refine pa tb [4,5] 20 rfl (by kernel_rfl) rfl ?_
      refine TA_allG [6] (by kernel_rfl) (by decide) ⟨⟨_,rfl,goG rfl rfl (by decide) rfl,TOp_callV (call_static ent52 rfl) (msIsValidFact_ok u _ _ _ h_7) rfl rfl rfl ?_⟩,trivial⟩
      refine pa tb [7,8] 17 rfl (by kernel_rfl) rfl ?_
      refine TA_bool 15 g_8 rfl ?_
      refine pa tb [9,10,11,12,13,14,15] 10 rfl (by kernel_rfl) rfl ?_
      refine TA_bool 22 g_9 rfl ?_
      refine tae [(0,sl tR l0),(4,.b 0 0),(5,.b 1 0),(22,boolA true)] rfl ?_
      refine pa tb [16,17,19,20] 6 rfl (by kernel_rfl) rfl ?_
      refine TA_allG [18] (by kernel_rfl) (by decide) ⟨⟨_,rfl,goG rfl rfl (by decide) rfl,TOp_callV (call_static ent101 rfl) (msKeyOf_ok u _ _ _ h_11) rfl rfl rfl ?_⟩,trivial⟩
      refine TA_allG [21] (by kernel_rfl) (by decide) ⟨⟨_,rfl,goG rfl rfl (by decide) rfl,TOp_callV (call_static ent101 rfl) (msKeyOf_ok u _ _ _ h_13) rfl rfl rfl ?_⟩,trivial⟩
      refine TA_allG [22] (by kernel_rfl) (by decide) ⟨⟨_,rfl,goG rfl rfl (by decide) rfl,TOp_callV (call_static ent58 rfl) (msl3Ints_ok u _ _ _ h_15) rfl rfl rfl ?_⟩,trivial⟩
      refine pa tb [23,24,25] 0 rfl (by kernel_rfl) rfl ?_
      refine TA_nil (by kernel_rfl) ?_
      exact joined (decide (r_14=0)) (w0 0) (some_inj H).symm
     ·replace H:=cond_f g_9 H
      refine T_regionP 2 mixed rfl ?_
      refine pa tb [0,1] 24 rfl (by kernel_rfl) rfl ?_
      refine TA_allG [2] (by kernel_rfl) (by decide) ⟨⟨_,rfl,goN rfl,TOp_callV (call_static ent52 rfl) (msIsValidFact_ok u _ _ _ h_4) rfl rfl rfl ?_⟩,trivial⟩
      refine pa tb [3] 22 rfl (by kernel_rfl) rfl ?_
      refine TA_bool 10 g_5 rfl ?_
      refine pa tb [4,5] 20 rfl (by kernel_rfl) rfl ?_
      refine TA_allG [6] (by kernel_rfl) (by decide) ⟨⟨_,rfl,goG rfl rfl (by decide) rfl,TOp_callV (call_static ent52 rfl) (msIsValidFact_ok u _ _ _ h_7) rfl rfl rfl ?_⟩,trivial⟩
      refine pa tb [7,8] 17 rfl (by kernel_rfl) rfl ?_
      refine TA_bool 15 g_8 rfl ?_
      refine pa tb [9,10,11,12,13,14,15] 10 rfl (by kernel_rfl) rfl ?_
      refine TA_bool 22 g_9 rfl ?_
      refine tae [(0,sl tR l0),(4,.b 0 0),(5,.b 1 0),(22,boolA false)] rfl ?_
      refine pa tb [16,17,18,19,20,21,22,23,24,25] 0 rfl (by kernel_rfl) rfl ?_
      refine TA_nil (by kernel_rfl) ?_
      exact joined false (w0 0) (some_inj H).symm
    ·replace H:=cond_f g_8 H
     refine T_regionP 2 mixed rfl ?_
     refine pa tb [0,1] 24 rfl (by kernel_rfl) rfl ?_
     refine TA_allG [2] (by kernel_rfl) (by decide) ⟨⟨_,rfl,goN rfl,TOp_callV (call_static ent52 rfl) (msIsValidFact_ok u _ _ _ h_4) rfl rfl rfl ?_⟩,trivial⟩
     refine pa tb [3] 22 rfl (by kernel_rfl) rfl ?_
     refine TA_bool 10 g_5 rfl ?_
     refine pa tb [4,5] 20 rfl (by kernel_rfl) rfl ?_
     refine TA_allG [6] (by kernel_rfl) (by decide) ⟨⟨_,rfl,goG rfl rfl (by decide) rfl,TOp_callV (call_static ent52 rfl) (msIsValidFact_ok u _ _ _ h_7) rfl rfl rfl ?_⟩,trivial⟩
     refine pa tb [7,8] 17 rfl (by kernel_rfl) rfl ?_
     refine TA_bool 15 g_8 rfl ?_
     refine pa tb [9,10,11,12,13,14] 11 rfl (by kernel_rfl) rfl ?_
     refine tae [(0,sl tR l0),(4,.b 0 0),(5,.b 1 0),(21,boolA false)] rfl ?_
     refine pa tb [15,16,17,18,19,20,21,22,23,24,25] 0 rfl (by kernel_rfl) rfl ?_
     refine TA_nil (by kernel_rfl) ?_
     exact joined false (w0 0) (some_inj H).symm
   ·replace H:=cond_f g_5 H
    refine T_regionP 2 mixed rfl ?_
    refine pa tb [0,1] 24 rfl (by kernel_rfl) rfl ?_
    refine TA_allG [2] (by kernel_rfl) (by decide) ⟨⟨_,rfl,goN rfl,TOp_callV (call_static ent52 rfl) (msIsValidFact_ok u _ _ _ h_4) rfl rfl rfl ?_⟩,trivial⟩
    refine pa tb [3] 22 rfl (by kernel_rfl) rfl ?_
    refine TA_bool 10 g_5 rfl ?_
    refine pa tb [4,5,6,7,8,9,10,11,12,13,14] 11 rfl (by kernel_rfl) rfl ?_
    refine tae [(0,sl tR l0),(4,.b 0 0),(5,.b 1 0),(21,boolA false)] rfl ?_
    refine pa tb [15,16,17,18,19,20,21,22,23,24,25] 0 rfl (by kernel_rfl) rfl ?_
    refine TA_nil (by kernel_rfl) ?_
    exact joined false (w0 0) (some_inj H).symm
  ·rintro _ rfl
   replace H:=H_2
   refine T_ret ?_
   obtain rfl:=some_inj H
   refine end_ret (.tmp .nil) rfl rfl ⟨?_,rfl⟩
   rfl
end Go.Proofs.YtaadmoaanhdboaaGreatDoor

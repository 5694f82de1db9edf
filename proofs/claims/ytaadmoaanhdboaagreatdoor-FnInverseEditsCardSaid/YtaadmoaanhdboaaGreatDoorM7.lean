import Derived.Test.YtaadmoaanhdboaaGreatDoorM1
import Derived.Test.YtaadmoaanhdboaaGreatDoorM2
import Derived.Test.YtaadmoaanhdboaaGreatDoorM3
import Derived.Test.YtaadmoaanhdboaaGreatDoorM4
import Derived.Test.YtaadmoaanhdboaaGreatDoorM5
import Derived.Test.YtaadmoaanhdboaaGreatDoorM6
set_option linter.unusedVariables false
set_option linter.unusedSimpArgs false
set_option maxRecDepth 4000
set_option maxHeartbeats 1000000
namespace Go.Proofs.YtaadmoaanhdboaaGreatDoor
open Go Go.Proofs Go.Sep
theorem m_slices_IndexFunc_Simpl_Relation_impl_Relation_ok (s0:(List Relation)) (f1:(Relation→Option Bool)) (f1_g:Nat) (f1_c:List A) (f1_E:EnT prg f1_g) (f1_l:looseL f1_c=true) (f1_m:firmL f1_c=true∧fzL f1_c=f1_c) (f1_H:∀ (x0:Relation) r,f1 x0=some r→FnV prg f1_g ([.g (tR.enc x0)]++f1_c) (boolA r)) (r:Int) (H:m_slices_IndexFunc_Simpl_Relation_impl_Relation s0 f1=some r):FnV prg 88 [sl tR s0,.f f1_g f1_c] (intA r):=by
  unfold m_slices_IndexFunc_Simpl_Relation_impl_Relation at H
  refine fnV_of_T Tryz.func88 rfl rfl (Nat.le_of_ble_eq_true rfl) ?_
  refine te [(0,sl tR s0),(1,.f f1_g f1_c)] rfl ?_
  refine sr ?_
  refine pv tb 1 rfl ?_
  refine TO_nil (T_seq (sr ?_))
  refine pv tb 1 rfl ?_
  refine Tp rfl rfl (pur_lenT (T:=tR) sl24 rfl rfl) rfl ?_
  refine pv tb 1 rfl ?_
  refine TO_nil ?_
  obtain ⟨O2_,L2_,N2_⟩:=bind_inv H
  clear H
  obtain ⟨B2_,hb2,L2_⟩:=gen_forL L2_
  refine T_block ?_
  refine T_loopX (fun k=>fun (t_1:Nat)=>k=s0.length - t_1∧forL B2_ (s0.drop t_1) (t_1:Int) ()=some O2_) (fun (t_1:Nat)=>[(0,sl tR s0),(1,.f f1_g f1_c),(7,intA (s0.length:Int)),(8,intA (t_1:Int))]) (fun (t_1:Nat)=>[]) _ (0:Nat) (wp 0 (lb rfl) rfl rfl (by simp only [namesE,A.names,namesL_enc,Bool.false_or,Bool.or_false,looseL_names f1_l]) rfl rfl) ⟨rfl,L2_⟩ ?_
  rintro _ t_1 ⟨rfl,L2_⟩
  refine T_fact (len_sl (T:=tR) (.tmp 0) rfl) (fun hl2=>?_)
  refine sr ?_
  refine pv tb 1 rfl ?_
  refine TO_nil (T_seq ?_)
  refine T_cond (t:=decide ((t_1:Int)<(s0.length:Int))) rfl (fun d2=>?_) (fun d2=>?_)
  ·replace d2:=of_decide_eq_true d2
   obtain ⟨x_t_1,hx_t_1⟩:∃ v,(s0)[t_1]?=some v:=⟨_,List.getElem?_eq_getElem (by omega)⟩
   obtain ⟨C2_,H,K2_⟩:=forL_step L2_ hx_t_1
   rw [hb2] at H
   refine T_skip ?_
   refine T_seq ?_
   refine T_block ?_
   refine sr ?_
   refine pv tb 2 rfl ?_
   refine TO_nil (sr ?_)
   refine pv tb 3 rfl ?_
   refine Tp rfl rfl (pur_ixT (T:=tR) sl24 rfl rfl rfl hx_t_1 rfl) rfl ?_
   refine Tp rfl rfl (pur_ldTK (T:=tR) (i:=t_1) (off:=0) rfl agg53 rfl rfl hx_t_1 (by decide) rfl) rfl ?_
   obtain ⟨r_3,h_4,H⟩:=bind_inv H
   refine TO_cons rfl (TOp_callV (call_closure f1_E rfl rfl) (f1_H _  _ h_4) (looseL_app rfl f1_l) rfl rfl ?_)
   refine TO_nil ?_
   refine T_cond (t:=r_3) rfl (fun c_5=>?_) (fun c_5=>?_)
   ·replace H:=cond_t c_5 H
    refine sr ?_
    refine pv tb 2 rfl ?_
    refine TO_nil ?_
    refine T_ret ?_
    refine block_ret ?_
    refine then_ret ?_
    refine then_ret ?_
    refine block_ret ?_
    refine then_ret ?_
    obtain rfl:=some_inj H
    obtain rfl:=some_inj K2_
    replace H:=onS_r N2_
    obtain rfl:=some_inj H
    refine end_ret (.tmp .nil) rfl rfl ⟨?_,rfl⟩
    rfl
   ·replace H:=cond_f c_5 H
    refine T_skip ?_
    refine T_region ?_
    refine Tp rfl rfl (pur_add rfl rfl rfl (fits64 (by omega) (by omega))) rfl ?_
    refine pv tb 1 rfl ?_
    refine TO_nil ?_
    obtain rfl:=some_inj H
    exact again (s0.length - (t_1+1)) (t_1+1) (by omega) (wp 0 (lb rfl) rfl rfl (by simp only [namesE,A.names,namesL_enc,Bool.false_or,Bool.or_false,looseL_names f1_l]) rfl rfl) ⟨rfl,K2_⟩
  ·replace d2:=of_decide_eq_false d2
   obtain rfl:=forL_end L2_ (by omega)
   refine T_exit ?_
   refine then_exit ?_
   refine then_exit ?_
   refine block_exit ?_
   replace H:=onS_l N2_
   refine sr ?_
   refine pv tb 1 rfl ?_
   refine TO_nil ?_
   refine T_ret ?_
   obtain rfl:=some_inj H
   refine end_ret (.tmp .nil) rfl rfl ⟨?_,rfl⟩
   rfl

theorem miRelationIndex_1_ok (r0:Relation) (fv1:ByteArray) (r:Bool) (H:miRelationIndex_1 r0 fv1=some r):FnV prg 89 [.g (tR.enc r0),.q [strA fv1] 0] (boolA r):=by
  unfold miRelationIndex_1 at H
  refine fnV_of_T Tryz.func89 rfl rfl (Nat.le_of_ble_eq_true rfl) ?_
  refine te [(0,.g (tR.enc r0)),(1,.q [strA fv1] 0)] rfl ?_
  refine sr ?_
  refine TO_cons rfl (TOp_box rfl (boxAll rfl) rfl rfl ?_)
  refine pv tb 1 rfl ?_
  refine TO_nil (sr ?_)
  refine pv tb 3 rfl ?_
  refine Tp rfl rfl (pur_eqlS rfl rfl rfl) rfl ?_
  refine pv tb 1 rfl ?_
  refine TO_nil ?_
  refine T_ret ?_
  obtain rfl:=some_inj H
  refine end_ret (.tmp .nil) rfl rfl ⟨?_,rfl⟩
  rfl

theorem miRelationIndex_ok (relations0:(List Relation)) (name1:ByteArray) (r:Int) (H:miRelationIndex relations0 name1=some r):FnV prg 62 [sl tR relations0,strA name1] (intA r):=by
  unfold miRelationIndex at H
  refine fnV_of_T Tryz.func62 rfl rfl (Nat.le_of_ble_eq_true rfl) ?_
  refine te [(0,sl tR relations0),(1,strA name1)] rfl ?_
  refine sr ?_
  refine TO_cons rfl (TOp_box rfl (boxAll rfl) rfl rfl ?_)
  refine pv tb 1 rfl ?_
  refine TO_nil (sr ?_)
  obtain ⟨r_1,h_2,H⟩:=bind_inv H
  refine pv tb 2 rfl ?_
  refine TO_cons rfl (TOp_callB (call_static ent88 rfl) (frz_cons (frz_loose rfl) (frz_cons (frzOK_f (frz_cons (frzOK_b (xs:=[strA name1]) (ys:=[strA name1]) rfl rfl rfl) frz_nil).1 (frz_cons (frzOK_b (xs:=[strA name1]) (ys:=[strA name1]) rfl rfl rfl) frz_nil).2) frz_nil)).1 (frz_cons (frz_loose rfl) (frz_cons (frzOK_f (frz_cons (frzOK_b (xs:=[strA name1]) (ys:=[strA name1]) rfl rfl rfl) frz_nil).1 (frz_cons (frzOK_b (xs:=[strA name1]) (ys:=[strA name1]) rfl rfl rfl) frz_nil).2) frz_nil)).2 (m_slices_IndexFunc_Simpl_Relation_impl_Relation_ok _ (fun x0=>miRelationIndex_1 x0 name1) 89 [.q [strA name1] 0] ent89 rfl ⟨rfl,rfl⟩ (fun x0 r h=>miRelationIndex_1_ok x0 name1 r h) _ h_2) rfl ?_)
  refine pv tb 1 rfl ?_
  refine TO_nil ?_
  refine T_ret ?_
  obtain rfl:=some_inj H
  refine end_ret (.tmp .nil) rfl rfl ⟨?_,rfl⟩
  rfl

theorem miParseFact_own (relations0:(List Relation)) (s1:ByteArray) (r:(Fact × Bool)) (H:miParseFact relations0 s1=some r):FnO prg 30 [sl tR relations0,strA s1] (.t [.g [intA r.1.relation,.m [0] 0 r.1.values.length tInt.k],boolA r.2]) [.row (flat tInt.own r.1.values)]:=by
  unfold miParseFact at H
  refine fnO_of_T Tryz.func30 rfl rfl (Nat.le_of_ble_eq_true rfl) ?_
  refine te [(0,sl tR relations0),(1,strA s1)] rfl ?_
  refine sr ?_
  refine TO_cons rfl (TOp_alloc zero30 rfl rfl ?_)
  refine pv tb 1 rfl ?_
  refine TO_nil (T_seq (sr ?_))
  refine pv tb 1 rfl ?_
  refine Tp rfl rfl (pur_eqlS rfl rfl rfl) rfl ?_
  refine TO_nil ?_
  refine T_cond (t:=decide (s1=(⟨#[]⟩:ByteArray))) rfl (fun c_1=>?_) (fun c_1=>?_)
  ·replace H:=cond_t c_1 H
   refine sr ?_
   refine Tp rfl rfl (pur_build bld30 rfl rfl) rfl ?_
   refine TO_cons rfl (TOp_storeB sz30 rfl rfl rfl rfl rfl rfl rfl (by decide) (lb rfl) rfl ?_)
   refine TO_st (σ':=[.box [intA 0,.n]]) rfl ?_
   refine pv tb 1 rfl ?_
   refine TO_nil ?_
   refine T_row0 ?_
   refine T_boxle (xs:=[intA 0,.n]) (ys:=[intA 0,.m [1] 0 ([]:(List Int)).length tInt.k]) 0 rfl (leCons (leR rfl) (leCons leM leNil)) ?_
   refine T_st (σ':=[.box [intA 0,.m [1] 0 ([]:(List Int)).length tInt.k],.row (flat tInt.own ([]:(List Int)))]) rfl ?_
   refine T_ret ?_
   refine then_ret ?_
   obtain rfl:=some_inj H
   exact end_pick (.cellK rfl agg30 rfl (lb rfl) (.tmp .nil)) rfl [1] (by decide) rfl rfl rfl rfl rfl rfl
  ·replace H:=cond_f c_1 H
   refine T_skip ?_
   refine sr ?_
   obtain ⟨ss_2,h_3,H⟩:=bind_inv H
   refine pv tb 2 rfl ?_
   refine Tp rfl rfl (pur_cutB (lo:=none) (hi:=(some (.const (.int .i64 1)))) (by kernel_rfl) rfl rfl ⟨_,rfl⟩ h_3 rfl) rfl ?_
   obtain ⟨r_4,h_5,H⟩:=bind_inv H
   refine TO_cons rfl (TOp_callV (call_static ent62 rfl) (miRelationIndex_ok _ _ _ h_5) rfl rfl rfl ?_)
   refine Tp rfl rfl (pur_build bld30 rfl rfl) rfl ?_
   refine TO_cons rfl (TOp_alloc zero30 rfl rfl ?_)
   refine TO_cons rfl (TOp_storeB sz30 rfl rfl rfl rfl rfl rfl rfl (by decide) (lb rfl) rfl ?_)
   refine TO_st (σ':=[.box [intA 0,.n],.box [intA r_4,.n]]) rfl ?_
   refine TO_nil (T_seq (sr ?_))
   refine pv tb 1 rfl ?_
   refine TO_nil ?_
   refine T_row0 ?_
   refine T_boxle (xs:=[intA r_4,.n]) (ys:=[intA r_4,.m [2] 0 ([]:(List Int)).length tInt.k]) 1 rfl (leCons (leR rfl) (leCons leM leNil)) ?_
   refine T_st (σ':=[.box [intA 0,.n],.box [intA r_4,.m [2] 0 ([]:(List Int)).length tInt.k],.row (flat tInt.enc ([]:(List Int)))]) rfl ?_
   obtain ⟨_,h_8,H⟩:=bind_inv H
   replace h_8:=gN_inv h_8
   obtain ⟨O7_,L7_,N7_⟩:=bind_inv H
   clear H
   obtain ⟨B7_,hb7,L7_⟩:=gen_forM L7_
   refine T_block ?_
   refine T_loopX (fun k=>fun (⟨i_6,box1_values⟩:Int × (List Int))=>k=((s1.size:Int) - i_6).toNat∧1≤i_6∧forM B7_ ((s1.size:Int) - i_6).toNat i_6 box1_values=some O7_) (fun (⟨i_6,box1_values⟩:Int × (List Int))=>[(0,sl tR relations0),(1,strA s1),(4,.b 0 0),(6,.b 1 0),(7,intA (i_6:Int))]) (fun (⟨i_6,box1_values⟩:Int × (List Int))=>[.box [intA 0,.n],.box [intA r_4,.m [2] 0 box1_values.length tInt.k],.row (flat tInt.enc box1_values)]) _ (1,([]:(List Int))) (w0 3) ⟨rfl,Int.le_refl _,L7_⟩ ?_
   rintro _ ⟨i_6,box1_values⟩ ⟨rfl,hi7,L7_⟩
   refine T_seq (sr ?_)
   refine pv tb 2 rfl ?_
   refine Tp rfl rfl (pur_len_s (by kernel_rfl) rfl rfl) rfl ?_
   refine pv tb 1 rfl ?_
   refine TO_nil ?_
   refine T_cond (t:=decide ((i_6:Int)<(s1.size:Int))) rfl (fun d7=>?_) (fun d7=>?_)
   ·replace d7:=of_decide_eq_true d7
    obtain ⟨C7_,H,K7_⟩:=forM_step L7_ d7
    rw [hb7] at H
    refine T_skip ?_
    refine T_seq ?_
    refine T_block ?_
    refine sr ?_
    obtain ⟨b_9,h_10,H⟩:=bind_inv H
    refine pv tb 2 rfl ?_
    refine Tp rfl rfl (pur_ixS (by kernel_rfl) rfl rfl h_10 rfl) rfl ?_
    refine pv tb 1 rfl ?_
    refine TO_nil ?_
    refine T_cond (t:=decide (b_9≠124)) rfl (fun c_11=>?_) (fun c_11=>?_)
    ·replace H:=cond_t c_11 H
     obtain ⟨b_12,h_13,H⟩:=bind_inv H
     obtain ⟨us_14,h_15,H⟩:=bind_inv H
     refine T_pad ?_
     refine T_pad ?_
     refine T_regionPh 3 10 mixed rfl (by kernel_rfl) ?_
     refine pa tb [0,1,2,3] 6 rfl (by kernel_rfl) rfl ?_
     refine tf 4 rfl (pur_ixS (by kernel_rfl) rfl rfl h_13 rfl) rfl rfl (by kernel_rfl) ?_
     refine tf 5 rfl (pur_convI (k:=.i64) (k':=.u8) ⟨_,Tryz.underlying5⟩ Tryz.underlying3 rfl rfl) rfl rfl (by kernel_rfl) ?_
     refine pa tb [6] 3 rfl (by kernel_rfl) rfl ?_
     refine t1 7 (by kernel_rfl) rfl rfl (TOp_lit (nn:=1) (k:=1) sl28 zero3 rfl rfl rfl rfl (by decide) ?_)
     refine tmw 3 5 (by decide) (lb rfl) rfl rfl (lb rfl) rfl ?_
     refine t1 8 (by kernel_rfl) rfl rfl (TOp_appY (T:=tInt) (f:=tInt.enc) (xs:=box1_values) (ys:=([w64 ((w64 b_12) - 48)]:(List Int))) tInt.len sl28 zero3 rfl bytes3 (by decide) rfl rfl rfl rfl (src_mT (f:=tInt.enc) tInt.len rfl rfl (flat_cell tInt _)) (flat_cell tInt _) h_15 ?_)
     refine tmw 4 6 (by decide) (lb rfl) rfl rfl (lb rfl) rfl ?_
     refine tae [(0,sl tR relations0),(1,strA s1),(4,.b 0 0),(6,.b 1 0),(7,intA (i_6:Int)),(34,.m [4] 0 us_14.length tInt.k)] rfl ?_
     refine TA_st (σ':=[.dead,.dead,.dead,.row (flat tInt.enc ([w64 ((w64 b_12) - 48)]:(List Int))),.row (flat tInt.enc us_14),.dead,.dead]) rfl ?_
     refine pa tb [9] 0 rfl (by kernel_rfl) rfl ?_
     refine TA_nil (by kernel_rfl) ?_
     refine TA_st (σ':=[.box [intA 0,.n],.box [intA r_4,.m [2] 0 box1_values.length tInt.k],.dead,.row (flat tInt.enc ([w64 ((w64 b_12) - 48)]:(List Int))),.row (flat tInt.enc us_14),.dead,.dead]) rfl ?_
     refine tmv 2 4 (by decide) (lb rfl) rfl rfl (lb rfl) ?_
     refine TA_st (σ':=[.box [intA 0,.n],.box [intA r_4,.j],.row (flat tInt.enc us_14),.row (flat tInt.enc ([w64 ((w64 b_12) - 48)]:(List Int))),.dead,.dead,.dead]) rfl ?_
     refine t1 10 (by kernel_rfl) rfl rfl (TOp_storeB sz28 rfl rfl rfl rfl rfl rfl rfl (by decide) (lb rfl) rfl ?_)
     refine TA_st (σ':=[.box [intA 0,.n],.box [intA r_4,.m [2] 0 us_14.length tInt.k],.row (flat tInt.enc us_14),.row (flat tInt.enc ([w64 ((w64 b_12) - 48)]:(List Int))),.dead,.dead,.dead]) rfl ?_
     refine TA_nil (by kernel_rfl) ?_
     refine T_region ?_
     refine pv tb 1 rfl ?_
     refine Tp rfl rfl (pur_add rfl rfl rfl (fits64 (by omega) (by omega))) rfl ?_
     refine pv tb 1 rfl ?_
     refine TO_nil ?_
     obtain rfl:=some_inj H
     exact again ((s1.size:Int) - (i_6+1)).toNat (i_6+1,us_14) (by omega) (w0 3) ⟨rfl,by omega,K7_⟩
    ·replace H:=cond_f c_11 H
     refine T_skip ?_
     refine T_region ?_
     refine pv tb 1 rfl ?_
     refine Tp rfl rfl (pur_add rfl rfl rfl (fits64 (by omega) (by omega))) rfl ?_
     refine pv tb 1 rfl ?_
     refine TO_nil ?_
     obtain rfl:=some_inj H
     exact again ((s1.size:Int) - (i_6+1)).toNat (i_6+1,box1_values) (by omega) (w0 3) ⟨rfl,by omega,K7_⟩
   ·replace d7:=of_decide_eq_false d7
    obtain rfl:=forM_end L7_ (by omega)
    refine T_exit ?_
    refine then_exit ?_
    refine then_exit ?_
    refine block_exit ?_
    replace H:=N7_
    refine T_seq (sr ?_)
    obtain ⟨r_16,h_17,H⟩:=bind_inv H
    refine pv tb 2 rfl ?_
    refine TO_cons rfl (TOp_callB (call_static ent28 rfl) (frz_cons (frz_loose rfl) (frz_cons (frzOK_g (frz_cons (frz_loose rfl) (frz_cons (frzTE (T:=tInt) rfl) frz_nil)).1 (frz_cons (frz_loose rfl) (frz_cons (frzTE (T:=tInt) rfl) frz_nil)).2) frz_nil)).1 (frz_cons (frz_loose rfl) (frz_cons (frzOK_g (frz_cons (frz_loose rfl) (frz_cons (frzTE (T:=tInt) rfl) frz_nil)).1 (frz_cons (frz_loose rfl) (frz_cons (frzTE (T:=tInt) rfl) frz_nil)).2) frz_nil)).2 (miFormatFact_ok _ _ _ h_17) rfl ?_)
    refine pv tb 1 rfl ?_
    refine Tp rfl rfl (pur_neqS rfl rfl rfl) rfl ?_
    refine TO_nil ?_
    refine T_cond (t:=decide (r_16≠s1)) rfl (fun c_18=>?_) (fun c_18=>?_)
    ·replace H:=cond_t c_18 H
     refine sr ?_
     refine Tp rfl rfl (pur_build bld30 rfl rfl) rfl ?_
     refine TO_cons rfl (TOp_storeB sz30 rfl rfl rfl rfl rfl rfl rfl (by decide) (lb rfl) rfl ?_)
     refine TO_st (σ':=[.box [intA 0,.n],.box [intA r_4,.m [2] 0 box1_values.length tInt.k],.row (flat tInt.enc box1_values)]) rfl ?_
     refine pv tb 1 rfl ?_
     refine TO_nil ?_
     refine T_row0 ?_
     refine T_boxle (xs:=[intA 0,.n]) (ys:=[intA 0,.m [3] 0 ([]:(List Int)).length tInt.k]) 0 rfl (leCons (leR rfl) (leCons leM leNil)) ?_
     refine T_st (σ':=[.box [intA 0,.m [3] 0 ([]:(List Int)).length tInt.k],.box [intA r_4,.m [2] 0 box1_values.length tInt.k],.row (flat tInt.enc box1_values),.row (flat tInt.own ([]:(List Int)))]) rfl ?_
     refine T_ret ?_
     refine then_ret ?_
     obtain rfl:=some_inj H
     exact end_pick (.cellK rfl agg30 rfl (lb rfl) (.tmp .nil)) rfl [3] (by decide) rfl rfl rfl rfl rfl rfl
    ·replace H:=cond_f c_18 H
     refine T_skip ?_
     refine sr ?_
     refine pv tb 1 rfl ?_
     refine TO_cons rfl (TOp_storeB sz30 rfl rfl rfl rfl rfl rfl rfl (by decide) (lb rfl) rfl ?_)
     refine TO_st (σ':=[.box [intA r_4,.m [2] 0 box1_values.length tInt.k],.box [intA r_4,.m [2] 0 box1_values.length tInt.k],.row (flat tInt.enc box1_values)]) rfl ?_
     refine pv tb 1 rfl ?_
     refine TO_nil ?_
     refine T_ret ?_
     obtain rfl:=some_inj H
     exact end_pick (.cellK rfl agg30 rfl (lb rfl) (.tmp .nil)) rfl [2] (by decide) rfl rfl rfl rfl rfl rfl
theorem miParseFact_ok (relations0:(List Relation)) (s1:ByteArray) (r:(Fact × Bool)) (H:miParseFact relations0 s1=some r):FnV prg 30 [sl tR relations0,strA s1] (.t [.g (tF.enc r.1),boolA r.2]):=(miParseFact_own relations0 s1 r H).frz (frzOK_t (frz_cons (frzOK_g (frz_cons (frz_loose rfl) (frz_cons (frzT (T:=tInt) rfl) frz_nil)).1 (frz_cons (frz_loose rfl) (frz_cons (frzT (T:=tInt) rfl) frz_nil)).2) (frz_cons (frz_loose rfl) frz_nil)).1 (frz_cons (frzOK_g (frz_cons (frz_loose rfl) (frz_cons (frzT (T:=tInt) rfl) frz_nil)).1 (frz_cons (frz_loose rfl) (frz_cons (frzT (T:=tInt) rfl) frz_nil)).2) (frz_cons (frz_loose rfl) frz_nil)).2)

theorem miParseEdit_own (u:Nat) (db0:Database) (s1:ByteArray) (r:(Edit × Bool)) (H:miParseEdit u db0 s1=some r):FnO prg 11 [.g (tD.enc db0),strA s1] (.t [.g [intA r.1.kind,intA r.1.fact.relation,.m [0] 0 r.1.fact.values.length tInt.k],boolA r.2]) [.row (flat tInt.own r.1.fact.values)]:=by
  unfold miParseEdit at H
  refine fnO_of_T Tryz.func11 rfl rfl (Nat.le_of_ble_eq_true rfl) ?_
  refine te [(0,.g (tD.enc db0)),(1,strA s1)] rfl ?_
  refine sr ?_
  refine TO_cons rfl (TOp_box rfl (boxAll rfl) rfl rfl ?_)
  refine TO_cons rfl (TOp_alloc zero32 rfl rfl ?_)
  refine pv tb 1 rfl ?_
  refine TO_nil (T_seq (sr ?_))
  refine pv tb 1 rfl ?_
  refine TO_nil ?_
  obtain ⟨O1_,L1_,N1_⟩:=bind_inv H
  clear H
  obtain ⟨B1_,hb1,L1_⟩:=gen_whileF L1_
  refine T_block ?_
  refine T_loopX (fun k=>fun (kind6:Int)=>whileF B1_ k kind6=some O1_) (fun (kind6:Int)=>[(1,strA s1),(2,.b 0 0),(4,.b 1 0),(6,intA kind6)]) (fun (kind6:Int)=>[.box [sl tR db0.relations,sl tF db0.facts],.box [intA 0,intA 0,.n]]) u 1 (w0 2) L1_ ?_
  rintro _ kind6 L1_
  obtain ⟨k1,rfl,C1_,H,K1_⟩:=while_step L1_
  rw [hb1] at H
  refine T_seq ?_
  refine T_cutX (fun x=>((decide (kind6≤3)) && (decide (s1≠(⟨#[]⟩:ByteArray))))=x) (fun (t14_2:Bool)=>[(1,strA s1),(2,.b 0 0),(4,.b 1 0),(6,intA kind6),(14,boolA t14_2)]) (fun (t14_2:Bool)=>[.box [sl tR db0.relations,sl tF db0.facts],.box [intA 0,intA 0,.n]]) ?_ ?_
  ·skip
   refine T_region ?_
   refine pv tb 3 rfl ?_
   refine TO_split (t:=decide (kind6≤3)) 11 rfl (fun g_4=>?_) (fun g_4=>?_)
   ·skip
    refine pv tb 1 rfl ?_
    refine TO_on rfl rfl (by decide) rfl rfl (TOp_pure (pur_neqS rfl rfl rfl) rfl ?_)
    refine pv tb 1 rfl ?_
    refine TO_nil ?_
    exact joined (decide (s1≠(⟨#[]⟩:ByteArray))) (w0 2) (by first | exact Eq.symm ((and_T g_4 rfl)))
   ·skip
    refine pv tb 3 rfl ?_
    refine TO_nil ?_
    exact joined false (w0 2) (by first | exact Eq.symm ((and_F g_4 rfl)))
  ·rintro _ rfl
   refine T_cond (t:=((decide (kind6≤3)) && (decide (s1≠(⟨#[]⟩:ByteArray))))) rfl (fun c_5=>?_) (fun c_5=>?_)
   ·replace H:=cond_t c_5 H
    refine T_skip ?_
    refine T_seq ?_
    refine T_block ?_
    refine T_seq (T_seq ?_)
    refine T_regionD mixed (by kernel_rfl) ?_
    obtain ⟨b_6,h_7,H⟩:=bind_inv H
    refine pq tb 1 rfl ?_
    refine TQ_pure rfl (pur_ixS (by kernel_rfl) rfl rfl h_7 rfl) rfl ?_
    obtain ⟨b_8,h_9,H⟩:=bind_inv H
    refine pq tb 1 rfl ?_
    refine TQ_pure rfl (pur_ixS (by kernel_rfl) rfl rfl h_9 rfl) rfl ?_
    refine pq tb 1 rfl ?_
    refine TQ_nil ?_
    refine T_cond (t:=decide (b_6≠b_8)) rfl (fun c_10=>?_) (fun c_10=>?_)
    ·replace H:=cond_t c_10 H
     refine T_exit ?_
     refine then_exit ?_
     refine block_exit ?_
     refine T_region ?_
     refine pv tb 3 rfl ?_
     refine TO_nil ?_
     obtain rfl:=some_inj H
     exact again k1 (w64 (kind6+1)) (Nat.lt_succ_self _) (w0 2) K1_
    ·replace H:=cond_f c_10 H
     refine T_skip ?_
     obtain ⟨ss_11,h_12,H⟩:=bind_inv H
     obtain ⟨r_13,h_14,H⟩:=bind_inv H
     refine T_pad ?_
     refine T_pad ?_
     refine T_pad ?_
     refine T_cutX (fun (_:Unit)=>True) (fun _=>[(4,.b 1 0),(6,intA kind6),(7,.b 5 0),(8,boolA r_13.2)]) (fun _=>[.box [sl tR db0.relations,sl tF db0.facts],.box [intA 0,intA 0,.n],.row (flat tInt.own r_13.1.values),.dead,.dead,.box [intA r_13.1.relation,.m [2] 0 r_13.1.values.length tInt.k]]) ?_ ?_
     ·skip
      refine T_regionP 2 mixed rfl ?_
      refine TA_have 2 #[true,true,true,true,true,true,true,true,true,false,false] [(4,.b 1 0),(6,intA kind6),(7,.b 5 0),(28,.g [intA r_13.1.relation,.m [3] 0 r_13.1.values.length tInt.k]),(29,boolA r_13.2)] [.dead,.dead,.dead,.row (flat tInt.own r_13.1.values),.dead,.box [intA 0,.n]] ?_ (fun hj0_5=>?_)
      ·skip
       refine t1 9 (by kernel_rfl) rfl rfl (TOp_storeB sz30 rfl rfl rfl rfl rfl rfl rfl (by decide) (lb rfl) rfl ?_)
       refine TA_st (σ':=[.dead,.dead,.dead,.row (flat tInt.own r_13.1.values),.dead,.box [intA r_13.1.relation,.m [3] 0 r_13.1.values.length tInt.k]]) rfl ?_
       refine pa tb [10] 0 rfl (by kernel_rfl) rfl ?_
       refine TA_ghost (E':=[(4,.b 1 0),(6,intA kind6),(7,.b 5 0),(8,boolA r_13.2)]) (σ':=[.dead,.dead,.row (flat tInt.own r_13.1.values),.dead,.dead,.box [intA r_13.1.relation,.m [2] 0 r_13.1.values.length tInt.k]]) (Ghost.move 2 3 (by decide) (lb rfl) rfl rfl (lb rfl) (Ghost.weak (WeakL.to 6 (lb rfl) rfl rfl rfl rfl ⟨leR rfl,leR rfl,leR rfl,leR rfl,trivial⟩))) ?_
       exact TA_nil (by kernel_rfl) (joined () (w0 6) trivial)
      refine pa tb [0,1,2] 8 rfl (by kernel_rfl) rfl ?_
      refine tf 3 rfl (pur_cutB (lo:=(some (.const (.int .i64 1)))) (hi:=none) (by kernel_rfl) rfl ⟨_,rfl⟩ rfl h_12 rfl) rfl rfl (by kernel_rfl) ?_
      refine TA_all [4,8] (by kernel_rfl) (by decide) ⟨?_,?_,trivial⟩
      ·skip
       refine ⟨_,rfl,rfl,TOp_callO (call_static ent30 rfl) rfl (miParseFact_own _ _ _ h_14) rfl rfl rfl ?_⟩
       refine tae [(1,strA s1),(2,.b 0 0),(4,.b 1 0),(6,intA kind6),(23,.b 0 0),(24,sl tR db0.relations),(25,strA s1),(26,strA ss_11),(27,.t [.g [intA r_13.1.relation,.m [5] 0 r_13.1.values.length tInt.k],boolA r_13.2])] rfl ?_
       refine TA_st (σ':=[.dead,.dead,.dead,.dead,.dead,.row (flat tInt.own r_13.1.values)]) rfl ?_
       refine TA_ghost (E':=[(1,strA s1),(2,.b 0 0),(4,.b 1 0),(6,intA kind6),(23,.b 0 0),(24,sl tR db0.relations),(25,strA s1),(26,strA ss_11),(27,.t [.g [intA r_13.1.relation,.m [3] 0 r_13.1.values.length tInt.k],boolA r_13.2])]) (σ':=[.dead,.dead,.dead,.row (flat tInt.own r_13.1.values),.dead]) (Ghost.move 3 5 (by decide) (lb rfl) rfl rfl (lb rfl) (Ghost.weak (WeakL.to 5 (lb rfl) rfl rfl rfl rfl ⟨leR rfl,leR rfl,leR rfl,leR rfl,leR rfl,leR rfl,leR rfl,leR rfl,leR rfl,trivial⟩))) ?_
       refine pa tb [5,6,7] 3 rfl (by kernel_rfl) rfl ?_
       refine t1 8 (by kernel_rfl) rfl rfl (TOp_alloc zero30 rfl rfl ?_)
       refine tae [(4,.b 1 0),(6,intA kind6),(7,.b 5 0),(28,.g [intA r_13.1.relation,.m [3] 0 r_13.1.values.length tInt.k]),(29,boolA r_13.2)] rfl ?_
       refine TA_st (σ':=[.dead,.dead,.dead,.row (flat tInt.own r_13.1.values),.dead,.box [intA 0,.n]]) rfl ?_
       exact tj hj0_5 rfl (w0 6)
      ·skip
       refine ⟨_,rfl,rfl,TOp_alloc zero30 rfl rfl ?_⟩
       refine t1 4 (by kernel_rfl) rfl rfl (TOp_callO (call_static ent30 rfl) rfl (miParseFact_own _ _ _ h_14) rfl rfl rfl ?_)
       refine tae [(1,strA s1),(2,.b 0 0),(4,.b 1 0),(6,intA kind6),(7,.b 5 0),(23,.b 0 0),(24,sl tR db0.relations),(25,strA s1),(26,strA ss_11),(27,.t [.g [intA r_13.1.relation,.m [6] 0 r_13.1.values.length tInt.k],boolA r_13.2])] rfl ?_
       refine TA_st (σ':=[.dead,.dead,.dead,.dead,.dead,.box [intA 0,.n],.row (flat tInt.own r_13.1.values)]) rfl ?_
       refine TA_ghost (E':=[(1,strA s1),(2,.b 0 0),(4,.b 1 0),(6,intA kind6),(7,.b 5 0),(23,.b 0 0),(24,sl tR db0.relations),(25,strA s1),(26,strA ss_11),(27,.t [.g [intA r_13.1.relation,.m [3] 0 r_13.1.values.length tInt.k],boolA r_13.2])]) (σ':=[.dead,.dead,.dead,.row (flat tInt.own r_13.1.values),.dead,.box [intA 0,.n]]) (Ghost.move 3 6 (by decide) (lb rfl) rfl rfl (lb rfl) (Ghost.weak (WeakL.to 6 (lb rfl) rfl rfl rfl rfl ⟨leR rfl,leR rfl,leR rfl,leR rfl,leR rfl,leR rfl,leR rfl,leR rfl,leR rfl,leR rfl,trivial⟩))) ?_
       refine pa tb [5,6,7] 2 rfl (by kernel_rfl) rfl ?_
       exact tj hj0_5 rfl (w0 6)
     ·rintro _ _
      refine T_seq (sr ?_)
      refine pv tb 2 rfl ?_
      refine TO_nil ?_
      refine T_cond (t:=(!r_13.2)) rfl (fun c_15=>?_) (fun c_15=>?_)
      ·replace H:=cond_t c_15 H
       refine sr ?_
       refine Tp rfl rfl (pur_build bld32 rfl rfl) rfl ?_
       refine TO_cons rfl (TOp_storeB sz32 rfl rfl rfl rfl rfl rfl rfl (by decide) (lb rfl) rfl ?_)
       refine TO_st (σ':=[.box [sl tR db0.relations,sl tF db0.facts],.box [intA 0,intA 0,.n],.row (flat tInt.own r_13.1.values),.dead,.dead,.box [intA r_13.1.relation,.m [2] 0 r_13.1.values.length tInt.k]]) rfl ?_
       refine pv tb 1 rfl ?_
       refine TO_nil ?_
       refine T_row0 ?_
       refine T_boxle (xs:=[intA 0,intA 0,.n]) (ys:=[intA 0,intA 0,.m [6] 0 ([]:(List Int)).length tInt.k]) 1 rfl (leCons (leR rfl) (leCons (leR rfl) (leCons leM leNil))) ?_
       refine T_st (σ':=[.box [sl tR db0.relations,sl tF db0.facts],.box [intA 0,intA 0,.m [6] 0 ([]:(List Int)).length tInt.k],.row (flat tInt.own r_13.1.values),.dead,.dead,.box [intA r_13.1.relation,.m [2] 0 r_13.1.values.length tInt.k],.row (flat tInt.own ([]:(List Int)))]) rfl ?_
       refine T_ret ?_
       refine then_ret ?_
       refine block_ret ?_
       refine then_ret ?_
       refine then_ret ?_
       refine block_ret ?_
       refine then_ret ?_
       obtain rfl:=some_inj H
       obtain rfl:=some_inj K1_
       replace H:=onS_r N1_
       obtain rfl:=some_inj H
       exact end_pick (.cellK rfl agg32 rfl (lb rfl) (.tmp .nil)) rfl [6] (by decide) rfl rfl rfl rfl rfl rfl
      ·replace H:=cond_f c_15 H
       refine T_skip ?_
       refine sr ?_
       refine pv tb 2 rfl ?_
       refine Tp rfl rfl (pur_build bld32 rfl rfl) rfl ?_
       refine TO_cons rfl (TOp_storeB sz32 rfl rfl rfl rfl rfl rfl rfl (by decide) (lb rfl) rfl ?_)
       refine TO_st (σ':=[.box [sl tR db0.relations,sl tF db0.facts],.box [intA kind6,intA r_13.1.relation,.m [2] 0 r_13.1.values.length tInt.k],.row (flat tInt.own r_13.1.values),.dead,.dead,.box [intA r_13.1.relation,.m [2] 0 r_13.1.values.length tInt.k]]) rfl ?_
       refine pv tb 1 rfl ?_
       refine TO_nil ?_
       refine T_ret ?_
       refine block_ret ?_
       refine then_ret ?_
       refine then_ret ?_
       refine block_ret ?_
       refine then_ret ?_
       obtain rfl:=some_inj H
       obtain rfl:=some_inj K1_
       replace H:=onS_r N1_
       obtain rfl:=some_inj H
       exact end_pick (.cellK rfl agg32 rfl (lb rfl) (.tmp .nil)) rfl [2] (by decide) rfl rfl rfl rfl rfl rfl
   ·replace H:=cond_f c_5 H
    refine T_exit ?_
    refine then_exit ?_
    refine then_exit ?_
    refine block_exit ?_
    obtain rfl:=some_inj H
    obtain rfl:=some_inj K1_
    replace H:=onS_l N1_
    refine sr ?_
    refine Tp rfl rfl (pur_build bld32 rfl rfl) rfl ?_
    refine TO_cons rfl (TOp_storeB sz32 rfl rfl rfl rfl rfl rfl rfl (by decide) (lb rfl) rfl ?_)
    refine TO_st (σ':=[.box [sl tR db0.relations,sl tF db0.facts],.box [intA 0,intA 0,.n]]) rfl ?_
    refine pv tb 1 rfl ?_
    refine TO_nil ?_
    refine T_row0 ?_
    refine T_boxle (xs:=[intA 0,intA 0,.n]) (ys:=[intA 0,intA 0,.m [2] 0 ([]:(List Int)).length tInt.k]) 1 rfl (leCons (leR rfl) (leCons (leR rfl) (leCons leM leNil))) ?_
    refine T_st (σ':=[.box [sl tR db0.relations,sl tF db0.facts],.box [intA 0,intA 0,.m [2] 0 ([]:(List Int)).length tInt.k],.row (flat tInt.own ([]:(List Int)))]) rfl ?_
    refine T_ret ?_
    obtain rfl:=some_inj H
    exact end_pick (.cellK rfl agg32 rfl (lb rfl) (.tmp .nil)) rfl [2] (by decide) rfl rfl rfl rfl rfl rfl
theorem miParseEdit_ok (u:Nat) (db0:Database) (s1:ByteArray) (r:(Edit × Bool)) (H:miParseEdit u db0 s1=some r):FnV prg 11 [.g (tD.enc db0),strA s1] (.t [.g (tEdit.enc r.1),boolA r.2]):=(miParseEdit_own u db0 s1 r H).frz (frzOK_t (frz_cons (frzOK_g (frz_cons (frz_loose rfl) (frz_cons (frz_loose rfl) (frz_cons (frzT (T:=tInt) rfl) frz_nil))).1 (frz_cons (frz_loose rfl) (frz_cons (frz_loose rfl) (frz_cons (frzT (T:=tInt) rfl) frz_nil))).2) (frz_cons (frz_loose rfl) frz_nil)).1 (frz_cons (frzOK_g (frz_cons (frz_loose rfl) (frz_cons (frz_loose rfl) (frz_cons (frzT (T:=tInt) rfl) frz_nil))).1 (frz_cons (frz_loose rfl) (frz_cons (frz_loose rfl) (frz_cons (frzT (T:=tInt) rfl) frz_nil))).2) (frz_cons (frz_loose rfl) frz_nil)).2)

theorem msFormatInt_ok (u:Nat) (n0:Int) (r:ByteArray) (H:msFormatInt u n0=some r):FnV prg 72 [intA n0] (strA r):=by
  unfold msFormatInt at H
  refine fnV_of_T Tryz.func72 rfl rfl (Nat.le_of_ble_eq_true rfl) ?_
  refine te [(0,intA n0)] rfl ?_
  refine sr ?_
  refine pv tb 1 rfl ?_
  refine TO_nil (T_seq (sr ?_))
  refine pv tb 2 rfl ?_
  refine TO_nil ?_
  refine T_cond (t:=decide (n0=0)) rfl (fun c_1=>?_) (fun c_1=>?_)
  ·replace H:=cond_t c_1 H
   refine sr ?_
   refine pv tb 1 rfl ?_
   refine TO_nil ?_
   refine T_ret ?_
   refine then_ret ?_
   obtain rfl:=some_inj H
   refine end_ret (.tmp .nil) rfl rfl ⟨?_,rfl⟩
   rfl
  ·replace H:=cond_f c_1 H
   refine T_skip ?_
   refine sr ?_
   refine pv tb 1 rfl ?_
   refine TO_nil (sr ?_)
   refine pv tb 3 rfl ?_
   refine TO_nil ?_
   obtain ⟨O2_,L2_,N2_⟩:=bind_inv H
   clear H
   obtain ⟨B2_,hb2,L2_⟩:=gen_whileF L2_
   refine T_cutX (fun (x:Int × ByteArray)=>O2_=.inl x) (fun (⟨n0z,out3⟩:Int × ByteArray)=>[(3,strA out3),(4,boolA (decide (n0<0)))]) (fun (⟨n0z,out3⟩:Int × ByteArray)=>[]) ?_ ?_
   ·skip
    refine T_block ?_
    refine T_loopX (fun k=>fun (⟨n0z,out3⟩:Int × ByteArray)=>whileF B2_ k (n0z,out3)=some O2_) (fun (⟨n0z,out3⟩:Int × ByteArray)=>[(0,intA n0z),(3,strA out3),(4,boolA (decide (n0<0)))]) (fun (⟨n0z,out3⟩:Int × ByteArray)=>[]) u (n0,(⟨#[]⟩:ByteArray)) (w0 0) L2_ ?_
    rintro _ ⟨n0z,out3⟩ L2_
    obtain ⟨k2,rfl,C2_,H,K2_⟩:=while_step L2_
    rw [hb2] at H
    refine T_seq (sr ?_)
    refine pv tb 2 rfl ?_
    refine TO_nil ?_
    refine T_cond (t:=decide (n0z≠0)) rfl (fun c_3=>?_) (fun c_3=>?_)
    ·replace H:=cond_t c_3 H
     refine T_skip ?_
     refine T_block ?_
     refine sr ?_
     refine pv tb 1 rfl ?_
     refine Tp rfl rfl (pur_rem rfl rfl rfl (by decide)) rfl ?_
     refine pv tb 1 rfl ?_
     refine TO_nil (T_seq (sr ?_))
     refine pv tb 2 rfl ?_
     refine TO_nil ?_
     refine T_cond (t:=decide ((n0z.tmod 10)<0)) rfl (fun c_4=>?_) (fun c_4=>?_)
     ·replace H:=cond_t c_4 H
      refine T_region ?_
      refine pv tb 1 rfl ?_
      refine Tp rfl rfl (pur_wneg rfl rfl) rfl ?_
      refine pv tb 1 rfl ?_
      refine TO_nil (sr ?_)
      refine pv tb 2 rfl ?_
      refine Tp rfl rfl (pur_convI (k:=.u8) (k':=.i64) ⟨_,Tryz.underlying3⟩ Tryz.underlying5 rfl rfl) rfl ?_
      refine TO_cons rfl (TOp_lit (nn:=1) (k:=1) sl22 zero5 rfl rfl rfl rfl (by decide) ?_)
      refine TO_st (σ':=[.row (flat (tI .u8).enc ([IntKind.wrap .u8 (w64 (48+(w64 (-(n0z.tmod 10)))))]:(List Int)))]) rfl ?_
      refine Tp rfl rfl (pur_strM (zs:=([IntKind.wrap .u8 (w64 (48+(w64 (-(n0z.tmod 10)))))]:(List Int))) Tryz.underlying22 Tryz.underlying5 Tryz.underlying9 rfl rfl rfl) rfl ?_
      obtain ⟨cat_5,h_6,H⟩:=bind_inv H
      refine pv tb 1 rfl ?_
      refine Tp rfl rfl (pur_cat rfl rfl rfl h_6) rfl ?_
      refine pv tb 1 rfl ?_
      refine TO_nil ?_
      refine te [(0,intA n0z),(3,strA cat_5),(4,boolA (decide (n0<0)))] rfl ?_
      refine T_region ?_
      refine pv tb 1 rfl ?_
      refine Tp rfl rfl (pur_wquo rfl rfl rfl (by decide)) rfl ?_
      refine pv tb 1 rfl ?_
      refine TO_nil ?_
      obtain rfl:=some_inj H
      exact again k2 ((w64 (n0z.tdiv 10)),cat_5) (Nat.lt_succ_self _) (w0 0) K2_
     ·replace H:=cond_f c_4 H
      refine T_skip ?_
      refine sr ?_
      refine pv tb 2 rfl ?_
      refine Tp rfl rfl (pur_convI (k:=.u8) (k':=.i64) ⟨_,Tryz.underlying3⟩ Tryz.underlying5 rfl rfl) rfl ?_
      refine TO_cons rfl (TOp_lit (nn:=1) (k:=1) sl22 zero5 rfl rfl rfl rfl (by decide) ?_)
      refine TO_st (σ':=[.row (flat (tI .u8).enc ([IntKind.wrap .u8 (w64 (48+(n0z.tmod 10)))]:(List Int)))]) rfl ?_
      refine Tp rfl rfl (pur_strM (zs:=([IntKind.wrap .u8 (w64 (48+(n0z.tmod 10)))]:(List Int))) Tryz.underlying22 Tryz.underlying5 Tryz.underlying9 rfl rfl rfl) rfl ?_
      obtain ⟨cat_7,h_8,H⟩:=bind_inv H
      refine pv tb 1 rfl ?_
      refine Tp rfl rfl (pur_cat rfl rfl rfl h_8) rfl ?_
      refine pv tb 1 rfl ?_
      refine TO_nil (T_region ?_)
      refine pv tb 1 rfl ?_
      refine Tp rfl rfl (pur_wquo rfl rfl rfl (by decide)) rfl ?_
      refine pv tb 1 rfl ?_
      refine TO_nil ?_
      obtain rfl:=some_inj H
      exact again k2 ((w64 (n0z.tdiv 10)),cat_7) (Nat.lt_succ_self _) (w0 0) K2_
    ·replace H:=cond_f c_3 H
     refine T_exit ?_
     refine then_exit ?_
     refine then_exit ?_
     refine block_exit ?_
     obtain rfl:=some_inj H
     obtain rfl:=some_inj K2_
     exact joined (n0z,out3) (w0 0) rfl
   ·rintro ⟨n0z,out3⟩ rfl
    replace H:=onS_l N2_
    refine T_seq (sr ?_)
    refine pv tb 1 rfl ?_
    refine TO_nil ?_
    refine T_cond (t:=decide (n0<0)) rfl (fun c_9=>?_) (fun c_9=>?_)
    ·replace H:=cond_t c_9 H
     refine sr ?_
     obtain ⟨cat_10,h_11,H⟩:=bind_inv H
     refine pv tb 1 rfl ?_
     refine Tp rfl rfl (pur_cat rfl rfl rfl h_11) rfl ?_
     refine pv tb 1 rfl ?_
     refine TO_nil ?_
     refine T_ret ?_
     refine then_ret ?_
     obtain rfl:=some_inj H
     refine end_ret (.tmp .nil) rfl rfl ⟨?_,rfl⟩
     rfl
    ·replace H:=cond_f c_9 H
     refine T_skip ?_
     refine sr ?_
     refine pv tb 2 rfl ?_
     refine TO_nil ?_
     refine T_ret ?_
     obtain rfl:=some_inj H
     refine end_ret (.tmp .nil) rfl rfl ⟨?_,rfl⟩
     rfl

theorem msFormatFact_ok (u:Nat) (l0:(List Relation)) (f1:Fact) (r:ByteArray) (H:msFormatFact u l0 f1=some r):FnV prg 38 [sl tR l0,.g (tF.enc f1)] (strA r):=by
  unfold msFormatFact at H
  refine fnV_of_T Tryz.func38 rfl rfl (Nat.le_of_ble_eq_true rfl) ?_
  refine te [(0,sl tR l0),(1,.g (tF.enc f1))] rfl ?_
  refine sr ?_
  refine TO_cons rfl (TOp_box rfl (boxAll rfl) rfl rfl ?_)
  refine pv tb 1 rfl ?_
  refine TO_nil (T_seq (sr ?_))
  obtain ⟨r_1,h_2,H⟩:=bind_inv H
  refine pv tb 2 rfl ?_
  refine TO_cons rfl (TOp_callV (call_static ent52 rfl) (msIsValidFact_ok u _ _ _ h_2) rfl rfl rfl ?_)
  refine pv tb 1 rfl ?_
  refine TO_nil ?_
  refine T_cond (t:=(!r_1)) rfl (fun c_3=>?_) (fun c_3=>?_)
  ·replace H:=cond_t c_3 H
   refine sr ?_
   refine pv tb 1 rfl ?_
   refine TO_nil ?_
   refine T_ret ?_
   refine then_ret ?_
   obtain rfl:=some_inj H
   refine end_ret (.tmp .nil) rfl rfl ⟨?_,rfl⟩
   rfl
  ·replace H:=cond_f c_3 H
   refine T_skip ?_
   refine sr ?_
   obtain ⟨v_4,h_5,H⟩:=bind_inv H
   obtain ⟨n_6,hz_7,hv_8⟩:=getI_inv h_5
   refine pv tb 3 rfl ?_
   refine Tp rfl rfl (pur_ixT (T:=tR) sl24 rfl rfl hz_7 hv_8 rfl) rfl ?_
   refine pv tb 1 rfl ?_
   refine Tp rfl rfl (pur_ldT (T:=tR) (i:=n_6) (off:=0) rfl one9 rfl rfl hv_8 rfl) rfl ?_
   refine pv tb 1 rfl ?_
   refine TO_nil (T_seq (sr ?_))
   refine pv tb 1 rfl ?_
   refine TO_nil ?_
   obtain ⟨O9_,L9_,N9_⟩:=bind_inv H
   clear H
   obtain ⟨B9_,hb9,L9_⟩:=gen_whileF L9_
   refine T_block ?_
   refine T_loopX (fun k=>fun (⟨s5,i6⟩:ByteArray × Int)=>whileF B9_ k (s5,i6)=some O9_) (fun (⟨s5,i6⟩:ByteArray × Int)=>[(0,sl tR l0),(3,.b 0 0),(5,strA s5),(6,intA i6)]) (fun (⟨s5,i6⟩:ByteArray × Int)=>[.box [intA f1.relation,sl tInt f1.values]]) u (v_4.name,0) (w0 1) L9_ ?_
   rintro _ ⟨s5,i6⟩ L9_
   obtain ⟨k9,rfl,C9_,H,K9_⟩:=while_step L9_
   rw [hb9] at H
   refine T_seq (sr ?_)
   refine pv tb 3 rfl ?_
   refine Tp rfl rfl (pur_lenT (T:=tInt) sl28 rfl rfl) rfl ?_
   refine pv tb 1 rfl ?_
   refine TO_nil ?_
   refine T_cond (t:=decide (i6<(f1.values.length:Int))) rfl (fun c_10=>?_) (fun c_10=>?_)
   ·replace H:=cond_t c_10 H
    refine T_skip ?_
    refine T_seq ?_
    refine T_block ?_
    refine T_seq (sr ?_)
    refine pv tb 4 rfl ?_
    refine Tp rfl rfl (pur_ixT (T:=tR) sl24 rfl rfl hz_7 hv_8 rfl) rfl ?_
    refine pv tb 1 rfl ?_
    refine Tp rfl rfl (pur_ldT (T:=tR) (i:=n_6) (off:=2) rfl one3 rfl rfl hv_8 rfl) rfl ?_
    refine pv tb 1 rfl ?_
    refine TO_nil ?_
    refine T_cond (t:=decide (i6=v_4.keyLength)) rfl (fun c_11=>?_) (fun c_11=>?_)
    ·replace H:=cond_t c_11 H
     refine T_region ?_
     obtain ⟨cat_12,h_13,H⟩:=bind_inv H
     refine pv tb 1 rfl ?_
     refine Tp rfl rfl (pur_cat rfl rfl rfl h_13) rfl ?_
     refine pv tb 1 rfl ?_
     refine TO_nil ?_
     refine te [(0,sl tR l0),(3,.b 0 0),(5,strA cat_12),(6,intA i6)] rfl ?_
     refine T_region ?_
     obtain ⟨v_14,h_15,H⟩:=bind_inv H
     obtain ⟨n_16,hz_17,hv_18⟩:=getI_inv h_15
     refine pv tb 4 rfl ?_
     refine Tp rfl rfl (pur_ixT (T:=tInt) sl28 rfl rfl hz_17 hv_18 rfl) rfl ?_
     refine Tp rfl rfl (pur_ldT (T:=tInt) (i:=n_16) (off:=0) rfl one3 rfl rfl hv_18 rfl) rfl ?_
     obtain ⟨r_19,h_20,H⟩:=bind_inv H
     refine TO_cons rfl (TOp_callV (call_static ent72 rfl) (msFormatInt_ok u _ _ h_20) rfl rfl rfl ?_)
     obtain ⟨cat_21,h_22,H⟩:=bind_inv H
     refine Tp rfl rfl (pur_cat rfl rfl rfl h_22) rfl ?_
     refine pv tb 1 rfl ?_
     refine TO_nil (T_region ?_)
     refine pv tb 3 rfl ?_
     refine TO_nil ?_
     obtain rfl:=some_inj H
     exact again k9 (cat_21,w64 (i6+1)) (Nat.lt_succ_self _) (w0 1) K9_
    ·replace H:=cond_f c_11 H
     refine T_skip ?_
     refine T_region ?_
     obtain ⟨v_23,h_24,H⟩:=bind_inv H
     obtain ⟨n_25,hz_26,hv_27⟩:=getI_inv h_24
     refine pv tb 4 rfl ?_
     refine Tp rfl rfl (pur_ixT (T:=tInt) sl28 rfl rfl hz_26 hv_27 rfl) rfl ?_
     refine Tp rfl rfl (pur_ldT (T:=tInt) (i:=n_25) (off:=0) rfl one3 rfl rfl hv_27 rfl) rfl ?_
     obtain ⟨r_28,h_29,H⟩:=bind_inv H
     refine TO_cons rfl (TOp_callV (call_static ent72 rfl) (msFormatInt_ok u _ _ h_29) rfl rfl rfl ?_)
     obtain ⟨cat_30,h_31,H⟩:=bind_inv H
     refine Tp rfl rfl (pur_cat rfl rfl rfl h_31) rfl ?_
     refine pv tb 1 rfl ?_
     refine TO_nil ?_
     refine te [(0,sl tR l0),(3,.b 0 0),(5,strA cat_30),(6,intA i6)] rfl ?_
     refine T_region ?_
     refine pv tb 3 rfl ?_
     refine TO_nil ?_
     obtain rfl:=some_inj H
     exact again k9 (cat_30,w64 (i6+1)) (Nat.lt_succ_self _) (w0 1) K9_
   ·replace H:=cond_f c_10 H
    refine T_exit ?_
    refine then_exit ?_
    refine then_exit ?_
    refine block_exit ?_
    obtain rfl:=some_inj H
    obtain rfl:=some_inj K9_
    replace H:=onS_l N9_
    refine sr ?_
    refine pv tb 2 rfl ?_
    refine TO_nil ?_
    refine T_ret ?_
    obtain rfl:=some_inj H
    refine end_ret (.tmp .nil) rfl rfl ⟨?_,rfl⟩
    rfl

theorem msFormatEdit_ok (u:Nat) (d0:Database) (e1:Edit) (r:ByteArray) (H:msFormatEdit u d0 e1=some r):FnV prg 14 [.g (tD.enc d0),.g (tEdit.enc e1)] (strA r):=by
  unfold msFormatEdit at H
  refine fnV_of_T Tryz.func14 rfl rfl (Nat.le_of_ble_eq_true rfl) ?_
  refine te [(0,.g (tD.enc d0)),(1,.g (tEdit.enc e1))] rfl ?_
  refine sr ?_
  refine TO_cons rfl (TOp_box rfl (boxAll rfl) rfl rfl ?_)
  refine TO_cons rfl (TOp_box rfl (boxAll rfl) rfl rfl ?_)
  refine pv tb 1 rfl ?_
  refine TO_nil (sr ?_)
  obtain ⟨r_1,h_2,H⟩:=bind_inv H
  refine pv tb 4 rfl ?_
  refine TO_cons rfl (TOp_callV (call_static ent38 rfl) (msFormatFact_ok u _ _ _ h_2) rfl rfl rfl ?_)
  refine pv tb 1 rfl ?_
  refine TO_nil (T_seq ?_)
  obtain ⟨t18_3,J_3,H_4⟩:=bind_inv H
  refine T_cutX (fun x=>t18_3=x) (fun (t18_3:Bool)=>[(3,.b 1 0),(5,strA r_1),(18,boolA t18_3)]) (fun (t18_3:Bool)=>[.box [sl tR d0.relations,sl tF d0.facts],.box [intA e1.kind,intA e1.fact.relation,sl tInt e1.fact.values]]) ?_ ?_
  ·replace H:=J_3
   refine T_region ?_
   refine pv tb 1 rfl ?_
   refine Tp rfl rfl (pur_eqlS rfl rfl rfl) rfl ?_
   refine pv tb 1 rfl ?_
   refine TO_split (t:=decide (r_1=(⟨#[]⟩:ByteArray))) 13 rfl (fun g_5=>?_) (fun g_5=>?_)
   ·replace H:=cond_t g_5 H
    refine pv tb 5 rfl ?_
    refine TO_nil ?_
    exact joined true (w0 2) (some_inj H).symm
   ·replace H:=cond_f g_5 H
    obtain ⟨r_6,h_7,H⟩:=bind_inv H
    refine pv tb 2 rfl ?_
    refine TO_on rfl rfl (by decide) rfl rfl (TOp_callV (call_static ent39 rfl) (msl1In_ok _ _ _ _ h_7) rfl rfl rfl ?_)
    refine pv tb 2 rfl ?_
    refine TO_nil ?_
    exact joined (!r_6) (w0 2) (some_inj H).symm
  ·rintro _ rfl
   replace H:=H_4
   refine T_cond (t:=t18_3) rfl (fun c_8=>?_) (fun c_8=>?_)
   ·replace H:=cond_t c_8 H
    refine sr ?_
    refine pv tb 1 rfl ?_
    refine TO_nil ?_
    refine T_ret ?_
    refine then_ret ?_
    obtain rfl:=some_inj H
    refine end_ret (.tmp .nil) rfl rfl ⟨?_,rfl⟩
    rfl
   ·replace H:=cond_f c_8 H
    refine T_skip ?_
    refine sr ?_
    refine TO_cons rfl (TOp_lit (nn:=3) (k:=1) sl65 zero9 rfl rfl rfl rfl (by decide) ?_)
    refine TO_st (σ':=[.box [sl tR d0.relations,sl tF d0.facts],.box [intA e1.kind,intA e1.fact.relation,sl tInt e1.fact.values],.row (flat tStr.enc ([(⟨#[43]⟩:ByteArray),(⟨#[45]⟩:ByteArray),(⟨#[33]⟩:ByteArray)]:(List ByteArray)))]) rfl ?_
    obtain ⟨v_9,h_10,H⟩:=bind_inv H
    obtain ⟨n_11,hz_12,hv_13⟩:=getI_inv h_10
    refine pv tb 3 rfl ?_
    refine Tp rfl rfl (pur_ixM (T:=tStr) sl65 rfl rfl hz_12 hv_13 rfl) rfl ?_
    refine Tp rfl rfl (pur_ldE (f:=tStr.enc) (k:=tStr.k) (i:=n_11) (off:=0) tStr.len rfl one9 rfl rfl rfl hv_13 rfl rfl) rfl ?_
    obtain ⟨cat_14,h_15,H⟩:=bind_inv H
    refine pv tb 1 rfl ?_
    refine Tp rfl rfl (pur_cat rfl rfl rfl h_15) rfl ?_
    refine pv tb 1 rfl ?_
    refine TO_nil ?_
    refine T_ret ?_
    obtain rfl:=some_inj H
    refine end_ret (.tmp .nil) rfl rfl ⟨?_,rfl⟩
    rfl

theorem msl1Text_x (u:Nat) (c0:l1Cur) (most1:Int) (r:(ByteArray × l1Cur)) (H:msl1Text u c0 most1=some r):FnS prg 69 [.b 0 0,intA most1] [.box [sl (tI .u8) c0.b,intA c0.i,intA c0.h]] (strA r.1) [.box [sl (tI .u8) r.2.b,intA r.2.i,intA r.2.h]]:=by
  unfold msl1Text at H
  refine fnS_of_T Tryz.func69 rfl rfl (Nat.le_of_ble_eq_true rfl) ?_
  refine te [(0,.b 0 0),(1,intA most1)] rfl ?_
  refine T_st (σ':=[.box [sl (tI .u8) c0.b,intA c0.i,intA c0.h]]) rfl ?_
  refine sr ?_
  refine pv tb 1 rfl ?_
  refine TO_nil (sr ?_)
  refine TO_cons rfl (TOp_lit (nn:=0) (k:=1) sl22 zero5 rfl rfl rfl rfl (by decide) ?_)
  refine TO_st (σ':=[.box [sl (tI .u8) c0.b,intA c0.i,intA c0.h],.row (flat (tI .u8).enc ([]:(List Int)))]) rfl ?_
  refine pv tb 1 rfl ?_
  refine TO_nil (sr ?_)
  obtain ⟨r_1,h_2,H⟩:=bind_inv H
  refine pv tb 1 rfl ?_
  refine TO_cons rfl (TOp_callS [0] (call_static ent64 rfl) (by decide) rfl rfl rfl rfl rfl rfl (msl1Below_x _ _ _ h_2) rfl rfl ?_)
  refine toe [(0,.b 0 0),(1,intA most1),(5,.m [1] 0 ([]:(List Int)).length (tI .u8).k),(10,.b 0 0),(11,intA r_1.1)] rfl ?_
  refine TO_st (σ':=[.box [sl (tI .u8) r_1.2.b,intA r_1.2.i,intA r_1.2.h],.row (flat (tI .u8).enc ([]:(List Int)))]) rfl ?_
  refine pv tb 1 rfl ?_
  refine TO_nil (T_seq (sr ?_))
  obtain ⟨r_3,h_4,H⟩:=bind_inv H
  refine pv tb 3 rfl ?_
  refine TO_cons rfl (TOp_callS [0] (call_static ent64 rfl) (by decide) rfl rfl rfl rfl rfl rfl (msl1Below_x _ _ _ h_4) rfl rfl ?_)
  refine toe [(0,.b 0 0),(1,intA most1),(5,.m [1] 0 ([]:(List Int)).length (tI .u8).k),(6,intA r_1.1),(12,.b 0 0),(13,intA most1),(14,intA (w64 (most1+1))),(15,intA r_3.1)] rfl ?_
  refine TO_st (σ':=[.box [sl (tI .u8) r_3.2.b,intA r_3.2.i,intA r_3.2.h],.row (flat (tI .u8).enc ([]:(List Int)))]) rfl ?_
  refine pv tb 1 rfl ?_
  refine TO_nil ?_
  obtain ⟨O5_,L5_,N5_⟩:=bind_inv H
  clear H
  obtain ⟨B5_,hb5,L5_⟩:=gen_whileF L5_
  refine T_block ?_
  refine T_loopX (fun k=>fun (⟨out5,n7,box0⟩:(List Int) × Int × l1Cur)=>whileF B5_ k (out5,n7,box0)=some O5_) (fun (⟨out5,n7,box0⟩:(List Int) × Int × l1Cur)=>[(0,.b 0 0),(5,.m [1] 0 out5.length (tI .u8).k),(6,intA r_1.1),(7,intA n7)]) (fun (⟨out5,n7,box0⟩:(List Int) × Int × l1Cur)=>[.box [sl (tI .u8) box0.b,intA box0.i,intA box0.h],.row (flat (tI .u8).enc out5)]) u (([]:(List Int)),r_3.1,r_3.2) (w0 2) L5_ ?_
  rintro _ ⟨out5,n7,box0⟩ L5_
  obtain ⟨k5,rfl,C5_,H,K5_⟩:=while_step L5_
  rw [hb5] at H
  refine T_seq (sr ?_)
  refine pv tb 2 rfl ?_
  refine TO_nil ?_
  refine T_cond (t:=decide (0<n7)) rfl (fun c_6=>?_) (fun c_6=>?_)
  ·replace H:=cond_t c_6 H
   refine T_skip ?_
   refine T_seq ?_
   refine T_block ?_
   refine sr ?_
   obtain ⟨r_7,h_8,H⟩:=bind_inv H
   refine pv tb 1 rfl ?_
   refine TO_cons rfl (TOp_callS [0] (call_static ent70 rfl) (by decide) rfl rfl rfl rfl rfl rfl (msl1Byte_x _ _ h_8) rfl rfl ?_)
   refine toe [(0,.b 0 0),(5,.m [1] 0 out5.length (tI .u8).k),(6,intA r_1.1),(7,intA n7),(20,.b 0 0),(21,intA r_7.1)] rfl ?_
   refine TO_st (σ':=[.box [sl (tI .u8) r_7.2.b,intA r_7.2.i,intA r_7.2.h],.row (flat (tI .u8).enc out5)]) rfl ?_
   refine pv tb 1 rfl ?_
   refine TO_nil (T_seq (sr ?_))
   refine pv tb 2 rfl ?_
   refine TO_nil ?_
   refine T_cond (t:=decide (r_1.1=1)) rfl (fun c_9=>?_) (fun c_9=>?_)
   ·replace H:=cond_t c_9 H
    refine T_region ?_
    refine pv tb 1 rfl ?_
    refine Tp rfl rfl (pur_rem rfl rfl rfl (by decide)) rfl ?_
    refine pv tb 1 rfl ?_
    refine TO_nil (T_seq (sr ?_))
    refine pv tb 2 rfl ?_
    refine TO_nil ?_
    refine T_cond (t:=decide (r_1.1=2)) rfl (fun c_10=>?_) (fun c_10=>?_)
    ·replace H:=cond_t c_10 H
     refine T_region ?_
     refine pv tb 1 rfl ?_
     refine Tp rfl rfl (pur_rem rfl rfl rfl (by decide)) rfl ?_
     refine pv tb 2 rfl ?_
     refine TO_nil (T_region ?_)
     refine pv tb 2 rfl ?_
     refine Tp rfl rfl (pur_convI (k:=.u8) (k':=.i64) ⟨_,Tryz.underlying3⟩ Tryz.underlying5 rfl rfl) rfl ?_
     refine TO_cons rfl (TOp_lit (nn:=1) (k:=1) sl22 zero5 rfl rfl rfl rfl (by decide) ?_)
     refine TO_st (σ':=[.box [sl (tI .u8) r_7.2.b,intA r_7.2.i,intA r_7.2.h],.row (flat (tI .u8).enc out5),.row (flat (tI .u8).enc ([IntKind.wrap .u8 (w64 (97+((r_7.1.tmod 2).tmod 4)))]:(List Int)))]) rfl ?_
     obtain ⟨us_11,h_12,H⟩:=bind_inv H
     refine TO_cons rfl (TOp_appZ (T:=(tI .u8)) (f:=(tI .u8).enc) (xs:=out5) (ys:=([IntKind.wrap .u8 (w64 (97+((r_7.1.tmod 2).tmod 4)))]:(List Int))) (tI .u8).len sl22 zero5 rfl bytes5 (by decide) rfl rfl rfl rfl (src_mT (f:=(tI .u8).enc) (tI .u8).len rfl rfl (flat_cell (tI .u8) _)) (flat_cell (tI .u8) _) h_12 (lb rfl) ?_)
     refine toe [(0,.b 0 0),(6,intA r_1.1),(7,intA n7),(8,intA (w64 (97+((r_7.1.tmod 2).tmod 4)))),(32,intA (w64 (97+((r_7.1.tmod 2).tmod 4)))),(33,.v (.int .u8 (IntKind.wrap .u8 (w64 (97+((r_7.1.tmod 2).tmod 4)))))),(34,.m [2] 0 ([IntKind.wrap .u8 (w64 (97+((r_7.1.tmod 2).tmod 4)))]:(List Int)).length (tI .u8).k),(35,.m [1] 0 us_11.length (tI .u8).k)] rfl ?_
     refine TO_st (σ':=[.box [sl (tI .u8) r_7.2.b,intA r_7.2.i,intA r_7.2.h],.row (flat (tI .u8).enc us_11),.row (flat (tI .u8).enc ([IntKind.wrap .u8 (w64 (97+((r_7.1.tmod 2).tmod 4)))]:(List Int))),.dead]) rfl ?_
     refine pv tb 1 rfl ?_
     refine TO_nil (T_region ?_)
     refine pv tb 3 rfl ?_
     refine TO_nil ?_
     obtain rfl:=some_inj H
     exact again k5 (us_11,w64 (n7 - 1),r_7.2) (Nat.lt_succ_self _) (w0 2) K5_
    ·replace H:=cond_f c_10 H
     refine T_skip ?_
     refine T_region ?_
     refine pv tb 2 rfl ?_
     refine Tp rfl rfl (pur_convI (k:=.u8) (k':=.i64) ⟨_,Tryz.underlying3⟩ Tryz.underlying5 rfl rfl) rfl ?_
     refine TO_cons rfl (TOp_lit (nn:=1) (k:=1) sl22 zero5 rfl rfl rfl rfl (by decide) ?_)
     refine TO_st (σ':=[.box [sl (tI .u8) r_7.2.b,intA r_7.2.i,intA r_7.2.h],.row (flat (tI .u8).enc out5),.row (flat (tI .u8).enc ([IntKind.wrap .u8 (r_7.1.tmod 2)]:(List Int)))]) rfl ?_
     obtain ⟨us_13,h_14,H⟩:=bind_inv H
     refine TO_cons rfl (TOp_appZ (T:=(tI .u8)) (f:=(tI .u8).enc) (xs:=out5) (ys:=([IntKind.wrap .u8 (r_7.1.tmod 2)]:(List Int))) (tI .u8).len sl22 zero5 rfl bytes5 (by decide) rfl rfl rfl rfl (src_mT (f:=(tI .u8).enc) (tI .u8).len rfl rfl (flat_cell (tI .u8) _)) (flat_cell (tI .u8) _) h_14 (lb rfl) ?_)
     refine toe [(0,.b 0 0),(6,intA r_1.1),(7,intA n7),(8,intA (r_7.1.tmod 2)),(32,intA (r_7.1.tmod 2)),(33,.v (.int .u8 (IntKind.wrap .u8 (r_7.1.tmod 2)))),(34,.m [2] 0 ([IntKind.wrap .u8 (r_7.1.tmod 2)]:(List Int)).length (tI .u8).k),(35,.m [1] 0 us_13.length (tI .u8).k)] rfl ?_
     refine TO_st (σ':=[.box [sl (tI .u8) r_7.2.b,intA r_7.2.i,intA r_7.2.h],.row (flat (tI .u8).enc us_13),.row (flat (tI .u8).enc ([IntKind.wrap .u8 (r_7.1.tmod 2)]:(List Int))),.dead]) rfl ?_
     refine pv tb 1 rfl ?_
     refine TO_nil (T_region ?_)
     refine pv tb 3 rfl ?_
     refine TO_nil ?_
     obtain rfl:=some_inj H
     exact again k5 (us_13,w64 (n7 - 1),r_7.2) (Nat.lt_succ_self _) (w0 2) K5_
   ·replace H:=cond_f c_9 H
    refine T_skip ?_
    refine T_seq (sr ?_)
    refine pv tb 2 rfl ?_
    refine TO_nil ?_
    refine T_cond (t:=decide (r_1.1=2)) rfl (fun c_15=>?_) (fun c_15=>?_)
    ·replace H:=cond_t c_15 H
     refine T_region ?_
     refine pv tb 1 rfl ?_
     refine Tp rfl rfl (pur_rem rfl rfl rfl (by decide)) rfl ?_
     refine pv tb 2 rfl ?_
     refine TO_nil (T_region ?_)
     refine pv tb 2 rfl ?_
     refine Tp rfl rfl (pur_convI (k:=.u8) (k':=.i64) ⟨_,Tryz.underlying3⟩ Tryz.underlying5 rfl rfl) rfl ?_
     refine TO_cons rfl (TOp_lit (nn:=1) (k:=1) sl22 zero5 rfl rfl rfl rfl (by decide) ?_)
     refine TO_st (σ':=[.box [sl (tI .u8) r_7.2.b,intA r_7.2.i,intA r_7.2.h],.row (flat (tI .u8).enc out5),.row (flat (tI .u8).enc ([IntKind.wrap .u8 (w64 (97+(r_7.1.tmod 4)))]:(List Int)))]) rfl ?_
     obtain ⟨us_16,h_17,H⟩:=bind_inv H
     refine TO_cons rfl (TOp_appZ (T:=(tI .u8)) (f:=(tI .u8).enc) (xs:=out5) (ys:=([IntKind.wrap .u8 (w64 (97+(r_7.1.tmod 4)))]:(List Int))) (tI .u8).len sl22 zero5 rfl bytes5 (by decide) rfl rfl rfl rfl (src_mT (f:=(tI .u8).enc) (tI .u8).len rfl rfl (flat_cell (tI .u8) _)) (flat_cell (tI .u8) _) h_17 (lb rfl) ?_)
     refine toe [(0,.b 0 0),(6,intA r_1.1),(7,intA n7),(8,intA (w64 (97+(r_7.1.tmod 4)))),(32,intA (w64 (97+(r_7.1.tmod 4)))),(33,.v (.int .u8 (IntKind.wrap .u8 (w64 (97+(r_7.1.tmod 4)))))),(34,.m [2] 0 ([IntKind.wrap .u8 (w64 (97+(r_7.1.tmod 4)))]:(List Int)).length (tI .u8).k),(35,.m [1] 0 us_16.length (tI .u8).k)] rfl ?_
     refine TO_st (σ':=[.box [sl (tI .u8) r_7.2.b,intA r_7.2.i,intA r_7.2.h],.row (flat (tI .u8).enc us_16),.row (flat (tI .u8).enc ([IntKind.wrap .u8 (w64 (97+(r_7.1.tmod 4)))]:(List Int))),.dead]) rfl ?_
     refine pv tb 1 rfl ?_
     refine TO_nil (T_region ?_)
     refine pv tb 3 rfl ?_
     refine TO_nil ?_
     obtain rfl:=some_inj H
     exact again k5 (us_16,w64 (n7 - 1),r_7.2) (Nat.lt_succ_self _) (w0 2) K5_
    ·replace H:=cond_f c_15 H
     refine T_skip ?_
     refine T_region ?_
     refine pv tb 2 rfl ?_
     refine Tp rfl rfl (pur_convI (k:=.u8) (k':=.i64) ⟨_,Tryz.underlying3⟩ Tryz.underlying5 rfl rfl) rfl ?_
     refine TO_cons rfl (TOp_lit (nn:=1) (k:=1) sl22 zero5 rfl rfl rfl rfl (by decide) ?_)
     refine TO_st (σ':=[.box [sl (tI .u8) r_7.2.b,intA r_7.2.i,intA r_7.2.h],.row (flat (tI .u8).enc out5),.row (flat (tI .u8).enc ([IntKind.wrap .u8 r_7.1]:(List Int)))]) rfl ?_
     obtain ⟨us_18,h_19,H⟩:=bind_inv H
     refine TO_cons rfl (TOp_appZ (T:=(tI .u8)) (f:=(tI .u8).enc) (xs:=out5) (ys:=([IntKind.wrap .u8 r_7.1]:(List Int))) (tI .u8).len sl22 zero5 rfl bytes5 (by decide) rfl rfl rfl rfl (src_mT (f:=(tI .u8).enc) (tI .u8).len rfl rfl (flat_cell (tI .u8) _)) (flat_cell (tI .u8) _) h_19 (lb rfl) ?_)
     refine toe [(0,.b 0 0),(6,intA r_1.1),(7,intA n7),(8,intA r_7.1),(32,intA r_7.1),(33,.v (.int .u8 (IntKind.wrap .u8 r_7.1))),(34,.m [2] 0 ([IntKind.wrap .u8 r_7.1]:(List Int)).length (tI .u8).k),(35,.m [1] 0 us_18.length (tI .u8).k)] rfl ?_
     refine TO_st (σ':=[.box [sl (tI .u8) r_7.2.b,intA r_7.2.i,intA r_7.2.h],.row (flat (tI .u8).enc us_18),.row (flat (tI .u8).enc ([IntKind.wrap .u8 r_7.1]:(List Int))),.dead]) rfl ?_
     refine pv tb 1 rfl ?_
     refine TO_nil (T_region ?_)
     refine pv tb 3 rfl ?_
     refine TO_nil ?_
     obtain rfl:=some_inj H
     exact again k5 (us_18,w64 (n7 - 1),r_7.2) (Nat.lt_succ_self _) (w0 2) K5_
  ·replace H:=cond_f c_6 H
   refine T_exit ?_
   refine then_exit ?_
   refine then_exit ?_
   refine block_exit ?_
   obtain rfl:=some_inj H
   obtain rfl:=some_inj K5_
   replace H:=onS_l N5_
   refine sr ?_
   refine pv tb 1 rfl ?_
   refine Tp rfl rfl (pur_strM (zs:=out5) Tryz.underlying22 Tryz.underlying5 Tryz.underlying9 rfl rfl rfl) rfl ?_
   refine pv tb 1 rfl ?_
   refine TO_nil ?_
   refine T_ret ?_
   obtain rfl:=some_inj H
   exact end_pickX (.tmp .nil) rfl [0] (by decide) (lb rfl) rfl (lb rfl) rfl rfl rfl rfl rfl rfl

theorem msl1Spoil_x (u:Nat) (c0:l1Cur) (s1:ByteArray) (r:(ByteArray × l1Cur)) (H:msl1Spoil u c0 s1=some r):FnS prg 36 [.b 0 0,strA s1] [.box [sl (tI .u8) c0.b,intA c0.i,intA c0.h]] (strA r.1) [.box [sl (tI .u8) r.2.b,intA r.2.i,intA r.2.h]]:=by
  unfold msl1Spoil at H
  refine fnS_of_T Tryz.func36 rfl rfl (Nat.le_of_ble_eq_true rfl) ?_
  refine te [(0,.b 0 0),(1,strA s1)] rfl ?_
  refine T_st (σ':=[.box [sl (tI .u8) c0.b,intA c0.i,intA c0.h]]) rfl ?_
  refine sr ?_
  refine pv tb 1 rfl ?_
  refine TO_nil (T_seq (sr ?_))
  refine pv tb 1 rfl ?_
  refine Tp rfl rfl (pur_len_s (by kernel_rfl) rfl rfl) rfl ?_
  refine pv tb 1 rfl ?_
  refine TO_nil ?_
  refine T_cond (t:=decide ((s1.size:Int)=0)) rfl (fun c_1=>?_) (fun c_1=>?_)
  ·replace H:=cond_t c_1 H
   refine sr ?_
   obtain ⟨r_2,h_3,H⟩:=bind_inv H
   refine pv tb 1 rfl ?_
   refine TO_cons rfl (TOp_callS [0] (call_static ent69 rfl) (by decide) rfl rfl rfl rfl rfl rfl (msl1Text_x u _ _ _ h_3) rfl rfl ?_)
   refine toe [(0,.b 0 0),(1,strA s1),(8,boolA (decide ((s1.size:Int)=0))),(9,.b 0 0),(10,strA r_2.1)] rfl ?_
   refine TO_st (σ':=[.box [sl (tI .u8) r_2.2.b,intA r_2.2.i,intA r_2.2.h]]) rfl ?_
   refine pv tb 1 rfl ?_
   refine TO_nil ?_
   refine T_ret ?_
   refine then_ret ?_
   obtain rfl:=some_inj H
   exact end_pickX (.tmp .nil) rfl [0] (by decide) (lb rfl) rfl (lb rfl) rfl rfl rfl rfl rfl rfl
  ·replace H:=cond_f c_1 H
   refine T_skip ?_
   refine sr ?_
   refine pv tb 2 rfl ?_
   refine Tp rfl rfl (pur_len_s (by kernel_rfl) rfl rfl) rfl ?_
   obtain ⟨r_4,h_5,H⟩:=bind_inv H
   refine TO_cons rfl (TOp_callS [0] (call_static ent64 rfl) (by decide) rfl rfl rfl rfl rfl rfl (msl1Below_x _ _ _ h_5) rfl rfl ?_)
   refine toe [(0,.b 0 0),(1,strA s1),(11,.b 0 0),(12,strA s1),(13,intA (s1.size:Int)),(14,intA r_4.1)] rfl ?_
   refine TO_st (σ':=[.box [sl (tI .u8) r_4.2.b,intA r_4.2.i,intA r_4.2.h]]) rfl ?_
   refine pv tb 1 rfl ?_
   refine TO_nil (T_seq (sr ?_))
   obtain ⟨r_6,h_7,H⟩:=bind_inv H
   refine pv tb 1 rfl ?_
   refine TO_cons rfl (TOp_callS [0] (call_static ent64 rfl) (by decide) rfl rfl rfl rfl rfl rfl (msl1Below_x _ _ _ h_7) rfl rfl ?_)
   refine toe [(0,.b 0 0),(1,strA s1),(5,intA r_4.1),(15,.b 0 0),(16,intA r_6.1)] rfl ?_
   refine TO_st (σ':=[.box [sl (tI .u8) r_6.2.b,intA r_6.2.i,intA r_6.2.h]]) rfl ?_
   refine TO_nil ?_
   refine T_block ?_
   refine sr ?_
   refine pv tb 2 rfl ?_
   refine TO_nil ?_
   refine T_cond (t:=decide (r_6.1=0)) rfl (fun c_8=>?_) (fun c_8=>?_)
   ·replace H:=cond_t c_8 H
    refine T_seq ?_
    refine T_regionD mixed (by kernel_rfl) ?_
    obtain ⟨ss_9,h_10,H⟩:=bind_inv H
    refine pq tb 2 rfl ?_
    refine TQ_pure rfl (pur_cutB (lo:=none) (hi:=(some (.tmp 20))) (by kernel_rfl) rfl rfl ⟨_,rfl⟩ h_10 rfl) rfl ?_
    obtain ⟨ss_11,h_12,H⟩:=bind_inv H
    refine pq tb 3 rfl ?_
    refine TQ_pure rfl (pur_cutB (lo:=(some (.tmp 24))) (hi:=none) (by kernel_rfl) rfl ⟨_,rfl⟩ rfl h_12 rfl) rfl ?_
    obtain ⟨cat_13,h_14,H⟩:=bind_inv H
    refine TQ_pure rfl (pur_cat rfl rfl rfl h_14) rfl ?_
    refine pq tb 1 rfl ?_
    refine TQ_nil ?_
    refine te [(4,strA cat_13)] rfl ?_
    refine T_ret ?_
    refine block_ret ?_
    refine then_ret ?_
    obtain rfl:=some_inj H
    exact end_pickX (.tmp .nil) rfl [0] (by decide) (lb rfl) rfl (lb rfl) rfl rfl rfl rfl rfl rfl
   ·replace H:=cond_f c_8 H
    refine sr ?_
    refine pv tb 2 rfl ?_
    refine TO_nil ?_
    refine T_cond (t:=decide (r_6.1=1)) rfl (fun c_15=>?_) (fun c_15=>?_)
    ·replace H:=cond_t c_15 H
     obtain ⟨ss_16,h_17,H⟩:=bind_inv H
     obtain ⟨r_18,h_19,H⟩:=bind_inv H
     obtain ⟨cat_20,h_21,H⟩:=bind_inv H
     obtain ⟨ss_22,h_23,H⟩:=bind_inv H
     obtain ⟨cat_24,h_25,H⟩:=bind_inv H
     refine T_cutX (fun (_:Unit)=>True) (fun _=>[(4,strA cat_24)]) (fun _=>[.box [sl (tI .u8) r_18.2.b,intA r_18.2.i,intA r_18.2.h]]) ?_ ?_
     ·skip
      refine T_regionP 0 mixed rfl ?_
      refine pa tb [0,1] 12 rfl (by kernel_rfl) rfl ?_
      refine tf 2 rfl (pur_cutB (lo:=none) (hi:=(some (.tmp 30))) (by kernel_rfl) rfl rfl ⟨_,rfl⟩ h_17 rfl) rfl rfl (by kernel_rfl) ?_
      refine pa tb [3,9,10] 8 rfl (by kernel_rfl) rfl ?_
      refine tf 11 rfl (pur_cutB (lo:=(some (.tmp 39))) (hi:=none) (by kernel_rfl) rfl ⟨_,rfl⟩ rfl h_23 rfl) rfl rfl (by kernel_rfl) ?_
      refine t1 4 (by kernel_rfl) rfl rfl (TOp_callS [0] (call_static ent70 rfl) (by decide) rfl rfl rfl rfl rfl rfl (msl1Byte_x _ _ h_19) rfl rfl ?_)
      refine tae [(31,strA ss_16),(32,.b 0 0),(33,intA r_18.1),(38,strA s1),(39,intA r_4.1),(40,strA ss_22)] rfl ?_
      refine TA_st (σ':=[.box [sl (tI .u8) r_18.2.b,intA r_18.2.i,intA r_18.2.h]]) rfl ?_
      refine tf 5 rfl (pur_convI (k:=.u8) (k':=.i64) ⟨_,Tryz.underlying3⟩ Tryz.underlying5 rfl rfl) rfl rfl (by kernel_rfl) ?_
      refine t1 6 (by kernel_rfl) rfl rfl (TOp_lit (nn:=1) (k:=1) sl22 zero5 rfl rfl rfl rfl (by decide) ?_)
      refine t1 7 (by kernel_rfl) rfl rfl (TOp_pure (pur_strM (zs:=([IntKind.wrap .u8 r_18.1]:(List Int))) Tryz.underlying22 Tryz.underlying5 Tryz.underlying9 rfl rfl rfl) rfl ?_)
      refine tf 8 rfl (pur_cat rfl rfl rfl h_21) rfl rfl (by kernel_rfl) ?_
      refine tf 12 rfl (pur_cat rfl rfl rfl h_25) rfl rfl (by kernel_rfl) ?_
      refine pa tb [13] 0 rfl (by kernel_rfl) rfl ?_
      exact TA_nil (by kernel_rfl) (joined () (w0 1) trivial)
     ·rintro _ _
      refine T_ret ?_
      refine block_ret ?_
      refine then_ret ?_
      obtain rfl:=some_inj H
      exact end_pickX (.tmp .nil) rfl [0] (by decide) (lb rfl) rfl (lb rfl) rfl rfl rfl rfl rfl rfl
    ·replace H:=cond_f c_15 H
     refine sr ?_
     refine pv tb 2 rfl ?_
     refine TO_nil ?_
     refine T_cond (t:=decide (r_6.1=2)) rfl (fun c_26=>?_) (fun c_26=>?_)
     ·replace H:=cond_t c_26 H
      refine sr ?_
      obtain ⟨ss_27,h_28,H⟩:=bind_inv H
      refine pv tb 2 rfl ?_
      refine Tp rfl rfl (pur_cutB (lo:=none) (hi:=(some (.tmp 45))) (by kernel_rfl) rfl rfl ⟨_,rfl⟩ h_28 rfl) rfl ?_
      refine pv tb 1 rfl ?_
      refine TO_nil ?_
      refine T_ret ?_
      refine block_ret ?_
      refine then_ret ?_
      obtain rfl:=some_inj H
      exact end_pickX (.tmp .nil) rfl [0] (by decide) (lb rfl) rfl (lb rfl) rfl rfl rfl rfl rfl rfl
     ·replace H:=cond_f c_26 H
      refine T_skip ?_
      obtain ⟨ss_29,h_30,H⟩:=bind_inv H
      obtain ⟨b_31,h_32,H⟩:=bind_inv H
      obtain ⟨r_33,h_34,H⟩:=bind_inv H
      obtain ⟨cat_35,h_36,H⟩:=bind_inv H
      obtain ⟨ss_37,h_38,H⟩:=bind_inv H
      obtain ⟨cat_39,h_40,H⟩:=bind_inv H
      refine T_cutX (fun (_:Unit)=>True) (fun _=>[(4,strA cat_39)]) (fun _=>[.box [sl (tI .u8) r_33.2.b,intA r_33.2.i,intA r_33.2.h]]) ?_ ?_
      ·skip
       refine T_regionP 0 mixed rfl ?_
       refine pa tb [0,1] 19 rfl (by kernel_rfl) rfl ?_
       refine tf 2 rfl (pur_cutB (lo:=none) (hi:=(some (.tmp 48))) (by kernel_rfl) rfl rfl ⟨_,rfl⟩ h_30 rfl) rfl rfl (by kernel_rfl) ?_
       refine pa tb [3,4] 16 rfl (by kernel_rfl) rfl ?_
       refine tf 5 rfl (pur_ixS (by kernel_rfl) rfl rfl h_32 rfl) rfl rfl (by kernel_rfl) ?_
       refine tf 6 rfl (pur_convI (k:=.i64) (k':=.u8) ⟨_,Tryz.underlying5⟩ Tryz.underlying3 rfl rfl) rfl rfl (by kernel_rfl) ?_
       refine pa tb [7,15,16,17] 10 rfl (by kernel_rfl) rfl ?_
       refine tae [(49,strA ss_29),(53,intA (w64 b_31)),(54,.b 0 0),(62,strA s1),(64,intA (w64 (r_4.1+1)))] rfl ?_
       refine tf 18 rfl (pur_cutB (lo:=(some (.tmp 64))) (hi:=none) (by kernel_rfl) rfl ⟨_,rfl⟩ rfl h_38 rfl) rfl rfl (by kernel_rfl) ?_
       refine t1 8 (by kernel_rfl) rfl rfl (TOp_callS [0] (call_static ent64 rfl) (by decide) rfl rfl rfl rfl rfl rfl (msl1Below_x _ _ _ h_34) rfl rfl ?_)
       refine tae [(49,strA ss_29),(53,intA (w64 b_31)),(54,.b 0 0),(55,intA r_33.1),(62,strA s1),(64,intA (w64 (r_4.1+1))),(65,strA ss_37)] rfl ?_
       refine TA_st (σ':=[.box [sl (tI .u8) r_33.2.b,intA r_33.2.i,intA r_33.2.h]]) rfl ?_
       refine pa tb [9] 7 rfl (by kernel_rfl) rfl ?_
       refine tf 10 rfl (pur_xor rfl rfl rfl) rfl rfl (by kernel_rfl) ?_
       refine tf 11 rfl (pur_convI (k:=.u8) (k':=.i64) ⟨_,Tryz.underlying3⟩ Tryz.underlying5 rfl rfl) rfl rfl (by kernel_rfl) ?_
       refine t1 12 (by kernel_rfl) rfl rfl (TOp_lit (nn:=1) (k:=1) sl22 zero5 rfl rfl rfl rfl (by decide) ?_)
       refine t1 13 (by kernel_rfl) rfl rfl (TOp_pure (pur_strM (zs:=([IntKind.wrap .u8 (bitI .xor .i64 (w64 b_31) (w64 (1+r_33.1)))]:(List Int))) Tryz.underlying22 Tryz.underlying5 Tryz.underlying9 rfl rfl rfl) rfl ?_)
       refine tf 14 rfl (pur_cat rfl rfl rfl h_36) rfl rfl (by kernel_rfl) ?_
       refine tf 19 rfl (pur_cat rfl rfl rfl h_40) rfl rfl (by kernel_rfl) ?_
       refine pa tb [20] 0 rfl (by kernel_rfl) rfl ?_
       exact TA_nil (by kernel_rfl) (joined () (w0 1) trivial)
      ·rintro _ _
       refine T_ret ?_
       obtain rfl:=some_inj H
       exact end_pickX (.tmp .nil) rfl [0] (by decide) (lb rfl) rfl (lb rfl) rfl rfl rfl rfl rfl rfl

theorem msDrawParseEdit_ok (u:Nat) (code0:(List Int)) (r:(Database × ByteArray)) (H:msDrawParseEdit u code0=some r):FnV prg 12 [sl (tI .u8) code0] (.t [.g (tD.enc r.1),strA r.2]):=by
  unfold msDrawParseEdit at H
  refine fnV_of_T Tryz.func12 rfl rfl (Nat.le_of_ble_eq_true rfl) ?_
  refine te [(0,sl (tI .u8) code0)] rfl ?_
  refine sr ?_
  refine TO_cons rfl (TOp_alloc zero27 rfl rfl ?_)
  refine pv tb 1 rfl ?_
  refine TO_nil (sr ?_)
  obtain ⟨r_1,h_2,H⟩:=bind_inv H
  refine pv tb 1 rfl ?_
  refine TO_cons rfl (TOp_callS [] (call_static ent31 rfl) (by decide) rfl rfl rfl rfl rfl rfl (msl1New_x u _ _ h_2) rfl rfl ?_)
  refine toe [(0,sl (tI .u8) code0),(2,.b 0 0),(7,sl (tI .u8) code0),(8,.b 1 0)] rfl ?_
  refine TO_st (σ':=[.box [.n,.n],.box [sl (tI .u8) r_1.b,intA r_1.i,intA r_1.h]]) rfl ?_
  refine pv tb 1 rfl ?_
  refine TO_nil (sr ?_)
  obtain ⟨r_3,h_4,H⟩:=bind_inv H
  refine pv tb 1 rfl ?_
  refine TO_cons rfl (TOp_callS [1] (call_static ent32 rfl) (by decide) rfl rfl rfl rfl rfl rfl (msl4Any_x u _ _ h_4) rfl rfl ?_)
  refine toe [(2,.b 0 0),(4,.b 1 0),(9,.b 1 0),(10,.g (tD.enc r_3.1))] rfl ?_
  refine TO_st (σ':=[.box [.n,.n],.box [sl (tI .u8) r_3.2.b,intA r_3.2.i,intA r_3.2.h]]) rfl ?_
  refine TO_cons rfl (TOp_alloc zero27 rfl rfl ?_)
  refine TO_cons rfl (TOp_storeB sz27 rfl rfl rfl rfl rfl rfl rfl (by decide) (lb rfl) rfl ?_)
  refine TO_st (σ':=[.box [.n,.n],.box [sl (tI .u8) r_3.2.b,intA r_3.2.i,intA r_3.2.h],.box [sl tR r_3.1.relations,sl tF r_3.1.facts]]) rfl ?_
  refine TO_nil ?_
  obtain ⟨r_5,h_6,H⟩:=bind_inv H
  obtain ⟨r_7,h_8,H⟩:=bind_inv H
  refine T_cutX (fun (_:Unit)=>True) (fun _=>[(2,.b 0 0),(4,.b 1 0),(5,.b 2 0),(6,strA r_7)]) (fun _=>[.box [.n,.n],.box [sl (tI .u8) r_5.2.b,intA r_5.2.i,intA r_5.2.h],.box [sl tR r_3.1.relations,sl tF r_3.1.facts]]) ?_ ?_
  ·skip
   refine T_regionP 1 mixed rfl ?_
   refine TA_have 2 #[true,true,true,true,false,false] [(2,.b 0 0),(4,.b 1 0),(5,.b 2 0),(11,.g (tD.enc r_3.1)),(14,.g (tEdit.enc r_5.1))] [.dead,.box [sl (tI .u8) r_5.2.b,intA r_5.2.i,intA r_5.2.h],.box [sl tR r_3.1.relations,sl tF r_3.1.facts]] ?_ (fun hj0_3=>?_)
   ·skip
    refine t1 4 (by kernel_rfl) rfl rfl (TOp_callV (call_static ent14 rfl) (msFormatEdit_ok u _ _ _ h_8) rfl rfl rfl ?_)
    refine pa tb [5] 0 rfl (by kernel_rfl) rfl ?_
    exact TA_nil (by kernel_rfl) (joined () (w0 3) trivial)
   refine TA_have 3 #[true,true,true,false,false,false] [(2,.b 0 0),(4,.b 1 0),(5,.b 2 0),(11,.g (tD.enc r_3.1)),(12,.b 1 0),(13,.g (tD.enc r_3.1))] [.dead,.box [sl (tI .u8) r_3.2.b,intA r_3.2.i,intA r_3.2.h],.box [sl tR r_3.1.relations,sl tF r_3.1.facts]] ?_ (fun hj1_3=>?_)
   ·skip
    refine t1 3 (by kernel_rfl) rfl rfl (TOp_callS [1] (call_static ent33 rfl) (by decide) rfl rfl rfl rfl rfl rfl (msl30Edit_x u _ _ _ h_6) rfl rfl ?_)
    refine tae [(2,.b 0 0),(4,.b 1 0),(5,.b 2 0),(11,.g (tD.enc r_3.1)),(12,.b 1 0),(13,.g (tD.enc r_3.1)),(14,.g (tEdit.enc r_5.1))] rfl ?_
    refine TA_st (σ':=[.dead,.box [sl (tI .u8) r_5.2.b,intA r_5.2.i,intA r_5.2.h],.box [sl tR r_3.1.relations,sl tF r_3.1.facts]]) rfl ?_
    exact tj hj0_3 rfl (w0 3)
   refine pa tb [1] 5 rfl (by kernel_rfl) rfl ?_
   refine TA_all [0,2] (by kernel_rfl) (by decide) ⟨?_,?_,trivial⟩
   ·skip
    refine ⟨_,rfl,rfl,TOp_pure (pur_ldK_b agg27 rfl rfl (lb rfl) rfl) rfl ?_⟩
    refine t1 2 (by kernel_rfl) rfl rfl (TOp_pure (pur_ldK_b agg27 rfl rfl (lb rfl) rfl) rfl ?_)
    exact tj hj1_3 rfl (w0 3)
   ·skip
    refine ⟨_,rfl,rfl,TOp_pure (pur_ldK_b agg27 rfl rfl (lb rfl) rfl) rfl ?_⟩
    refine TA_all [0,3] (by kernel_rfl) (by decide) ⟨?_,?_,trivial⟩
    ·skip
     refine ⟨_,rfl,rfl,TOp_pure (pur_ldK_b agg27 rfl rfl (lb rfl) rfl) rfl ?_⟩
     exact tj hj1_3 rfl (w0 3)
    ·skip
     refine ⟨_,rfl,rfl,TOp_callS [1] (call_static ent33 rfl) (by decide) rfl rfl rfl rfl rfl rfl (msl30Edit_x u _ _ _ h_6) rfl rfl ?_⟩
     refine tae [(2,.b 0 0),(4,.b 1 0),(5,.b 2 0),(12,.b 1 0),(13,.g (tD.enc r_3.1)),(14,.g (tEdit.enc r_5.1))] rfl ?_
     refine TA_st (σ':=[.dead,.box [sl (tI .u8) r_5.2.b,intA r_5.2.i,intA r_5.2.h],.box [sl tR r_3.1.relations,sl tF r_3.1.facts]]) rfl ?_
     refine t1 0 (by kernel_rfl) rfl rfl (TOp_pure (pur_ldK_b agg27 rfl rfl (lb rfl) rfl) rfl ?_)
     exact tj hj0_3 rfl (w0 3)
  ·rintro _ _
   refine T_seq (sr ?_)
   obtain ⟨r_9,h_10,H⟩:=bind_inv H
   refine pv tb 1 rfl ?_
   refine TO_cons rfl (TOp_callS [1] (call_static ent34 rfl) (by decide) rfl rfl rfl rfl rfl rfl (msl1Once_x _ _ _ h_10) rfl rfl ?_)
   refine toe [(2,.b 0 0),(4,.b 1 0),(5,.b 2 0),(6,strA r_7),(16,.b 1 0),(17,boolA r_9.1)] rfl ?_
   refine TO_st (σ':=[.box [.n,.n],.box [sl (tI .u8) r_9.2.b,intA r_9.2.i,intA r_9.2.h],.box [sl tR r_3.1.relations,sl tF r_3.1.facts]]) rfl ?_
   refine TO_nil ?_
   refine T_cond (t:=r_9.1) rfl (fun c_11=>?_) (fun c_11=>?_)
   ·replace H:=cond_t c_11 H
    obtain ⟨r_12,h_13,H⟩:=bind_inv H
    obtain ⟨r_14,h_15,H⟩:=bind_inv H
    refine T_pad ?_
    refine T_cutX (fun (_:Unit)=>True) (fun _=>[(2,.b 0 0),(3,strA r_14.1)]) (fun _=>[.box [sl tR r_3.1.relations,sl tF r_3.1.facts],.box [sl (tI .u8) r_14.2.b,intA r_14.2.i,intA r_14.2.h],.box [sl tR r_3.1.relations,sl tF r_3.1.facts]]) ?_ ?_
    ·skip
     refine T_regionP 0 mixed rfl ?_
     refine TA_have 2 #[true,true,true,true,true,true,true,false,false] [(2,.b 0 0),(18,.g (tD.enc r_3.1)),(24,strA r_14.1)] [.box [.n,.n],.box [sl (tI .u8) r_14.2.b,intA r_14.2.i,intA r_14.2.h],.box [sl tR r_3.1.relations,sl tF r_3.1.facts],.dead] ?_ (fun hj0_5=>?_)
     ·skip
      refine t1 7 (by kernel_rfl) rfl rfl (TOp_storeB sz27 rfl rfl rfl rfl rfl rfl rfl (by decide) (lb rfl) rfl ?_)
      refine TA_st (σ':=[.box [sl tR r_3.1.relations,sl tF r_3.1.facts],.box [sl (tI .u8) r_14.2.b,intA r_14.2.i,intA r_14.2.h],.box [sl tR r_3.1.relations,sl tF r_3.1.facts],.dead]) rfl ?_
      refine pa tb [8] 0 rfl (by kernel_rfl) rfl ?_
      exact TA_nil (by kernel_rfl) (joined () (w0 3) trivial)
     refine TA_have 3 #[true,true,true,true,true,true,false,false,false] [(2,.b 0 0),(18,.g (tD.enc r_3.1)),(19,.b 1 0),(23,sl tStr ([(⟨#[]⟩:ByteArray),(⟨#[43]⟩:ByteArray),(⟨#[43,114]⟩:ByteArray),(⟨#[114,49,124,50]⟩:ByteArray),(⟨#[42,114,49,124,50]⟩:ByteArray),(⟨#[45,114,49,124,50]⟩:ByteArray),(⟨#[33,115,48,124,48]⟩:ByteArray),(⟨#[43,114,49,124,50,32]⟩:ByteArray),r_12.1]:(List ByteArray)))] [.box [.n,.n],.box [sl (tI .u8) r_12.2.b,intA r_12.2.i,intA r_12.2.h],.box [sl tR r_3.1.relations,sl tF r_3.1.facts],.dead] ?_ (fun hj1_5=>?_)
     ·skip
      refine t1 6 (by kernel_rfl) rfl rfl (TOp_callS [1] (call_static ent35 rfl) (by decide) rfl rfl rfl rfl rfl rfl (msl1Pick_x _ _ _ h_15) rfl rfl ?_)
      refine tae [(2,.b 0 0),(18,.g (tD.enc r_3.1)),(19,.b 1 0),(23,sl tStr ([(⟨#[]⟩:ByteArray),(⟨#[43]⟩:ByteArray),(⟨#[43,114]⟩:ByteArray),(⟨#[114,49,124,50]⟩:ByteArray),(⟨#[42,114,49,124,50]⟩:ByteArray),(⟨#[45,114,49,124,50]⟩:ByteArray),(⟨#[33,115,48,124,48]⟩:ByteArray),(⟨#[43,114,49,124,50,32]⟩:ByteArray),r_12.1]:(List ByteArray))),(24,strA r_14.1)] rfl ?_
      refine TA_st (σ':=[.box [.n,.n],.box [sl (tI .u8) r_14.2.b,intA r_14.2.i,intA r_14.2.h],.box [sl tR r_3.1.relations,sl tF r_3.1.facts],.dead]) rfl ?_
      exact tj hj0_5 rfl (w0 4)
     refine TA_have 4 #[true,true,true,true,true,false,false,false,false] [(2,.b 0 0),(18,.g (tD.enc r_3.1)),(19,.b 1 0),(22,strA r_12.1)] [.box [.n,.n],.box [sl (tI .u8) r_12.2.b,intA r_12.2.i,intA r_12.2.h],.box [sl tR r_3.1.relations,sl tF r_3.1.facts],.dead] ?_ (fun hj2_5=>?_)
     ·skip
      refine t1 5 (by kernel_rfl) rfl rfl (TOp_lit (nn:=9) (k:=1) sl65 zero9 rfl rfl rfl rfl (by decide) ?_)
      refine tmw 3 4 (by decide) (lb rfl) rfl rfl (lb rfl) rfl ?_
      refine TA_ghost (E':=[(2,.b 0 0),(18,.g (tD.enc r_3.1)),(19,.b 1 0),(22,strA r_12.1),(23,.m [3] 0 ([(⟨#[]⟩:ByteArray),(⟨#[43]⟩:ByteArray),(⟨#[43,114]⟩:ByteArray),(⟨#[114,49,124,50]⟩:ByteArray),(⟨#[42,114,49,124,50]⟩:ByteArray),(⟨#[45,114,49,124,50]⟩:ByteArray),(⟨#[33,115,48,124,48]⟩:ByteArray),(⟨#[43,114,49,124,50,32]⟩:ByteArray),r_12.1]:(List ByteArray)).length tStr.k)]) (σ':=[.box [.n,.n],.box [sl (tI .u8) r_12.2.b,intA r_12.2.i,intA r_12.2.h],.box [sl tR r_3.1.relations,sl tF r_3.1.facts],.row (flat tStr.enc ([(⟨#[]⟩:ByteArray),(⟨#[43]⟩:ByteArray),(⟨#[43,114]⟩:ByteArray),(⟨#[114,49,124,50]⟩:ByteArray),(⟨#[42,114,49,124,50]⟩:ByteArray),(⟨#[45,114,49,124,50]⟩:ByteArray),(⟨#[33,115,48,124,48]⟩:ByteArray),(⟨#[43,114,49,124,50,32]⟩:ByteArray),r_12.1]:(List ByteArray))),.dead]) (Ghost.weak (WeakL.to 5 (lb rfl) rfl rfl rfl rfl ⟨leR rfl,leR rfl,leR rfl,leR rfl,leR rfl,trivial⟩)) ?_
      refine TA_frz1 3 (E':=[(2,.b 0 0),(18,.g (tD.enc r_3.1)),(19,.b 1 0),(22,strA r_12.1),(23,sl tStr ([(⟨#[]⟩:ByteArray),(⟨#[43]⟩:ByteArray),(⟨#[43,114]⟩:ByteArray),(⟨#[114,49,124,50]⟩:ByteArray),(⟨#[42,114,49,124,50]⟩:ByteArray),(⟨#[45,114,49,124,50]⟩:ByteArray),(⟨#[33,115,48,124,48]⟩:ByteArray),(⟨#[43,114,49,124,50,32]⟩:ByteArray),r_12.1]:(List ByteArray)))]) rfl rfl (lb rfl) ⟨.keep rfl,.keep rfl,.keep rfl,.keep rfl,fz1E,trivial⟩ ?_
      refine TA_st (σ':=[.box [.n,.n],.box [sl (tI .u8) r_12.2.b,intA r_12.2.i,intA r_12.2.h],.box [sl tR r_3.1.relations,sl tF r_3.1.facts],.dead,.dead]) rfl ?_
      exact tj hj1_5 rfl (w0 4)
     refine pa tb [1,2,3] 6 rfl (by kernel_rfl) rfl ?_
     refine TA_all [0,4] (by kernel_rfl) (by decide) ⟨?_,?_,trivial⟩
     ·skip
      refine ⟨_,rfl,rfl,TOp_pure (pur_ldK_b agg27 rfl rfl (lb rfl) rfl) rfl ?_⟩
      refine t1 4 (by kernel_rfl) rfl rfl (TOp_callS [1] (call_static ent36 rfl) (by decide) rfl rfl rfl rfl rfl rfl (msl1Spoil_x u _ _ _ h_13) rfl rfl ?_)
      refine tae [(2,.b 0 0),(4,.b 1 0),(5,.b 2 0),(6,strA r_7),(17,boolA r_9.1),(18,.g (tD.enc r_3.1)),(19,.b 1 0),(20,.b 1 0),(21,strA r_7),(22,strA r_12.1)] rfl ?_
      refine TA_st (σ':=[.box [.n,.n],.box [sl (tI .u8) r_12.2.b,intA r_12.2.i,intA r_12.2.h],.box [sl tR r_3.1.relations,sl tF r_3.1.facts],.dead]) rfl ?_
      exact tj hj2_5 rfl (w0 4)
     ·skip
      refine ⟨_,rfl,rfl,TOp_callS [1] (call_static ent36 rfl) (by decide) rfl rfl rfl rfl rfl rfl (msl1Spoil_x u _ _ _ h_13) rfl rfl ?_⟩
      refine tae [(2,.b 0 0),(4,.b 1 0),(5,.b 2 0),(6,strA r_7),(17,boolA r_9.1),(19,.b 1 0),(20,.b 1 0),(21,strA r_7),(22,strA r_12.1)] rfl ?_
      refine TA_st (σ':=[.box [.n,.n],.box [sl (tI .u8) r_12.2.b,intA r_12.2.i,intA r_12.2.h],.box [sl tR r_3.1.relations,sl tF r_3.1.facts],.dead]) rfl ?_
      refine TA_all [0,5] (by kernel_rfl) (by decide) ⟨?_,?_,trivial⟩
      ·skip
       refine ⟨_,rfl,rfl,TOp_pure (pur_ldK_b agg27 rfl rfl (lb rfl) rfl) rfl ?_⟩
       exact tj hj2_5 rfl (w0 4)
      ·skip
       refine ⟨_,rfl,rfl,TOp_lit (nn:=9) (k:=1) sl65 zero9 rfl rfl rfl rfl (by decide) ?_⟩
       refine tmw 3 4 (by decide) (lb rfl) rfl rfl (lb rfl) rfl ?_
       refine tae [(2,.b 0 0),(5,.b 2 0),(19,.b 1 0),(23,.m [3] 0 ([(⟨#[]⟩:ByteArray),(⟨#[43]⟩:ByteArray),(⟨#[43,114]⟩:ByteArray),(⟨#[114,49,124,50]⟩:ByteArray),(⟨#[42,114,49,124,50]⟩:ByteArray),(⟨#[45,114,49,124,50]⟩:ByteArray),(⟨#[33,115,48,124,48]⟩:ByteArray),(⟨#[43,114,49,124,50,32]⟩:ByteArray),r_12.1]:(List ByteArray)).length tStr.k)] rfl ?_
       refine TA_st (σ':=[.box [.n,.n],.box [sl (tI .u8) r_12.2.b,intA r_12.2.i,intA r_12.2.h],.box [sl tR r_3.1.relations,sl tF r_3.1.facts],.row (flat tStr.enc ([(⟨#[]⟩:ByteArray),(⟨#[43]⟩:ByteArray),(⟨#[43,114]⟩:ByteArray),(⟨#[114,49,124,50]⟩:ByteArray),(⟨#[42,114,49,124,50]⟩:ByteArray),(⟨#[45,114,49,124,50]⟩:ByteArray),(⟨#[33,115,48,124,48]⟩:ByteArray),(⟨#[43,114,49,124,50,32]⟩:ByteArray),r_12.1]:(List ByteArray))),.dead]) rfl ?_
       refine TA_ghost (E':=[(2,.b 0 0),(5,.b 2 0),(19,.b 1 0),(23,.m [3] 0 ([(⟨#[]⟩:ByteArray),(⟨#[43]⟩:ByteArray),(⟨#[43,114]⟩:ByteArray),(⟨#[114,49,124,50]⟩:ByteArray),(⟨#[42,114,49,124,50]⟩:ByteArray),(⟨#[45,114,49,124,50]⟩:ByteArray),(⟨#[33,115,48,124,48]⟩:ByteArray),(⟨#[43,114,49,124,50,32]⟩:ByteArray),r_12.1]:(List ByteArray)).length tStr.k)]) (σ':=[.box [.n,.n],.box [sl (tI .u8) r_12.2.b,intA r_12.2.i,intA r_12.2.h],.box [sl tR r_3.1.relations,sl tF r_3.1.facts],.row (flat tStr.enc ([(⟨#[]⟩:ByteArray),(⟨#[43]⟩:ByteArray),(⟨#[43,114]⟩:ByteArray),(⟨#[114,49,124,50]⟩:ByteArray),(⟨#[42,114,49,124,50]⟩:ByteArray),(⟨#[45,114,49,124,50]⟩:ByteArray),(⟨#[33,115,48,124,48]⟩:ByteArray),(⟨#[43,114,49,124,50,32]⟩:ByteArray),r_12.1]:(List ByteArray))),.dead]) (Ghost.weak (WeakL.to 5 (lb rfl) rfl rfl rfl rfl ⟨leR rfl,leR rfl,leR rfl,leR rfl,trivial⟩)) ?_
       refine TA_frz1 3 (E':=[(2,.b 0 0),(5,.b 2 0),(19,.b 1 0),(23,sl tStr ([(⟨#[]⟩:ByteArray),(⟨#[43]⟩:ByteArray),(⟨#[43,114]⟩:ByteArray),(⟨#[114,49,124,50]⟩:ByteArray),(⟨#[42,114,49,124,50]⟩:ByteArray),(⟨#[45,114,49,124,50]⟩:ByteArray),(⟨#[33,115,48,124,48]⟩:ByteArray),(⟨#[43,114,49,124,50,32]⟩:ByteArray),r_12.1]:(List ByteArray)))]) rfl rfl (lb rfl) ⟨.keep rfl,.keep rfl,.keep rfl,fz1E,trivial⟩ ?_
       refine TA_st (σ':=[.box [.n,.n],.box [sl (tI .u8) r_12.2.b,intA r_12.2.i,intA r_12.2.h],.box [sl tR r_3.1.relations,sl tF r_3.1.facts],.dead,.dead]) rfl ?_
       refine TA_all [0,6] (by kernel_rfl) (by decide) ⟨?_,?_,trivial⟩
       ·skip
        refine ⟨_,rfl,rfl,TOp_pure (pur_ldK_b agg27 rfl rfl (lb rfl) rfl) rfl ?_⟩
        exact tj hj1_5 rfl (w0 4)
       ·skip
        refine ⟨_,rfl,rfl,TOp_callS [1] (call_static ent35 rfl) (by decide) rfl rfl rfl rfl rfl rfl (msl1Pick_x _ _ _ h_15) rfl rfl ?_⟩
        refine tae [(2,.b 0 0),(5,.b 2 0),(19,.b 1 0),(23,sl tStr ([(⟨#[]⟩:ByteArray),(⟨#[43]⟩:ByteArray),(⟨#[43,114]⟩:ByteArray),(⟨#[114,49,124,50]⟩:ByteArray),(⟨#[42,114,49,124,50]⟩:ByteArray),(⟨#[45,114,49,124,50]⟩:ByteArray),(⟨#[33,115,48,124,48]⟩:ByteArray),(⟨#[43,114,49,124,50,32]⟩:ByteArray),r_12.1]:(List ByteArray))),(24,strA r_14.1)] rfl ?_
        refine TA_st (σ':=[.box [.n,.n],.box [sl (tI .u8) r_14.2.b,intA r_14.2.i,intA r_14.2.h],.box [sl tR r_3.1.relations,sl tF r_3.1.facts],.dead,.dead]) rfl ?_
        refine t1 0 (by kernel_rfl) rfl rfl (TOp_pure (pur_ldK_b agg27 rfl rfl (lb rfl) rfl) rfl ?_)
        exact tj hj0_5 rfl (w0 4)
    ·rintro _ _
     refine T_ret ?_
     refine then_ret ?_
     obtain rfl:=some_inj H
     refine end_ret (.cellK rfl agg27 rfl (lb rfl) (.tmp .nil)) rfl rfl ⟨?_,rfl⟩
     rfl
   ·replace H:=cond_f c_11 H
    refine T_skip ?_
    refine sr ?_
    refine pv tb 2 rfl ?_
    refine TO_cons rfl (TOp_storeB sz27 rfl rfl rfl rfl rfl rfl rfl (by decide) (lb rfl) rfl ?_)
    refine TO_st (σ':=[.box [sl tR r_3.1.relations,sl tF r_3.1.facts],.box [sl (tI .u8) r_9.2.b,intA r_9.2.i,intA r_9.2.h],.box [sl tR r_3.1.relations,sl tF r_3.1.facts]]) rfl ?_
    refine pv tb 1 rfl ?_
    refine TO_nil ?_
    refine T_ret ?_
    obtain rfl:=some_inj H
    refine end_ret (.cellK rfl agg27 rfl (lb rfl) (.tmp .nil)) rfl rfl ⟨?_,rfl⟩
    rfl

theorem msRelationIndex_ok (l0:(List Relation)) (name1:ByteArray) (r:Int) (H:msRelationIndex l0 name1=some r):FnV prg 71 [sl tR l0,strA name1] (intA r):=by
  unfold msRelationIndex at H
  refine fnV_of_T Tryz.func71 rfl rfl (Nat.le_of_ble_eq_true rfl) ?_
  refine te [(0,sl tR l0),(1,strA name1)] rfl ?_
  refine sr ?_
  refine pv tb 1 rfl ?_
  refine TO_nil (T_seq (sr ?_))
  refine pv tb 1 rfl ?_
  refine TO_nil ?_
  obtain ⟨O2_,L2_,N2_⟩:=bind_inv H
  clear H
  obtain ⟨B2_,hb2,L2_⟩:=gen_forL L2_
  refine T_block ?_
  refine T_loopX (fun k=>fun (i_1:Nat)=>k=l0.length - i_1∧forL B2_ (l0.drop i_1) (i_1:Int) ()=some O2_) (fun (i_1:Nat)=>[(0,sl tR l0),(1,strA name1),(5,intA (i_1:Int))]) (fun (i_1:Nat)=>[]) _ (0:Nat) (w0 0) ⟨rfl,L2_⟩ ?_
  rintro _ i_1 ⟨rfl,L2_⟩
  refine T_fact (len_sl (T:=tR) (.tmp 0) rfl) (fun hl2=>?_)
  refine T_seq (sr ?_)
  refine pv tb 2 rfl ?_
  refine Tp rfl rfl (pur_lenT (T:=tR) sl24 rfl rfl) rfl ?_
  refine pv tb 1 rfl ?_
  refine TO_nil ?_
  refine T_cond (t:=decide ((i_1:Int)<(l0.length:Int))) rfl (fun d2=>?_) (fun d2=>?_)
  ·replace d2:=of_decide_eq_true d2
   obtain ⟨x_i_1,hx_i_1⟩:∃ v,(l0)[i_1]?=some v:=⟨_,List.getElem?_eq_getElem (by omega)⟩
   obtain ⟨C2_,H,K2_⟩:=forL_step L2_ hx_i_1
   rw [hb2] at H
   refine T_skip ?_
   refine T_seq ?_
   refine T_block ?_
   refine sr ?_
   refine pv tb 2 rfl ?_
   refine Tp rfl rfl (pur_ixT (T:=tR) sl24 rfl rfl rfl hx_i_1 rfl) rfl ?_
   refine pv tb 1 rfl ?_
   refine Tp rfl rfl (pur_ldT (T:=tR) (i:=i_1) (off:=0) rfl one9 rfl rfl hx_i_1 rfl) rfl ?_
   refine pv tb 1 rfl ?_
   refine Tp rfl rfl (pur_eqlS rfl rfl rfl) rfl ?_
   refine TO_nil ?_
   refine T_cond (t:=decide (x_i_1.name=name1)) rfl (fun c_3=>?_) (fun c_3=>?_)
   ·replace H:=cond_t c_3 H
    refine sr ?_
    refine pv tb 2 rfl ?_
    refine TO_nil ?_
    refine te [(4,intA (i_1:Int))] rfl ?_
    refine T_ret ?_
    refine block_ret ?_
    refine then_ret ?_
    refine then_ret ?_
    refine block_ret ?_
    refine then_ret ?_
    obtain rfl:=some_inj H
    obtain rfl:=some_inj K2_
    replace H:=onS_r N2_
    obtain rfl:=some_inj H
    refine end_ret (.tmp .nil) rfl rfl ⟨?_,rfl⟩
    rfl
   ·replace H:=cond_f c_3 H
    refine T_skip ?_
    refine T_region ?_
    refine pv tb 1 rfl ?_
    refine Tp rfl rfl (pur_add rfl rfl rfl (fits64 (by omega) (by omega))) rfl ?_
    refine pv tb 1 rfl ?_
    refine TO_nil ?_
    obtain rfl:=some_inj H
    exact again (l0.length - (i_1+1)) (i_1+1) (by omega) (w0 0) ⟨rfl,K2_⟩
  ·replace d2:=of_decide_eq_false d2
   obtain rfl:=forL_end L2_ (by omega)
   refine T_exit ?_
   refine then_exit ?_
   refine then_exit ?_
   refine block_exit ?_
   replace H:=onS_l N2_
   refine sr ?_
   refine pv tb 1 rfl ?_
   refine TO_nil ?_
   refine T_ret ?_
   obtain rfl:=some_inj H
   refine end_ret (.tmp .nil) rfl rfl ⟨?_,rfl⟩
   rfl

theorem msParseFact_own (u:Nat) (l0:(List Relation)) (s1:ByteArray) (r:(Fact × Bool)) (H:msParseFact u l0 s1=some r):FnO prg 37 [sl tR l0,strA s1] (.t [.g [intA r.1.relation,.m [0] 0 r.1.values.length tInt.k],boolA r.2]) [.row (flat tInt.own r.1.values)]:=by
  unfold msParseFact at H
  refine fnO_of_T Tryz.func37 rfl rfl (Nat.le_of_ble_eq_true rfl) ?_
  refine te [(0,sl tR l0),(1,strA s1)] rfl ?_
  refine sr ?_
  refine TO_cons rfl (TOp_alloc zero30 rfl rfl ?_)
  refine pv tb 1 rfl ?_
  refine TO_nil (T_seq (sr ?_))
  refine pv tb 1 rfl ?_
  refine Tp rfl rfl (pur_eqlS rfl rfl rfl) rfl ?_
  refine TO_nil ?_
  refine T_cond (t:=decide (s1=(⟨#[]⟩:ByteArray))) rfl (fun c_1=>?_) (fun c_1=>?_)
  ·replace H:=cond_t c_1 H
   refine sr ?_
   refine Tp rfl rfl (pur_build bld30 rfl rfl) rfl ?_
   refine TO_cons rfl (TOp_storeB sz30 rfl rfl rfl rfl rfl rfl rfl (by decide) (lb rfl) rfl ?_)
   refine TO_st (σ':=[.box [intA 0,.n]]) rfl ?_
   refine pv tb 1 rfl ?_
   refine TO_nil ?_
   refine T_row0 ?_
   refine T_boxle (xs:=[intA 0,.n]) (ys:=[intA 0,.m [1] 0 ([]:(List Int)).length tInt.k]) 0 rfl (leCons (leR rfl) (leCons leM leNil)) ?_
   refine T_st (σ':=[.box [intA 0,.m [1] 0 ([]:(List Int)).length tInt.k],.row (flat tInt.own ([]:(List Int)))]) rfl ?_
   refine T_ret ?_
   refine then_ret ?_
   obtain rfl:=some_inj H
   exact end_pick (.cellK rfl agg30 rfl (lb rfl) (.tmp .nil)) rfl [1] (by decide) rfl rfl rfl rfl rfl rfl
  ·replace H:=cond_f c_1 H
   refine T_skip ?_
   refine sr ?_
   obtain ⟨ss_2,h_3,H⟩:=bind_inv H
   refine pv tb 2 rfl ?_
   refine Tp rfl rfl (pur_cutB (lo:=none) (hi:=(some (.const (.int .i64 1)))) (by kernel_rfl) rfl rfl ⟨_,rfl⟩ h_3 rfl) rfl ?_
   obtain ⟨r_4,h_5,H⟩:=bind_inv H
   refine TO_cons rfl (TOp_callV (call_static ent71 rfl) (msRelationIndex_ok _ _ _ h_5) rfl rfl rfl ?_)
   refine Tp rfl rfl (pur_build bld30 rfl rfl) rfl ?_
   refine TO_cons rfl (TOp_alloc zero30 rfl rfl ?_)
   refine TO_cons rfl (TOp_storeB sz30 rfl rfl rfl rfl rfl rfl rfl (by decide) (lb rfl) rfl ?_)
   refine TO_st (σ':=[.box [intA 0,.n],.box [intA r_4,.n]]) rfl ?_
   refine TO_nil (T_seq (sr ?_))
   refine pv tb 1 rfl ?_
   refine TO_nil ?_
   refine T_row0 ?_
   refine T_boxle (xs:=[intA r_4,.n]) (ys:=[intA r_4,.m [2] 0 ([]:(List Int)).length tInt.k]) 1 rfl (leCons (leR rfl) (leCons leM leNil)) ?_
   refine T_st (σ':=[.box [intA 0,.n],.box [intA r_4,.m [2] 0 ([]:(List Int)).length tInt.k],.row (flat tInt.enc ([]:(List Int)))]) rfl ?_
   obtain ⟨_,h_8,H⟩:=bind_inv H
   replace h_8:=gN_inv h_8
   obtain ⟨O7_,L7_,N7_⟩:=bind_inv H
   clear H
   obtain ⟨B7_,hb7,L7_⟩:=gen_forM L7_
   refine T_block ?_
   refine T_loopX (fun k=>fun (⟨i_6,box1_values⟩:Int × (List Int))=>k=((s1.size:Int) - i_6).toNat∧1≤i_6∧forM B7_ ((s1.size:Int) - i_6).toNat i_6 box1_values=some O7_) (fun (⟨i_6,box1_values⟩:Int × (List Int))=>[(0,sl tR l0),(1,strA s1),(4,.b 0 0),(6,.b 1 0),(7,intA (i_6:Int))]) (fun (⟨i_6,box1_values⟩:Int × (List Int))=>[.box [intA 0,.n],.box [intA r_4,.m [2] 0 box1_values.length tInt.k],.row (flat tInt.enc box1_values)]) _ (1,([]:(List Int))) (w0 3) ⟨rfl,Int.le_refl _,L7_⟩ ?_
   rintro _ ⟨i_6,box1_values⟩ ⟨rfl,hi7,L7_⟩
   refine T_seq (sr ?_)
   refine pv tb 2 rfl ?_
   refine Tp rfl rfl (pur_len_s (by kernel_rfl) rfl rfl) rfl ?_
   refine pv tb 1 rfl ?_
   refine TO_nil ?_
   refine T_cond (t:=decide ((i_6:Int)<(s1.size:Int))) rfl (fun d7=>?_) (fun d7=>?_)
   ·replace d7:=of_decide_eq_true d7
    obtain ⟨C7_,H,K7_⟩:=forM_step L7_ d7
    rw [hb7] at H
    refine T_skip ?_
    refine T_seq ?_
    refine T_block ?_
    refine sr ?_
    obtain ⟨b_9,h_10,H⟩:=bind_inv H
    refine pv tb 2 rfl ?_
    refine Tp rfl rfl (pur_ixS (by kernel_rfl) rfl rfl h_10 rfl) rfl ?_
    refine pv tb 1 rfl ?_
    refine TO_nil ?_
    refine T_cond (t:=decide (b_9≠124)) rfl (fun c_11=>?_) (fun c_11=>?_)
    ·replace H:=cond_t c_11 H
     obtain ⟨b_12,h_13,H⟩:=bind_inv H
     obtain ⟨us_14,h_15,H⟩:=bind_inv H
     refine T_pad ?_
     refine T_pad ?_
     refine T_regionPh 3 10 mixed rfl (by kernel_rfl) ?_
     refine pa tb [0,1,2,3] 6 rfl (by kernel_rfl) rfl ?_
     refine tf 4 rfl (pur_ixS (by kernel_rfl) rfl rfl h_13 rfl) rfl rfl (by kernel_rfl) ?_
     refine tf 5 rfl (pur_convI (k:=.i64) (k':=.u8) ⟨_,Tryz.underlying5⟩ Tryz.underlying3 rfl rfl) rfl rfl (by kernel_rfl) ?_
     refine pa tb [6] 3 rfl (by kernel_rfl) rfl ?_
     refine t1 7 (by kernel_rfl) rfl rfl (TOp_lit (nn:=1) (k:=1) sl28 zero3 rfl rfl rfl rfl (by decide) ?_)
     refine tmw 3 5 (by decide) (lb rfl) rfl rfl (lb rfl) rfl ?_
     refine t1 8 (by kernel_rfl) rfl rfl (TOp_appY (T:=tInt) (f:=tInt.enc) (xs:=box1_values) (ys:=([w64 ((w64 b_12) - 48)]:(List Int))) tInt.len sl28 zero3 rfl bytes3 (by decide) rfl rfl rfl rfl (src_mT (f:=tInt.enc) tInt.len rfl rfl (flat_cell tInt _)) (flat_cell tInt _) h_15 ?_)
     refine tmw 4 6 (by decide) (lb rfl) rfl rfl (lb rfl) rfl ?_
     refine tae [(0,sl tR l0),(1,strA s1),(4,.b 0 0),(6,.b 1 0),(7,intA (i_6:Int)),(34,.m [4] 0 us_14.length tInt.k)] rfl ?_
     refine TA_st (σ':=[.dead,.dead,.dead,.row (flat tInt.enc ([w64 ((w64 b_12) - 48)]:(List Int))),.row (flat tInt.enc us_14),.dead,.dead]) rfl ?_
     refine pa tb [9] 0 rfl (by kernel_rfl) rfl ?_
     refine TA_nil (by kernel_rfl) ?_
     refine TA_st (σ':=[.box [intA 0,.n],.box [intA r_4,.m [2] 0 box1_values.length tInt.k],.dead,.row (flat tInt.enc ([w64 ((w64 b_12) - 48)]:(List Int))),.row (flat tInt.enc us_14),.dead,.dead]) rfl ?_
     refine tmv 2 4 (by decide) (lb rfl) rfl rfl (lb rfl) ?_
     refine TA_st (σ':=[.box [intA 0,.n],.box [intA r_4,.j],.row (flat tInt.enc us_14),.row (flat tInt.enc ([w64 ((w64 b_12) - 48)]:(List Int))),.dead,.dead,.dead]) rfl ?_
     refine t1 10 (by kernel_rfl) rfl rfl (TOp_storeB sz28 rfl rfl rfl rfl rfl rfl rfl (by decide) (lb rfl) rfl ?_)
     refine TA_st (σ':=[.box [intA 0,.n],.box [intA r_4,.m [2] 0 us_14.length tInt.k],.row (flat tInt.enc us_14),.row (flat tInt.enc ([w64 ((w64 b_12) - 48)]:(List Int))),.dead,.dead,.dead]) rfl ?_
     refine TA_nil (by kernel_rfl) ?_
     refine T_region ?_
     refine pv tb 1 rfl ?_
     refine Tp rfl rfl (pur_add rfl rfl rfl (fits64 (by omega) (by omega))) rfl ?_
     refine pv tb 1 rfl ?_
     refine TO_nil ?_
     obtain rfl:=some_inj H
     exact again ((s1.size:Int) - (i_6+1)).toNat (i_6+1,us_14) (by omega) (w0 3) ⟨rfl,by omega,K7_⟩
    ·replace H:=cond_f c_11 H
     refine T_skip ?_
     refine T_region ?_
     refine pv tb 1 rfl ?_
     refine Tp rfl rfl (pur_add rfl rfl rfl (fits64 (by omega) (by omega))) rfl ?_
     refine pv tb 1 rfl ?_
     refine TO_nil ?_
     obtain rfl:=some_inj H
     exact again ((s1.size:Int) - (i_6+1)).toNat (i_6+1,box1_values) (by omega) (w0 3) ⟨rfl,by omega,K7_⟩
   ·replace d7:=of_decide_eq_false d7
    obtain rfl:=forM_end L7_ (by omega)
    refine T_exit ?_
    refine then_exit ?_
    refine then_exit ?_
    refine block_exit ?_
    replace H:=N7_
    refine T_seq (sr ?_)
    obtain ⟨r_16,h_17,H⟩:=bind_inv H
    refine pv tb 2 rfl ?_
    refine TO_cons rfl (TOp_callB (call_static ent38 rfl) (frz_cons (frz_loose rfl) (frz_cons (frzOK_g (frz_cons (frz_loose rfl) (frz_cons (frzTE (T:=tInt) rfl) frz_nil)).1 (frz_cons (frz_loose rfl) (frz_cons (frzTE (T:=tInt) rfl) frz_nil)).2) frz_nil)).1 (frz_cons (frz_loose rfl) (frz_cons (frzOK_g (frz_cons (frz_loose rfl) (frz_cons (frzTE (T:=tInt) rfl) frz_nil)).1 (frz_cons (frz_loose rfl) (frz_cons (frzTE (T:=tInt) rfl) frz_nil)).2) frz_nil)).2 (msFormatFact_ok u _ _ _ h_17) rfl ?_)
    refine pv tb 1 rfl ?_
    refine Tp rfl rfl (pur_neqS rfl rfl rfl) rfl ?_
    refine TO_nil ?_
    refine T_cond (t:=decide (r_16≠s1)) rfl (fun c_18=>?_) (fun c_18=>?_)
    ·replace H:=cond_t c_18 H
     refine sr ?_
     refine Tp rfl rfl (pur_build bld30 rfl rfl) rfl ?_
     refine TO_cons rfl (TOp_storeB sz30 rfl rfl rfl rfl rfl rfl rfl (by decide) (lb rfl) rfl ?_)
     refine TO_st (σ':=[.box [intA 0,.n],.box [intA r_4,.m [2] 0 box1_values.length tInt.k],.row (flat tInt.enc box1_values)]) rfl ?_
     refine pv tb 1 rfl ?_
     refine TO_nil ?_
     refine T_row0 ?_
     refine T_boxle (xs:=[intA 0,.n]) (ys:=[intA 0,.m [3] 0 ([]:(List Int)).length tInt.k]) 0 rfl (leCons (leR rfl) (leCons leM leNil)) ?_
     refine T_st (σ':=[.box [intA 0,.m [3] 0 ([]:(List Int)).length tInt.k],.box [intA r_4,.m [2] 0 box1_values.length tInt.k],.row (flat tInt.enc box1_values),.row (flat tInt.own ([]:(List Int)))]) rfl ?_
     refine T_ret ?_
     refine then_ret ?_
     obtain rfl:=some_inj H
     exact end_pick (.cellK rfl agg30 rfl (lb rfl) (.tmp .nil)) rfl [3] (by decide) rfl rfl rfl rfl rfl rfl
    ·replace H:=cond_f c_18 H
     refine T_skip ?_
     refine sr ?_
     refine pv tb 1 rfl ?_
     refine TO_cons rfl (TOp_storeB sz30 rfl rfl rfl rfl rfl rfl rfl (by decide) (lb rfl) rfl ?_)
     refine TO_st (σ':=[.box [intA r_4,.m [2] 0 box1_values.length tInt.k],.box [intA r_4,.m [2] 0 box1_values.length tInt.k],.row (flat tInt.enc box1_values)]) rfl ?_
     refine pv tb 1 rfl ?_
     refine TO_nil ?_
     refine T_ret ?_
     obtain rfl:=some_inj H
     exact end_pick (.cellK rfl agg30 rfl (lb rfl) (.tmp .nil)) rfl [2] (by decide) rfl rfl rfl rfl rfl rfl
theorem msParseFact_ok (u:Nat) (l0:(List Relation)) (s1:ByteArray) (r:(Fact × Bool)) (H:msParseFact u l0 s1=some r):FnV prg 37 [sl tR l0,strA s1] (.t [.g (tF.enc r.1),boolA r.2]):=(msParseFact_own u l0 s1 r H).frz (frzOK_t (frz_cons (frzOK_g (frz_cons (frz_loose rfl) (frz_cons (frzT (T:=tInt) rfl) frz_nil)).1 (frz_cons (frz_loose rfl) (frz_cons (frzT (T:=tInt) rfl) frz_nil)).2) (frz_cons (frz_loose rfl) frz_nil)).1 (frz_cons (frzOK_g (frz_cons (frz_loose rfl) (frz_cons (frzT (T:=tInt) rfl) frz_nil)).1 (frz_cons (frz_loose rfl) (frz_cons (frzT (T:=tInt) rfl) frz_nil)).2) (frz_cons (frz_loose rfl) frz_nil)).2)

theorem msParseEdit_own (u:Nat) (d0:Database) (s1:ByteArray) (r:(Edit × Bool)) (H:msParseEdit u d0 s1=some r):FnO prg 13 [.g (tD.enc d0),strA s1] (.t [.g [intA r.1.kind,intA r.1.fact.relation,.m [0] 0 r.1.fact.values.length tInt.k],boolA r.2]) [.row (flat tInt.own r.1.fact.values)]:=by
  unfold msParseEdit at H
  refine fnO_of_T Tryz.func13 rfl rfl (Nat.le_of_ble_eq_true rfl) ?_
  refine te [(0,.g (tD.enc d0)),(1,strA s1)] rfl ?_
  refine sr ?_
  refine TO_cons rfl (TOp_box rfl (boxAll rfl) rfl rfl ?_)
  refine TO_cons rfl (TOp_alloc zero32 rfl rfl ?_)
  refine pv tb 1 rfl ?_
  refine TO_nil (T_seq (sr ?_))
  refine pv tb 1 rfl ?_
  refine TO_nil ?_
  obtain ⟨O1_,L1_,N1_⟩:=bind_inv H
  clear H
  obtain ⟨B1_,hb1,L1_⟩:=gen_whileF L1_
  refine T_block ?_
  refine T_loopX (fun k=>fun (k6:Int)=>whileF B1_ k k6=some O1_) (fun (k6:Int)=>[(1,strA s1),(2,.b 0 0),(4,.b 1 0),(6,intA k6)]) (fun (k6:Int)=>[.box [sl tR d0.relations,sl tF d0.facts],.box [intA 0,intA 0,.n]]) u 1 (w0 2) L1_ ?_
  rintro _ k6 L1_
  obtain ⟨k1,rfl,C1_,H,K1_⟩:=while_step L1_
  rw [hb1] at H
  refine T_seq ?_
  refine T_cutX (fun x=>((decide (k6≤3)) && (decide (s1≠(⟨#[]⟩:ByteArray))))=x) (fun (t15_2:Bool)=>[(1,strA s1),(2,.b 0 0),(4,.b 1 0),(6,intA k6),(15,boolA t15_2)]) (fun (t15_2:Bool)=>[.box [sl tR d0.relations,sl tF d0.facts],.box [intA 0,intA 0,.n]]) ?_ ?_
  ·skip
   refine T_region ?_
   refine pv tb 3 rfl ?_
   refine TO_split (t:=decide (k6≤3)) 12 rfl (fun g_4=>?_) (fun g_4=>?_)
   ·skip
    refine pv tb 1 rfl ?_
    refine TO_on rfl rfl (by decide) rfl rfl (TOp_pure (pur_neqS rfl rfl rfl) rfl ?_)
    refine pv tb 1 rfl ?_
    refine TO_nil ?_
    exact joined (decide (s1≠(⟨#[]⟩:ByteArray))) (w0 2) (by first | exact Eq.symm ((and_T g_4 rfl)))
   ·skip
    refine pv tb 3 rfl ?_
    refine TO_nil ?_
    exact joined false (w0 2) (by first | exact Eq.symm ((and_F g_4 rfl)))
  ·rintro _ rfl
   refine T_cond (t:=((decide (k6≤3)) && (decide (s1≠(⟨#[]⟩:ByteArray))))) rfl (fun c_5=>?_) (fun c_5=>?_)
   ·replace H:=cond_t c_5 H
    refine T_skip ?_
    refine T_seq ?_
    refine T_block ?_
    obtain ⟨ss_6,h_7,H⟩:=bind_inv H
    obtain ⟨r_8,h_9,H⟩:=bind_inv H
    refine T_pad ?_
    refine T_pad ?_
    refine T_pad ?_
    refine T_cutX (fun (_:Unit)=>True) (fun _=>[(1,strA s1),(2,.b 0 0),(4,.b 1 0),(6,intA k6),(7,.b 5 0),(8,boolA r_8.2)]) (fun _=>[.box [sl tR d0.relations,sl tF d0.facts],.box [intA 0,intA 0,.n],.row (flat tInt.own r_8.1.values),.dead,.dead,.box [intA r_8.1.relation,.m [2] 0 r_8.1.values.length tInt.k]]) ?_ ?_
    ·skip
     refine T_regionP 2 mixed rfl ?_
     refine TA_have 2 #[true,true,true,true,true,true,true,true,true,false,false] [(1,strA s1),(2,.b 0 0),(4,.b 1 0),(6,intA k6),(7,.b 5 0),(24,.g [intA r_8.1.relation,.m [3] 0 r_8.1.values.length tInt.k]),(25,boolA r_8.2)] [.dead,.dead,.dead,.row (flat tInt.own r_8.1.values),.dead,.box [intA 0,.n]] ?_ (fun hj0_4=>?_)
     ·skip
      refine t1 9 (by kernel_rfl) rfl rfl (TOp_storeB sz30 rfl rfl rfl rfl rfl rfl rfl (by decide) (lb rfl) rfl ?_)
      refine TA_st (σ':=[.dead,.dead,.dead,.row (flat tInt.own r_8.1.values),.dead,.box [intA r_8.1.relation,.m [3] 0 r_8.1.values.length tInt.k]]) rfl ?_
      refine pa tb [10] 0 rfl (by kernel_rfl) rfl ?_
      refine TA_ghost (E':=[(1,strA s1),(2,.b 0 0),(4,.b 1 0),(6,intA k6),(7,.b 5 0),(8,boolA r_8.2)]) (σ':=[.dead,.dead,.row (flat tInt.own r_8.1.values),.dead,.dead,.box [intA r_8.1.relation,.m [2] 0 r_8.1.values.length tInt.k]]) (Ghost.move 2 3 (by decide) (lb rfl) rfl rfl (lb rfl) (Ghost.weak (WeakL.to 6 (lb rfl) rfl rfl rfl rfl ⟨leR rfl,leR rfl,leR rfl,leR rfl,leR rfl,leR rfl,trivial⟩))) ?_
      exact TA_nil (by kernel_rfl) (joined () (w0 6) trivial)
     refine pa tb [0,1,2] 8 rfl (by kernel_rfl) rfl ?_
     refine tf 3 rfl (pur_cutB (lo:=(some (.const (.int .i64 1)))) (hi:=none) (by kernel_rfl) rfl ⟨_,rfl⟩ rfl h_7 rfl) rfl rfl (by kernel_rfl) ?_
     refine TA_all [4,8] (by kernel_rfl) (by decide) ⟨?_,?_,trivial⟩
     ·skip
      refine ⟨_,rfl,rfl,TOp_callO (call_static ent37 rfl) rfl (msParseFact_own u _ _ _ h_9) rfl rfl rfl ?_⟩
      refine tae [(1,strA s1),(2,.b 0 0),(4,.b 1 0),(6,intA k6),(19,.b 0 0),(20,sl tR d0.relations),(21,strA s1),(22,strA ss_6),(23,.t [.g [intA r_8.1.relation,.m [5] 0 r_8.1.values.length tInt.k],boolA r_8.2])] rfl ?_
      refine TA_st (σ':=[.dead,.dead,.dead,.dead,.dead,.row (flat tInt.own r_8.1.values)]) rfl ?_
      refine TA_ghost (E':=[(1,strA s1),(2,.b 0 0),(4,.b 1 0),(6,intA k6),(19,.b 0 0),(20,sl tR d0.relations),(21,strA s1),(22,strA ss_6),(23,.t [.g [intA r_8.1.relation,.m [3] 0 r_8.1.values.length tInt.k],boolA r_8.2])]) (σ':=[.dead,.dead,.dead,.row (flat tInt.own r_8.1.values),.dead]) (Ghost.move 3 5 (by decide) (lb rfl) rfl rfl (lb rfl) (Ghost.weak (WeakL.to 5 (lb rfl) rfl rfl rfl rfl ⟨leR rfl,leR rfl,leR rfl,leR rfl,leR rfl,leR rfl,leR rfl,leR rfl,leR rfl,trivial⟩))) ?_
      refine pa tb [5,6,7] 3 rfl (by kernel_rfl) rfl ?_
      refine t1 8 (by kernel_rfl) rfl rfl (TOp_alloc zero30 rfl rfl ?_)
      refine tae [(1,strA s1),(2,.b 0 0),(4,.b 1 0),(6,intA k6),(7,.b 5 0),(24,.g [intA r_8.1.relation,.m [3] 0 r_8.1.values.length tInt.k]),(25,boolA r_8.2)] rfl ?_
      refine TA_st (σ':=[.dead,.dead,.dead,.row (flat tInt.own r_8.1.values),.dead,.box [intA 0,.n]]) rfl ?_
      exact tj hj0_4 rfl (w0 6)
     ·skip
      refine ⟨_,rfl,rfl,TOp_alloc zero30 rfl rfl ?_⟩
      refine t1 4 (by kernel_rfl) rfl rfl (TOp_callO (call_static ent37 rfl) rfl (msParseFact_own u _ _ _ h_9) rfl rfl rfl ?_)
      refine tae [(1,strA s1),(2,.b 0 0),(4,.b 1 0),(6,intA k6),(7,.b 5 0),(19,.b 0 0),(20,sl tR d0.relations),(21,strA s1),(22,strA ss_6),(23,.t [.g [intA r_8.1.relation,.m [6] 0 r_8.1.values.length tInt.k],boolA r_8.2])] rfl ?_
      refine TA_st (σ':=[.dead,.dead,.dead,.dead,.dead,.box [intA 0,.n],.row (flat tInt.own r_8.1.values)]) rfl ?_
      refine TA_ghost (E':=[(1,strA s1),(2,.b 0 0),(4,.b 1 0),(6,intA k6),(7,.b 5 0),(19,.b 0 0),(20,sl tR d0.relations),(21,strA s1),(22,strA ss_6),(23,.t [.g [intA r_8.1.relation,.m [3] 0 r_8.1.values.length tInt.k],boolA r_8.2])]) (σ':=[.dead,.dead,.dead,.row (flat tInt.own r_8.1.values),.dead,.box [intA 0,.n]]) (Ghost.move 3 6 (by decide) (lb rfl) rfl rfl (lb rfl) (Ghost.weak (WeakL.to 6 (lb rfl) rfl rfl rfl rfl ⟨leR rfl,leR rfl,leR rfl,leR rfl,leR rfl,leR rfl,leR rfl,leR rfl,leR rfl,leR rfl,trivial⟩))) ?_
      refine pa tb [5,6,7] 2 rfl (by kernel_rfl) rfl ?_
      exact tj hj0_4 rfl (w0 6)
    ·rintro _ _
     refine sr ?_
     refine pv tb 2 rfl ?_
     refine Tp rfl rfl (pur_build bld32 rfl rfl) rfl ?_
     refine TO_cons rfl (TOp_alloc zero32 rfl rfl ?_)
     refine TO_cons rfl (TOp_storeB sz32 rfl rfl rfl rfl rfl rfl rfl (by decide) (lb rfl) rfl ?_)
     refine TO_st (σ':=[.box [sl tR d0.relations,sl tF d0.facts],.box [intA 0,intA 0,.n],.row (flat tInt.own r_8.1.values),.dead,.dead,.box [intA r_8.1.relation,.m [2] 0 r_8.1.values.length tInt.k],.box [intA k6,intA r_8.1.relation,.m [2] 0 r_8.1.values.length tInt.k]]) rfl ?_
     refine TO_nil ?_
     obtain ⟨t36_10,J_10,H_11⟩:=bind_inv H
     refine T_cutX (fun x=>t36_10=x) (fun (t36_10:Bool)=>[(1,strA s1),(2,.b 0 0),(4,.b 1 0),(6,intA k6),(9,.b 6 0),(36,boolA t36_10)]) (fun (t36_10:Bool)=>[.box [sl tR d0.relations,sl tF d0.facts],.box [intA 0,intA 0,.n],.row (flat tInt.own r_8.1.values),.dead,.dead,.box [intA r_8.1.relation,.m [2] 0 r_8.1.values.length tInt.k],.box [intA k6,intA r_8.1.relation,.m [2] 0 r_8.1.values.length tInt.k]]) ?_ ?_
     ·replace H:=J_10
      refine T_region ?_
      refine pv tb 2 rfl ?_
      refine TO_split (t:=r_8.2) 30 rfl (fun g_12=>?_) (fun g_12=>?_)
      ·replace H:=cond_t g_12 H
       obtain ⟨r_13,h_14,H⟩:=bind_inv H
       refine pv tb 2 rfl ?_
       refine TO_on rfl rfl (by decide) rfl rfl (TOp_callB (call_static ent14 rfl) (frz_cons (frz_loose rfl) (frz_cons (frzOK_g (frz_cons (frz_loose rfl) (frz_cons (frz_loose rfl) (frz_cons (frzT (T:=tInt) rfl) frz_nil))).1 (frz_cons (frz_loose rfl) (frz_cons (frz_loose rfl) (frz_cons (frzT (T:=tInt) rfl) frz_nil))).2) frz_nil)).1 (frz_cons (frz_loose rfl) (frz_cons (frzOK_g (frz_cons (frz_loose rfl) (frz_cons (frz_loose rfl) (frz_cons (frzT (T:=tInt) rfl) frz_nil))).1 (frz_cons (frz_loose rfl) (frz_cons (frz_loose rfl) (frz_cons (frzT (T:=tInt) rfl) frz_nil))).2) frz_nil)).2 (msFormatEdit_ok u _ _ _ h_14) rfl ?_)
       refine pv tb 1 rfl ?_
       refine TO_on rfl rfl (by decide) rfl rfl (TOp_pure (pur_eqlS rfl rfl rfl) rfl ?_)
       refine pv tb 1 rfl ?_
       refine TO_nil ?_
       exact joined (decide (r_13=s1)) (w0 7) (some_inj H).symm
      ·replace H:=cond_f g_12 H
       refine pv tb 6 rfl ?_
       refine TO_nil ?_
       exact joined false (w0 7) (some_inj H).symm
     ·rintro _ rfl
      replace H:=H_11
      refine T_cond (t:=t36_10) rfl (fun c_15=>?_) (fun c_15=>?_)
      ·replace H:=cond_t c_15 H
       refine sr ?_
       refine pv tb 1 rfl ?_
       refine TO_cons rfl (TOp_storeB sz32 rfl rfl rfl rfl rfl rfl rfl (by decide) (lb rfl) rfl ?_)
       refine TO_st (σ':=[.box [sl tR d0.relations,sl tF d0.facts],.box [intA k6,intA r_8.1.relation,.m [2] 0 r_8.1.values.length tInt.k],.row (flat tInt.own r_8.1.values),.dead,.dead,.box [intA r_8.1.relation,.m [2] 0 r_8.1.values.length tInt.k],.box [intA k6,intA r_8.1.relation,.m [2] 0 r_8.1.values.length tInt.k]]) rfl ?_
       refine pv tb 1 rfl ?_
       refine TO_nil ?_
       refine T_ret ?_
       refine block_ret ?_
       refine then_ret ?_
       refine then_ret ?_
       refine block_ret ?_
       refine then_ret ?_
       obtain rfl:=some_inj H
       obtain rfl:=some_inj K1_
       replace H:=onS_r N1_
       obtain rfl:=some_inj H
       exact end_pick (.cellK rfl agg32 rfl (lb rfl) (.tmp .nil)) rfl [2] (by decide) rfl rfl rfl rfl rfl rfl
      ·replace H:=cond_f c_15 H
       refine T_skip ?_
       refine T_region ?_
       refine pv tb 3 rfl ?_
       refine TO_nil ?_
       obtain rfl:=some_inj H
       exact again k1 (w64 (k6+1)) (Nat.lt_succ_self _) (w0 2) K1_
   ·replace H:=cond_f c_5 H
    refine T_exit ?_
    refine then_exit ?_
    refine then_exit ?_
    refine block_exit ?_
    obtain rfl:=some_inj H
    obtain rfl:=some_inj K1_
    replace H:=onS_l N1_
    refine sr ?_
    refine Tp rfl rfl (pur_build bld32 rfl rfl) rfl ?_
    refine TO_cons rfl (TOp_storeB sz32 rfl rfl rfl rfl rfl rfl rfl (by decide) (lb rfl) rfl ?_)
    refine TO_st (σ':=[.box [sl tR d0.relations,sl tF d0.facts],.box [intA 0,intA 0,.n]]) rfl ?_
    refine pv tb 1 rfl ?_
    refine TO_nil ?_
    refine T_row0 ?_
    refine T_boxle (xs:=[intA 0,intA 0,.n]) (ys:=[intA 0,intA 0,.m [2] 0 ([]:(List Int)).length tInt.k]) 1 rfl (leCons (leR rfl) (leCons (leR rfl) (leCons leM leNil))) ?_
    refine T_st (σ':=[.box [sl tR d0.relations,sl tF d0.facts],.box [intA 0,intA 0,.m [2] 0 ([]:(List Int)).length tInt.k],.row (flat tInt.own ([]:(List Int)))]) rfl ?_
    refine T_ret ?_
    obtain rfl:=some_inj H
    exact end_pick (.cellK rfl agg32 rfl (lb rfl) (.tmp .nil)) rfl [2] (by decide) rfl rfl rfl rfl rfl rfl
theorem msParseEdit_ok (u:Nat) (d0:Database) (s1:ByteArray) (r:(Edit × Bool)) (H:msParseEdit u d0 s1=some r):FnV prg 13 [.g (tD.enc d0),strA s1] (.t [.g (tEdit.enc r.1),boolA r.2]):=(msParseEdit_own u d0 s1 r H).frz (frzOK_t (frz_cons (frzOK_g (frz_cons (frz_loose rfl) (frz_cons (frz_loose rfl) (frz_cons (frzT (T:=tInt) rfl) frz_nil))).1 (frz_cons (frz_loose rfl) (frz_cons (frz_loose rfl) (frz_cons (frzT (T:=tInt) rfl) frz_nil))).2) (frz_cons (frz_loose rfl) frz_nil)).1 (frz_cons (frzOK_g (frz_cons (frz_loose rfl) (frz_cons (frz_loose rfl) (frz_cons (frzT (T:=tInt) rfl) frz_nil))).1 (frz_cons (frz_loose rfl) (frz_cons (frz_loose rfl) (frz_cons (frzT (T:=tInt) rfl) frz_nil))).2) (frz_cons (frz_loose rfl) frz_nil)).2)

theorem miApplyEdits_ok (u:Nat) (db0:Database) (edits1:(List Edit)) (r:(Database × Int)) (H:miApplyEdits u db0 edits1=some r):FnV prg 16 [.g (tD.enc db0),sl tEdit edits1] (.t [.g (tD.enc r.1),intA r.2]):=by
  unfold miApplyEdits at H
  refine fnV_of_T Tryz.func16 rfl rfl (Nat.le_of_ble_eq_true rfl) ?_
  refine te [(0,.g (tD.enc db0)),(1,sl tEdit edits1)] rfl ?_
  refine sr ?_
  refine TO_cons rfl (TOp_box rfl (boxAll rfl) rfl rfl ?_)
  refine TO_cons rfl (TOp_alloc zero27 rfl rfl ?_)
  refine pv tb 1 rfl ?_
  refine TO_nil (sr ?_)
  obtain ⟨r_1,h_2,H⟩:=bind_inv H
  refine pv tb 1 rfl ?_
  refine TO_cons rfl (TOp_callV (call_static ent21 rfl) (micopyDatabase_ok _ _ h_2) rfl rfl rfl ?_)
  refine TO_cons rfl (TOp_alloc zero27 rfl rfl ?_)
  refine TO_cons rfl (TOp_storeB sz27 rfl rfl rfl rfl rfl rfl rfl (by decide) (lb rfl) rfl ?_)
  refine TO_st (σ':=[.box [sl tR db0.relations,sl tF db0.facts],.box [.n,.n],.box [sl tR r_1.relations,sl tF r_1.facts]]) rfl ?_
  refine pv tb 1 rfl ?_
  refine TO_nil (T_seq (sr ?_))
  refine pv tb 1 rfl ?_
  refine Tp rfl rfl (pur_lenT (T:=tEdit) sl37 rfl rfl) rfl ?_
  refine pv tb 1 rfl ?_
  refine TO_nil ?_
  obtain ⟨O4_,L4_,N4_⟩:=bind_inv H
  clear H
  obtain ⟨B4_,hb4,L4_⟩:=gen_forS L4_
  refine T_block ?_
  refine T_loopX (fun k=>fun (⟨t_3,count7,box2⟩:Nat × Int × Database)=>k=edits1.length - t_3∧forS B4_ (edits1.drop t_3) (t_3:Int) (count7,box2)=some O4_) (fun (⟨t_3,count7,box2⟩:Nat × Int × Database)=>[(4,.b 1 0),(6,.b 2 0),(7,intA count7),(14,sl tEdit edits1),(15,intA (edits1.length:Int)),(16,intA (t_3:Int))]) (fun (⟨t_3,count7,box2⟩:Nat × Int × Database)=>[.box [sl tR db0.relations,sl tF db0.facts],.box [.n,.n],.box [sl tR box2.relations,sl tF box2.facts]]) _ (0,(0,r_1)) (w0 3) ⟨rfl,L4_⟩ ?_
  rintro _ ⟨t_3,count7,box2⟩ ⟨rfl,L4_⟩
  refine T_fact (len_sl (T:=tEdit) (.tmp 14) rfl) (fun hl4=>?_)
  refine sr ?_
  refine pv tb 1 rfl ?_
  refine TO_nil (T_seq ?_)
  refine T_cond (t:=decide ((t_3:Int)<(edits1.length:Int))) rfl (fun d4=>?_) (fun d4=>?_)
  ·replace d4:=of_decide_eq_true d4
   obtain ⟨x_t_3,hx_t_3⟩:∃ v,(edits1)[t_3]?=some v:=⟨_,List.getElem?_eq_getElem (by omega)⟩
   obtain ⟨C4_,H,K4_⟩:=forS_step L4_ hx_t_3
   rw [hb4] at H
   refine T_skip ?_
   refine T_seq ?_
   refine T_block ?_
   refine sr ?_
   refine Tp rfl rfl (pur_ixT (T:=tEdit) sl37 rfl rfl rfl hx_t_3 rfl) rfl ?_
   refine Tp rfl rfl (pur_ldTK (T:=tEdit) (i:=t_3) (off:=0) rfl agg32 rfl rfl hx_t_3 (by decide) rfl) rfl ?_
   refine TO_cons rfl (TOp_alloc zero32 rfl rfl ?_)
   refine TO_cons rfl (TOp_storeB sz32 rfl rfl rfl rfl rfl rfl rfl (by decide) (lb rfl) rfl ?_)
   refine TO_st (σ':=[.box [sl tR db0.relations,sl tF db0.facts],.box [.n,.n],.box [sl tR box2.relations,sl tF box2.facts],.box [intA x_t_3.kind,intA x_t_3.fact.relation,sl tInt x_t_3.fact.values]]) rfl ?_
   refine TO_nil (sr ?_)
   obtain ⟨r_5,h_6,H⟩:=bind_inv H
   refine pv tb 2 rfl ?_
   refine TO_cons rfl (TOp_callV (call_static ent6 rfl) (miApplyEdit_ok u _ _ _ h_6) rfl rfl rfl ?_)
   refine pv tb 3 rfl ?_
   refine TO_cons rfl (TOp_alloc zero27 rfl rfl ?_)
   refine TO_cons rfl (TOp_storeB sz27 rfl rfl rfl rfl rfl rfl rfl (by decide) (lb rfl) rfl ?_)
   refine TO_st (σ':=[.box [sl tR db0.relations,sl tF db0.facts],.box [.n,.n],.box [sl tR box2.relations,sl tF box2.facts],.box [intA x_t_3.kind,intA x_t_3.fact.relation,sl tInt x_t_3.fact.values],.box [sl tR r_5.1.relations,sl tF r_5.1.facts]]) rfl ?_
   refine pv tb 1 rfl ?_
   refine TO_nil (sr ?_)
   refine pv tb 1 rfl ?_
   refine TO_nil ?_
   refine T_cond (t:=r_5.2) rfl (fun c_7=>?_) (fun c_7=>?_)
   ·replace H:=cond_t c_7 H
    refine sr ?_
    refine pv tb 1 rfl ?_
    refine TO_cons rfl (TOp_storeB sz27 rfl rfl rfl rfl rfl rfl rfl (by decide) (lb rfl) rfl ?_)
    refine TO_st (σ':=[.box [sl tR db0.relations,sl tF db0.facts],.box [.n,.n],.box [sl tR r_5.1.relations,sl tF r_5.1.facts],.box [intA x_t_3.kind,intA x_t_3.fact.relation,sl tInt x_t_3.fact.values],.box [sl tR r_5.1.relations,sl tF r_5.1.facts]]) rfl ?_
    refine TO_nil (T_region ?_)
    refine pv tb 3 rfl ?_
    refine TO_nil ?_
    refine te [(4,.b 1 0),(6,.b 2 0),(7,intA (w64 (count7+1))),(14,sl tEdit edits1),(15,intA (edits1.length:Int)),(16,intA (t_3:Int))] rfl ?_
    refine T_region ?_
    refine Tp rfl rfl (pur_add rfl rfl rfl (fits64 (by omega) (by omega))) rfl ?_
    refine pv tb 1 rfl ?_
    refine TO_nil ?_
    obtain rfl:=some_inj H
    exact again (edits1.length - (t_3+1)) (t_3+1,((w64 (count7+1)),r_5.1)) (by omega) (w0 3) ⟨rfl,K4_⟩
   ·replace H:=cond_f c_7 H
    refine T_skip ?_
    refine T_region ?_
    refine Tp rfl rfl (pur_add rfl rfl rfl (fits64 (by omega) (by omega))) rfl ?_
    refine pv tb 1 rfl ?_
    refine TO_nil ?_
    obtain rfl:=some_inj H
    exact again (edits1.length - (t_3+1)) (t_3+1,(count7,box2)) (by omega) (w0 3) ⟨rfl,K4_⟩
  ·replace d4:=of_decide_eq_false d4
   obtain rfl:=forS_end L4_ (by omega)
   refine T_exit ?_
   refine then_exit ?_
   refine then_exit ?_
   refine block_exit ?_
   replace H:=N4_
   refine sr ?_
   refine pv tb 2 rfl ?_
   refine TO_cons rfl (TOp_storeB sz27 rfl rfl rfl rfl rfl rfl rfl (by decide) (lb rfl) rfl ?_)
   refine TO_st (σ':=[.box [sl tR db0.relations,sl tF db0.facts],.box [sl tR box2.relations,sl tF box2.facts],.box [sl tR box2.relations,sl tF box2.facts]]) rfl ?_
   refine pv tb 1 rfl ?_
   refine TO_nil ?_
   refine T_ret ?_
   obtain rfl:=some_inj H
   refine end_ret (.cellK rfl agg27 rfl (lb rfl) (.tmp .nil)) rfl rfl ⟨?_,rfl⟩
   rfl
end Go.Proofs.YtaadmoaanhdboaaGreatDoor

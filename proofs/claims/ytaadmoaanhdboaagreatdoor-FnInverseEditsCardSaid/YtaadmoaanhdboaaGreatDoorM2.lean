import Derived.Test.YtaadmoaanhdboaaGreatDoorM1
set_option linter.unusedVariables false
set_option linter.unusedSimpArgs false
set_option maxRecDepth 4000
set_option maxHeartbeats 1000000
namespace Go.Proofs.YtaadmoaanhdboaaGreatDoor
open Go Go.Proofs Go.Sep
theorem mlbig_ok (code0:(List Int)) (r:Bool) (H:mlbig code0=some r):FnV prg 4 [sl (tI .u8) code0] (boolA r):=by
  unfold mlbig at H
  refine fnV_of_T Tryz.func4 rfl rfl (Nat.le_of_ble_eq_true rfl) ?_
  refine te [(0,sl (tI .u8) code0)] rfl ?_
  refine sr ?_
  refine pv tb 1 rfl ?_
  refine TO_nil (sr ?_)
  refine pv tb 1 rfl ?_
  refine Tp rfl rfl (pur_lenT (T:=(tI .u8)) sl22 rfl rfl) rfl ?_
  refine pv tb 2 rfl ?_
  refine TO_nil ?_
  refine T_ret ?_
  obtain rfl:=some_inj H
  refine end_ret (.tmp .nil) rfl rfl ⟨?_,rfl⟩
  rfl

theorem msl1New_x (u:Nat) (code0:(List Int)) (r:l1Cur) (H:msl1New u code0=some r):FnS prg 31 [sl (tI .u8) code0] [] (.b 0 0) [.box [sl (tI .u8) r.b,intA r.i,intA r.h]]:=by
  unfold msl1New at H
  refine fnS_of_T Tryz.func31 rfl rfl (Nat.le_of_ble_eq_true rfl) ?_
  refine te [(0,sl (tI .u8) code0)] rfl ?_
  refine T_st (σ':=[]) rfl ?_
  refine sr ?_
  refine pv tb 1 rfl ?_
  refine TO_nil (sr ?_)
  refine pv tb 1 rfl ?_
  refine Tp rfl rfl (pur_lenT (T:=(tI .u8)) sl22 rfl rfl) rfl ?_
  refine pv tb 2 rfl ?_
  refine TO_nil (T_seq (sr ?_))
  refine pv tb 1 rfl ?_
  refine TO_nil ?_
  obtain ⟨O1_,L1_,N1_⟩:=bind_inv H
  clear H
  obtain ⟨B1_,hb1,L1_⟩:=gen_whileF L1_
  refine T_block ?_
  refine T_loopX (fun k=>fun (⟨h3,i4⟩:Int × Int)=>whileF B1_ k (h3,i4)=some O1_) (fun (⟨h3,i4⟩:Int × Int)=>[(0,sl (tI .u8) code0),(3,intA h3),(4,intA i4)]) (fun (⟨h3,i4⟩:Int × Int)=>[]) u ((w64 (10101+(code0.length:Int))),0) (w0 0) L1_ ?_
  rintro _ ⟨h3,i4⟩ L1_
  obtain ⟨k1,rfl,C1_,H,K1_⟩:=while_step L1_
  rw [hb1] at H
  refine T_seq ?_
  refine T_cutX (fun x=>((decide (i4<(code0.length:Int))) && (decide (i4<4000)))=x) (fun (t15_2:Bool)=>[(0,sl (tI .u8) code0),(3,intA h3),(4,intA i4),(15,boolA t15_2)]) (fun (t15_2:Bool)=>[]) ?_ ?_
  ·skip
   refine T_region ?_
   refine pv tb 2 rfl ?_
   refine Tp rfl rfl (pur_lenT (T:=(tI .u8)) sl22 rfl rfl) rfl ?_
   refine pv tb 2 rfl ?_
   refine TO_split (t:=decide (i4<(code0.length:Int))) 12 rfl (fun g_4=>?_) (fun g_4=>?_)
   ·skip
    refine pv tb 3 rfl ?_
    refine TO_nil ?_
    exact joined (decide (i4<4000)) (w0 0) (by first | exact Eq.symm ((and_T g_4 rfl)))
   ·skip
    refine pv tb 3 rfl ?_
    refine TO_nil ?_
    exact joined false (w0 0) (by first | exact Eq.symm ((and_F g_4 rfl)))
  ·rintro _ rfl
   refine T_cond (t:=((decide (i4<(code0.length:Int))) && (decide (i4<4000)))) rfl (fun c_5=>?_) (fun c_5=>?_)
   ·replace H:=cond_t c_5 H
    refine T_skip ?_
    refine T_seq ?_
    refine T_block ?_
    refine T_region ?_
    obtain ⟨v_6,h_7,H⟩:=bind_inv H
    obtain ⟨n_8,hz_9,hv_10⟩:=getI_inv h_7
    refine pv tb 4 rfl ?_
    refine Tp rfl rfl (pur_ixT (T:=(tI .u8)) sl22 rfl rfl hz_9 hv_10 rfl) rfl ?_
    refine Tp rfl rfl (pur_ldT (T:=(tI .u8)) (i:=n_8) (off:=0) rfl one5 rfl rfl hv_10 rfl) rfl ?_
    refine Tp rfl rfl (pur_convI (k:=.i64) (k':=.u8) ⟨_,Tryz.underlying5⟩ Tryz.underlying3 rfl rfl) rfl ?_
    refine pv tb 2 rfl ?_
    refine Tp rfl rfl (pur_and rfl rfl rfl) rfl ?_
    refine pv tb 1 rfl ?_
    refine TO_nil (T_region ?_)
    refine pv tb 3 rfl ?_
    refine TO_nil ?_
    obtain rfl:=some_inj H
    exact again k1 ((bitI .and .i64 (w64 ((w64 ((w64 (h3*131))+(w64 v_6)))+7)) 1073741823),w64 (i4+1)) (Nat.lt_succ_self _) (w0 0) K1_
   ·replace H:=cond_f c_5 H
    refine T_exit ?_
    refine then_exit ?_
    refine then_exit ?_
    refine block_exit ?_
    obtain rfl:=some_inj H
    obtain rfl:=some_inj K1_
    replace H:=onS_l N1_
    refine sr ?_
    refine pv tb 2 rfl ?_
    refine Tp rfl rfl (pur_build bld83 rfl rfl) rfl ?_
    refine TO_cons rfl (TOp_box rfl (boxAll rfl) rfl rfl ?_)
    refine pv tb 1 rfl ?_
    refine TO_nil ?_
    refine T_ret ?_
    obtain rfl:=some_inj H
    exact end_pickX (.tmp .nil) rfl [0] (by decide) (lb rfl) rfl (lb rfl) rfl rfl rfl rfl rfl rfl

theorem msl4Copy_own (u:Nat) (d0:Database) (r:Database) (H:msl4Copy u d0=some r):FnO prg 22 [.g (tD.enc d0)] (.g [.m [0] 0 r.relations.length tR.k,.m [1] 0 r.facts.length tF.k]) [.row (flat tR.own r.relations),.row (flat tF.own r.facts)]:=by
  unfold msl4Copy at H
  refine fnO_of_T Tryz.func22 rfl rfl (Nat.le_of_ble_eq_true rfl) ?_
  refine te [(0,.g (tD.enc d0))] rfl ?_
  refine sr ?_
  refine TO_cons rfl (TOp_box rfl (boxAll rfl) rfl rfl ?_)
  refine TO_cons rfl (TOp_alloc zero27 rfl rfl ?_)
  refine TO_nil (sr ?_)
  refine TO_cons rfl (TOp_lit (nn:=0) (k:=3) sl24 zero53 rfl rfl rfl rfl (by decide) ?_)
  refine TO_st (σ':=[.box [sl tR d0.relations,sl tF d0.facts],.box [.n,.n],.row (flat tR.enc ([]:(List Relation)))]) rfl ?_
  obtain ⟨us_1,h_2,H⟩:=bind_inv H
  refine pv tb 2 rfl ?_
  refine TO_cons rfl (TOp_appZ (T:=tR) (f:=tR.enc) (xs:=([]:(List Relation))) (ys:=d0.relations) tR.len sl24 zero53 rfl bytes53 (by decide) rfl rfl rfl rfl (src_T (T:=tR) rfl) (flat_cell tR _) h_2 (lb rfl) ?_)
  refine toe [(1,.b 0 0),(2,.b 1 0),(6,.b 0 0),(7,sl tR d0.relations),(8,.m [2] 0 us_1.length tR.k)] rfl ?_
  refine TO_st (σ':=[.box [sl tR d0.relations,sl tF d0.facts],.box [.n,.n],.row (flat tR.enc us_1),.dead]) rfl ?_
  refine Tp rfl rfl (pur_build bld27 rfl rfl) rfl ?_
  refine TO_cons rfl (TOp_alloc zero27 rfl rfl ?_)
  refine TO_cons rfl (TOp_storeB sz27 rfl rfl rfl rfl rfl rfl rfl (by decide) (lb rfl) rfl ?_)
  refine TO_st (σ':=[.box [sl tR d0.relations,sl tF d0.facts],.box [.n,.n],.row (flat tR.enc us_1),.dead,.box [.m [2] 0 us_1.length tR.k,.n]]) rfl ?_
  refine TO_nil (T_seq (sr ?_))
  refine pv tb 1 rfl ?_
  refine TO_nil ?_
  refine T_row0 ?_
  refine T_boxle (xs:=[.m [2] 0 us_1.length tR.k,.n]) (ys:=[.m [2] 0 us_1.length tR.k,.m [5] 0 ([]:(List Fact)).length tF.k]) 4 rfl (leCons (leR rfl) (leCons leM leNil)) ?_
  refine T_st (σ':=[.box [sl tR d0.relations,sl tF d0.facts],.box [.n,.n],.row (flat tR.enc us_1),.dead,.box [.m [2] 0 us_1.length tR.k,.m [5] 0 ([]:(List Fact)).length tF.k],.row (flat tF.own ([]:(List Fact)))]) rfl ?_
  obtain ⟨O3_,L3_,N3_⟩:=bind_inv H
  clear H
  obtain ⟨B3_,hb3,L3_⟩:=gen_whileF L3_
  refine T_block ?_
  refine T_loopX (fun k=>fun (⟨i4,box4_facts⟩:Int × (List Fact))=>whileF B3_ k (i4,box4_facts)=some O3_) (fun (⟨i4,box4_facts⟩:Int × (List Fact))=>[(1,.b 0 0),(2,.b 1 0),(3,.b 4 0),(4,intA i4)]) (fun (⟨i4,box4_facts⟩:Int × (List Fact))=>[.box [sl tR d0.relations,sl tF d0.facts],.box [.n,.n],.row (flat tR.enc us_1),.dead,.box [.m [2] 0 us_1.length tR.k,.m [5] 0 box4_facts.length tF.k],.row (flat tF.own box4_facts)]) u (0,([]:(List Fact))) (w0 6) L3_ ?_
  rintro _ ⟨i4,box4_facts⟩ L3_
  obtain ⟨k3,rfl,C3_,H,K3_⟩:=while_step L3_
  rw [hb3] at H
  refine T_seq (sr ?_)
  refine pv tb 3 rfl ?_
  refine Tp rfl rfl (pur_lenT (T:=tF) sl25 rfl rfl) rfl ?_
  refine pv tb 1 rfl ?_
  refine TO_nil ?_
  refine T_cond (t:=decide (i4<(d0.facts.length:Int))) rfl (fun c_4=>?_) (fun c_4=>?_)
  ·replace H:=cond_t c_4 H
   refine T_skip ?_
   refine T_seq ?_
   refine T_block ?_
   obtain ⟨v_5,h_6,H⟩:=bind_inv H
   obtain ⟨n_7,hz_8,hv_9⟩:=getI_inv h_6
   obtain ⟨us_10,h_11,H⟩:=bind_inv H
   obtain ⟨us_12,h_13,H⟩:=bind_inv H
   refine T_pad ?_
   refine T_pad ?_
   refine T_pad ?_
   refine T_pad ?_
   refine T_regionPh 6 20 mixed rfl (by kernel_rfl) ?_
   refine pa tb [0,1,2,3,4] 15 rfl (by kernel_rfl) rfl ?_
   refine tf 5 rfl (pur_ixT (T:=tF) sl25 rfl rfl hz_8 hv_9 rfl) rfl rfl (by kernel_rfl) ?_
   refine pa tb [6] 13 rfl (by kernel_rfl) rfl ?_
   refine tf 7 rfl (pur_ldT (T:=tF) (i:=n_7) (off:=0) rfl one3 rfl rfl hv_9 rfl) rfl rfl (by kernel_rfl) ?_
   refine pa tb [9,10,11] 9 rfl (by kernel_rfl) rfl ?_
   refine tf 12 rfl (pur_ixT (T:=tF) sl25 rfl rfl hz_8 hv_9 rfl) rfl rfl (by kernel_rfl) ?_
   refine pa tb [13] 7 rfl (by kernel_rfl) rfl ?_
   refine tf 14 rfl (pur_ldT (T:=tF) (i:=n_7) (off:=1) rfl one28 rfl rfl hv_9 rfl) rfl rfl (by kernel_rfl) ?_
   refine t1 8 (by kernel_rfl) rfl rfl (TOp_lit (nn:=0) (k:=1) sl28 zero3 rfl rfl rfl rfl (by decide) ?_)
   refine tmw 6 10 (by decide) (lb rfl) rfl rfl (lb rfl) rfl ?_
   refine t1 15 (by kernel_rfl) rfl rfl (TOp_appY (T:=tInt) (f:=tInt.enc) (xs:=([]:(List Int))) (ys:=v_5.values) tInt.len sl28 zero3 rfl bytes3 (by decide) rfl rfl rfl rfl (src_T (T:=tInt) rfl) (flat_cell tInt _) h_11 ?_)
   refine tmw 6 11 (by decide) (lb rfl) rfl rfl (lb rfl) rfl ?_
   refine tae [(1,.b 0 0),(2,.b 1 0),(3,.b 4 0),(4,intA i4),(18,.m [5] 0 box4_facts.length tF.k),(24,intA v_5.relation),(32,.m [6] 0 us_10.length tInt.k)] rfl ?_
   refine TA_st (σ':=[.dead,.dead,.row (flat tR.enc us_1),.dead,.dead,.row (flat tF.own box4_facts),.row (flat tInt.enc us_10),.dead,.dead,.dead,.dead,.dead]) rfl ?_
   refine tf 16 rfl (pur_build bld30 rfl rfl) rfl rfl (by kernel_rfl) ?_
   refine t1 17 (by kernel_rfl) rfl rfl (TOp_ghost (E':=[(1,.b 0 0),(2,.b 1 0),(3,.b 4 0),(4,intA i4),(18,.m [5] 0 box4_facts.length tF.k),(33,.g [intA v_5.relation,.m [6] 0 us_10.length tInt.k])]) (σ':=[.dead,.dead,.row (flat tR.enc us_1),.dead,.dead,.row (flat tF.own box4_facts),.row (flat tInt.enc us_10),.dead,.dead,.dead]) (by exact Ghost.weak (w0 10)) (TOp_litB (nn:=1) (k:=2) sl25 zero30 rfl rfl rfl rfl (by decide) ?_))
   refine TA_st (σ':=[.dead,.dead,.row (flat tR.enc us_1),.dead,.dead,.row (flat tF.own box4_facts),.row (flat tInt.enc us_10),.dead,.dead,.dead,.box [intA v_5.relation,.m [6] 0 us_10.length tInt.k]]) rfl ?_
   refine tmw 9 5 (by decide) (lb rfl) rfl rfl (lb rfl) rfl ?_
   refine t1 18 (by kernel_rfl) rfl rfl (TOp_boxify 9 rfl (lb rfl) (TOp_appB (T:=tF) (xs:=box4_facts) (v:=({ relation:=v_5.relation,values:=us_10 }:Fact)) sl25 zero30 rfl bytes30 (by decide) rfl rfl rfl rfl rfl rfl rfl rfl h_13 (lb rfl) ?_))
   refine tae [(1,.b 0 0),(2,.b 1 0),(3,.b 4 0),(4,intA i4),(35,.m [11] 0 (box4_facts.length+1) tF.k)] rfl ?_
   refine TA_st (σ':=[.dead,.dead,.row (flat tR.enc us_1),.dead,.dead,.dead,.row (flat tInt.enc us_10),.dead,.dead,.dead,.box [intA v_5.relation,.m [6] 0 us_10.length tInt.k],.box (flat tF.own box4_facts++[intA v_5.relation,.m [6] 0 us_10.length tInt.k])]) rfl ?_
   refine TA_absorbA (pr:=flat tF.own box4_facts) 11 1 6 rfl rfl rfl (by decide) tInt.pos (flat_len tInt.len _) (lb rfl) (lb rfl) rfl (nms_dead (nms_dead (nms_row (nms_dead (nms_dead (nms_dead (nms_row (nms_dead (nms_dead (nms_dead (nms_box rfl (nms_box (namesA namesL_own rfl) nms_nil)))))))))))) ?_
   refine TA_st (σ':=[.dead,.dead,.row (flat tR.enc us_1),.dead,.dead,.dead,.dead,.dead,.dead,.dead,.box [intA v_5.relation,.m [6] 0 us_10.length tInt.k],.box (flat tF.own box4_facts++[intA v_5.relation,.o tInt.k (flat tInt.enc us_10)])]) rfl ?_
   refine TA_rowifyT (T:=tF) (xs:=box4_facts) (v:=({ relation:=v_5.relation,values:=us_10 }:Fact)) 11 rfl rfl h_13 (lb rfl) ?_
   refine TA_st (σ':=[.dead,.dead,.row (flat tR.enc us_1),.dead,.dead,.dead,.dead,.dead,.dead,.dead,.box [intA v_5.relation,.m [6] 0 us_10.length tInt.k],.row (flat tF.own us_12)]) rfl ?_
   refine TA_move 9 11 (by decide) (lb rfl) rfl rfl (lb rfl) ?_
   refine TA_env (E':=[(1,.b 0 0),(2,.b 1 0),(3,.b 4 0),(4,intA i4),(35,.m [9] 0 us_12.length tF.k)]) ⟨rfl,rfl,rfl,rfl,congrArg (fun q=>A.m [9] 0 q tF.k) (app_len h_13),trivial⟩ ?_
   refine TA_kill 10 (lb rfl) ?_
   refine TA_st (σ':=[.dead,.dead,.row (flat tR.enc us_1),.dead,.dead,.dead,.dead,.dead,.dead,.row (flat tF.own us_12),.dead,.dead]) rfl ?_
   refine pa tb [19] 0 rfl (by kernel_rfl) rfl ?_
   refine TA_nil (by kernel_rfl) ?_
   refine TA_st (σ':=[.box [sl tR d0.relations,sl tF d0.facts],.box [.n,.n],.row (flat tR.enc us_1),.dead,.box [.m [2] 0 us_1.length tR.k,.m [5] 0 box4_facts.length tF.k],.dead,.dead,.dead,.dead,.row (flat tF.own us_12),.dead,.dead]) rfl ?_
   refine tmv 5 9 (by decide) (lb rfl) rfl rfl (lb rfl) ?_
   refine TA_st (σ':=[.box [sl tR d0.relations,sl tF d0.facts],.box [.n,.n],.row (flat tR.enc us_1),.dead,.box [.m [2] 0 us_1.length tR.k,.j],.row (flat tF.own us_12),.dead,.dead,.dead,.dead,.dead,.dead]) rfl ?_
   refine t1 20 (by kernel_rfl) rfl rfl (TOp_storeB sz25 rfl rfl rfl rfl rfl rfl rfl (by decide) (lb rfl) rfl ?_)
   refine TA_st (σ':=[.box [sl tR d0.relations,sl tF d0.facts],.box [.n,.n],.row (flat tR.enc us_1),.dead,.box [.m [2] 0 us_1.length tR.k,.m [5] 0 us_12.length tF.k],.row (flat tF.own us_12),.dead,.dead,.dead,.dead,.dead,.dead]) rfl ?_
   refine TA_nil (by kernel_rfl) ?_
   refine T_region ?_
   refine pv tb 3 rfl ?_
   refine TO_nil ?_
   obtain rfl:=some_inj H
   exact again k3 ((w64 (i4+1)),us_12) (Nat.lt_succ_self _) (w0 6) K3_
  ·replace H:=cond_f c_4 H
   refine T_exit ?_
   refine then_exit ?_
   refine then_exit ?_
   refine block_exit ?_
   obtain rfl:=some_inj H
   obtain rfl:=some_inj K3_
   replace H:=onS_l N3_
   refine sr ?_
   refine pv tb 1 rfl ?_
   refine TO_cons rfl (TOp_storeB sz27 rfl rfl rfl rfl rfl rfl rfl (by decide) (lb rfl) rfl ?_)
   refine TO_st (σ':=[.box [sl tR d0.relations,sl tF d0.facts],.box [.m [2] 0 us_1.length tR.k,.m [5] 0 box4_facts.length tF.k],.row (flat tR.enc us_1),.dead,.box [.m [2] 0 us_1.length tR.k,.m [5] 0 box4_facts.length tF.k],.row (flat tF.own box4_facts)]) rfl ?_
   refine TO_nil ?_
   refine T_ret ?_
   obtain rfl:=some_inj H
   exact end_pick (.cellK rfl agg27 rfl (lb rfl) .nil) rfl [2,5] (by decide) rfl rfl rfl rfl rfl rfl
theorem msl4Copy_ok (u:Nat) (d0:Database) (r:Database) (H:msl4Copy u d0=some r):FnV prg 22 [.g (tD.enc d0)] (.g (tD.enc r)):=(msl4Copy_own u d0 r H).frz (frzOK_g (frz_cons (frzT (T:=tR) rfl) (frz_cons (frzT (T:=tF) rfl) frz_nil)).1 (frz_cons (frzT (T:=tR) rfl) (frz_cons (frzT (T:=tF) rfl) frz_nil)).2)

theorem msl4Copy_enc (u:Nat) (d0:Database) (r:Database) (H:msl4Copy u d0=some r):FnO prg 22 [.g (tD.enc d0)] (.g [.m [0] 0 r.relations.length tR.k,.m [1] 0 r.facts.length tF.k]) [.row (flat tR.enc r.relations),.row (flat tF.enc r.facts)]:=by
  unfold msl4Copy at H
  refine fnO_of_T Tryz.func22 rfl rfl (Nat.le_of_ble_eq_true rfl) ?_
  refine te [(0,.g (tD.enc d0))] rfl ?_
  refine sr ?_
  refine TO_cons rfl (TOp_box rfl (boxAll rfl) rfl rfl ?_)
  refine TO_cons rfl (TOp_alloc zero27 rfl rfl ?_)
  refine TO_nil (sr ?_)
  refine TO_cons rfl (TOp_lit (nn:=0) (k:=3) sl24 zero53 rfl rfl rfl rfl (by decide) ?_)
  refine TO_st (σ':=[.box [sl tR d0.relations,sl tF d0.facts],.box [.n,.n],.row (flat tR.enc ([]:(List Relation)))]) rfl ?_
  obtain ⟨us_1,h_2,H⟩:=bind_inv H
  refine pv tb 2 rfl ?_
  refine TO_cons rfl (TOp_appZ (T:=tR) (f:=tR.enc) (xs:=([]:(List Relation))) (ys:=d0.relations) tR.len sl24 zero53 rfl bytes53 (by decide) rfl rfl rfl rfl (src_T (T:=tR) rfl) (flat_cell tR _) h_2 (lb rfl) ?_)
  refine toe [(1,.b 0 0),(2,.b 1 0),(6,.b 0 0),(7,sl tR d0.relations),(8,.m [2] 0 us_1.length tR.k)] rfl ?_
  refine TO_st (σ':=[.box [sl tR d0.relations,sl tF d0.facts],.box [.n,.n],.row (flat tR.enc us_1),.dead]) rfl ?_
  refine Tp rfl rfl (pur_build bld27 rfl rfl) rfl ?_
  refine TO_cons rfl (TOp_alloc zero27 rfl rfl ?_)
  refine TO_cons rfl (TOp_storeB sz27 rfl rfl rfl rfl rfl rfl rfl (by decide) (lb rfl) rfl ?_)
  refine TO_st (σ':=[.box [sl tR d0.relations,sl tF d0.facts],.box [.n,.n],.row (flat tR.enc us_1),.dead,.box [.m [2] 0 us_1.length tR.k,.n]]) rfl ?_
  refine TO_nil (T_seq (sr ?_))
  refine pv tb 1 rfl ?_
  refine TO_nil ?_
  refine T_row0 ?_
  refine T_boxle (xs:=[.m [2] 0 us_1.length tR.k,.n]) (ys:=[.m [2] 0 us_1.length tR.k,.m [5] 0 ([]:(List Fact)).length tF.k]) 4 rfl (leCons (leR rfl) (leCons leM leNil)) ?_
  refine T_st (σ':=[.box [sl tR d0.relations,sl tF d0.facts],.box [.n,.n],.row (flat tR.enc us_1),.dead,.box [.m [2] 0 us_1.length tR.k,.m [5] 0 ([]:(List Fact)).length tF.k],.row (flat tF.enc ([]:(List Fact)))]) rfl ?_
  obtain ⟨O3_,L3_,N3_⟩:=bind_inv H
  clear H
  obtain ⟨B3_,hb3,L3_⟩:=gen_whileF L3_
  refine T_block ?_
  refine T_loopX (fun k=>fun (⟨i4,box4_facts⟩:Int × (List Fact))=>whileF B3_ k (i4,box4_facts)=some O3_) (fun (⟨i4,box4_facts⟩:Int × (List Fact))=>[(1,.b 0 0),(2,.b 1 0),(3,.b 4 0),(4,intA i4)]) (fun (⟨i4,box4_facts⟩:Int × (List Fact))=>[.box [sl tR d0.relations,sl tF d0.facts],.box [.n,.n],.row (flat tR.enc us_1),.dead,.box [.m [2] 0 us_1.length tR.k,.m [5] 0 box4_facts.length tF.k],.row (flat tF.enc box4_facts)]) u (0,([]:(List Fact))) (w0 6) L3_ ?_
  rintro _ ⟨i4,box4_facts⟩ L3_
  obtain ⟨k3,rfl,C3_,H,K3_⟩:=while_step L3_
  rw [hb3] at H
  refine T_seq (sr ?_)
  refine pv tb 3 rfl ?_
  refine Tp rfl rfl (pur_lenT (T:=tF) sl25 rfl rfl) rfl ?_
  refine pv tb 1 rfl ?_
  refine TO_nil ?_
  refine T_cond (t:=decide (i4<(d0.facts.length:Int))) rfl (fun c_4=>?_) (fun c_4=>?_)
  ·replace H:=cond_t c_4 H
   refine T_skip ?_
   refine T_seq ?_
   refine T_block ?_
   obtain ⟨v_5,h_6,H⟩:=bind_inv H
   obtain ⟨n_7,hz_8,hv_9⟩:=getI_inv h_6
   obtain ⟨us_10,h_11,H⟩:=bind_inv H
   obtain ⟨us_12,h_13,H⟩:=bind_inv H
   refine T_pad ?_
   refine T_pad ?_
   refine T_pad ?_
   refine T_pad ?_
   refine T_regionPh 6 20 mixed rfl (by kernel_rfl) ?_
   refine pa tb [0,1,2,3,4] 15 rfl (by kernel_rfl) rfl ?_
   refine tf 5 rfl (pur_ixT (T:=tF) sl25 rfl rfl hz_8 hv_9 rfl) rfl rfl (by kernel_rfl) ?_
   refine pa tb [6] 13 rfl (by kernel_rfl) rfl ?_
   refine tf 7 rfl (pur_ldT (T:=tF) (i:=n_7) (off:=0) rfl one3 rfl rfl hv_9 rfl) rfl rfl (by kernel_rfl) ?_
   refine pa tb [9,10,11] 9 rfl (by kernel_rfl) rfl ?_
   refine tf 12 rfl (pur_ixT (T:=tF) sl25 rfl rfl hz_8 hv_9 rfl) rfl rfl (by kernel_rfl) ?_
   refine pa tb [13] 7 rfl (by kernel_rfl) rfl ?_
   refine tf 14 rfl (pur_ldT (T:=tF) (i:=n_7) (off:=1) rfl one28 rfl rfl hv_9 rfl) rfl rfl (by kernel_rfl) ?_
   refine t1 8 (by kernel_rfl) rfl rfl (TOp_lit (nn:=0) (k:=1) sl28 zero3 rfl rfl rfl rfl (by decide) ?_)
   refine tmw 6 10 (by decide) (lb rfl) rfl rfl (lb rfl) rfl ?_
   refine t1 15 (by kernel_rfl) rfl rfl (TOp_appY (T:=tInt) (f:=tInt.enc) (xs:=([]:(List Int))) (ys:=v_5.values) tInt.len sl28 zero3 rfl bytes3 (by decide) rfl rfl rfl rfl (src_T (T:=tInt) rfl) (flat_cell tInt _) h_11 ?_)
   refine tmw 6 11 (by decide) (lb rfl) rfl rfl (lb rfl) rfl ?_
   refine tae [(1,.b 0 0),(2,.b 1 0),(3,.b 4 0),(4,intA i4),(18,.m [5] 0 box4_facts.length tF.k),(24,intA v_5.relation),(32,.m [6] 0 us_10.length tInt.k)] rfl ?_
   refine TA_st (σ':=[.dead,.dead,.row (flat tR.enc us_1),.dead,.dead,.row (flat tF.enc box4_facts),.row (flat tInt.enc us_10),.dead,.dead,.dead,.dead,.dead]) rfl ?_
   refine tf 16 rfl (pur_build bld30 rfl rfl) rfl rfl (by kernel_rfl) ?_
   refine TA_ghost (E':=[(1,.b 0 0),(2,.b 1 0),(3,.b 4 0),(4,intA i4),(18,.m [5] 0 box4_facts.length tF.k),(33,.g [intA v_5.relation,.m [6] 0 us_10.length tInt.k])]) (σ':=[.dead,.dead,.row (flat tR.enc us_1),.dead,.dead,.row (flat tF.enc box4_facts),.row (flat tInt.enc us_10),.dead,.dead,.dead,.dead,.dead]) (Ghost.weak (WeakL.to 12 (lb rfl) rfl rfl rfl rfl ⟨leR rfl,leR rfl,leR rfl,leR rfl,leR rfl,leR rfl,trivial⟩)) ?_
   refine TA_frz1 6 (E':=[(1,.b 0 0),(2,.b 1 0),(3,.b 4 0),(4,intA i4),(18,.m [5] 0 box4_facts.length tF.k),(33,.g [intA v_5.relation,sl tInt us_10])]) rfl rfl (lb rfl) ?_ ?_
   ·exact ⟨.keep rfl,.keep rfl,.keep rfl,.keep rfl,.keep rfl,fz1G (fzC (.keep rfl) (fzC fz1E fzN)),trivial⟩
   refine TA_st (σ':=[.dead,.dead,.row (flat tR.enc us_1),.dead,.dead,.row (flat tF.enc box4_facts),.dead,.dead,.dead,.dead,.dead,.dead]) rfl ?_
   refine t1 17 (by kernel_rfl) rfl rfl (TOp_lit (nn:=1) (k:=2) sl25 zero30 rfl rfl rfl rfl (by decide) ?_)
   refine tmw 8 12 (by decide) (lb rfl) rfl rfl (lb rfl) rfl ?_
   refine t1 18 (by kernel_rfl) rfl rfl (TOp_appY (T:=tF) (f:=tF.enc) (xs:=box4_facts) (ys:=([({ relation:=v_5.relation,values:=us_10 }:Fact)]:(List Fact))) tF.len sl25 zero30 rfl bytes30 (by decide) rfl rfl rfl rfl (src_mT (f:=tF.enc) tF.len rfl rfl (flat_cell tF _)) (flat_cell tF _) h_13 ?_)
   refine tmw 9 13 (by decide) (lb rfl) rfl rfl (lb rfl) rfl ?_
   refine tae [(1,.b 0 0),(2,.b 1 0),(3,.b 4 0),(4,intA i4),(35,.m [9] 0 us_12.length tF.k)] rfl ?_
   refine TA_st (σ':=[.dead,.dead,.row (flat tR.enc us_1),.dead,.dead,.dead,.dead,.dead,.row (flat tF.enc ([({ relation:=v_5.relation,values:=us_10 }:Fact)]:(List Fact))),.row (flat tF.enc us_12),.dead,.dead,.dead,.dead]) rfl ?_
   refine pa tb [19] 0 rfl (by kernel_rfl) rfl ?_
   refine TA_nil (by kernel_rfl) ?_
   refine TA_st (σ':=[.box [sl tR d0.relations,sl tF d0.facts],.box [.n,.n],.row (flat tR.enc us_1),.dead,.box [.m [2] 0 us_1.length tR.k,.m [5] 0 box4_facts.length tF.k],.dead,.dead,.dead,.row (flat tF.enc ([({ relation:=v_5.relation,values:=us_10 }:Fact)]:(List Fact))),.row (flat tF.enc us_12),.dead,.dead,.dead,.dead]) rfl ?_
   refine tmv 5 9 (by decide) (lb rfl) rfl rfl (lb rfl) ?_
   refine TA_st (σ':=[.box [sl tR d0.relations,sl tF d0.facts],.box [.n,.n],.row (flat tR.enc us_1),.dead,.box [.m [2] 0 us_1.length tR.k,.j],.row (flat tF.enc us_12),.dead,.dead,.row (flat tF.enc ([({ relation:=v_5.relation,values:=us_10 }:Fact)]:(List Fact))),.dead,.dead,.dead,.dead,.dead]) rfl ?_
   refine t1 20 (by kernel_rfl) rfl rfl (TOp_storeB sz25 rfl rfl rfl rfl rfl rfl rfl (by decide) (lb rfl) rfl ?_)
   refine TA_st (σ':=[.box [sl tR d0.relations,sl tF d0.facts],.box [.n,.n],.row (flat tR.enc us_1),.dead,.box [.m [2] 0 us_1.length tR.k,.m [5] 0 us_12.length tF.k],.row (flat tF.enc us_12),.dead,.dead,.row (flat tF.enc ([({ relation:=v_5.relation,values:=us_10 }:Fact)]:(List Fact))),.dead,.dead,.dead,.dead,.dead]) rfl ?_
   refine TA_nil (by kernel_rfl) ?_
   refine T_region ?_
   refine pv tb 3 rfl ?_
   refine TO_nil ?_
   obtain rfl:=some_inj H
   exact again k3 ((w64 (i4+1)),us_12) (Nat.lt_succ_self _) (w0 6) K3_
  ·replace H:=cond_f c_4 H
   refine T_exit ?_
   refine then_exit ?_
   refine then_exit ?_
   refine block_exit ?_
   obtain rfl:=some_inj H
   obtain rfl:=some_inj K3_
   replace H:=onS_l N3_
   refine sr ?_
   refine pv tb 1 rfl ?_
   refine TO_cons rfl (TOp_storeB sz27 rfl rfl rfl rfl rfl rfl rfl (by decide) (lb rfl) rfl ?_)
   refine TO_st (σ':=[.box [sl tR d0.relations,sl tF d0.facts],.box [.m [2] 0 us_1.length tR.k,.m [5] 0 box4_facts.length tF.k],.row (flat tR.enc us_1),.dead,.box [.m [2] 0 us_1.length tR.k,.m [5] 0 box4_facts.length tF.k],.row (flat tF.enc box4_facts)]) rfl ?_
   refine TO_nil ?_
   refine T_ret ?_
   obtain rfl:=some_inj H
   exact end_pick (.cellK rfl agg27 rfl (lb rfl) .nil) rfl [2,5] (by decide) rfl rfl rfl rfl rfl rfl

theorem msl3Ints_ok (u:Nat) (a0:(List Int)) (b1:(List Int)) (r:Int) (H:msl3Ints u a0 b1=some r):FnV prg 58 [sl tInt a0,sl tInt b1] (intA r):=by
  unfold msl3Ints at H
  refine fnV_of_T Tryz.func58 rfl rfl (Nat.le_of_ble_eq_true rfl) ?_
  refine te [(0,sl tInt a0),(1,sl tInt b1)] rfl ?_
  refine sr ?_
  refine pv tb 1 rfl ?_
  refine TO_nil (T_seq (sr ?_))
  refine pv tb 1 rfl ?_
  refine TO_nil ?_
  obtain ⟨O1_,L1_,N1_⟩:=bind_inv H
  clear H
  obtain ⟨B1_,hb1,L1_⟩:=gen_whileF L1_
  refine T_block ?_
  refine T_loopX (fun k=>fun (i5:Int)=>whileF B1_ k i5=some O1_) (fun (i5:Int)=>[(0,sl tInt a0),(1,sl tInt b1),(5,intA i5)]) (fun (i5:Int)=>[]) u 0 (w0 0) L1_ ?_
  rintro _ i5 L1_
  obtain ⟨k1,rfl,C1_,H,K1_⟩:=while_step L1_
  rw [hb1] at H
  refine T_seq ?_
  refine T_cutX (fun x=>((decide (i5<(a0.length:Int))) && (decide (i5<(b1.length:Int))))=x) (fun (t15_2:Bool)=>[(0,sl tInt a0),(1,sl tInt b1),(5,intA i5),(15,boolA t15_2)]) (fun (t15_2:Bool)=>[]) ?_ ?_
  ·skip
   refine T_region ?_
   refine pv tb 2 rfl ?_
   refine Tp rfl rfl (pur_lenT (T:=tInt) sl28 rfl rfl) rfl ?_
   refine pv tb 2 rfl ?_
   refine TO_split (t:=decide (i5<(a0.length:Int))) 10 rfl (fun g_4=>?_) (fun g_4=>?_)
   ·skip
    refine pv tb 2 rfl ?_
    refine TO_on rfl rfl (by decide) rfl rfl (TOp_pure (pur_lenT (T:=tInt) sl28 rfl rfl) rfl ?_)
    refine pv tb 2 rfl ?_
    refine TO_nil ?_
    exact joined (decide (i5<(b1.length:Int))) (w0 0) (by first | exact Eq.symm ((and_T g_4 rfl)))
   ·skip
    refine pv tb 5 rfl ?_
    refine TO_nil ?_
    exact joined false (w0 0) (by first | exact Eq.symm ((and_F g_4 rfl)))
  ·rintro _ rfl
   refine T_cond (t:=((decide (i5<(a0.length:Int))) && (decide (i5<(b1.length:Int))))) rfl (fun c_5=>?_) (fun c_5=>?_)
   ·replace H:=cond_t c_5 H
    refine T_skip ?_
    refine T_seq ?_
    refine T_block ?_
    refine T_seq (T_seq ?_)
    refine T_regionD mixed (by kernel_rfl) ?_
    obtain ⟨v_6,h_7,H⟩:=bind_inv H
    obtain ⟨n_8,hz_9,hv_10⟩:=getI_inv h_7
    refine pq tb 2 rfl ?_
    refine TQ_pure rfl (pur_ixT (T:=tInt) sl28 rfl rfl hz_9 hv_10 rfl) rfl ?_
    refine TQ_pure rfl (pur_ldT (T:=tInt) (i:=n_8) (off:=0) rfl one3 rfl rfl hv_10 rfl) rfl ?_
    obtain ⟨v_11,h_12,H⟩:=bind_inv H
    obtain ⟨n_13,hz_14,hv_15⟩:=getI_inv h_12
    refine pq tb 2 rfl ?_
    refine TQ_pure rfl (pur_ixT (T:=tInt) sl28 rfl rfl hz_14 hv_15 rfl) rfl ?_
    refine TQ_pure rfl (pur_ldT (T:=tInt) (i:=n_13) (off:=0) rfl one3 rfl rfl hv_15 rfl) rfl ?_
    refine pq tb 1 rfl ?_
    refine TQ_nil ?_
    refine T_cond (t:=decide (v_6<v_11)) rfl (fun c_16=>?_) (fun c_16=>?_)
    ·replace H:=cond_t c_16 H
     refine sr ?_
     refine pv tb 1 rfl ?_
     refine TO_nil ?_
     refine T_ret ?_
     refine then_ret ?_
     refine block_ret ?_
     refine then_ret ?_
     refine then_ret ?_
     refine block_ret ?_
     refine then_ret ?_
     obtain rfl:=some_inj H
     obtain rfl:=some_inj K1_
     replace H:=onS_r N1_
     obtain rfl:=some_inj H
     refine end_ret (.tmp .nil) rfl rfl ⟨?_,rfl⟩
     rfl
    ·replace H:=cond_f c_16 H
     refine T_skip ?_
     refine T_seq ?_
     refine T_regionD mixed (by kernel_rfl) ?_
     refine pq tb 2 rfl ?_
     refine TQ_pure rfl (pur_ixT (T:=tInt) sl28 rfl rfl hz_9 hv_10 rfl) rfl ?_
     refine TQ_pure rfl (pur_ldT (T:=tInt) (i:=n_8) (off:=0) rfl one3 rfl rfl hv_10 rfl) rfl ?_
     refine pq tb 2 rfl ?_
     refine TQ_pure rfl (pur_ixT (T:=tInt) sl28 rfl rfl hz_14 hv_15 rfl) rfl ?_
     refine TQ_pure rfl (pur_ldT (T:=tInt) (i:=n_13) (off:=0) rfl one3 rfl rfl hv_15 rfl) rfl ?_
     refine pq tb 1 rfl ?_
     refine TQ_nil ?_
     refine te [(0,sl tInt a0),(1,sl tInt b1),(5,intA i5),(35,boolA (decide (v_11<v_6)))] rfl ?_
     refine T_cond (t:=decide (v_11<v_6)) rfl (fun c_17=>?_) (fun c_17=>?_)
     ·replace H:=cond_t c_17 H
      refine sr ?_
      refine pv tb 1 rfl ?_
      refine TO_nil ?_
      refine T_ret ?_
      refine block_ret ?_
      refine then_ret ?_
      refine then_ret ?_
      refine block_ret ?_
      refine then_ret ?_
      obtain rfl:=some_inj H
      obtain rfl:=some_inj K1_
      replace H:=onS_r N1_
      obtain rfl:=some_inj H
      refine end_ret (.tmp .nil) rfl rfl ⟨?_,rfl⟩
      rfl
     ·replace H:=cond_f c_17 H
      refine T_skip ?_
      refine T_region ?_
      refine pv tb 3 rfl ?_
      refine TO_nil ?_
      obtain rfl:=some_inj H
      exact again k1 (w64 (i5+1)) (Nat.lt_succ_self _) (w0 0) K1_
   ·replace H:=cond_f c_5 H
    refine T_exit ?_
    refine then_exit ?_
    refine then_exit ?_
    refine block_exit ?_
    obtain rfl:=some_inj H
    obtain rfl:=some_inj K1_
    replace H:=onS_l N1_
    refine T_seq (sr ?_)
    refine pv tb 1 rfl ?_
    refine Tp rfl rfl (pur_lenT (T:=tInt) sl28 rfl rfl) rfl ?_
    refine pv tb 1 rfl ?_
    refine Tp rfl rfl (pur_lenT (T:=tInt) sl28 rfl rfl) rfl ?_
    refine pv tb 1 rfl ?_
    refine TO_nil ?_
    refine T_cond (t:=decide ((a0.length:Int)<(b1.length:Int))) rfl (fun c_18=>?_) (fun c_18=>?_)
    ·replace H:=cond_t c_18 H
     refine sr ?_
     refine pv tb 1 rfl ?_
     refine TO_nil ?_
     refine T_ret ?_
     refine then_ret ?_
     obtain rfl:=some_inj H
     refine end_ret (.tmp .nil) rfl rfl ⟨?_,rfl⟩
     rfl
    ·replace H:=cond_f c_18 H
     refine T_skip ?_
     refine T_seq (sr ?_)
     refine pv tb 1 rfl ?_
     refine Tp rfl rfl (pur_lenT (T:=tInt) sl28 rfl rfl) rfl ?_
     refine pv tb 1 rfl ?_
     refine Tp rfl rfl (pur_lenT (T:=tInt) sl28 rfl rfl) rfl ?_
     refine pv tb 1 rfl ?_
     refine TO_nil ?_
     refine T_cond (t:=decide ((b1.length:Int)<(a0.length:Int))) rfl (fun c_19=>?_) (fun c_19=>?_)
     ·replace H:=cond_t c_19 H
      refine sr ?_
      refine pv tb 1 rfl ?_
      refine TO_nil ?_
      refine T_ret ?_
      refine then_ret ?_
      obtain rfl:=some_inj H
      refine end_ret (.tmp .nil) rfl rfl ⟨?_,rfl⟩
      rfl
     ·replace H:=cond_f c_19 H
      refine T_skip ?_
      refine sr ?_
      refine pv tb 1 rfl ?_
      refine TO_nil ?_
      refine T_ret ?_
      obtain rfl:=some_inj H
      refine end_ret (.tmp .nil) rfl rfl ⟨?_,rfl⟩
      rfl

theorem msCompareFacts_ok (u:Nat) (a0:Fact) (b1:Fact) (r:Int) (H:msCompareFacts u a0 b1=some r):FnV prg 27 [.g (tF.enc a0),.g (tF.enc b1)] (intA r):=by
  unfold msCompareFacts at H
  refine fnV_of_T Tryz.func27 rfl rfl (Nat.le_of_ble_eq_true rfl) ?_
  refine te [(0,.g (tF.enc a0)),(1,.g (tF.enc b1))] rfl ?_
  refine sr ?_
  refine TO_cons rfl (TOp_box rfl (boxAll rfl) rfl rfl ?_)
  refine TO_cons rfl (TOp_box rfl (boxAll rfl) rfl rfl ?_)
  refine pv tb 1 rfl ?_
  refine TO_nil (T_seq (sr ?_))
  refine pv tb 5 rfl ?_
  refine TO_nil ?_
  refine T_cond (t:=decide (a0.relation<b1.relation)) rfl (fun c_1=>?_) (fun c_1=>?_)
  ·replace H:=cond_t c_1 H
   refine sr ?_
   refine pv tb 1 rfl ?_
   refine TO_nil ?_
   refine T_ret ?_
   refine then_ret ?_
   obtain rfl:=some_inj H
   refine end_ret (.tmp .nil) rfl rfl ⟨?_,rfl⟩
   rfl
  ·replace H:=cond_f c_1 H
   refine T_skip ?_
   refine T_seq (sr ?_)
   refine pv tb 5 rfl ?_
   refine TO_nil ?_
   refine T_cond (t:=decide (b1.relation<a0.relation)) rfl (fun c_2=>?_) (fun c_2=>?_)
   ·replace H:=cond_t c_2 H
    refine sr ?_
    refine pv tb 1 rfl ?_
    refine TO_nil ?_
    refine te [(4,intA 1)] rfl ?_
    refine T_ret ?_
    refine then_ret ?_
    obtain rfl:=some_inj H
    refine end_ret (.tmp .nil) rfl rfl ⟨?_,rfl⟩
    rfl
   ·replace H:=cond_f c_2 H
    refine T_skip ?_
    refine sr ?_
    obtain ⟨r_3,h_4,H⟩:=bind_inv H
    refine pv tb 4 rfl ?_
    refine TO_cons rfl (TOp_callV (call_static ent58 rfl) (msl3Ints_ok u _ _ _ h_4) rfl rfl rfl ?_)
    refine pv tb 1 rfl ?_
    refine TO_nil ?_
    refine te [(4,intA r_3)] rfl ?_
    refine T_ret ?_
    obtain rfl:=some_inj H
    refine end_ret (.tmp .nil) rfl rfl ⟨?_,rfl⟩
    rfl

theorem msl1In_ok (x0:Int) (low1:Int) (high2:Int) (r:Bool) (H:msl1In x0 low1 high2=some r):FnV prg 39 [intA x0,intA low1,intA high2] (boolA r):=by
  unfold msl1In at H
  refine fnV_of_T Tryz.func39 rfl rfl (Nat.le_of_ble_eq_true rfl) ?_
  refine te [(0,intA x0),(1,intA low1),(2,intA high2)] rfl ?_
  refine sr ?_
  refine pv tb 1 rfl ?_
  refine TO_nil ?_
  refine T_cutX (fun x=>((decide (low1≤x0)) && (decide (x0≤high2)))=x) (fun (t6_1:Bool)=>[(6,boolA t6_1)]) (fun (t6_1:Bool)=>[]) ?_ ?_
  ·skip
   refine T_region ?_
   refine pv tb 4 rfl ?_
   refine TO_split (t:=decide (low1≤x0)) 10 rfl (fun g_3=>?_) (fun g_3=>?_)
   ·skip
    refine pv tb 5 rfl ?_
    refine TO_nil ?_
    exact joined (decide (x0≤high2)) (w0 0) (by first | exact Eq.symm ((and_T g_3 rfl)))
   ·skip
    refine pv tb 5 rfl ?_
    refine TO_nil ?_
    exact joined false (w0 0) (by first | exact Eq.symm ((and_F g_3 rfl)))
  ·rintro _ rfl
   refine T_ret ?_
   obtain rfl:=some_inj H
   refine end_ret (.tmp .nil) rfl rfl ⟨?_,rfl⟩
   rfl

theorem msIsValidRelation_ok (s0:Relation) (r:Bool) (H:msIsValidRelation s0=some r):FnV prg 100 [.g (tR.enc s0)] (boolA r):=by
  unfold msIsValidRelation at H
  refine fnV_of_T Tryz.func100 rfl rfl (Nat.le_of_ble_eq_true rfl) ?_
  refine te [(0,.g (tR.enc s0))] rfl ?_
  refine sr ?_
  refine TO_cons rfl (TOp_box rfl (boxAll rfl) rfl rfl ?_)
  refine pv tb 1 rfl ?_
  refine TO_nil ?_
  obtain ⟨t2_1,J_1,H_2⟩:=bind_inv H
  refine T_cutX (fun x=>t2_1=x) (fun (t2_1:Bool)=>[(2,boolA t2_1)]) (fun (t2_1:Bool)=>[]) ?_ ?_
  ·replace H:=J_1
   refine T_region ?_
   refine pv tb 2 rfl ?_
   refine Tp rfl rfl (pur_len_s (by kernel_rfl) rfl rfl) rfl ?_
   refine pv tb 2 rfl ?_
   refine TO_split (t:=decide ((s0.name.size:Int)=1)) 7 rfl (fun g_3=>?_) (fun g_3=>?_)
   ·replace H:=cond_t g_3 H
    obtain ⟨b_4,h_5,H⟩:=bind_inv H
    refine pv tb 2 rfl ?_
    refine TO_on rfl rfl (by decide) rfl rfl (TOp_pure (pur_ixS (by kernel_rfl) rfl rfl h_5 rfl) rfl ?_)
    refine pv tb 3 rfl ?_
    refine TO_split (t:=decide (97≤b_4)) 13 rfl (fun g_6=>?_) (fun g_6=>?_)
    ·replace H:=cond_t g_6 H
     obtain ⟨b_7,h_8,H⟩:=bind_inv H
     refine pv tb 2 rfl ?_
     refine TO_on rfl rfl (by decide) rfl rfl (TOp_pure (pur_ixS (by kernel_rfl) rfl rfl h_8 rfl) rfl ?_)
     refine pv tb 3 rfl ?_
     refine TO_split (t:=decide (b_7≤122)) 19 rfl (fun g_9=>?_) (fun g_9=>?_)
     ·replace H:=cond_t g_9 H
      obtain ⟨r_10,h_11,H⟩:=bind_inv H
      refine pv tb 2 rfl ?_
      refine TO_on rfl rfl (by decide) rfl rfl (TOp_callV (call_static ent39 rfl) (msl1In_ok _ _ _ _ h_11) rfl rfl rfl ?_)
      refine pv tb 2 rfl ?_
      refine TO_split (t:=r_10) 24 rfl (fun g_12=>?_) (fun g_12=>?_)
      ·replace H:=cond_t g_12 H
       obtain ⟨r_13,h_14,H⟩:=bind_inv H
       refine pv tb 4 rfl ?_
       refine TO_on rfl rfl (by decide) rfl rfl (TOp_callV (call_static ent39 rfl) (msl1In_ok _ _ _ _ h_14) rfl rfl rfl ?_)
       refine pv tb 2 rfl ?_
       refine TO_nil ?_
       exact joined r_13 (w0 0) (some_inj H).symm
      ·replace H:=cond_f g_12 H
       refine pv tb 7 rfl ?_
       refine TO_nil ?_
       exact joined false (w0 0) (some_inj H).symm
     ·replace H:=cond_f g_9 H
      refine pv tb 8 rfl ?_
      refine toe [(24,boolA false),(26,.v undef),(27,.v undef)] rfl ?_
      refine pv tb 4 rfl ?_
      refine TO_nil ?_
      exact joined false (w0 0) (some_inj H).symm
    ·replace H:=cond_f g_6 H
     refine pv tb 8 rfl ?_
     refine toe [(1,.b 0 0),(19,boolA false),(21,.v undef)] rfl ?_
     refine pv tb 10 rfl ?_
     refine TO_nil ?_
     exact joined false (w0 0) (some_inj H).symm
   ·replace H:=cond_f g_3 H
    refine pv tb 16 rfl ?_
    refine toe [(1,.b 0 0),(23,boolA false)] rfl ?_
    refine pv tb 8 rfl ?_
    refine TO_nil ?_
    exact joined false (w0 0) (some_inj H).symm
  ·rintro _ rfl
   replace H:=H_2
   refine T_ret ?_
   obtain rfl:=some_inj H
   refine end_ret (.tmp .nil) rfl rfl ⟨?_,rfl⟩
   rfl

theorem msAreValidRelations_ok (l0:(List Relation)) (r:Bool) (H:msAreValidRelations l0=some r):FnV prg 83 [sl tR l0] (boolA r):=by
  unfold msAreValidRelations at H
  refine fnV_of_T Tryz.func83 rfl rfl (Nat.le_of_ble_eq_true rfl) ?_
  refine te [(0,sl tR l0)] rfl ?_
  refine sr ?_
  refine pv tb 1 rfl ?_
  refine TO_nil (T_seq (sr ?_))
  refine pv tb 1 rfl ?_
  refine TO_nil ?_
  obtain ⟨O2_,L2_,N2_⟩:=bind_inv H
  clear H
  obtain ⟨B2_,hb2,L2_⟩:=gen_forL L2_
  refine T_block ?_
  refine T_loopX (fun k=>fun (i_1:Nat)=>k=l0.length - i_1∧forL B2_ (l0.drop i_1) (i_1:Int) ()=some O2_) (fun (i_1:Nat)=>[(0,sl tR l0),(3,intA (i_1:Int))]) (fun (i_1:Nat)=>[]) _ (0:Nat) (w0 0) ⟨rfl,L2_⟩ ?_
  rintro _ i_1 ⟨rfl,L2_⟩
  refine T_fact (len_sl (T:=tR) (.tmp 0) rfl) (fun hl2=>?_)
  refine T_seq (sr ?_)
  refine pv tb 2 rfl ?_
  refine Tp rfl rfl (pur_lenT (T:=tR) sl24 rfl rfl) rfl ?_
  refine pv tb 1 rfl ?_
  refine TO_nil ?_
  refine T_cond (t:=decide ((i_1:Int)<(l0.length:Int))) rfl (fun d2=>?_) (fun d2=>?_)
  ·replace d2:=of_decide_eq_true d2
   obtain ⟨x_i_1,hx_i_1⟩:∃ v,(l0)[i_1]?=some v:=⟨_,List.getElem?_eq_getElem (by omega)⟩
   obtain ⟨C2_,H,K2_⟩:=forL_step L2_ hx_i_1
   rw [hb2] at H
   refine T_skip ?_
   refine T_seq ?_
   refine T_block ?_
   obtain ⟨t33_3,J_3,H_4⟩:=bind_inv H
   refine T_cutX (fun x=>t33_3=x) (fun (t33_3:Bool)=>[(0,sl tR l0),(3,intA (i_1:Int)),(33,boolA t33_3)]) (fun (t33_3:Bool)=>[]) ?_ ?_
   ·replace H:=J_3
    refine T_regionD mixed (by kernel_rfl) ?_
    refine pq tb 2 rfl ?_
    refine TQ_pure rfl (pur_ixT (T:=tR) sl24 rfl rfl rfl hx_i_1 rfl) rfl ?_
    refine TQ_pure rfl (pur_ldTK (T:=tR) (i:=i_1) (off:=0) rfl agg53 rfl rfl hx_i_1 (by decide) rfl) rfl ?_
    obtain ⟨r_5,h_6,H⟩:=bind_inv H
    refine TQ_callV rfl (call_static ent100 rfl) (msIsValidRelation_ok _ _ h_6) rfl rfl ?_
    refine pq tb 2 rfl ?_
    refine TQ_split (t:=(!r_5)) 16 rfl (fun g_7=>?_) (fun g_7=>?_)
    ·replace H:=cond_t g_7 H
     refine pq tb 8 rfl ?_
     refine tqe [(0,sl tR l0),(3,intA (i_1:Int)),(16,boolA true),(19,.v undef),(24,.v undef)] rfl ?_
     refine pq tb 9 rfl ?_
     refine TQ_nil ?_
     exact joined true (w0 0) (some_inj H).symm
    ·replace H:=cond_f g_7 H
     refine pq tb 3 rfl ?_
     refine TQ_split (t:=decide (0<(i_1:Int))) 19 rfl (fun g_8=>?_) (fun g_8=>?_)
     ·replace H:=cond_t g_8 H
      refine pq tb 2 rfl ?_
      refine TQ_on rfl rfl (by decide) rfl (pur_sub rfl rfl rfl (fits64 (by omega) (by omega))) rfl ?_
      obtain ⟨v_9,h_10,H⟩:=bind_inv H
      obtain ⟨n_11,hz_12,hv_13⟩:=getI_inv h_10
      refine TQ_on rfl rfl (by decide) rfl (pur_ixT (T:=tR) sl24 rfl rfl hz_12 hv_13 rfl) rfl ?_
      refine pq tb 1 rfl ?_
      refine TQ_on rfl rfl (by decide) rfl (pur_ldT (T:=tR) (i:=n_11) (off:=0) rfl one9 rfl rfl hv_13 rfl) rfl ?_
      refine pq tb 2 rfl ?_
      refine tqe [(0,sl tR l0),(3,intA (i_1:Int)),(16,boolA false),(19,boolA true),(25,strA v_9.name),(26,sl tR l0),(27,intA (i_1:Int))] rfl ?_
      refine TQ_on rfl rfl (by decide) rfl (pur_ixT (T:=tR) sl24 rfl rfl rfl hx_i_1 rfl) rfl ?_
      refine pq tb 1 rfl ?_
      refine TQ_on rfl rfl (by decide) rfl (pur_ldT (T:=tR) (i:=i_1) (off:=0) rfl one9 rfl rfl hx_i_1 rfl) rfl ?_
      refine TQ_on rfl rfl (by decide) rfl (pur_geqS rfl rfl rfl) rfl ?_
      refine pq tb 2 rfl ?_
      refine TQ_nil ?_
      exact joined (!ltS v_9.name x_i_1.name) (w0 0) (some_inj H).symm
     ·replace H:=cond_f g_8 H
      refine pq tb 8 rfl ?_
      refine tqe [(0,sl tR l0),(3,intA (i_1:Int)),(16,boolA false),(19,boolA false),(25,.v undef),(26,.v undef),(27,.v undef)] rfl ?_
      refine pq tb 6 rfl ?_
      refine TQ_nil ?_
      exact joined false (w0 0) (some_inj H).symm
   ·rintro _ rfl
    replace H:=H_4
    refine T_cond (t:=t33_3) rfl (fun c_14=>?_) (fun c_14=>?_)
    ·replace H:=cond_t c_14 H
     refine sr ?_
     refine pv tb 1 rfl ?_
     refine TO_nil ?_
     refine T_ret ?_
     refine block_ret ?_
     refine then_ret ?_
     refine then_ret ?_
     refine block_ret ?_
     refine then_ret ?_
     obtain rfl:=some_inj H
     obtain rfl:=some_inj K2_
     replace H:=onS_r N2_
     obtain rfl:=some_inj H
     refine end_ret (.tmp .nil) rfl rfl ⟨?_,rfl⟩
     rfl
    ·replace H:=cond_f c_14 H
     refine T_skip ?_
     refine T_region ?_
     refine pv tb 1 rfl ?_
     refine Tp rfl rfl (pur_add rfl rfl rfl (fits64 (by omega) (by omega))) rfl ?_
     refine pv tb 1 rfl ?_
     refine TO_nil ?_
     obtain rfl:=some_inj H
     exact again (l0.length - (i_1+1)) (i_1+1) (by omega) (w0 0) ⟨rfl,K2_⟩
  ·replace d2:=of_decide_eq_false d2
   obtain rfl:=forL_end L2_ (by omega)
   refine T_exit ?_
   refine then_exit ?_
   refine then_exit ?_
   refine block_exit ?_
   replace H:=onS_l N2_
   refine sr ?_
   refine pv tb 1 rfl ?_
   refine Tp rfl rfl (pur_lenT (T:=tR) sl24 rfl rfl) rfl ?_
   refine pv tb 2 rfl ?_
   refine TO_nil ?_
   refine T_ret ?_
   obtain rfl:=some_inj H
   refine end_ret (.tmp .nil) rfl rfl ⟨?_,rfl⟩
   rfl

theorem msIsValidFact_ok (u:Nat) (l0:(List Relation)) (f1:Fact) (r:Bool) (H:msIsValidFact u l0 f1=some r):FnV prg 52 [sl tR l0,.g (tF.enc f1)] (boolA r):=by
  unfold msIsValidFact at H
  refine fnV_of_T Tryz.func52 rfl rfl (Nat.le_of_ble_eq_true rfl) ?_
  refine te [(0,sl tR l0),(1,.g (tF.enc f1))] rfl ?_
  refine sr ?_
  refine TO_cons rfl (TOp_box rfl (boxAll rfl) rfl rfl ?_)
  refine pv tb 1 rfl ?_
  refine TO_nil (T_seq ?_)
  obtain ⟨t29_1,J_1,H_2⟩:=bind_inv H
  refine T_cutX (fun x=>t29_1=x) (fun (t29_1:Bool)=>[(3,.b 0 0),(29,boolA t29_1)]) (fun (t29_1:Bool)=>[.box [intA f1.relation,sl tInt f1.values]]) ?_ ?_
  ·replace H:=J_1
   refine T_regionD mixed (by kernel_rfl) ?_
   obtain ⟨r_3,h_4,H⟩:=bind_inv H
   refine pq tb 1 rfl ?_
   refine TQ_callV rfl (call_static ent83 rfl) (msAreValidRelations_ok _ _ h_4) rfl rfl ?_
   refine pq tb 2 rfl ?_
   refine TQ_split (t:=(!r_3)) 9 rfl (fun g_5=>?_) (fun g_5=>?_)
   ·replace H:=cond_t g_5 H
    refine pq tb 16 rfl ?_
    refine tqe [(3,.b 0 0),(18,boolA true),(21,.v undef),(25,.v undef)] rfl ?_
    refine pq tb 4 rfl ?_
    refine TQ_nil ?_
    exact joined true (w0 1) (some_inj H).symm
   ·replace H:=cond_f g_5 H
    refine pq tb 3 rfl ?_
    refine TQ_on rfl rfl (by decide) rfl (pur_lenT (T:=tR) sl24 rfl rfl) rfl ?_
    refine TQ_fact (len_sl (T:=tR) (.tmp 0) rfl) (fun hl_6=>?_)
    refine TQ_on rfl rfl (by decide) rfl (pur_sub rfl rfl rfl (fits64 (by omega) (by omega))) rfl ?_
    obtain ⟨r_7,h_8,H⟩:=bind_inv H
    refine TQ_onV rfl rfl (by decide) rfl (call_static ent39 rfl) (msl1In_ok _ _ _ _ h_8) rfl rfl ?_
    refine pq tb 3 rfl ?_
    refine TQ_split (t:=(!r_7)) 18 rfl (fun g_9=>?_) (fun g_9=>?_)
    ·replace H:=cond_t g_9 H
     refine pq tb 8 rfl ?_
     refine tqe [(3,.b 0 0),(18,boolA true),(21,.v undef),(26,.v undef)] rfl ?_
     refine pq tb 3 rfl ?_
     refine TQ_nil ?_
     exact joined true (w0 1) (some_inj H).symm
    ·replace H:=cond_f g_9 H
     refine pq tb 2 rfl ?_
     refine TQ_on rfl rfl (by decide) rfl (pur_lenT (T:=tInt) sl28 rfl rfl) rfl ?_
     obtain ⟨v_10,h_11,H⟩:=bind_inv H
     obtain ⟨n_12,hz_13,hv_14⟩:=getI_inv h_11
     refine pq tb 3 rfl ?_
     refine TQ_on rfl rfl (by decide) rfl (pur_ixT (T:=tR) sl24 rfl rfl hz_13 hv_14 rfl) rfl ?_
     refine pq tb 1 rfl ?_
     refine tqe [(3,.b 0 0),(18,boolA false),(21,intA (f1.values.length:Int)),(26,.q (flat tR.enc l0) (n_12*tR.k+1))] rfl ?_
     refine TQ_on rfl rfl (by decide) rfl (pur_ldT (T:=tR) (i:=n_12) (off:=1) rfl one3 rfl rfl hv_14 rfl) rfl ?_
     refine pq tb 2 rfl ?_
     refine TQ_nil ?_
     exact joined (decide ((f1.values.length:Int)≠v_10.arity)) (w0 1) (some_inj H).symm
  ·rintro _ rfl
   replace H:=H_2
   refine T_cond (t:=t29_1) rfl (fun c_15=>?_) (fun c_15=>?_)
   ·replace H:=cond_t c_15 H
    refine sr ?_
    refine pv tb 1 rfl ?_
    refine TO_nil ?_
    refine T_ret ?_
    refine then_ret ?_
    obtain rfl:=some_inj H
    refine end_ret (.tmp .nil) rfl rfl ⟨?_,rfl⟩
    rfl
   ·replace H:=cond_f c_15 H
    refine T_skip ?_
    refine T_seq (sr ?_)
    refine pv tb 1 rfl ?_
    refine TO_nil ?_
    obtain ⟨O16_,L16_,N16_⟩:=bind_inv H
    clear H
    obtain ⟨B16_,hb16,L16_⟩:=gen_whileF L16_
    refine T_block ?_
    refine T_loopX (fun k=>fun (i5:Int)=>whileF B16_ k i5=some O16_) (fun (i5:Int)=>[(3,.b 0 0),(5,intA i5)]) (fun (i5:Int)=>[.box [intA f1.relation,sl tInt f1.values]]) u 0 (w0 1) L16_ ?_
    rintro _ i5 L16_
    obtain ⟨k16,rfl,C16_,H,K16_⟩:=while_step L16_
    rw [hb16] at H
    refine T_seq (sr ?_)
    refine pv tb 3 rfl ?_
    refine Tp rfl rfl (pur_lenT (T:=tInt) sl28 rfl rfl) rfl ?_
    refine pv tb 1 rfl ?_
    refine TO_nil ?_
    refine T_cond (t:=decide (i5<(f1.values.length:Int))) rfl (fun c_17=>?_) (fun c_17=>?_)
    ·replace H:=cond_t c_17 H
     refine T_skip ?_
     refine T_seq ?_
     refine T_block ?_
     refine sr ?_
     obtain ⟨v_18,h_19,H⟩:=bind_inv H
     obtain ⟨n_20,hz_21,hv_22⟩:=getI_inv h_19
     refine pv tb 3 rfl ?_
     refine Tp rfl rfl (pur_ixT (T:=tInt) sl28 rfl rfl hz_21 hv_22 rfl) rfl ?_
     refine Tp rfl rfl (pur_ldT (T:=tInt) (i:=n_20) (off:=0) rfl one3 rfl rfl hv_22 rfl) rfl ?_
     obtain ⟨r_23,h_24,H⟩:=bind_inv H
     refine TO_cons rfl (TOp_callV (call_static ent39 rfl) (msl1In_ok _ _ _ _ h_24) rfl rfl rfl ?_)
     refine pv tb 1 rfl ?_
     refine TO_nil ?_
     refine T_cond (t:=(!r_23)) rfl (fun c_25=>?_) (fun c_25=>?_)
     ·replace H:=cond_t c_25 H
      refine sr ?_
      refine pv tb 1 rfl ?_
      refine TO_nil ?_
      refine T_ret ?_
      refine block_ret ?_
      refine then_ret ?_
      refine then_ret ?_
      refine block_ret ?_
      refine then_ret ?_
      obtain rfl:=some_inj H
      obtain rfl:=some_inj K16_
      replace H:=onS_r N16_
      obtain rfl:=some_inj H
      refine end_ret (.tmp .nil) rfl rfl ⟨?_,rfl⟩
      rfl
     ·replace H:=cond_f c_25 H
      refine T_skip ?_
      refine T_region ?_
      refine pv tb 3 rfl ?_
      refine TO_nil ?_
      obtain rfl:=some_inj H
      exact again k16 (w64 (i5+1)) (Nat.lt_succ_self _) (w0 1) K16_
    ·replace H:=cond_f c_17 H
     refine T_exit ?_
     refine then_exit ?_
     refine then_exit ?_
     refine block_exit ?_
     obtain rfl:=some_inj H
     obtain rfl:=some_inj K16_
     replace H:=onS_l N16_
     refine sr ?_
     refine pv tb 1 rfl ?_
     refine TO_nil ?_
     refine T_ret ?_
     obtain rfl:=some_inj H
     refine end_ret (.tmp .nil) rfl rfl ⟨?_,rfl⟩
     rfl

theorem msIsValidDatabase_ok (u:Nat) (d0:Database) (r:Bool) (H:msIsValidDatabase u d0=some r):FnV prg 51 [.g (tD.enc d0)] (boolA r):=by
  unfold msIsValidDatabase at H
  refine fnV_of_T Tryz.func51 rfl rfl (Nat.le_of_ble_eq_true rfl) ?_
  refine te [(0,.g (tD.enc d0))] rfl ?_
  refine sr ?_
  refine TO_cons rfl (TOp_box rfl (boxAll rfl) rfl rfl ?_)
  refine pv tb 1 rfl ?_
  refine TO_nil (T_seq (sr ?_))
  refine pv tb 1 rfl ?_
  refine TO_nil ?_
  obtain ⟨O1_,L1_,N1_⟩:=bind_inv H
  clear H
  obtain ⟨B1_,hb1,L1_⟩:=gen_whileF L1_
  refine T_block ?_
  refine T_loopX (fun k=>fun (i3:Int)=>whileF B1_ k i3=some O1_) (fun (i3:Int)=>[(1,.b 0 0),(3,intA i3)]) (fun (i3:Int)=>[.box [sl tR d0.relations,sl tF d0.facts]]) u 0 (w0 1) L1_ ?_
  rintro _ i3 L1_
  obtain ⟨k1,rfl,C1_,H,K1_⟩:=while_step L1_
  rw [hb1] at H
  refine T_seq (sr ?_)
  refine pv tb 3 rfl ?_
  refine Tp rfl rfl (pur_lenT (T:=tF) sl25 rfl rfl) rfl ?_
  refine pv tb 1 rfl ?_
  refine TO_nil ?_
  refine T_cond (t:=decide (i3<(d0.facts.length:Int))) rfl (fun c_2=>?_) (fun c_2=>?_)
  ·replace H:=cond_t c_2 H
   refine T_skip ?_
   refine T_seq ?_
   refine T_block ?_
   obtain ⟨t38_3,J_3,H_4⟩:=bind_inv H
   refine T_cutX (fun x=>t38_3=x) (fun (t38_3:Bool)=>[(1,.b 0 0),(3,intA i3),(38,boolA t38_3)]) (fun (t38_3:Bool)=>[.box [sl tR d0.relations,sl tF d0.facts]]) ?_ ?_
   ·replace H:=J_3
    refine T_regionD mixed (by kernel_rfl) ?_
    obtain ⟨v_5,h_6,H⟩:=bind_inv H
    obtain ⟨n_7,hz_8,hv_9⟩:=getI_inv h_6
    refine pq tb 5 rfl ?_
    refine TQ_pure rfl (pur_ixT (T:=tF) sl25 rfl rfl hz_8 hv_9 rfl) rfl ?_
    refine TQ_pure rfl (pur_ldTK (T:=tF) (i:=n_7) (off:=0) rfl agg30 rfl rfl hv_9 (by decide) rfl) rfl ?_
    obtain ⟨r_10,h_11,H⟩:=bind_inv H
    refine TQ_callV rfl (call_static ent52 rfl) (msIsValidFact_ok u _ _ _ h_11) rfl rfl ?_
    refine pq tb 2 rfl ?_
    refine TQ_split (t:=(!r_10)) 20 rfl (fun g_12=>?_) (fun g_12=>?_)
    ·replace H:=cond_t g_12 H
     refine pq tb 8 rfl ?_
     refine tqe [(1,.b 0 0),(3,intA i3),(20,boolA true),(23,.v undef),(28,.v undef)] rfl ?_
     refine pq tb 10 rfl ?_
     refine TQ_nil ?_
     exact joined true (w0 1) (some_inj H).symm
    ·replace H:=cond_f g_12 H
     refine pq tb 3 rfl ?_
     refine TQ_split (t:=decide (0<i3)) 23 rfl (fun g_13=>?_) (fun g_13=>?_)
     ·replace H:=cond_t g_13 H
      obtain ⟨v_14,h_15,H⟩:=bind_inv H
      obtain ⟨n_16,hz_17,hv_18⟩:=getI_inv h_15
      refine pq tb 4 rfl ?_
      refine TQ_on rfl rfl (by decide) rfl (pur_ixT (T:=tF) sl25 rfl rfl hz_17 hv_18 rfl) rfl ?_
      refine TQ_on rfl rfl (by decide) rfl (pur_ldTK (T:=tF) (i:=n_16) (off:=0) rfl agg30 rfl rfl hv_18 (by decide) rfl) rfl ?_
      refine pq tb 2 rfl ?_
      refine tqe [(1,.b 0 0),(3,intA i3),(20,boolA false),(23,boolA true),(29,.g (tF.enc v_14)),(31,sl tF d0.facts)] rfl ?_
      refine pq tb 1 rfl ?_
      refine TQ_on rfl rfl (by decide) rfl (pur_ixT (T:=tF) sl25 rfl rfl hz_8 hv_9 rfl) rfl ?_
      refine TQ_on rfl rfl (by decide) rfl (pur_ldTK (T:=tF) (i:=n_7) (off:=0) rfl agg30 rfl rfl hv_9 (by decide) rfl) rfl ?_
      obtain ⟨r_19,h_20,H⟩:=bind_inv H
      refine TQ_onV rfl rfl (by decide) rfl (call_static ent27 rfl) (msCompareFacts_ok u _ _ _ h_20) rfl rfl ?_
      refine pq tb 3 rfl ?_
      refine TQ_nil ?_
      exact joined (decide (0≤r_19)) (w0 1) (some_inj H).symm
     ·replace H:=cond_f g_13 H
      refine pq tb 8 rfl ?_
      refine tqe [(1,.b 0 0),(3,intA i3),(20,boolA false),(23,boolA false),(29,.v undef),(31,.v undef)] rfl ?_
      refine pq tb 7 rfl ?_
      refine TQ_nil ?_
      exact joined false (w0 1) (some_inj H).symm
   ·rintro _ rfl
    replace H:=H_4
    refine T_cond (t:=t38_3) rfl (fun c_21=>?_) (fun c_21=>?_)
    ·replace H:=cond_t c_21 H
     refine sr ?_
     refine pv tb 1 rfl ?_
     refine TO_nil ?_
     refine T_ret ?_
     refine block_ret ?_
     refine then_ret ?_
     refine then_ret ?_
     refine block_ret ?_
     refine then_ret ?_
     obtain rfl:=some_inj H
     obtain rfl:=some_inj K1_
     replace H:=onS_r N1_
     obtain rfl:=some_inj H
     refine end_ret (.tmp .nil) rfl rfl ⟨?_,rfl⟩
     rfl
    ·replace H:=cond_f c_21 H
     refine T_skip ?_
     refine T_region ?_
     refine pv tb 3 rfl ?_
     refine TO_nil ?_
     obtain rfl:=some_inj H
     exact again k1 (w64 (i3+1)) (Nat.lt_succ_self _) (w0 1) K1_
  ·replace H:=cond_f c_2 H
   refine T_exit ?_
   refine then_exit ?_
   refine then_exit ?_
   refine block_exit ?_
   obtain rfl:=some_inj H
   obtain rfl:=some_inj K1_
   replace H:=onS_l N1_
   obtain ⟨t2_22,J_22,H_23⟩:=bind_inv H
   refine T_cutX (fun x=>t2_22=x) (fun (t2_22:Bool)=>[(2,boolA t2_22)]) (fun (t2_22:Bool)=>[]) ?_ ?_
   ·replace H:=J_22
    refine T_region ?_
    obtain ⟨r_24,h_25,H⟩:=bind_inv H
    refine pv tb 2 rfl ?_
    refine TO_cons rfl (TOp_callV (call_static ent83 rfl) (msAreValidRelations_ok _ _ h_25) rfl rfl rfl ?_)
    refine pv tb 1 rfl ?_
    refine TO_split (t:=r_24) 42 rfl (fun g_26=>?_) (fun g_26=>?_)
    ·replace H:=cond_t g_26 H
     refine pv tb 2 rfl ?_
     refine TO_on rfl rfl (by decide) rfl rfl (TOp_pure (pur_lenT (T:=tF) sl25 rfl rfl) rfl ?_)
     refine pv tb 3 rfl ?_
     refine TO_nil ?_
     exact joined (decide ((d0.facts.length:Int)≤14)) (w0 0) (some_inj H).symm
    ·replace H:=cond_f g_26 H
     refine pv tb 6 rfl ?_
     refine TO_nil ?_
     exact joined false (w0 0) (some_inj H).symm
   ·rintro _ rfl
    replace H:=H_23
    refine T_ret ?_
    obtain rfl:=some_inj H
    refine end_ret (.tmp .nil) rfl rfl ⟨?_,rfl⟩
    rfl

theorem msFactIndex_ok (u:Nat) (d0:Database) (f1:Fact) (r:Int) (H:msFactIndex u d0 f1=some r):FnV prg 54 [.g (tD.enc d0),.g (tF.enc f1)] (intA r):=by
  unfold msFactIndex at H
  refine fnV_of_T Tryz.func54 rfl rfl (Nat.le_of_ble_eq_true rfl) ?_
  refine te [(0,.g (tD.enc d0)),(1,.g (tF.enc f1))] rfl ?_
  refine sr ?_
  refine TO_cons rfl (TOp_box rfl (boxAll rfl) rfl rfl ?_)
  refine TO_cons rfl (TOp_box rfl (boxAll rfl) rfl rfl ?_)
  refine pv tb 1 rfl ?_
  refine TO_nil (T_seq (sr ?_))
  refine pv tb 1 rfl ?_
  refine TO_nil ?_
  obtain ⟨O1_,L1_,N1_⟩:=bind_inv H
  clear H
  obtain ⟨B1_,hb1,L1_⟩:=gen_whileF L1_
  refine T_block ?_
  refine T_loopX (fun k=>fun (i5:Int)=>whileF B1_ k i5=some O1_) (fun (i5:Int)=>[(2,.b 0 0),(3,.b 1 0),(5,intA i5)]) (fun (i5:Int)=>[.box [sl tR d0.relations,sl tF d0.facts],.box [intA f1.relation,sl tInt f1.values]]) u 0 (w0 2) L1_ ?_
  rintro _ i5 L1_
  obtain ⟨k1,rfl,C1_,H,K1_⟩:=while_step L1_
  rw [hb1] at H
  refine T_seq (sr ?_)
  refine pv tb 3 rfl ?_
  refine Tp rfl rfl (pur_lenT (T:=tF) sl25 rfl rfl) rfl ?_
  refine pv tb 1 rfl ?_
  refine TO_nil ?_
  refine T_cond (t:=decide (i5<(d0.facts.length:Int))) rfl (fun c_2=>?_) (fun c_2=>?_)
  ·replace H:=cond_t c_2 H
   refine T_skip ?_
   refine T_seq ?_
   refine T_block ?_
   refine T_seq ?_
   refine T_regionD mixed (by kernel_rfl) ?_
   obtain ⟨v_3,h_4,H⟩:=bind_inv H
   obtain ⟨n_5,hz_6,hv_7⟩:=getI_inv h_4
   refine pq tb 3 rfl ?_
   refine TQ_pure rfl (pur_ixT (T:=tF) sl25 rfl rfl hz_6 hv_7 rfl) rfl ?_
   refine TQ_pure rfl (pur_ldTK (T:=tF) (i:=n_5) (off:=0) rfl agg30 rfl rfl hv_7 (by decide) rfl) rfl ?_
   obtain ⟨r_8,h_9,H⟩:=bind_inv H
   refine pq tb 1 rfl ?_
   refine TQ_callV rfl (call_static ent27 rfl) (msCompareFacts_ok u _ _ _ h_9) rfl rfl ?_
   refine pq tb 1 rfl ?_
   refine TQ_nil ?_
   refine T_cond (t:=decide (r_8=0)) rfl (fun c_10=>?_) (fun c_10=>?_)
   ·replace H:=cond_t c_10 H
    refine sr ?_
    refine pv tb 2 rfl ?_
    refine TO_nil ?_
    refine te [(4,intA i5)] rfl ?_
    refine T_ret ?_
    refine block_ret ?_
    refine then_ret ?_
    refine then_ret ?_
    refine block_ret ?_
    refine then_ret ?_
    obtain rfl:=some_inj H
    obtain rfl:=some_inj K1_
    replace H:=onS_r N1_
    obtain rfl:=some_inj H
    refine end_ret (.tmp .nil) rfl rfl ⟨?_,rfl⟩
    rfl
   ·replace H:=cond_f c_10 H
    refine T_skip ?_
    refine T_region ?_
    refine pv tb 3 rfl ?_
    refine TO_nil ?_
    obtain rfl:=some_inj H
    exact again k1 (w64 (i5+1)) (Nat.lt_succ_self _) (w0 2) K1_
  ·replace H:=cond_f c_2 H
   refine T_exit ?_
   refine then_exit ?_
   refine then_exit ?_
   refine block_exit ?_
   obtain rfl:=some_inj H
   obtain rfl:=some_inj K1_
   replace H:=onS_l N1_
   refine sr ?_
   refine pv tb 1 rfl ?_
   refine TO_nil ?_
   refine T_ret ?_
   obtain rfl:=some_inj H
   refine end_ret (.tmp .nil) rfl rfl ⟨?_,rfl⟩
   rfl

theorem msContainsFact_ok (u:Nat) (d0:Database) (f1:Fact) (r:Bool) (H:msContainsFact u d0 f1=some r):FnV prg 53 [.g (tD.enc d0),.g (tF.enc f1)] (boolA r):=by
  unfold msContainsFact at H
  refine fnV_of_T Tryz.func53 rfl rfl (Nat.le_of_ble_eq_true rfl) ?_
  refine te [(0,.g (tD.enc d0)),(1,.g (tF.enc f1))] rfl ?_
  refine sr ?_
  refine TO_cons rfl (TOp_box rfl (boxAll rfl) rfl rfl ?_)
  refine TO_cons rfl (TOp_box rfl (boxAll rfl) rfl rfl ?_)
  refine pv tb 1 rfl ?_
  refine TO_nil ?_
  obtain ⟨t4_1,J_1,H_2⟩:=bind_inv H
  refine T_cutX (fun x=>t4_1=x) (fun (t4_1:Bool)=>[(4,boolA t4_1)]) (fun (t4_1:Bool)=>[]) ?_ ?_
  ·replace H:=J_1
   refine T_region ?_
   obtain ⟨r_3,h_4,H⟩:=bind_inv H
   refine pv tb 1 rfl ?_
   refine TO_cons rfl (TOp_callV (call_static ent51 rfl) (msIsValidDatabase_ok u _ _ h_4) rfl rfl rfl ?_)
   refine pv tb 1 rfl ?_
   refine TO_split (t:=r_3) 7 rfl (fun g_5=>?_) (fun g_5=>?_)
   ·replace H:=cond_t g_5 H
    obtain ⟨r_6,h_7,H⟩:=bind_inv H
    refine pv tb 2 rfl ?_
    refine TO_on rfl rfl (by decide) rfl rfl (TOp_callV (call_static ent54 rfl) (msFactIndex_ok u _ _ _ h_7) rfl rfl rfl ?_)
    refine pv tb 3 rfl ?_
    refine TO_nil ?_
    exact joined (decide (0≤r_6)) (w0 0) (some_inj H).symm
   ·replace H:=cond_f g_5 H
    refine pv tb 6 rfl ?_
    refine TO_nil ?_
    exact joined false (w0 0) (some_inj H).symm
  ·rintro _ rfl
   replace H:=H_2
   refine T_ret ?_
   obtain rfl:=some_inj H
   refine end_ret (.tmp .nil) rfl rfl ⟨?_,rfl⟩
   rfl

theorem msInsertFact_own (u:Nat) (d0:Database) (f1:Fact) (r:(Database × Bool)) (H:msInsertFact u d0 f1=some r):FnO prg 23 [.g (tD.enc d0),.g (tF.enc f1)] (.t [.g [.m [0] 0 r.1.relations.length tR.k,.m [1] 0 r.1.facts.length tF.k],boolA r.2]) [.row (flat tR.enc r.1.relations),.row (flat tF.enc r.1.facts)]:=by
  unfold msInsertFact at H
  refine fnO_of_T Tryz.func23 rfl rfl (Nat.le_of_ble_eq_true rfl) ?_
  refine te [(0,.g (tD.enc d0)),(1,.g (tF.enc f1))] rfl ?_
  refine sr ?_
  refine TO_cons rfl (TOp_box rfl (boxAll rfl) rfl rfl ?_)
  refine TO_cons rfl (TOp_box rfl (boxAll rfl) rfl rfl ?_)
  refine TO_cons rfl (TOp_alloc zero27 rfl rfl ?_)
  refine pv tb 1 rfl ?_
  refine TO_nil (sr ?_)
  obtain ⟨r_1,h_2,H⟩:=bind_inv H
  refine pv tb 1 rfl ?_
  refine TO_cons rfl (TOp_callO (call_static ent22 rfl) rfl (msl4Copy_enc u _ _ h_2) rfl rfl rfl ?_)
  refine toe [(2,.b 0 0),(3,.b 1 0),(4,.b 2 0),(9,.g (tD.enc d0)),(10,.g [.m [3] 0 r_1.relations.length tR.k,.m [4] 0 r_1.facts.length tF.k])] rfl ?_
  refine TO_st (σ':=[.box [sl tR d0.relations,sl tF d0.facts],.box [intA f1.relation,sl tInt f1.values],.box [.n,.n],.row (flat tR.enc r_1.relations),.row (flat tF.enc r_1.facts)]) rfl ?_
  refine TO_cons rfl (TOp_alloc zero27 rfl rfl ?_)
  refine TO_cons rfl (TOp_storeB sz27 rfl rfl rfl rfl rfl rfl rfl (by decide) (lb rfl) rfl ?_)
  refine TO_st (σ':=[.box [sl tR d0.relations,sl tF d0.facts],.box [intA f1.relation,sl tInt f1.values],.box [.n,.n],.row (flat tR.enc r_1.relations),.row (flat tF.enc r_1.facts),.box [.m [3] 0 r_1.relations.length tR.k,.m [4] 0 r_1.facts.length tF.k]]) rfl ?_
  refine TO_nil (T_seq ?_)
  obtain ⟨t31_3,J_3,H_4⟩:=bind_inv H
  refine T_cutX (fun x=>t31_3=x) (fun (t31_3:Bool)=>[(3,.b 1 0),(4,.b 2 0),(6,.b 5 0),(31,boolA t31_3)]) (fun (t31_3:Bool)=>[.box [sl tR d0.relations,sl tF d0.facts],.box [intA f1.relation,sl tInt f1.values],.box [.n,.n],.row (flat tR.enc r_1.relations),.row (flat tF.enc r_1.facts),.box [.m [3] 0 r_1.relations.length tR.k,.m [4] 0 r_1.facts.length tF.k]]) ?_ ?_
  ·replace H:=J_3
   refine T_region ?_
   obtain ⟨r_5,h_6,H⟩:=bind_inv H
   refine pv tb 1 rfl ?_
   refine TO_cons rfl (TOp_callV (call_static ent51 rfl) (msIsValidDatabase_ok u _ _ h_6) rfl rfl rfl ?_)
   refine pv tb 2 rfl ?_
   refine TO_split (t:=(!r_5)) 14 rfl (fun g_7=>?_) (fun g_7=>?_)
   ·replace H:=cond_t g_7 H
    refine pv tb 17 rfl ?_
    refine TO_nil ?_
    exact joined true (w0 6) (some_inj H).symm
   ·replace H:=cond_f g_7 H
    obtain ⟨r_8,h_9,H⟩:=bind_inv H
    refine pv tb 3 rfl ?_
    refine TO_on rfl rfl (by decide) rfl rfl (TOp_callV (call_static ent52 rfl) (msIsValidFact_ok u _ _ _ h_9) rfl rfl rfl ?_)
    refine pv tb 3 rfl ?_
    refine TO_split (t:=(!r_8)) 21 rfl (fun g_10=>?_) (fun g_10=>?_)
    ·replace H:=cond_t g_10 H
     refine pv tb 10 rfl ?_
     refine TO_nil ?_
     exact joined true (w0 6) (some_inj H).symm
    ·replace H:=cond_f g_10 H
     obtain ⟨r_11,h_12,H⟩:=bind_inv H
     refine pv tb 2 rfl ?_
     refine TO_on rfl rfl (by decide) rfl rfl (TOp_callV (call_static ent53 rfl) (msContainsFact_ok u _ _ _ h_12) rfl rfl rfl ?_)
     refine pv tb 2 rfl ?_
     refine TO_split (t:=r_11) 26 rfl (fun g_13=>?_) (fun g_13=>?_)
     ·replace H:=cond_t g_13 H
      refine pv tb 5 rfl ?_
      refine TO_nil ?_
      exact joined true (w0 6) (some_inj H).symm
     ·replace H:=cond_f g_13 H
      refine pv tb 2 rfl ?_
      refine TO_on rfl rfl (by decide) rfl rfl (TOp_pure (pur_lenT (T:=tF) sl25 rfl rfl) rfl ?_)
      refine pv tb 2 rfl ?_
      refine TO_nil ?_
      exact joined (decide ((d0.facts.length:Int)=14)) (w0 6) (some_inj H).symm
  ·rintro _ rfl
   replace H:=H_4
   refine T_cond (t:=t31_3) rfl (fun c_14=>?_) (fun c_14=>?_)
   ·replace H:=cond_t c_14 H
    refine sr ?_
    refine pv tb 1 rfl ?_
    refine TO_cons rfl (TOp_storeB sz27 rfl rfl rfl rfl rfl rfl rfl (by decide) (lb rfl) rfl ?_)
    refine TO_st (σ':=[.box [sl tR d0.relations,sl tF d0.facts],.box [intA f1.relation,sl tInt f1.values],.box [.m [3] 0 r_1.relations.length tR.k,.m [4] 0 r_1.facts.length tF.k],.row (flat tR.enc r_1.relations),.row (flat tF.enc r_1.facts),.box [.m [3] 0 r_1.relations.length tR.k,.m [4] 0 r_1.facts.length tF.k]]) rfl ?_
    refine pv tb 1 rfl ?_
    refine TO_nil ?_
    refine T_ret ?_
    refine then_ret ?_
    obtain rfl:=some_inj H
    exact end_pick (.cellK rfl agg27 rfl (lb rfl) (.tmp .nil)) rfl [3,4] (by decide) rfl rfl rfl rfl rfl rfl
   ·replace H:=cond_f c_14 H
    refine T_skip ?_
    refine sr ?_
    refine pv tb 1 rfl ?_
    refine TO_nil ?_
    obtain ⟨O15_,L15_,N15_⟩:=bind_inv H
    clear H
    obtain ⟨B15_,hb15,L15_⟩:=gen_whileF L15_
    refine T_cutX (fun (x:Int)=>O15_=.inl x) (fun (k7:Int)=>[(3,.b 1 0),(4,.b 2 0),(6,.b 5 0),(7,intA k7)]) (fun (k7:Int)=>[.box [sl tR d0.relations,sl tF d0.facts],.box [intA f1.relation,sl tInt f1.values],.box [.n,.n],.row (flat tR.enc r_1.relations),.row (flat tF.enc r_1.facts),.box [.m [3] 0 r_1.relations.length tR.k,.m [4] 0 r_1.facts.length tF.k]]) ?_ ?_
    ·skip
     refine T_block ?_
     refine T_loopX (fun k=>fun (k7:Int)=>whileF B15_ k k7=some O15_) (fun (k7:Int)=>[(3,.b 1 0),(4,.b 2 0),(6,.b 5 0),(7,intA k7)]) (fun (k7:Int)=>[.box [sl tR d0.relations,sl tF d0.facts],.box [intA f1.relation,sl tInt f1.values],.box [.n,.n],.row (flat tR.enc r_1.relations),.row (flat tF.enc r_1.facts),.box [.m [3] 0 r_1.relations.length tR.k,.m [4] 0 r_1.facts.length tF.k]]) u 0 (w0 6) L15_ ?_
     rintro _ k7 L15_
     obtain ⟨k15,rfl,C15_,H,K15_⟩:=while_step L15_
     rw [hb15] at H
     refine T_seq ?_
     obtain ⟨t47_16,J_16,H_17⟩:=bind_inv H
     refine T_cutX (fun x=>t47_16=x) (fun (t47_16:Bool)=>[(3,.b 1 0),(4,.b 2 0),(6,.b 5 0),(7,intA k7),(47,boolA t47_16)]) (fun (t47_16:Bool)=>[.box [sl tR d0.relations,sl tF d0.facts],.box [intA f1.relation,sl tInt f1.values],.box [.n,.n],.row (flat tR.enc r_1.relations),.row (flat tF.enc r_1.facts),.box [.m [3] 0 r_1.relations.length tR.k,.m [4] 0 r_1.facts.length tF.k]]) ?_ ?_
     ·replace H:=J_16
      refine T_regionD mixed (by kernel_rfl) ?_
      refine pq tb 3 rfl ?_
      refine TQ_pure rfl (pur_len_m sl25 rfl rfl) rfl ?_
      refine pq tb 2 rfl ?_
      refine TQ_split (t:=decide (k7<(r_1.facts.length:Int))) 38 rfl (fun g_18=>?_) (fun g_18=>?_)
      ·replace H:=cond_t g_18 H
       obtain ⟨v_19,h_20,H⟩:=bind_inv H
       obtain ⟨n_21,hz_22,hv_23⟩:=getI_inv h_20
       refine pq tb 3 rfl ?_
       refine TQ_on rfl rfl (by decide) rfl (pur_ixM (T:=tF) sl25 rfl rfl hz_22 hv_23 rfl) rfl ?_
       refine TQ_on rfl rfl (by decide) rfl (pur_ldEK (f:=tF.enc) (k:=tF.k) (i:=n_21) (off:=0) tF.len rfl agg30 rfl rfl rfl hv_23 (by decide) rfl) rfl ?_
       obtain ⟨r_24,h_25,H⟩:=bind_inv H
       refine pq tb 1 rfl ?_
       refine TQ_onV rfl rfl (by decide) rfl (call_static ent27 rfl) (msCompareFacts_ok u _ _ _ h_25) rfl rfl ?_
       refine pq tb 2 rfl ?_
       refine TQ_nil ?_
       exact joined (decide (r_24<0)) (w0 6) (some_inj H).symm
      ·replace H:=cond_f g_18 H
       refine pq tb 9 rfl ?_
       refine TQ_nil ?_
       exact joined false (w0 6) (some_inj H).symm
     ·rintro _ rfl
      replace H:=H_17
      refine T_cond (t:=t47_16) rfl (fun c_26=>?_) (fun c_26=>?_)
      ·replace H:=cond_t c_26 H
       refine T_skip ?_
       refine T_block ?_
       refine T_region ?_
       refine pv tb 3 rfl ?_
       refine TO_nil ?_
       obtain rfl:=some_inj H
       exact again k15 (w64 (k7+1)) (Nat.lt_succ_self _) (w0 6) K15_
      ·replace H:=cond_f c_26 H
       refine T_exit ?_
       refine then_exit ?_
       refine then_exit ?_
       refine block_exit ?_
       obtain rfl:=some_inj H
       obtain rfl:=some_inj K15_
       exact joined k7 (w0 6) rfl
    ·rintro k7 rfl
     replace H:=onS_l N15_
     obtain ⟨us_27,h_28,H⟩:=bind_inv H
     obtain ⟨ys_29,h_30,H⟩:=bind_inv H
     obtain ⟨i_31,j_32,hi_33,hj_34,hij_35,hjl_36,hys_37,_⟩:=cutI_inv h_30
     obtain ⟨us_38,h_39,H⟩:=bind_inv H
     refine T_pad ?_
     refine T_cutX (fun (_:Unit)=>True) (fun _=>[(4,.b 2 0),(6,.b 5 0),(7,intA k7),(8,.m [6] 0 us_38.length tF.k)]) (fun _=>[.box [sl tR d0.relations,sl tF d0.facts],.box [intA f1.relation,sl tInt f1.values],.box [.n,.n],.row (flat tR.enc r_1.relations),.row (flat tF.enc r_1.facts),.box [.m [3] 0 r_1.relations.length tR.k,.m [4] 0 r_1.facts.length tF.k],.row (flat tF.enc us_38)]) ?_ ?_
     ·skip
      refine T_regionP 6 mixed rfl ?_
      refine pa tb [0,1,3,4,8,9,10] 7 rfl (by kernel_rfl) rfl ?_
      refine tf 11 rfl (pur_cutM (lo:=(some (.tmp 60))) (hi:=none) sl25 rfl ⟨_,congrArg (fun z=>A.v (.int .i64 z)) hi_33⟩ hj_34.symm hij_35 hjl_36 rfl) rfl rfl (by kernel_rfl) ?_
      refine t1 2 (by kernel_rfl) rfl rfl (TOp_lit (nn:=0) (k:=1) sl28 zero3 rfl rfl rfl rfl (by decide) ?_)
      refine t1 5 (by kernel_rfl) rfl rfl (TOp_appY (T:=tInt) (f:=tInt.enc) (xs:=([]:(List Int))) (ys:=f1.values) tInt.len sl28 zero3 rfl bytes3 (by decide) rfl rfl rfl rfl (src_T (T:=tInt) rfl) (flat_cell tInt _) h_28 ?_)
      refine tmw 7 8 (by decide) (lb rfl) rfl rfl (lb rfl) rfl ?_
      refine tf 6 rfl (pur_build bld30 rfl rfl) rfl rfl (by kernel_rfl) ?_
      refine TA_ghost (E':=[(4,.b 2 0),(6,.b 5 0),(7,intA k7),(56,.g [intA f1.relation,.m [7] 0 us_27.length tInt.k]),(61,.m [4] (i_31*tF.k) (j_32 - i_31) tF.k)]) (σ':=[.dead,.dead,.dead,.row (flat tR.enc r_1.relations),.row (flat tF.enc r_1.facts),.dead,.dead,.row (flat tInt.enc us_27),.dead]) (Ghost.weak (WeakL.to 9 (lb rfl) rfl rfl rfl rfl ⟨leR rfl,leR rfl,leR rfl,leR rfl,leR rfl,trivial⟩)) ?_
      refine TA_frz1 7 (E':=[(4,.b 2 0),(6,.b 5 0),(7,intA k7),(56,.g [intA f1.relation,sl tInt us_27]),(61,.m [4] (i_31*tF.k) (j_32 - i_31) tF.k)]) rfl rfl (lb rfl) ?_ ?_
      ·exact ⟨.keep rfl,.keep rfl,.keep rfl,fz1G (fzC (.keep rfl) (fzC fz1E fzN)),.keep rfl,trivial⟩
      refine TA_st (σ':=[.dead,.dead,.dead,.row (flat tR.enc r_1.relations),.row (flat tF.enc r_1.facts),.dead,.dead,.dead,.dead]) rfl ?_
      refine t1 7 (by kernel_rfl) rfl rfl (TOp_lit (nn:=1) (k:=2) sl25 zero30 rfl rfl rfl rfl (by decide) ?_)
      refine t1 12 (by kernel_rfl) rfl rfl (TOp_appY (T:=tF) (f:=tF.enc) (xs:=([({ relation:=f1.relation,values:=us_27 }:Fact)]:(List Fact))) (ys:=ys_29) tF.len sl25 zero30 rfl bytes30 (by decide) rfl rfl rfl rfl (src_cut (T:=tF) (xs:=r_1.facts) (i:=i_31) (j:=j_32) rfl rfl hij_35 hjl_36 hys_37) (flat_cell tF _) h_39 ?_)
      refine tmw 9 10 (by decide) (lb rfl) rfl rfl (lb rfl) rfl ?_
      refine pa tb [13] 0 rfl (by kernel_rfl) rfl ?_
      refine TA_ghost (E':=[(4,.b 2 0),(6,.b 5 0),(7,intA k7),(8,.m [6] 0 us_38.length tF.k)]) (σ':=[.dead,.dead,.dead,.row (flat tR.enc r_1.relations),.row (flat tF.enc r_1.facts),.dead,.row (flat tF.enc us_38),.dead,.dead,.dead,.dead]) (Ghost.move 6 9 (by decide) (lb rfl) rfl rfl (lb rfl) (Ghost.weak (WeakL.to 11 (lb rfl) rfl rfl rfl rfl ⟨leR rfl,leR rfl,leR rfl,leR rfl,trivial⟩))) ?_
      exact TA_nil (by kernel_rfl) (joined () (w0 7) trivial)
     ·rintro _ _
      refine sr ?_
      refine TO_cons rfl (TOp_lit (nn:=0) (k:=2) sl25 zero30 rfl rfl rfl rfl (by decide) ?_)
      refine TO_st (σ':=[.box [sl tR d0.relations,sl tF d0.facts],.box [intA f1.relation,sl tInt f1.values],.box [.n,.n],.row (flat tR.enc r_1.relations),.row (flat tF.enc r_1.facts),.box [.m [3] 0 r_1.relations.length tR.k,.m [4] 0 r_1.facts.length tF.k],.row (flat tF.enc us_38),.row (flat tF.enc ([]:(List Fact)))]) rfl ?_
      obtain ⟨ys_40,h_41,H⟩:=bind_inv H
      obtain ⟨i_42,j_43,hi_44,hj_45,hij_46,hjl_47,hys_48,_⟩:=cutI_inv h_41
      refine pv tb 3 rfl ?_
      refine Tp rfl rfl (pur_cutM (lo:=none) (hi:=(some (.tmp 66))) sl25 rfl hi_44.symm ⟨_,congrArg (fun z=>A.v (.int .i64 z)) hj_45⟩ hij_46 hjl_47 rfl) rfl ?_
      obtain ⟨us_49,h_50,H⟩:=bind_inv H
      refine TO_cons rfl (TOp_appZ (T:=tF) (f:=tF.enc) (xs:=([]:(List Fact))) (ys:=ys_40) tF.len sl25 zero30 rfl bytes30 (by decide) rfl rfl rfl rfl (src_cut (T:=tF) (xs:=r_1.facts) (i:=i_42) (j:=j_43) rfl rfl hij_46 hjl_47 hys_48) (flat_cell tF _) h_50 (lb rfl) ?_)
      refine toe [(4,.b 2 0),(6,.b 5 0),(7,intA k7),(8,.m [6] 0 us_38.length tF.k),(64,.b 5 1),(65,.m [4] 0 r_1.facts.length tF.k),(66,intA k7),(67,.m [4] (i_42*tF.k) (j_43 - i_42) tF.k),(68,.m [7] 0 us_49.length tF.k)] rfl ?_
      refine TO_st (σ':=[.box [sl tR d0.relations,sl tF d0.facts],.box [intA f1.relation,sl tInt f1.values],.box [.n,.n],.row (flat tR.enc r_1.relations),.row (flat tF.enc r_1.facts),.box [.m [3] 0 r_1.relations.length tR.k,.m [4] 0 r_1.facts.length tF.k],.row (flat tF.enc us_38),.row (flat tF.enc us_49),.dead]) rfl ?_
      obtain ⟨us_51,h_52,H⟩:=bind_inv H
      refine pv tb 1 rfl ?_
      refine TO_cons rfl (TOp_appZ (T:=tF) (f:=tF.enc) (xs:=us_49) (ys:=us_38) tF.len sl25 zero30 rfl bytes30 (by decide) rfl rfl rfl rfl (src_mT (f:=tF.enc) tF.len rfl rfl (flat_cell tF _)) (flat_cell tF _) h_52 (lb rfl) ?_)
      refine toe [(4,.b 2 0),(6,.b 5 0),(7,intA k7),(8,.m [6] 0 us_38.length tF.k),(64,.b 5 1),(65,.m [4] 0 r_1.facts.length tF.k),(66,intA k7),(67,.m [4] (i_42*tF.k) (j_43 - i_42) tF.k),(69,.m [6] 0 us_38.length tF.k),(70,.m [7] 0 us_51.length tF.k)] rfl ?_
      refine TO_st (σ':=[.box [sl tR d0.relations,sl tF d0.facts],.box [intA f1.relation,sl tInt f1.values],.box [.n,.n],.row (flat tR.enc r_1.relations),.row (flat tF.enc r_1.facts),.box [.m [3] 0 r_1.relations.length tR.k,.m [4] 0 r_1.facts.length tF.k],.row (flat tF.enc us_38),.row (flat tF.enc us_51),.dead,.dead]) rfl ?_
      refine pv tb 1 rfl ?_
      refine TO_cons rfl (TOp_storeB sz25 rfl rfl rfl rfl rfl rfl rfl (by decide) (lb rfl) rfl ?_)
      refine TO_st (σ':=[.box [sl tR d0.relations,sl tF d0.facts],.box [intA f1.relation,sl tInt f1.values],.box [.n,.n],.row (flat tR.enc r_1.relations),.row (flat tF.enc r_1.facts),.box [.m [3] 0 r_1.relations.length tR.k,.m [7] 0 us_51.length tF.k],.row (flat tF.enc us_38),.row (flat tF.enc us_51),.dead,.dead]) rfl ?_
      refine TO_nil (sr ?_)
      refine pv tb 1 rfl ?_
      refine TO_cons rfl (TOp_storeB sz27 rfl rfl rfl rfl rfl rfl rfl (by decide) (lb rfl) rfl ?_)
      refine TO_st (σ':=[.box [sl tR d0.relations,sl tF d0.facts],.box [intA f1.relation,sl tInt f1.values],.box [.m [3] 0 r_1.relations.length tR.k,.m [7] 0 us_51.length tF.k],.row (flat tR.enc r_1.relations),.row (flat tF.enc r_1.facts),.box [.m [3] 0 r_1.relations.length tR.k,.m [7] 0 us_51.length tF.k],.row (flat tF.enc us_38),.row (flat tF.enc us_51),.dead,.dead]) rfl ?_
      refine pv tb 1 rfl ?_
      refine TO_nil ?_
      refine T_ret ?_
      obtain rfl:=some_inj H
      exact end_pick (.cellK rfl agg27 rfl (lb rfl) (.tmp .nil)) rfl [3,7] (by decide) rfl rfl rfl rfl rfl rfl
theorem msInsertFact_ok (u:Nat) (d0:Database) (f1:Fact) (r:(Database × Bool)) (H:msInsertFact u d0 f1=some r):FnV prg 23 [.g (tD.enc d0),.g (tF.enc f1)] (.t [.g (tD.enc r.1),boolA r.2]):=(msInsertFact_own u d0 f1 r H).frz (frzOK_t (frz_cons (frzOK_g (frz_cons (frzTE (T:=tR) rfl) (frz_cons (frzTE (T:=tF) rfl) frz_nil)).1 (frz_cons (frzTE (T:=tR) rfl) (frz_cons (frzTE (T:=tF) rfl) frz_nil)).2) (frz_cons (frz_loose rfl) frz_nil)).1 (frz_cons (frzOK_g (frz_cons (frzTE (T:=tR) rfl) (frz_cons (frzTE (T:=tF) rfl) frz_nil)).1 (frz_cons (frzTE (T:=tR) rfl) (frz_cons (frzTE (T:=tF) rfl) frz_nil)).2) (frz_cons (frz_loose rfl) frz_nil)).2)

theorem msl1Byte_x (c0:l1Cur) (r:(Int × l1Cur)) (H:msl1Byte c0=some r):FnS prg 70 [.b 0 0] [.box [sl (tI .u8) c0.b,intA c0.i,intA c0.h]] (intA r.1) [.box [sl (tI .u8) r.2.b,intA r.2.i,intA r.2.h]]:=by
  unfold msl1Byte at H
  refine fnS_of_T Tryz.func70 rfl rfl (Nat.le_of_ble_eq_true rfl) ?_
  refine te [(0,.b 0 0)] rfl ?_
  refine T_st (σ':=[.box [sl (tI .u8) c0.b,intA c0.i,intA c0.h]]) rfl ?_
  refine sr ?_
  refine pv tb 1 rfl ?_
  refine TO_nil (sr ?_)
  refine pv tb 2 rfl ?_
  refine Tp rfl rfl (pur_nil_b rfl rfl) rfl ?_
  refine pv tb 4 rfl ?_
  refine Tp rfl rfl (pur_nil_b rfl rfl) rfl ?_
  refine pv tb 1 rfl ?_
  refine TO_cons rfl (TOp_storeB sz3 rfl rfl rfl rfl rfl rfl rfl (by decide) (lb rfl) rfl ?_)
  refine TO_st (σ':=[.box [sl (tI .u8) c0.b,intA c0.i,intA (w64 ((w64 (c0.h*6364136223846793005))+1442695040888963407))]]) rfl ?_
  refine TO_nil (T_seq ?_)
  refine T_regionD mixed (by kernel_rfl) ?_
  refine pq tb 1 rfl ?_
  refine TQ_pure rfl (pur_nil_b rfl rfl) rfl ?_
  refine pq tb 2 rfl ?_
  refine TQ_pure rfl (pur_shr rfl rfl rfl (by decide)) rfl ?_
  refine pq tb 1 rfl ?_
  refine TQ_pure rfl (pur_nil_b rfl rfl) rfl ?_
  refine pq tb 1 rfl ?_
  refine tqe [(0,.b 0 0),(17,intA (shrI .i64 (w64 ((w64 (c0.h*6364136223846793005))+1442695040888963407)) 33)),(20,.b 0 2)] rfl ?_
  refine pq tb 1 rfl ?_
  refine TQ_pure rfl (pur_shr rfl rfl rfl (by decide)) rfl ?_
  refine TQ_pure rfl (pur_xor rfl rfl rfl) rfl ?_
  refine TQ_pure rfl (pur_and rfl rfl rfl) rfl ?_
  refine pq tb 1 rfl ?_
  refine TQ_nil (T_seq (T_seq ?_))
  refine T_regionD mixed (by kernel_rfl) ?_
  refine pq tb 1 rfl ?_
  refine TQ_pure rfl (pur_nil_b rfl rfl) rfl ?_
  refine pq tb 3 rfl ?_
  refine TQ_pure rfl (pur_nil_b rfl rfl) rfl ?_
  refine pq tb 2 rfl ?_
  refine TQ_pure rfl (pur_lenT (T:=(tI .u8)) sl22 rfl rfl) rfl ?_
  refine pq tb 1 rfl ?_
  refine TQ_nil ?_
  refine te [(0,.b 0 0),(3,intA (bitI .and .i64 (bitI .xor .i64 (shrI .i64 (w64 ((w64 (c0.h*6364136223846793005))+1442695040888963407)) 33) (shrI .i64 (w64 ((w64 (c0.h*6364136223846793005))+1442695040888963407)) 45)) 255)),(34,boolA (decide (c0.i<(c0.b.length:Int))))] rfl ?_
  refine T_cond (t:=decide (c0.i<(c0.b.length:Int))) rfl (fun c_1=>?_) (fun c_1=>?_)
  ·replace H:=cond_t c_1 H
   refine T_seq ?_
   refine T_regionD mixed (by kernel_rfl) ?_
   refine pq tb 2 rfl ?_
   refine TQ_pure rfl (pur_nil_b rfl rfl) rfl ?_
   refine pq tb 3 rfl ?_
   refine TQ_pure rfl (pur_nil_b rfl rfl) rfl ?_
   obtain ⟨v_2,h_3,H⟩:=bind_inv H
   obtain ⟨n_4,hz_5,hv_6⟩:=getI_inv h_3
   refine pq tb 2 rfl ?_
   refine TQ_pure rfl (pur_ixT (T:=(tI .u8)) sl22 rfl rfl hz_5 hv_6 rfl) rfl ?_
   refine TQ_pure rfl (pur_ldT (T:=(tI .u8)) (i:=n_4) (off:=0) rfl one5 rfl rfl hv_6 rfl) rfl ?_
   refine TQ_pure rfl (pur_convI (k:=.i64) (k':=.u8) ⟨_,Tryz.underlying5⟩ Tryz.underlying3 rfl rfl) rfl ?_
   refine pq tb 1 rfl ?_
   refine TQ_pure rfl (pur_and rfl rfl rfl) rfl ?_
   refine pq tb 1 rfl ?_
   refine TQ_nil ?_
   refine te [(0,.b 0 0),(3,intA (bitI .and .i64 (w64 ((bitI .and .i64 (bitI .xor .i64 (shrI .i64 (w64 ((w64 (c0.h*6364136223846793005))+1442695040888963407)) 33) (shrI .i64 (w64 ((w64 (c0.h*6364136223846793005))+1442695040888963407)) 45)) 255)+(w64 v_2))) 255))] rfl ?_
   refine T_region ?_
   refine pv tb 2 rfl ?_
   refine Tp rfl rfl (pur_nil_b rfl rfl) rfl ?_
   refine pv tb 3 rfl ?_
   refine Tp rfl rfl (pur_nil_b rfl rfl) rfl ?_
   refine pv tb 1 rfl ?_
   refine TO_cons rfl (TOp_storeB sz3 rfl rfl rfl rfl rfl rfl rfl (by decide) (lb rfl) rfl ?_)
   refine TO_st (σ':=[.box [sl (tI .u8) c0.b,intA (w64 (c0.i+1)),intA (w64 ((w64 (c0.h*6364136223846793005))+1442695040888963407))]]) rfl ?_
   refine TO_nil (sr ?_)
   refine pv tb 2 rfl ?_
   refine TO_nil ?_
   refine T_ret ?_
   obtain rfl:=some_inj H
   exact end_pickX (.tmp .nil) rfl [0] (by decide) (lb rfl) rfl (lb rfl) rfl rfl rfl rfl rfl rfl
  ·replace H:=cond_f c_1 H
   refine T_skip ?_
   refine sr ?_
   refine pv tb 2 rfl ?_
   refine TO_nil ?_
   refine T_ret ?_
   obtain rfl:=some_inj H
   exact end_pickX (.tmp .nil) rfl [0] (by decide) (lb rfl) rfl (lb rfl) rfl rfl rfl rfl rfl rfl

theorem msl1Below_x (c0:l1Cur) (n1:Int) (r:(Int × l1Cur)) (H:msl1Below c0 n1=some r):FnS prg 64 [.b 0 0,intA n1] [.box [sl (tI .u8) c0.b,intA c0.i,intA c0.h]] (intA r.1) [.box [sl (tI .u8) r.2.b,intA r.2.i,intA r.2.h]]:=by
  unfold msl1Below at H
  refine fnS_of_T Tryz.func64 rfl rfl (Nat.le_of_ble_eq_true rfl) ?_
  refine te [(0,.b 0 0),(1,intA n1)] rfl ?_
  refine T_st (σ':=[.box [sl (tI .u8) c0.b,intA c0.i,intA c0.h]]) rfl ?_
  refine sr ?_
  refine pv tb 1 rfl ?_
  refine TO_nil (T_seq (sr ?_))
  refine pv tb 2 rfl ?_
  refine TO_nil ?_
  refine T_cond (t:=decide (n1≤0)) rfl (fun c_1=>?_) (fun c_1=>?_)
  ·replace H:=cond_t c_1 H
   refine sr ?_
   refine pv tb 1 rfl ?_
   refine TO_nil ?_
   refine T_ret ?_
   refine then_ret ?_
   obtain rfl:=some_inj H
   exact end_pickX (.tmp .nil) rfl [0] (by decide) (lb rfl) rfl (lb rfl) rfl rfl rfl rfl rfl rfl
  ·replace H:=cond_f c_1 H
   refine T_skip ?_
   refine T_seq (sr ?_)
   refine pv tb 2 rfl ?_
   refine TO_nil ?_
   refine T_cond (t:=decide (n1≤256)) rfl (fun c_2=>?_) (fun c_2=>?_)
   ·replace H:=cond_t c_2 H
    refine sr ?_
    obtain ⟨r_3,h_4,H⟩:=bind_inv H
    refine pv tb 1 rfl ?_
    refine TO_cons rfl (TOp_callS [0] (call_static ent70 rfl) (by decide) rfl rfl rfl rfl rfl rfl (msl1Byte_x _ _ h_4) rfl rfl ?_)
    refine toe [(0,.b 0 0),(1,intA n1),(12,boolA (decide (n1≤256))),(13,.b 0 0),(14,intA r_3.1)] rfl ?_
    refine TO_st (σ':=[.box [sl (tI .u8) r_3.2.b,intA r_3.2.i,intA r_3.2.h]]) rfl ?_
    obtain ⟨_u,h_5,H⟩:=bind_inv H
    refine pv tb 1 rfl ?_
    refine Tp rfl rfl (pur_rem rfl rfl rfl (gD_inv h_5)) rfl ?_
    refine pv tb 1 rfl ?_
    refine TO_nil ?_
    refine T_ret ?_
    refine then_ret ?_
    obtain rfl:=some_inj H
    exact end_pickX (.tmp .nil) rfl [0] (by decide) (lb rfl) rfl (lb rfl) rfl rfl rfl rfl rfl rfl
   ·replace H:=cond_f c_2 H
    refine T_skip ?_
    refine sr ?_
    obtain ⟨r_6,h_7,H⟩:=bind_inv H
    refine pv tb 1 rfl ?_
    refine TO_cons rfl (TOp_callS [0] (call_static ent70 rfl) (by decide) rfl rfl rfl rfl rfl rfl (msl1Byte_x _ _ h_7) rfl rfl ?_)
    refine toe [(0,.b 0 0),(1,intA n1),(17,.b 0 0),(18,intA r_6.1)] rfl ?_
    refine TO_st (σ':=[.box [sl (tI .u8) r_6.2.b,intA r_6.2.i,intA r_6.2.h]]) rfl ?_
    refine pv tb 1 rfl ?_
    refine TO_nil (sr ?_)
    obtain ⟨r_8,h_9,H⟩:=bind_inv H
    refine pv tb 1 rfl ?_
    refine TO_cons rfl (TOp_callS [0] (call_static ent70 rfl) (by decide) rfl rfl rfl rfl rfl rfl (msl1Byte_x _ _ h_9) rfl rfl ?_)
    refine toe [(0,.b 0 0),(1,intA n1),(5,intA r_6.1),(19,.b 0 0),(20,intA r_8.1)] rfl ?_
    refine TO_st (σ':=[.box [sl (tI .u8) r_8.2.b,intA r_8.2.i,intA r_8.2.h]]) rfl ?_
    refine pv tb 1 rfl ?_
    refine TO_nil (sr ?_)
    obtain ⟨r_10,h_11,H⟩:=bind_inv H
    refine pv tb 1 rfl ?_
    refine TO_cons rfl (TOp_callS [0] (call_static ent70 rfl) (by decide) rfl rfl rfl rfl rfl rfl (msl1Byte_x _ _ h_11) rfl rfl ?_)
    refine toe [(0,.b 0 0),(1,intA n1),(5,intA r_6.1),(6,intA r_8.1),(21,.b 0 0),(22,intA r_10.1)] rfl ?_
    refine TO_st (σ':=[.box [sl (tI .u8) r_10.2.b,intA r_10.2.i,intA r_10.2.h]]) rfl ?_
    refine pv tb 1 rfl ?_
    refine TO_nil (sr ?_)
    obtain ⟨r_12,h_13,H⟩:=bind_inv H
    refine pv tb 1 rfl ?_
    refine TO_cons rfl (TOp_callS [0] (call_static ent70 rfl) (by decide) rfl rfl rfl rfl rfl rfl (msl1Byte_x _ _ h_13) rfl rfl ?_)
    refine toe [(0,.b 0 0),(1,intA n1),(5,intA r_6.1),(6,intA r_8.1),(7,intA r_10.1),(23,.b 0 0),(24,intA r_12.1)] rfl ?_
    refine TO_st (σ':=[.box [sl (tI .u8) r_12.2.b,intA r_12.2.i,intA r_12.2.h]]) rfl ?_
    refine pv tb 1 rfl ?_
    refine TO_nil (sr ?_)
    obtain ⟨_u,h_14,H⟩:=bind_inv H
    refine pv tb 11 rfl ?_
    refine Tp rfl rfl (pur_rem rfl rfl rfl (gD_inv h_14)) rfl ?_
    refine pv tb 1 rfl ?_
    refine TO_nil ?_
    refine te [(4,intA ((w64 ((w64 ((w64 ((w64 (r_6.1*16777216))+(w64 (r_8.1*65536))))+(w64 (r_10.1*256))))+r_12.1)).tmod n1))] rfl ?_
    refine T_ret ?_
    obtain rfl:=some_inj H
    exact end_pickX (.tmp .nil) rfl [0] (by decide) (lb rfl) rfl (lb rfl) rfl rfl rfl rfl rfl rfl

theorem msl1PickInt_x (c0:l1Cur) (list1:(List Int)) (r:(Int × l1Cur)) (H:msl1PickInt c0 list1=some r):FnS prg 67 [.b 0 0,sl tInt list1] [.box [sl (tI .u8) c0.b,intA c0.i,intA c0.h]] (intA r.1) [.box [sl (tI .u8) r.2.b,intA r.2.i,intA r.2.h]]:=by
  unfold msl1PickInt at H
  refine fnS_of_T Tryz.func67 rfl rfl (Nat.le_of_ble_eq_true rfl) ?_
  refine te [(0,.b 0 0),(1,sl tInt list1)] rfl ?_
  refine T_st (σ':=[.box [sl (tI .u8) c0.b,intA c0.i,intA c0.h]]) rfl ?_
  refine sr ?_
  refine pv tb 1 rfl ?_
  refine TO_nil (sr ?_)
  refine pv tb 3 rfl ?_
  refine Tp rfl rfl (pur_lenT (T:=tInt) sl28 rfl rfl) rfl ?_
  obtain ⟨r_1,h_2,H⟩:=bind_inv H
  refine TO_cons rfl (TOp_callS [0] (call_static ent64 rfl) (by decide) rfl rfl rfl rfl rfl rfl (msl1Below_x _ _ _ h_2) rfl rfl ?_)
  refine toe [(0,.b 0 0),(1,sl tInt list1),(5,sl tInt list1),(6,.b 0 0),(7,sl tInt list1),(8,intA (list1.length:Int)),(9,intA r_1.1)] rfl ?_
  refine TO_st (σ':=[.box [sl (tI .u8) r_1.2.b,intA r_1.2.i,intA r_1.2.h]]) rfl ?_
  obtain ⟨v_3,h_4,H⟩:=bind_inv H
  obtain ⟨n_5,hz_6,hv_7⟩:=getI_inv h_4
  refine Tp rfl rfl (pur_ixT (T:=tInt) sl28 rfl rfl hz_6 hv_7 rfl) rfl ?_
  refine Tp rfl rfl (pur_ldT (T:=tInt) (i:=n_5) (off:=0) rfl one3 rfl rfl hv_7 rfl) rfl ?_
  refine pv tb 1 rfl ?_
  refine TO_nil ?_
  refine T_ret ?_
  obtain rfl:=some_inj H
  exact end_pickX (.tmp .nil) rfl [0] (by decide) (lb rfl) rfl (lb rfl) rfl rfl rfl rfl rfl rfl

theorem msl2Sigs_x (c0:l1Cur) (r:((List Relation) × l1Cur)) (H:msl2Sigs c0=some r):FnS prg 90 [.b 0 0] [.box [sl (tI .u8) c0.b,intA c0.i,intA c0.h]] (.m [1] 0 r.1.length tR.k) [.box [sl (tI .u8) r.2.b,intA r.2.i,intA r.2.h],.row (flat tR.enc r.1)]:=by
  unfold msl2Sigs at H
  refine fnS_of_T Tryz.func90 rfl rfl (Nat.le_of_ble_eq_true rfl) ?_
  refine te [(0,.b 0 0)] rfl ?_
  refine T_st (σ':=[.box [sl (tI .u8) c0.b,intA c0.i,intA c0.h]]) rfl ?_
  refine sr ?_
  refine pv tb 1 rfl ?_
  refine TO_nil (sr ?_)
  refine Tp rfl rfl (pur_build bld53 rfl rfl) rfl ?_
  refine Tp rfl rfl (pur_build bld53 rfl rfl) rfl ?_
  refine pv tb 1 rfl ?_
  refine TO_cons rfl (TOp_lit (nn:=4) (k:=1) sl28 zero3 rfl rfl rfl rfl (by decide) ?_)
  refine TO_st (σ':=[.box [sl (tI .u8) c0.b,intA c0.i,intA c0.h],.row (flat tInt.enc ([1,1,2,0]:(List Int)))]) rfl ?_
  refine TO_frz1 1 (E':=[(0,.b 0 0),(3,.g [strA (⟨#[114]⟩:ByteArray),intA 2,intA 1]),(4,.g [strA (⟨#[115]⟩:ByteArray),intA 2,intA 1]),(5,.b 0 0),(6,sl tInt ([1,1,2,0]:(List Int)))]) rfl rfl (lb rfl) ⟨.keep rfl,.keep rfl,.keep rfl,.keep rfl,fz1E,trivial⟩ ?_
  refine TO_st (σ':=[.box [sl (tI .u8) c0.b,intA c0.i,intA c0.h],.dead]) rfl ?_
  obtain ⟨r_1,h_2,H⟩:=bind_inv H
  refine TO_cons rfl (TOp_callS [0] (call_static ent67 rfl) (by decide) rfl rfl rfl rfl rfl rfl (msl1PickInt_x _ _ _ h_2) rfl rfl ?_)
  refine toe [(0,.b 0 0),(3,.g [strA (⟨#[114]⟩:ByteArray),intA 2,intA 1]),(4,.g [strA (⟨#[115]⟩:ByteArray),intA 2,intA 1]),(5,.b 0 0),(6,sl tInt ([1,1,2,0]:(List Int))),(7,intA r_1.1)] rfl ?_
  refine TO_st (σ':=[.box [sl (tI .u8) r_1.2.b,intA r_1.2.i,intA r_1.2.h],.dead]) rfl ?_
  refine Tp rfl rfl (pur_build bld53 rfl rfl) rfl ?_
  obtain ⟨r_3,h_4,H⟩:=bind_inv H
  refine pv tb 1 rfl ?_
  refine TO_cons rfl (TOp_callS [0] (call_static ent64 rfl) (by decide) rfl rfl rfl rfl rfl rfl (msl1Below_x _ _ _ h_4) rfl rfl ?_)
  refine toe [(0,.b 0 0),(3,.g [strA (⟨#[114]⟩:ByteArray),intA 2,intA 1]),(4,.g [strA (⟨#[115]⟩:ByteArray),intA 2,intA 1]),(5,.b 0 0),(6,sl tInt ([1,1,2,0]:(List Int))),(7,intA r_1.1),(8,.g [strA (⟨#[116]⟩:ByteArray),intA 2,intA r_1.1]),(9,.b 0 0),(10,intA r_3.1)] rfl ?_
  refine TO_st (σ':=[.box [sl (tI .u8) r_3.2.b,intA r_3.2.i,intA r_3.2.h],.dead]) rfl ?_
  refine pv tb 1 rfl ?_
  refine Tp rfl rfl (pur_build bld53 rfl rfl) rfl ?_
  refine TO_cons rfl (TOp_lit (nn:=4) (k:=3) sl24 zero53 rfl rfl rfl rfl (by decide) ?_)
  refine TO_st (σ':=[.box [sl (tI .u8) r_3.2.b,intA r_3.2.i,intA r_3.2.h],.dead,.row (flat tR.enc ([({ name:=(⟨#[114]⟩:ByteArray),arity:=2,keyLength:=1 }:Relation),({ name:=(⟨#[115]⟩:ByteArray),arity:=2,keyLength:=1 }:Relation),({ name:=(⟨#[116]⟩:ByteArray),arity:=2,keyLength:=r_1.1 }:Relation),({ name:=(⟨#[117]⟩:ByteArray),arity:=3,keyLength:=(w64 (1+r_3.1)) }:Relation)]:(List Relation)))]) rfl ?_
  refine pv tb 1 rfl ?_
  refine TO_nil ?_
  refine T_ret ?_
  obtain rfl:=some_inj H
  exact end_pickX (.tmp .nil) rfl [0,2] (by decide) (lb rfl) rfl (lb rfl) rfl rfl rfl rfl rfl rfl

theorem msl3Fact_x (u:Nat) (c0:l1Cur) (l1:(List Relation)) (val2:Int) (r:(Fact × l1Cur)) (H:msl3Fact u c0 l1 val2=some r):FnS prg 91 [.b 0 0,sl tR l1,intA val2] [.box [sl (tI .u8) c0.b,intA c0.i,intA c0.h]] (.g [intA r.1.relation,.m [1] 0 r.1.values.length tInt.k]) [.box [sl (tI .u8) r.2.b,intA r.2.i,intA r.2.h],.row (flat tInt.enc r.1.values)]:=by
  unfold msl3Fact at H
  refine fnS_of_T Tryz.func91 rfl rfl (Nat.le_of_ble_eq_true rfl) ?_
  refine te [(0,.b 0 0),(1,sl tR l1),(2,intA val2)] rfl ?_
  refine T_st (σ':=[.box [sl (tI .u8) c0.b,intA c0.i,intA c0.h]]) rfl ?_
  refine sr ?_
  refine TO_cons rfl (TOp_alloc zero30 rfl rfl ?_)
  refine TO_nil (sr ?_)
  refine pv tb 2 rfl ?_
  refine Tp rfl rfl (pur_lenT (T:=tR) sl24 rfl rfl) rfl ?_
  obtain ⟨r_1,h_2,H⟩:=bind_inv H
  refine TO_cons rfl (TOp_callS [0] (call_static ent64 rfl) (by decide) rfl rfl rfl rfl rfl rfl (msl1Below_x _ _ _ h_2) rfl rfl ?_)
  refine toe [(0,.b 0 0),(1,sl tR l1),(2,intA val2),(6,.b 1 0),(8,.b 0 0),(9,sl tR l1),(10,intA (l1.length:Int)),(11,intA r_1.1)] rfl ?_
  refine TO_st (σ':=[.box [sl (tI .u8) r_1.2.b,intA r_1.2.i,intA r_1.2.h],.box [intA 0,.n]]) rfl ?_
  refine Tp rfl rfl (pur_build bld30 rfl rfl) rfl ?_
  refine TO_cons rfl (TOp_alloc zero30 rfl rfl ?_)
  refine TO_cons rfl (TOp_storeB sz30 rfl rfl rfl rfl rfl rfl rfl (by decide) (lb rfl) rfl ?_)
  refine TO_st (σ':=[.box [sl (tI .u8) r_1.2.b,intA r_1.2.i,intA r_1.2.h],.box [intA 0,.n],.box [intA r_1.1,.n]]) rfl ?_
  refine TO_nil ?_
  refine T_row0 ?_
  refine T_boxle (xs:=[intA r_1.1,.n]) (ys:=[intA r_1.1,.m [3] 0 ([]:(List Int)).length tInt.k]) 2 rfl (leCons (leR rfl) (leCons leM leNil)) ?_
  refine T_st (σ':=[.box [sl (tI .u8) r_1.2.b,intA r_1.2.i,intA r_1.2.h],.box [intA 0,.n],.box [intA r_1.1,.m [3] 0 ([]:(List Int)).length tInt.k],.row (flat tInt.enc ([]:(List Int)))]) rfl ?_
  obtain ⟨O3_,L3_,N3_⟩:=bind_inv H
  clear H
  obtain ⟨B3_,hb3,L3_⟩:=gen_whileF L3_
  refine T_cutX (fun (x:l1Cur × (List Int))=>O3_=.inl x) (fun (⟨box0,box2_values⟩:l1Cur × (List Int))=>[(6,.b 1 0),(7,.b 2 0)]) (fun (⟨box0,box2_values⟩:l1Cur × (List Int))=>[.box [sl (tI .u8) box0.b,intA box0.i,intA box0.h],.box [intA 0,.n],.box [intA r_1.1,.m [3] 0 box2_values.length tInt.k],.row (flat tInt.enc box2_values)]) ?_ ?_
  ·skip
   refine T_block ?_
   refine T_loopX (fun k=>fun (⟨box0,box2_values⟩:l1Cur × (List Int))=>whileF B3_ k (box0,box2_values)=some O3_) (fun (⟨box0,box2_values⟩:l1Cur × (List Int))=>[(0,.b 0 0),(1,sl tR l1),(2,intA val2),(6,.b 1 0),(7,.b 2 0)]) (fun (⟨box0,box2_values⟩:l1Cur × (List Int))=>[.box [sl (tI .u8) box0.b,intA box0.i,intA box0.h],.box [intA 0,.n],.box [intA r_1.1,.m [3] 0 box2_values.length tInt.k],.row (flat tInt.enc box2_values)]) u (r_1.2,([]:(List Int))) (w0 4) L3_ ?_
   rintro _ ⟨box0,box2_values⟩ L3_
   obtain ⟨k3,rfl,C3_,H,K3_⟩:=while_step L3_
   rw [hb3] at H
   refine T_seq (T_seq ?_)
   refine T_regionD mixed (by kernel_rfl) ?_
   refine pq tb 2 rfl ?_
   refine TQ_pure rfl (pur_len_m sl28 rfl rfl) rfl ?_
   obtain ⟨v_4,h_5,H⟩:=bind_inv H
   obtain ⟨n_6,hz_7,hv_8⟩:=getI_inv h_5
   refine pq tb 3 rfl ?_
   refine TQ_pure rfl (pur_ixT (T:=tR) sl24 rfl rfl hz_7 hv_8 rfl) rfl ?_
   refine pq tb 1 rfl ?_
   refine TQ_pure rfl (pur_ldT (T:=tR) (i:=n_6) (off:=1) rfl one3 rfl rfl hv_8 rfl) rfl ?_
   refine pq tb 1 rfl ?_
   refine TQ_nil ?_
   refine T_cond (t:=decide ((box2_values.length:Int)<v_4.arity)) rfl (fun c_9=>?_) (fun c_9=>?_)
   ·replace H:=cond_t c_9 H
    refine T_skip ?_
    refine T_block ?_
    obtain ⟨r_10,h_11,H⟩:=bind_inv H
    obtain ⟨us_12,h_13,H⟩:=bind_inv H
    refine T_pad ?_
    refine T_regionP 0 mixed rfl ?_
    refine TA_have 3 #[true,true,true,true,true,true,false,false,false] [(0,.b 0 0),(1,sl tR l1),(2,intA val2),(6,.b 1 0),(7,.b 2 0),(24,.m [3] 0 box2_values.length tInt.k),(28,.m [4] 0 ([r_10.1]:(List Int)).length tInt.k)] [.box [sl (tI .u8) r_10.2.b,intA r_10.2.i,intA r_10.2.h],.box [intA 0,.n],.box [intA r_1.1,.m [3] 0 box2_values.length tInt.k],.row (flat tInt.enc box2_values),.row (flat tInt.enc ([r_10.1]:(List Int)))] ?_ (fun hj0_3=>?_)
    ·skip
     refine t1 6 (by kernel_rfl) rfl rfl (TOp_appY (T:=tInt) (f:=tInt.enc) (xs:=box2_values) (ys:=([r_10.1]:(List Int))) tInt.len sl28 zero3 rfl bytes3 (by decide) rfl rfl rfl rfl (src_mT (f:=tInt.enc) tInt.len rfl rfl (flat_cell tInt _)) (flat_cell tInt _) h_13 ?_)
     refine tmv 3 5 (by decide) (lb rfl) rfl rfl (lb rfl) ?_
     refine TA_st (σ':=[.box [sl (tI .u8) r_10.2.b,intA r_10.2.i,intA r_10.2.h],.box [intA 0,.n],.box [intA r_1.1,.j],.row (flat tInt.enc us_12),.row (flat tInt.enc ([r_10.1]:(List Int))),.dead]) rfl ?_
     refine pa tb [7] 1 rfl (by kernel_rfl) rfl ?_
     refine t1 8 (by kernel_rfl) rfl rfl (TOp_storeB sz28 rfl rfl rfl rfl rfl rfl rfl (by decide) (lb rfl) rfl ?_)
     refine TA_st (σ':=[.box [sl (tI .u8) r_10.2.b,intA r_10.2.i,intA r_10.2.h],.box [intA 0,.n],.box [intA r_1.1,.m [3] 0 us_12.length tInt.k],.row (flat tInt.enc us_12),.row (flat tInt.enc ([r_10.1]:(List Int))),.dead]) rfl ?_
     refine TA_nil (by kernel_rfl) ?_
     obtain rfl:=some_inj H
     exact again k3 (r_10.2,us_12) (Nat.lt_succ_self _) (w0 4) K3_
    refine TA_have 4 #[true,true,true,true,true,false,false,false,false] [(0,.b 0 0),(1,sl tR l1),(2,intA val2),(6,.b 1 0),(7,.b 2 0),(24,.m [3] 0 box2_values.length tInt.k),(27,intA r_10.1)] [.box [sl (tI .u8) r_10.2.b,intA r_10.2.i,intA r_10.2.h],.box [intA 0,.n],.box [intA r_1.1,.m [3] 0 box2_values.length tInt.k],.row (flat tInt.enc box2_values),.dead] ?_ (fun hj1_3=>?_)
    ·skip
     refine t1 5 (by kernel_rfl) rfl rfl (TOp_lit (nn:=1) (k:=1) sl28 zero3 rfl rfl rfl rfl (by decide) ?_)
     refine tmw 4 5 (by decide) (lb rfl) rfl rfl (lb rfl) rfl ?_
     exact tj hj0_3 rfl (w0 5)
    refine pa tb [0,2,3] 6 rfl (by kernel_rfl) rfl ?_
    refine TA_all [1,4] (by kernel_rfl) (by decide) ⟨?_,?_,trivial⟩
    ·skip
     refine ⟨_,rfl,rfl,TOp_pure (pur_ld_b one28 rfl rfl rfl rfl) rfl ?_⟩
     refine t1 4 (by kernel_rfl) rfl rfl (TOp_callS [0] (call_static ent64 rfl) (by decide) rfl rfl rfl rfl rfl rfl (msl1Below_x _ _ _ h_11) rfl rfl ?_)
     refine tae [(0,.b 0 0),(1,sl tR l1),(2,intA val2),(6,.b 1 0),(7,.b 2 0),(23,.b 2 1),(24,.m [3] 0 box2_values.length tInt.k),(25,.b 0 0),(26,intA val2),(27,intA r_10.1)] rfl ?_
     refine TA_st (σ':=[.box [sl (tI .u8) r_10.2.b,intA r_10.2.i,intA r_10.2.h],.box [intA 0,.n],.box [intA r_1.1,.m [3] 0 box2_values.length tInt.k],.row (flat tInt.enc box2_values),.dead]) rfl ?_
     exact tj hj1_3 rfl (w0 5)
    ·skip
     refine ⟨_,rfl,rfl,TOp_callS [0] (call_static ent64 rfl) (by decide) rfl rfl rfl rfl rfl rfl (msl1Below_x _ _ _ h_11) rfl rfl ?_⟩
     refine tae [(0,.b 0 0),(1,sl tR l1),(2,intA val2),(6,.b 1 0),(7,.b 2 0),(23,.b 2 1),(25,.b 0 0),(26,intA val2),(27,intA r_10.1)] rfl ?_
     refine TA_st (σ':=[.box [sl (tI .u8) r_10.2.b,intA r_10.2.i,intA r_10.2.h],.box [intA 0,.n],.box [intA r_1.1,.m [3] 0 box2_values.length tInt.k],.row (flat tInt.enc box2_values),.dead]) rfl ?_
     refine TA_all [1,5] (by kernel_rfl) (by decide) ⟨?_,?_,trivial⟩
     ·skip
      refine ⟨_,rfl,rfl,TOp_pure (pur_ld_b one28 rfl rfl rfl rfl) rfl ?_⟩
      exact tj hj1_3 rfl (w0 5)
     ·skip
      refine ⟨_,rfl,rfl,TOp_lit (nn:=1) (k:=1) sl28 zero3 rfl rfl rfl rfl (by decide) ?_⟩
      refine tmw 4 5 (by decide) (lb rfl) rfl rfl (lb rfl) rfl ?_
      refine tae [(0,.b 0 0),(1,sl tR l1),(2,intA val2),(6,.b 1 0),(7,.b 2 0),(23,.b 2 1),(28,.m [4] 0 ([r_10.1]:(List Int)).length tInt.k)] rfl ?_
      refine TA_st (σ':=[.box [sl (tI .u8) r_10.2.b,intA r_10.2.i,intA r_10.2.h],.box [intA 0,.n],.box [intA r_1.1,.m [3] 0 box2_values.length tInt.k],.row (flat tInt.enc box2_values),.row (flat tInt.enc ([r_10.1]:(List Int))),.dead]) rfl ?_
      refine t1 1 (by kernel_rfl) rfl rfl (TOp_pure (pur_ld_b one28 rfl rfl rfl rfl) rfl ?_)
      exact tj hj0_3 rfl (w0 5)
   ·replace H:=cond_f c_9 H
    refine T_exit ?_
    refine then_exit ?_
    refine then_exit ?_
    refine block_exit ?_
    obtain rfl:=some_inj H
    obtain rfl:=some_inj K3_
    exact joined (box0,box2_values) (w0 4) rfl
  ·rintro ⟨box0,box2_values⟩ rfl
   replace H:=onS_l N3_
   refine sr ?_
   refine pv tb 1 rfl ?_
   refine TO_cons rfl (TOp_storeB sz30 rfl rfl rfl rfl rfl rfl rfl (by decide) (lb rfl) rfl ?_)
   refine TO_st (σ':=[.box [sl (tI .u8) box0.b,intA box0.i,intA box0.h],.box [intA r_1.1,.m [3] 0 box2_values.length tInt.k],.box [intA r_1.1,.m [3] 0 box2_values.length tInt.k],.row (flat tInt.enc box2_values)]) rfl ?_
   refine TO_nil ?_
   refine T_ret ?_
   obtain rfl:=some_inj H
   exact end_pickX (.cellK rfl agg30 rfl (lb rfl) .nil) rfl [0,3] (by decide) (lb rfl) rfl (lb rfl) rfl rfl rfl rfl rfl rfl
end Go.Proofs.YtaadmoaanhdboaaGreatDoor

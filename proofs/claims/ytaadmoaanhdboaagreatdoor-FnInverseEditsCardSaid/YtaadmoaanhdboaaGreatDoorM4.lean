import Derived.Test.YtaadmoaanhdboaaGreatDoorM1
import Derived.Test.YtaadmoaanhdboaaGreatDoorM3
set_option linter.unusedVariables false
set_option linter.unusedSimpArgs false
set_option maxRecDepth 4000
set_option maxHeartbeats 1000000
namespace Go.Proofs.YtaadmoaanhdboaaGreatDoor
open Go Go.Proofs Go.Sep
theorem micopyDatabase_own (db0:Database) (r:Database) (H:micopyDatabase db0=some r):FnO prg 21 [.g (tD.enc db0)] (.g [.m [0] 0 r.relations.length tR.k,.m [1] 0 r.facts.length tF.k]) [.row (flat tR.own r.relations),.row (flat tF.own r.facts)]:=by
  unfold micopyDatabase at H
  refine fnO_of_T Tryz.func21 rfl rfl (Nat.le_of_ble_eq_true rfl) ?_
  refine te [(0,.g (tD.enc db0))] rfl ?_
  refine sr ?_
  refine TO_cons rfl (TOp_box rfl (boxAll rfl) rfl rfl ?_)
  refine TO_cons rfl (TOp_alloc zero27 rfl rfl ?_)
  refine TO_nil (sr ?_)
  refine TO_cons rfl (TOp_lit (nn:=0) (k:=3) sl24 zero53 rfl rfl rfl rfl (by decide) ?_)
  refine TO_st (σ':=[.box [sl tR db0.relations,sl tF db0.facts],.box [.n,.n],.row (flat tR.enc ([]:(List Relation)))]) rfl ?_
  obtain ⟨us_1,h_2,H⟩:=bind_inv H
  refine pv tb 2 rfl ?_
  refine TO_cons rfl (TOp_appZ (T:=tR) (f:=tR.enc) (xs:=([]:(List Relation))) (ys:=db0.relations) tR.len sl24 zero53 rfl bytes53 (by decide) rfl rfl rfl rfl (src_T (T:=tR) rfl) (flat_cell tR _) h_2 (lb rfl) ?_)
  refine toe [(1,.b 0 0),(2,.b 1 0),(7,.b 0 0),(8,sl tR db0.relations),(9,.m [2] 0 us_1.length tR.k)] rfl ?_
  refine TO_st (σ':=[.box [sl tR db0.relations,sl tF db0.facts],.box [.n,.n],.row (flat tR.enc us_1),.dead]) rfl ?_
  refine TO_cons rfl (TOp_lit (nn:=0) (k:=2) sl25 zero30 rfl rfl rfl rfl (by decide) ?_)
  refine TO_st (σ':=[.box [sl tR db0.relations,sl tF db0.facts],.box [.n,.n],.row (flat tR.enc us_1),.dead,.row (flat tF.own ([]:(List Fact)))]) rfl ?_
  refine Tp rfl rfl (pur_build bld27 rfl rfl) rfl ?_
  refine TO_cons rfl (TOp_alloc zero27 rfl rfl ?_)
  refine TO_cons rfl (TOp_storeB sz27 rfl rfl rfl rfl rfl rfl rfl (by decide) (lb rfl) rfl ?_)
  refine TO_st (σ':=[.box [sl tR db0.relations,sl tF db0.facts],.box [.n,.n],.row (flat tR.enc us_1),.dead,.row (flat tF.own ([]:(List Fact))),.box [.m [2] 0 us_1.length tR.k,.m [4] 0 ([]:(List Fact)).length tF.k]]) rfl ?_
  refine TO_nil (T_seq (sr ?_))
  refine pv tb 2 rfl ?_
  refine Tp rfl rfl (pur_lenT (T:=tF) sl25 rfl rfl) rfl ?_
  refine pv tb 1 rfl ?_
  refine TO_nil ?_
  obtain ⟨O4_,L4_,N4_⟩:=bind_inv H
  clear H
  obtain ⟨B4_,hb4,L4_⟩:=gen_forS L4_
  refine T_block ?_
  refine T_loopX (fun k=>fun (⟨t_3,box5_facts⟩:Nat × (List Fact))=>k=db0.facts.length - t_3∧forS B4_ (db0.facts.drop t_3) (t_3:Int) box5_facts=some O4_) (fun (⟨t_3,box5_facts⟩:Nat × (List Fact))=>[(2,.b 1 0),(3,.b 5 0),(13,sl tF db0.facts),(14,intA (db0.facts.length:Int)),(15,intA (t_3:Int))]) (fun (⟨t_3,box5_facts⟩:Nat × (List Fact))=>[.box [sl tR db0.relations,sl tF db0.facts],.box [.n,.n],.row (flat tR.enc us_1),.dead,.row (flat tF.own box5_facts),.box [.m [2] 0 us_1.length tR.k,.m [4] 0 box5_facts.length tF.k]]) _ (0,([]:(List Fact))) (w0 6) ⟨rfl,L4_⟩ ?_
  rintro _ ⟨t_3,box5_facts⟩ ⟨rfl,L4_⟩
  refine T_fact (len_sl (T:=tF) (.tmp 13) rfl) (fun hl4=>?_)
  refine sr ?_
  refine pv tb 1 rfl ?_
  refine TO_nil (T_seq ?_)
  refine T_cond (t:=decide ((t_3:Int)<(db0.facts.length:Int))) rfl (fun d4=>?_) (fun d4=>?_)
  ·replace d4:=of_decide_eq_true d4
   obtain ⟨x_t_3,hx_t_3⟩:∃ v,(db0.facts)[t_3]?=some v:=⟨_,List.getElem?_eq_getElem (by omega)⟩
   obtain ⟨C4_,H,K4_⟩:=forS_step L4_ hx_t_3
   rw [hb4] at H
   refine T_skip ?_
   refine T_seq ?_
   refine T_block ?_
   refine sr ?_
   refine Tp rfl rfl (pur_ixT (T:=tF) sl25 rfl rfl rfl hx_t_3 rfl) rfl ?_
   refine Tp rfl rfl (pur_ldTK (T:=tF) (i:=t_3) (off:=0) rfl agg30 rfl rfl hx_t_3 (by decide) rfl) rfl ?_
   refine TO_cons rfl (TOp_alloc zero30 rfl rfl ?_)
   refine TO_cons rfl (TOp_storeB sz30 rfl rfl rfl rfl rfl rfl rfl (by decide) (lb rfl) rfl ?_)
   refine TO_st (σ':=[.box [sl tR db0.relations,sl tF db0.facts],.box [.n,.n],.row (flat tR.enc us_1),.dead,.row (flat tF.own box5_facts),.box [.m [2] 0 us_1.length tR.k,.m [4] 0 box5_facts.length tF.k],.box [intA x_t_3.relation,sl tInt x_t_3.values]]) rfl ?_
   refine TO_nil ?_
   obtain ⟨us_5,h_6,H⟩:=bind_inv H
   obtain ⟨us_7,h_8,H⟩:=bind_inv H
   refine T_pad ?_
   refine T_pad ?_
   refine T_pad ?_
   refine T_pad ?_
   refine T_regionPh 7 12 mixed rfl (by kernel_rfl) ?_
   refine pa tb [0,1,2,3,5,6] 6 rfl (by kernel_rfl) rfl ?_
   refine t1 4 (by kernel_rfl) rfl rfl (TOp_lit (nn:=0) (k:=1) sl28 zero3 rfl rfl rfl rfl (by decide) ?_)
   refine tmw 7 11 (by decide) (lb rfl) rfl rfl (lb rfl) rfl ?_
   refine t1 7 (by kernel_rfl) rfl rfl (TOp_appY (T:=tInt) (f:=tInt.enc) (xs:=([]:(List Int))) (ys:=x_t_3.values) tInt.len sl28 zero3 rfl bytes3 (by decide) rfl rfl rfl rfl (src_T (T:=tInt) rfl) (flat_cell tInt _) h_6 ?_)
   refine tmw 7 12 (by decide) (lb rfl) rfl rfl (lb rfl) rfl ?_
   refine tae [(2,.b 1 0),(3,.b 5 0),(13,sl tF db0.facts),(14,intA (db0.facts.length:Int)),(15,intA (t_3:Int)),(20,.m [4] 0 box5_facts.length tF.k),(22,intA x_t_3.relation),(26,.m [7] 0 us_5.length tInt.k)] rfl ?_
   refine TA_st (σ':=[.dead,.dead,.row (flat tR.enc us_1),.dead,.row (flat tF.own box5_facts),.dead,.dead,.row (flat tInt.enc us_5),.dead,.dead,.dead,.dead,.dead]) rfl ?_
   refine tf 8 rfl (pur_build bld30 rfl rfl) rfl rfl (by kernel_rfl) ?_
   refine t1 9 (by kernel_rfl) rfl rfl (TOp_ghost (E':=[(2,.b 1 0),(3,.b 5 0),(13,sl tF db0.facts),(14,intA (db0.facts.length:Int)),(15,intA (t_3:Int)),(20,.m [4] 0 box5_facts.length tF.k),(22,intA x_t_3.relation),(26,.m [7] 0 us_5.length tInt.k),(27,.g [intA x_t_3.relation,.m [7] 0 us_5.length tInt.k])]) (σ':=[.dead,.dead,.row (flat tR.enc us_1),.dead,.row (flat tF.own box5_facts),.dead,.dead,.row (flat tInt.enc us_5),.dead,.dead,.dead]) (by exact Ghost.weak (w0 11)) (TOp_litB (nn:=1) (k:=2) sl25 zero30 rfl rfl rfl rfl (by decide) ?_))
   refine TA_st (σ':=[.dead,.dead,.row (flat tR.enc us_1),.dead,.row (flat tF.own box5_facts),.dead,.dead,.row (flat tInt.enc us_5),.dead,.dead,.dead,.box [intA x_t_3.relation,.m [7] 0 us_5.length tInt.k]]) rfl ?_
   refine tmw 10 4 (by decide) (lb rfl) rfl rfl (lb rfl) rfl ?_
   refine t1 10 (by kernel_rfl) rfl rfl (TOp_boxify 10 rfl (lb rfl) (TOp_appB (T:=tF) (xs:=box5_facts) (v:=({ relation:=x_t_3.relation,values:=us_5 }:Fact)) sl25 zero30 rfl bytes30 (by decide) rfl rfl rfl rfl rfl rfl rfl rfl h_8 (lb rfl) ?_))
   refine tae [(2,.b 1 0),(3,.b 5 0),(13,sl tF db0.facts),(14,intA (db0.facts.length:Int)),(15,intA (t_3:Int)),(22,intA x_t_3.relation),(29,.m [12] 0 (box5_facts.length+1) tF.k)] rfl ?_
   refine TA_st (σ':=[.dead,.dead,.row (flat tR.enc us_1),.dead,.dead,.dead,.dead,.row (flat tInt.enc us_5),.dead,.dead,.dead,.box [intA x_t_3.relation,.m [7] 0 us_5.length tInt.k],.box (flat tF.own box5_facts++[intA x_t_3.relation,.m [7] 0 us_5.length tInt.k])]) rfl ?_
   refine TA_absorbA (pr:=flat tF.own box5_facts) 12 1 7 rfl rfl rfl (by decide) tInt.pos (flat_len tInt.len _) (lb rfl) (lb rfl) rfl (nms_dead (nms_dead (nms_row (nms_dead (nms_dead (nms_dead (nms_dead (nms_row (nms_dead (nms_dead (nms_dead (nms_box rfl (nms_box (namesA namesL_own rfl) nms_nil))))))))))))) ?_
   refine TA_st (σ':=[.dead,.dead,.row (flat tR.enc us_1),.dead,.dead,.dead,.dead,.dead,.dead,.dead,.dead,.box [intA x_t_3.relation,.m [7] 0 us_5.length tInt.k],.box (flat tF.own box5_facts++[intA x_t_3.relation,.o tInt.k (flat tInt.enc us_5)])]) rfl ?_
   refine TA_rowifyT (T:=tF) (xs:=box5_facts) (v:=({ relation:=x_t_3.relation,values:=us_5 }:Fact)) 12 rfl rfl h_8 (lb rfl) ?_
   refine TA_st (σ':=[.dead,.dead,.row (flat tR.enc us_1),.dead,.dead,.dead,.dead,.dead,.dead,.dead,.dead,.box [intA x_t_3.relation,.m [7] 0 us_5.length tInt.k],.row (flat tF.own us_7)]) rfl ?_
   refine TA_move 10 12 (by decide) (lb rfl) rfl rfl (lb rfl) ?_
   refine TA_env (E':=[(2,.b 1 0),(3,.b 5 0),(13,sl tF db0.facts),(14,intA (db0.facts.length:Int)),(15,intA (t_3:Int)),(22,intA x_t_3.relation),(29,.m [10] 0 us_7.length tF.k)]) ⟨rfl,rfl,rfl,rfl,rfl,rfl,congrArg (fun q=>A.m [10] 0 q tF.k) (app_len h_8),trivial⟩ ?_
   refine TA_kill 11 (lb rfl) ?_
   refine TA_st (σ':=[.dead,.dead,.row (flat tR.enc us_1),.dead,.dead,.dead,.dead,.dead,.dead,.dead,.row (flat tF.own us_7),.dead,.dead]) rfl ?_
   refine pa tb [11] 0 rfl (by kernel_rfl) rfl ?_
   refine TA_nil (by kernel_rfl) ?_
   refine TA_st (σ':=[.box [sl tR db0.relations,sl tF db0.facts],.box [.n,.n],.row (flat tR.enc us_1),.dead,.dead,.box [.m [2] 0 us_1.length tR.k,.m [4] 0 box5_facts.length tF.k],.box [intA x_t_3.relation,sl tInt x_t_3.values],.dead,.dead,.dead,.row (flat tF.own us_7),.dead,.dead]) rfl ?_
   refine tmv 4 10 (by decide) (lb rfl) rfl rfl (lb rfl) ?_
   refine TA_st (σ':=[.box [sl tR db0.relations,sl tF db0.facts],.box [.n,.n],.row (flat tR.enc us_1),.dead,.row (flat tF.own us_7),.box [.m [2] 0 us_1.length tR.k,.j],.box [intA x_t_3.relation,sl tInt x_t_3.values],.dead,.dead,.dead,.dead,.dead,.dead]) rfl ?_
   refine t1 12 (by kernel_rfl) rfl rfl (TOp_storeB sz25 rfl rfl rfl rfl rfl rfl rfl (by decide) (lb rfl) rfl ?_)
   refine TA_st (σ':=[.box [sl tR db0.relations,sl tF db0.facts],.box [.n,.n],.row (flat tR.enc us_1),.dead,.row (flat tF.own us_7),.box [.m [2] 0 us_1.length tR.k,.m [4] 0 us_7.length tF.k],.box [intA x_t_3.relation,sl tInt x_t_3.values],.dead,.dead,.dead,.dead,.dead,.dead]) rfl ?_
   refine TA_nil (by kernel_rfl) ?_
   refine T_region ?_
   refine Tp rfl rfl (pur_add rfl rfl rfl (fits64 (by omega) (by omega))) rfl ?_
   refine pv tb 1 rfl ?_
   refine TO_nil ?_
   obtain rfl:=some_inj H
   exact again (db0.facts.length - (t_3+1)) (t_3+1,us_7) (by omega) (w0 6) ⟨rfl,K4_⟩
  ·replace d4:=of_decide_eq_false d4
   obtain rfl:=forS_end L4_ (by omega)
   refine T_exit ?_
   refine then_exit ?_
   refine then_exit ?_
   refine block_exit ?_
   replace H:=N4_
   refine sr ?_
   refine pv tb 1 rfl ?_
   refine TO_cons rfl (TOp_storeB sz27 rfl rfl rfl rfl rfl rfl rfl (by decide) (lb rfl) rfl ?_)
   refine TO_st (σ':=[.box [sl tR db0.relations,sl tF db0.facts],.box [.m [2] 0 us_1.length tR.k,.m [4] 0 box5_facts.length tF.k],.row (flat tR.enc us_1),.dead,.row (flat tF.own box5_facts),.box [.m [2] 0 us_1.length tR.k,.m [4] 0 box5_facts.length tF.k]]) rfl ?_
   refine TO_nil ?_
   refine T_ret ?_
   obtain rfl:=some_inj H
   exact end_pick (.cellK rfl agg27 rfl (lb rfl) .nil) rfl [2,4] (by decide) rfl rfl rfl rfl rfl rfl
theorem micopyDatabase_ok (db0:Database) (r:Database) (H:micopyDatabase db0=some r):FnV prg 21 [.g (tD.enc db0)] (.g (tD.enc r)):=(micopyDatabase_own db0 r H).frz (frzOK_g (frz_cons (frzT (T:=tR) rfl) (frz_cons (frzT (T:=tF) rfl) frz_nil)).1 (frz_cons (frzT (T:=tR) rfl) (frz_cons (frzT (T:=tF) rfl) frz_nil)).2)

theorem micopyDatabase_enc (db0:Database) (r:Database) (H:micopyDatabase db0=some r):FnO prg 21 [.g (tD.enc db0)] (.g [.m [0] 0 r.relations.length tR.k,.m [1] 0 r.facts.length tF.k]) [.row (flat tR.enc r.relations),.row (flat tF.enc r.facts)]:=by
  unfold micopyDatabase at H
  refine fnO_of_T Tryz.func21 rfl rfl (Nat.le_of_ble_eq_true rfl) ?_
  refine te [(0,.g (tD.enc db0))] rfl ?_
  refine sr ?_
  refine TO_cons rfl (TOp_box rfl (boxAll rfl) rfl rfl ?_)
  refine TO_cons rfl (TOp_alloc zero27 rfl rfl ?_)
  refine TO_nil (sr ?_)
  refine TO_cons rfl (TOp_lit (nn:=0) (k:=3) sl24 zero53 rfl rfl rfl rfl (by decide) ?_)
  refine TO_st (σ':=[.box [sl tR db0.relations,sl tF db0.facts],.box [.n,.n],.row (flat tR.enc ([]:(List Relation)))]) rfl ?_
  obtain ⟨us_1,h_2,H⟩:=bind_inv H
  refine pv tb 2 rfl ?_
  refine TO_cons rfl (TOp_appZ (T:=tR) (f:=tR.enc) (xs:=([]:(List Relation))) (ys:=db0.relations) tR.len sl24 zero53 rfl bytes53 (by decide) rfl rfl rfl rfl (src_T (T:=tR) rfl) (flat_cell tR _) h_2 (lb rfl) ?_)
  refine toe [(1,.b 0 0),(2,.b 1 0),(7,.b 0 0),(8,sl tR db0.relations),(9,.m [2] 0 us_1.length tR.k)] rfl ?_
  refine TO_st (σ':=[.box [sl tR db0.relations,sl tF db0.facts],.box [.n,.n],.row (flat tR.enc us_1),.dead]) rfl ?_
  refine TO_cons rfl (TOp_lit (nn:=0) (k:=2) sl25 zero30 rfl rfl rfl rfl (by decide) ?_)
  refine TO_st (σ':=[.box [sl tR db0.relations,sl tF db0.facts],.box [.n,.n],.row (flat tR.enc us_1),.dead,.row (flat tF.enc ([]:(List Fact)))]) rfl ?_
  refine Tp rfl rfl (pur_build bld27 rfl rfl) rfl ?_
  refine TO_cons rfl (TOp_alloc zero27 rfl rfl ?_)
  refine TO_cons rfl (TOp_storeB sz27 rfl rfl rfl rfl rfl rfl rfl (by decide) (lb rfl) rfl ?_)
  refine TO_st (σ':=[.box [sl tR db0.relations,sl tF db0.facts],.box [.n,.n],.row (flat tR.enc us_1),.dead,.row (flat tF.enc ([]:(List Fact))),.box [.m [2] 0 us_1.length tR.k,.m [4] 0 ([]:(List Fact)).length tF.k]]) rfl ?_
  refine TO_nil (T_seq (sr ?_))
  refine pv tb 2 rfl ?_
  refine Tp rfl rfl (pur_lenT (T:=tF) sl25 rfl rfl) rfl ?_
  refine pv tb 1 rfl ?_
  refine TO_nil ?_
  obtain ⟨O4_,L4_,N4_⟩:=bind_inv H
  clear H
  obtain ⟨B4_,hb4,L4_⟩:=gen_forS L4_
  refine T_block ?_
  refine T_loopX (fun k=>fun (⟨t_3,box5_facts⟩:Nat × (List Fact))=>k=db0.facts.length - t_3∧forS B4_ (db0.facts.drop t_3) (t_3:Int) box5_facts=some O4_) (fun (⟨t_3,box5_facts⟩:Nat × (List Fact))=>[(2,.b 1 0),(3,.b 5 0),(13,sl tF db0.facts),(14,intA (db0.facts.length:Int)),(15,intA (t_3:Int))]) (fun (⟨t_3,box5_facts⟩:Nat × (List Fact))=>[.box [sl tR db0.relations,sl tF db0.facts],.box [.n,.n],.row (flat tR.enc us_1),.dead,.row (flat tF.enc box5_facts),.box [.m [2] 0 us_1.length tR.k,.m [4] 0 box5_facts.length tF.k]]) _ (0,([]:(List Fact))) (w0 6) ⟨rfl,L4_⟩ ?_
  rintro _ ⟨t_3,box5_facts⟩ ⟨rfl,L4_⟩
  refine T_fact (len_sl (T:=tF) (.tmp 13) rfl) (fun hl4=>?_)
  refine sr ?_
  refine pv tb 1 rfl ?_
  refine TO_nil (T_seq ?_)
  refine T_cond (t:=decide ((t_3:Int)<(db0.facts.length:Int))) rfl (fun d4=>?_) (fun d4=>?_)
  ·replace d4:=of_decide_eq_true d4
   obtain ⟨x_t_3,hx_t_3⟩:∃ v,(db0.facts)[t_3]?=some v:=⟨_,List.getElem?_eq_getElem (by omega)⟩
   obtain ⟨C4_,H,K4_⟩:=forS_step L4_ hx_t_3
   rw [hb4] at H
   refine T_skip ?_
   refine T_seq ?_
   refine T_block ?_
   refine sr ?_
   refine Tp rfl rfl (pur_ixT (T:=tF) sl25 rfl rfl rfl hx_t_3 rfl) rfl ?_
   refine Tp rfl rfl (pur_ldTK (T:=tF) (i:=t_3) (off:=0) rfl agg30 rfl rfl hx_t_3 (by decide) rfl) rfl ?_
   refine TO_cons rfl (TOp_alloc zero30 rfl rfl ?_)
   refine TO_cons rfl (TOp_storeB sz30 rfl rfl rfl rfl rfl rfl rfl (by decide) (lb rfl) rfl ?_)
   refine TO_st (σ':=[.box [sl tR db0.relations,sl tF db0.facts],.box [.n,.n],.row (flat tR.enc us_1),.dead,.row (flat tF.enc box5_facts),.box [.m [2] 0 us_1.length tR.k,.m [4] 0 box5_facts.length tF.k],.box [intA x_t_3.relation,sl tInt x_t_3.values]]) rfl ?_
   refine TO_nil ?_
   obtain ⟨us_5,h_6,H⟩:=bind_inv H
   obtain ⟨us_7,h_8,H⟩:=bind_inv H
   refine T_pad ?_
   refine T_pad ?_
   refine T_pad ?_
   refine T_pad ?_
   refine T_regionPh 7 12 mixed rfl (by kernel_rfl) ?_
   refine pa tb [0,1,2,3,5,6] 6 rfl (by kernel_rfl) rfl ?_
   refine t1 4 (by kernel_rfl) rfl rfl (TOp_lit (nn:=0) (k:=1) sl28 zero3 rfl rfl rfl rfl (by decide) ?_)
   refine tmw 7 11 (by decide) (lb rfl) rfl rfl (lb rfl) rfl ?_
   refine t1 7 (by kernel_rfl) rfl rfl (TOp_appY (T:=tInt) (f:=tInt.enc) (xs:=([]:(List Int))) (ys:=x_t_3.values) tInt.len sl28 zero3 rfl bytes3 (by decide) rfl rfl rfl rfl (src_T (T:=tInt) rfl) (flat_cell tInt _) h_6 ?_)
   refine tmw 7 12 (by decide) (lb rfl) rfl rfl (lb rfl) rfl ?_
   refine tae [(2,.b 1 0),(3,.b 5 0),(13,sl tF db0.facts),(14,intA (db0.facts.length:Int)),(15,intA (t_3:Int)),(20,.m [4] 0 box5_facts.length tF.k),(22,intA x_t_3.relation),(26,.m [7] 0 us_5.length tInt.k)] rfl ?_
   refine TA_st (σ':=[.dead,.dead,.row (flat tR.enc us_1),.dead,.row (flat tF.enc box5_facts),.dead,.dead,.row (flat tInt.enc us_5),.dead,.dead,.dead,.dead,.dead]) rfl ?_
   refine tf 8 rfl (pur_build bld30 rfl rfl) rfl rfl (by kernel_rfl) ?_
   refine TA_ghost (E':=[(2,.b 1 0),(3,.b 5 0),(13,sl tF db0.facts),(14,intA (db0.facts.length:Int)),(15,intA (t_3:Int)),(20,.m [4] 0 box5_facts.length tF.k),(22,intA x_t_3.relation),(26,.m [7] 0 us_5.length tInt.k),(27,.g [intA x_t_3.relation,.m [7] 0 us_5.length tInt.k])]) (σ':=[.dead,.dead,.row (flat tR.enc us_1),.dead,.row (flat tF.enc box5_facts),.dead,.dead,.row (flat tInt.enc us_5),.dead,.dead,.dead,.dead,.dead]) (Ghost.weak (WeakL.to 13 (lb rfl) rfl rfl rfl rfl ⟨leR rfl,leR rfl,leR rfl,leR rfl,leR rfl,leR rfl,leR rfl,leR rfl,leR rfl,trivial⟩)) ?_
   refine TA_frz1 7 (E':=[(2,.b 1 0),(3,.b 5 0),(13,sl tF db0.facts),(14,intA (db0.facts.length:Int)),(15,intA (t_3:Int)),(20,.m [4] 0 box5_facts.length tF.k),(22,intA x_t_3.relation),(26,sl tInt us_5),(27,.g [intA x_t_3.relation,sl tInt us_5])]) rfl rfl (lb rfl) ?_ ?_
   ·exact ⟨.keep rfl,.keep rfl,.keep rfl,.keep rfl,.keep rfl,.keep rfl,.keep rfl,fz1E,fz1G (fzC (.keep rfl) (fzC fz1E fzN)),trivial⟩
   refine TA_st (σ':=[.dead,.dead,.row (flat tR.enc us_1),.dead,.row (flat tF.enc box5_facts),.dead,.dead,.dead,.dead,.dead,.dead,.dead,.dead]) rfl ?_
   refine t1 9 (by kernel_rfl) rfl rfl (TOp_lit (nn:=1) (k:=2) sl25 zero30 rfl rfl rfl rfl (by decide) ?_)
   refine tmw 9 13 (by decide) (lb rfl) rfl rfl (lb rfl) rfl ?_
   refine t1 10 (by kernel_rfl) rfl rfl (TOp_appY (T:=tF) (f:=tF.enc) (xs:=box5_facts) (ys:=([({ relation:=x_t_3.relation,values:=us_5 }:Fact)]:(List Fact))) tF.len sl25 zero30 rfl bytes30 (by decide) rfl rfl rfl rfl (src_mT (f:=tF.enc) tF.len rfl rfl (flat_cell tF _)) (flat_cell tF _) h_8 ?_)
   refine tmw 10 14 (by decide) (lb rfl) rfl rfl (lb rfl) rfl ?_
   refine tae [(2,.b 1 0),(3,.b 5 0),(13,sl tF db0.facts),(14,intA (db0.facts.length:Int)),(15,intA (t_3:Int)),(29,.m [10] 0 us_7.length tF.k)] rfl ?_
   refine TA_st (σ':=[.dead,.dead,.row (flat tR.enc us_1),.dead,.dead,.dead,.dead,.dead,.dead,.row (flat tF.enc ([({ relation:=x_t_3.relation,values:=us_5 }:Fact)]:(List Fact))),.row (flat tF.enc us_7),.dead,.dead,.dead,.dead]) rfl ?_
   refine pa tb [11] 0 rfl (by kernel_rfl) rfl ?_
   refine TA_nil (by kernel_rfl) ?_
   refine TA_st (σ':=[.box [sl tR db0.relations,sl tF db0.facts],.box [.n,.n],.row (flat tR.enc us_1),.dead,.dead,.box [.m [2] 0 us_1.length tR.k,.m [4] 0 box5_facts.length tF.k],.box [intA x_t_3.relation,sl tInt x_t_3.values],.dead,.dead,.row (flat tF.enc ([({ relation:=x_t_3.relation,values:=us_5 }:Fact)]:(List Fact))),.row (flat tF.enc us_7),.dead,.dead,.dead,.dead]) rfl ?_
   refine tmv 4 10 (by decide) (lb rfl) rfl rfl (lb rfl) ?_
   refine TA_st (σ':=[.box [sl tR db0.relations,sl tF db0.facts],.box [.n,.n],.row (flat tR.enc us_1),.dead,.row (flat tF.enc us_7),.box [.m [2] 0 us_1.length tR.k,.j],.box [intA x_t_3.relation,sl tInt x_t_3.values],.dead,.dead,.row (flat tF.enc ([({ relation:=x_t_3.relation,values:=us_5 }:Fact)]:(List Fact))),.dead,.dead,.dead,.dead,.dead]) rfl ?_
   refine t1 12 (by kernel_rfl) rfl rfl (TOp_storeB sz25 rfl rfl rfl rfl rfl rfl rfl (by decide) (lb rfl) rfl ?_)
   refine TA_st (σ':=[.box [sl tR db0.relations,sl tF db0.facts],.box [.n,.n],.row (flat tR.enc us_1),.dead,.row (flat tF.enc us_7),.box [.m [2] 0 us_1.length tR.k,.m [4] 0 us_7.length tF.k],.box [intA x_t_3.relation,sl tInt x_t_3.values],.dead,.dead,.row (flat tF.enc ([({ relation:=x_t_3.relation,values:=us_5 }:Fact)]:(List Fact))),.dead,.dead,.dead,.dead,.dead]) rfl ?_
   refine TA_nil (by kernel_rfl) ?_
   refine T_region ?_
   refine Tp rfl rfl (pur_add rfl rfl rfl (fits64 (by omega) (by omega))) rfl ?_
   refine pv tb 1 rfl ?_
   refine TO_nil ?_
   obtain rfl:=some_inj H
   exact again (db0.facts.length - (t_3+1)) (t_3+1,us_7) (by omega) (w0 6) ⟨rfl,K4_⟩
  ·replace d4:=of_decide_eq_false d4
   obtain rfl:=forS_end L4_ (by omega)
   refine T_exit ?_
   refine then_exit ?_
   refine then_exit ?_
   refine block_exit ?_
   replace H:=N4_
   refine sr ?_
   refine pv tb 1 rfl ?_
   refine TO_cons rfl (TOp_storeB sz27 rfl rfl rfl rfl rfl rfl rfl (by decide) (lb rfl) rfl ?_)
   refine TO_st (σ':=[.box [sl tR db0.relations,sl tF db0.facts],.box [.m [2] 0 us_1.length tR.k,.m [4] 0 box5_facts.length tF.k],.row (flat tR.enc us_1),.dead,.row (flat tF.enc box5_facts),.box [.m [2] 0 us_1.length tR.k,.m [4] 0 box5_facts.length tF.k]]) rfl ?_
   refine TO_nil ?_
   refine T_ret ?_
   obtain rfl:=some_inj H
   exact end_pick (.cellK rfl agg27 rfl (lb rfl) .nil) rfl [2,4] (by decide) rfl rfl rfl rfl rfl rfl

theorem miwithin_ok (n0:Int) (low1:Int) (high2:Int) (r:Bool) (H:miwithin n0 low1 high2=some r):FnV prg 29 [intA n0,intA low1,intA high2] (boolA r):=by
  unfold miwithin at H
  refine fnV_of_T Tryz.func29 rfl rfl (Nat.le_of_ble_eq_true rfl) ?_
  refine te [(0,intA n0),(1,intA low1),(2,intA high2)] rfl ?_
  refine sr ?_
  refine pv tb 1 rfl ?_
  refine TO_nil ?_
  refine T_cutX (fun x=>((decide (low1≤n0)) && (decide (n0≤high2)))=x) (fun (t6_1:Bool)=>[(6,boolA t6_1)]) (fun (t6_1:Bool)=>[]) ?_ ?_
  ·skip
   refine T_region ?_
   refine pv tb 4 rfl ?_
   refine TO_split (t:=decide (low1≤n0)) 10 rfl (fun g_3=>?_) (fun g_3=>?_)
   ·skip
    refine pv tb 5 rfl ?_
    refine TO_nil ?_
    exact joined (decide (n0≤high2)) (w0 0) (by first | exact Eq.symm ((and_T g_3 rfl)))
   ·skip
    refine pv tb 5 rfl ?_
    refine TO_nil ?_
    exact joined false (w0 0) (by first | exact Eq.symm ((and_F g_3 rfl)))
  ·rintro _ rfl
   refine T_ret ?_
   obtain rfl:=some_inj H
   refine end_ret (.tmp .nil) rfl rfl ⟨?_,rfl⟩
   rfl

theorem m_slices_IndexFunc_Sint_int_ok (s0:(List Int)) (f1:(Int→Option Bool)) (f1_g:Nat) (f1_c:List A) (f1_E:EnT prg f1_g) (f1_l:looseL f1_c=true) (f1_m:firmL f1_c=true∧fzL f1_c=f1_c) (f1_H:∀ (x0:Int) r,f1 x0=some r→FnV prg f1_g ([intA x0]++f1_c) (boolA r)) (r:Int) (H:m_slices_IndexFunc_Sint_int s0 f1=some r):FnV prg 106 [sl tInt s0,.f f1_g f1_c] (intA r):=by
  unfold m_slices_IndexFunc_Sint_int at H
  refine fnV_of_T Tryz.func106 rfl rfl (Nat.le_of_ble_eq_true rfl) ?_
  refine te [(0,sl tInt s0),(1,.f f1_g f1_c)] rfl ?_
  refine sr ?_
  refine pv tb 1 rfl ?_
  refine TO_nil (T_seq (sr ?_))
  refine pv tb 1 rfl ?_
  refine Tp rfl rfl (pur_lenT (T:=tInt) sl28 rfl rfl) rfl ?_
  refine pv tb 1 rfl ?_
  refine TO_nil ?_
  obtain ⟨O2_,L2_,N2_⟩:=bind_inv H
  clear H
  obtain ⟨B2_,hb2,L2_⟩:=gen_forL L2_
  refine T_block ?_
  refine T_loopX (fun k=>fun (t_1:Nat)=>k=s0.length - t_1∧forL B2_ (s0.drop t_1) (t_1:Int) ()=some O2_) (fun (t_1:Nat)=>[(0,sl tInt s0),(1,.f f1_g f1_c),(7,intA (s0.length:Int)),(8,intA (t_1:Int))]) (fun (t_1:Nat)=>[]) _ (0:Nat) (wp 0 (lb rfl) rfl rfl (by simp only [namesE,A.names,namesL_enc,Bool.false_or,Bool.or_false,looseL_names f1_l]) rfl rfl) ⟨rfl,L2_⟩ ?_
  rintro _ t_1 ⟨rfl,L2_⟩
  refine T_fact (len_sl (T:=tInt) (.tmp 0) rfl) (fun hl2=>?_)
  refine sr ?_
  refine pv tb 1 rfl ?_
  refine TO_nil (T_seq ?_)
  refine T_cond (t:=decide ((t_1:Int)<(s0.length:Int))) rfl (fun d2=>?_) (fun d2=>?_)
  ·replace d2:=of_decide_eq_true d2
   obtain ⟨x_t_1,hx_t_1⟩:∃ v,(s0)[t_1]?=some v:=⟨_,List.getElem?_eq_getElem (by omega)⟩
   obtain ⟨C2_,H,K2_⟩:=forL_step L2_ hx_t_1
   rw [hb2] at H
   refine T_skip ?_
   refine T_seq ?_
   refine T_block ?_
   refine sr ?_
   refine pv tb 2 rfl ?_
   refine TO_nil (sr ?_)
   refine pv tb 3 rfl ?_
   refine Tp rfl rfl (pur_ixT (T:=tInt) sl28 rfl rfl rfl hx_t_1 rfl) rfl ?_
   refine Tp rfl rfl (pur_ldT (T:=tInt) (i:=t_1) (off:=0) rfl one3 rfl rfl hx_t_1 rfl) rfl ?_
   obtain ⟨r_3,h_4,H⟩:=bind_inv H
   refine TO_cons rfl (TOp_callV (call_closure f1_E rfl rfl) (f1_H _  _ h_4) (looseL_app rfl f1_l) rfl rfl ?_)
   refine TO_nil ?_
   refine T_cond (t:=r_3) rfl (fun c_5=>?_) (fun c_5=>?_)
   ·replace H:=cond_t c_5 H
    refine sr ?_
    refine pv tb 2 rfl ?_
    refine TO_nil ?_
    refine T_ret ?_
    refine block_ret ?_
    refine then_ret ?_
    refine then_ret ?_
    refine block_ret ?_
    refine then_ret ?_
    obtain rfl:=some_inj H
    obtain rfl:=some_inj K2_
    replace H:=onS_r N2_
    obtain rfl:=some_inj H
    refine end_ret (.tmp .nil) rfl rfl ⟨?_,rfl⟩
    rfl
   ·replace H:=cond_f c_5 H
    refine T_skip ?_
    refine T_region ?_
    refine Tp rfl rfl (pur_add rfl rfl rfl (fits64 (by omega) (by omega))) rfl ?_
    refine pv tb 1 rfl ?_
    refine TO_nil ?_
    obtain rfl:=some_inj H
    exact again (s0.length - (t_1+1)) (t_1+1) (by omega) (wp 0 (lb rfl) rfl rfl (by simp only [namesE,A.names,namesL_enc,Bool.false_or,Bool.or_false,looseL_names f1_l]) rfl rfl) ⟨rfl,K2_⟩
  ·replace d2:=of_decide_eq_false d2
   obtain rfl:=forL_end L2_ (by omega)
   refine T_exit ?_
   refine then_exit ?_
   refine then_exit ?_
   refine block_exit ?_
   replace H:=onS_l N2_
   refine sr ?_
   refine pv tb 1 rfl ?_
   refine TO_nil ?_
   refine T_ret ?_
   obtain rfl:=some_inj H
   refine end_ret (.tmp .nil) rfl rfl ⟨?_,rfl⟩
   rfl

theorem m_slices_ContainsFunc_Sint_int_ok (s0:(List Int)) (f1:(Int→Option Bool)) (f1_g:Nat) (f1_c:List A) (f1_E:EnT prg f1_g) (f1_l:looseL f1_c=true) (f1_m:firmL f1_c=true∧fzL f1_c=f1_c) (f1_H:∀ (x0:Int) r,f1 x0=some r→FnV prg f1_g ([intA x0]++f1_c) (boolA r)) (r:Bool) (H:m_slices_ContainsFunc_Sint_int s0 f1=some r):FnV prg 94 [sl tInt s0,.f f1_g f1_c] (boolA r):=by
  unfold m_slices_ContainsFunc_Sint_int at H
  refine fnV_of_T Tryz.func94 rfl rfl (Nat.le_of_ble_eq_true rfl) ?_
  refine te [(0,sl tInt s0),(1,.f f1_g f1_c)] rfl ?_
  refine sr ?_
  refine pv tb 1 rfl ?_
  refine TO_nil (sr ?_)
  obtain ⟨r_1,h_2,H⟩:=bind_inv H
  refine pv tb 2 rfl ?_
  refine TO_cons rfl (TOp_callV (call_static ent106 rfl) (m_slices_IndexFunc_Sint_int_ok _ f1 f1_g f1_c f1_E f1_l f1_m f1_H _ h_2) (looseC rfl (looseC f1_l rfl)) rfl rfl ?_)
  refine pv tb 2 rfl ?_
  refine TO_nil ?_
  refine T_ret ?_
  obtain rfl:=some_inj H
  refine end_ret (.tmp .nil) rfl rfl ⟨?_,rfl⟩
  rfl

theorem miareValues_1_ok (v0:Int) (r:Bool) (H:miareValues_1 v0=some r):FnV prg 95 [intA v0] (boolA r):=by
  unfold miareValues_1 at H
  refine fnV_of_T Tryz.func95 rfl rfl (Nat.le_of_ble_eq_true rfl) ?_
  refine te [(0,intA v0)] rfl ?_
  refine sr ?_
  refine pv tb 1 rfl ?_
  refine TO_nil (sr ?_)
  obtain ⟨r_1,h_2,H⟩:=bind_inv H
  refine pv tb 1 rfl ?_
  refine TO_cons rfl (TOp_callV (call_static ent29 rfl) (miwithin_ok _ _ _ _ h_2) rfl rfl rfl ?_)
  refine pv tb 2 rfl ?_
  refine TO_nil ?_
  refine T_ret ?_
  obtain rfl:=some_inj H
  refine end_ret (.tmp .nil) rfl rfl ⟨?_,rfl⟩
  rfl

theorem miareValues_ok (list0:(List Int)) (r:Bool) (H:miareValues list0=some r):FnV prg 75 [sl tInt list0] (boolA r):=by
  unfold miareValues at H
  refine fnV_of_T Tryz.func75 rfl rfl (Nat.le_of_ble_eq_true rfl) ?_
  refine te [(0,sl tInt list0)] rfl ?_
  refine sr ?_
  refine pv tb 1 rfl ?_
  refine TO_nil (sr ?_)
  obtain ⟨r_1,h_2,H⟩:=bind_inv H
  refine pv tb 1 rfl ?_
  refine TO_cons rfl (TOp_callV (call_static ent94 rfl) (m_slices_ContainsFunc_Sint_int_ok _ (fun x0=>miareValues_1 x0) 95 [] ent95 rfl ⟨rfl,rfl⟩ (fun x0 r h=>miareValues_1_ok x0  r h) _ h_2) rfl rfl rfl ?_)
  refine pv tb 2 rfl ?_
  refine TO_nil ?_
  refine T_ret ?_
  obtain rfl:=some_inj H
  refine end_ret (.tmp .nil) rfl rfl ⟨?_,rfl⟩
  rfl

theorem miisFact_ok (relations0:(List Relation)) (fact1:Fact) (r:Bool) (H:miisFact relations0 fact1=some r):FnV prg 43 [sl tR relations0,.g (tF.enc fact1)] (boolA r):=by
  unfold miisFact at H
  refine fnV_of_T Tryz.func43 rfl rfl (Nat.le_of_ble_eq_true rfl) ?_
  refine te [(0,sl tR relations0),(1,.g (tF.enc fact1))] rfl ?_
  refine sr ?_
  refine TO_cons rfl (TOp_box rfl (boxAll rfl) rfl rfl ?_)
  refine pv tb 1 rfl ?_
  refine TO_nil ?_
  obtain ⟨t4_1,J_1,H_2⟩:=bind_inv H
  refine T_cutX (fun x=>t4_1=x) (fun (t4_1:Bool)=>[(4,boolA t4_1)]) (fun (t4_1:Bool)=>[]) ?_ ?_
  ·replace H:=J_1
   refine T_regionD mixed (by kernel_rfl) ?_
   refine pq tb 3 rfl ?_
   refine TQ_pure rfl (pur_lenT (T:=tR) sl24 rfl rfl) rfl ?_
   refine TQ_fact (len_sl (T:=tR) (.tmp 0) rfl) (fun hl_3=>?_)
   refine TQ_pure rfl (pur_sub rfl rfl rfl (fits64 (by omega) (by omega))) rfl ?_
   obtain ⟨r_4,h_5,H⟩:=bind_inv H
   refine TQ_callV rfl (call_static ent29 rfl) (miwithin_ok _ _ _ _ h_5) rfl rfl ?_
   refine pq tb 1 rfl ?_
   refine TQ_split (t:=r_4) 11 rfl (fun g_6=>?_) (fun g_6=>?_)
   ·replace H:=cond_t g_6 H
    refine pq tb 2 rfl ?_
    refine TQ_on rfl rfl (by decide) rfl (pur_lenT (T:=tInt) sl28 rfl rfl) rfl ?_
    obtain ⟨v_7,h_8,H⟩:=bind_inv H
    obtain ⟨n_9,hz_10,hv_11⟩:=getI_inv h_8
    refine pq tb 3 rfl ?_
    refine TQ_on rfl rfl (by decide) rfl (pur_ixT (T:=tR) sl24 rfl rfl hz_10 hv_11 rfl) rfl ?_
    refine pq tb 1 rfl ?_
    refine tqe [(3,.b 0 0),(11,boolA true),(14,intA (fact1.values.length:Int)),(19,.q (flat tR.enc relations0) (n_9*tR.k+1))] rfl ?_
    refine TQ_on rfl rfl (by decide) rfl (pur_ldT (T:=tR) (i:=n_9) (off:=1) rfl one3 rfl rfl hv_11 rfl) rfl ?_
    refine pq tb 3 rfl ?_
    refine TQ_split (t:=decide ((fact1.values.length:Int)=v_7.arity)) 23 rfl (fun g_12=>?_) (fun g_12=>?_)
    ·replace H:=cond_t g_12 H
     obtain ⟨r_13,h_14,H⟩:=bind_inv H
     refine pq tb 2 rfl ?_
     refine TQ_onV rfl rfl (by decide) rfl (call_static ent75 rfl) (miareValues_ok _ _ h_14) rfl rfl ?_
     refine pq tb 2 rfl ?_
     refine TQ_nil ?_
     exact joined r_13 (w0 0) (some_inj H).symm
    ·replace H:=cond_f g_12 H
     refine pq tb 5 rfl ?_
     refine TQ_nil ?_
     exact joined false (w0 0) (some_inj H).symm
   ·replace H:=cond_f g_6 H
    refine pq tb 8 rfl ?_
    refine tqe [(3,.b 0 0),(11,boolA false),(14,.v undef),(19,.v undef)] rfl ?_
    refine pq tb 9 rfl ?_
    refine TQ_nil ?_
    exact joined false (w0 0) (some_inj H).symm
  ·rintro _ rfl
   replace H:=H_2
   refine T_ret ?_
   obtain rfl:=some_inj H
   refine end_ret (.tmp .nil) rfl rfl ⟨?_,rfl⟩
   rfl

theorem miIsValidRelation_ok (relation0:Relation) (r:Bool) (H:miIsValidRelation relation0=some r):FnV prg 93 [.g (tR.enc relation0)] (boolA r):=by
  unfold miIsValidRelation at H
  refine fnV_of_T Tryz.func93 rfl rfl (Nat.le_of_ble_eq_true rfl) ?_
  refine te [(0,.g (tR.enc relation0))] rfl ?_
  refine sr ?_
  refine TO_cons rfl (TOp_box rfl (boxAll rfl) rfl rfl ?_)
  refine pv tb 1 rfl ?_
  refine TO_nil ?_
  obtain ⟨t2_1,J_1,H_2⟩:=bind_inv H
  refine T_cutX (fun x=>t2_1=x) (fun (t2_1:Bool)=>[(2,boolA t2_1)]) (fun (t2_1:Bool)=>[]) ?_ ?_
  ·replace H:=J_1
   refine T_region ?_
   refine pv tb 2 rfl ?_
   refine Tp rfl rfl (pur_len_s (by kernel_rfl) rfl rfl) rfl ?_
   refine pv tb 2 rfl ?_
   refine TO_split (t:=decide ((relation0.name.size:Int)=1)) 7 rfl (fun g_3=>?_) (fun g_3=>?_)
   ·replace H:=cond_t g_3 H
    obtain ⟨b_4,h_5,H⟩:=bind_inv H
    refine pv tb 2 rfl ?_
    refine TO_on rfl rfl (by decide) rfl rfl (TOp_pure (pur_ixS (by kernel_rfl) rfl rfl h_5 rfl) rfl ?_)
    refine pv tb 3 rfl ?_
    refine TO_split (t:=decide (97≤b_4)) 13 rfl (fun g_6=>?_) (fun g_6=>?_)
    ·replace H:=cond_t g_6 H
     obtain ⟨b_7,h_8,H⟩:=bind_inv H
     refine pv tb 2 rfl ?_
     refine TO_on rfl rfl (by decide) rfl rfl (TOp_pure (pur_ixS (by kernel_rfl) rfl rfl h_8 rfl) rfl ?_)
     refine pv tb 3 rfl ?_
     refine TO_split (t:=decide (b_7≤122)) 19 rfl (fun g_9=>?_) (fun g_9=>?_)
     ·replace H:=cond_t g_9 H
      obtain ⟨r_10,h_11,H⟩:=bind_inv H
      refine pv tb 2 rfl ?_
      refine TO_on rfl rfl (by decide) rfl rfl (TOp_callV (call_static ent29 rfl) (miwithin_ok _ _ _ _ h_11) rfl rfl rfl ?_)
      refine pv tb 2 rfl ?_
      refine TO_split (t:=r_10) 24 rfl (fun g_12=>?_) (fun g_12=>?_)
      ·replace H:=cond_t g_12 H
       obtain ⟨r_13,h_14,H⟩:=bind_inv H
       refine pv tb 4 rfl ?_
       refine TO_on rfl rfl (by decide) rfl rfl (TOp_callV (call_static ent29 rfl) (miwithin_ok _ _ _ _ h_14) rfl rfl rfl ?_)
       refine pv tb 2 rfl ?_
       refine TO_nil ?_
       exact joined r_13 (w0 0) (some_inj H).symm
      ·replace H:=cond_f g_12 H
       refine pv tb 7 rfl ?_
       refine TO_nil ?_
       exact joined false (w0 0) (some_inj H).symm
     ·replace H:=cond_f g_9 H
      refine pv tb 8 rfl ?_
      refine toe [(24,boolA false),(26,.v undef),(27,.v undef)] rfl ?_
      refine pv tb 4 rfl ?_
      refine TO_nil ?_
      exact joined false (w0 0) (some_inj H).symm
    ·replace H:=cond_f g_6 H
     refine pv tb 8 rfl ?_
     refine toe [(1,.b 0 0),(19,boolA false),(21,.v undef)] rfl ?_
     refine pv tb 10 rfl ?_
     refine TO_nil ?_
     exact joined false (w0 0) (some_inj H).symm
   ·replace H:=cond_f g_3 H
    refine pv tb 16 rfl ?_
    refine toe [(1,.b 0 0),(23,boolA false)] rfl ?_
    refine pv tb 8 rfl ?_
    refine TO_nil ?_
    exact joined false (w0 0) (some_inj H).symm
  ·rintro _ rfl
   replace H:=H_2
   refine T_ret ?_
   obtain rfl:=some_inj H
   refine end_ret (.tmp .nil) rfl rfl ⟨?_,rfl⟩
   rfl

theorem miAreValidRelations_ok (relations0:(List Relation)) (r:Bool) (H:miAreValidRelations relations0=some r):FnV prg 74 [sl tR relations0] (boolA r):=by
  unfold miAreValidRelations at H
  refine fnV_of_T Tryz.func74 rfl rfl (Nat.le_of_ble_eq_true rfl) ?_
  refine te [(0,sl tR relations0)] rfl ?_
  refine sr ?_
  refine pv tb 1 rfl ?_
  refine TO_nil (T_seq (sr ?_))
  refine pv tb 1 rfl ?_
  refine Tp rfl rfl (pur_lenT (T:=tR) sl24 rfl rfl) rfl ?_
  refine pv tb 1 rfl ?_
  refine TO_nil ?_
  obtain ⟨O2_,L2_,N2_⟩:=bind_inv H
  clear H
  obtain ⟨B2_,hb2,L2_⟩:=gen_forL L2_
  refine T_block ?_
  refine T_loopX (fun k=>fun (t_1:Nat)=>k=relations0.length - t_1∧forL B2_ (relations0.drop t_1) (t_1:Int) ()=some O2_) (fun (t_1:Nat)=>[(0,sl tR relations0),(5,sl tR relations0),(6,intA (relations0.length:Int)),(7,intA (t_1:Int))]) (fun (t_1:Nat)=>[]) _ (0:Nat) (w0 0) ⟨rfl,L2_⟩ ?_
  rintro _ t_1 ⟨rfl,L2_⟩
  refine T_fact (len_sl (T:=tR) (.tmp 0) rfl) (fun hl2=>?_)
  refine sr ?_
  refine pv tb 1 rfl ?_
  refine TO_nil (T_seq ?_)
  refine T_cond (t:=decide ((t_1:Int)<(relations0.length:Int))) rfl (fun d2=>?_) (fun d2=>?_)
  ·replace d2:=of_decide_eq_true d2
   obtain ⟨x_t_1,hx_t_1⟩:∃ v,(relations0)[t_1]?=some v:=⟨_,List.getElem?_eq_getElem (by omega)⟩
   obtain ⟨C2_,H,K2_⟩:=forL_step L2_ hx_t_1
   rw [hb2] at H
   refine T_skip ?_
   refine T_seq ?_
   refine T_block ?_
   refine sr ?_
   refine pv tb 1 rfl ?_
   refine Tp rfl rfl (pur_ixT (T:=tR) sl24 rfl rfl rfl hx_t_1 rfl) rfl ?_
   refine Tp rfl rfl (pur_ldTK (T:=tR) (i:=t_1) (off:=0) rfl agg53 rfl rfl hx_t_1 (by decide) rfl) rfl ?_
   refine TO_cons rfl (TOp_alloc zero53 rfl rfl ?_)
   refine pv tb 1 rfl ?_
   refine TO_cons rfl (TOp_storeB sz53 rfl rfl rfl rfl rfl rfl rfl (by decide) (lb rfl) rfl ?_)
   refine TO_st (σ':=[.box [strA x_t_1.name,intA x_t_1.arity,intA x_t_1.keyLength]]) rfl ?_
   refine TO_nil ?_
   obtain ⟨t29_3,J_3,H_4⟩:=bind_inv H
   refine T_cutX (fun x=>t29_3=x) (fun (t29_3:Bool)=>[(0,sl tR relations0),(5,sl tR relations0),(6,intA (relations0.length:Int)),(7,intA (t_1:Int)),(29,boolA t29_3)]) (fun (t29_3:Bool)=>[]) ?_ ?_
   ·replace H:=J_3
    refine T_regionD mixed (by kernel_rfl) ?_
    obtain ⟨r_5,h_6,H⟩:=bind_inv H
    refine pq tb 1 rfl ?_
    refine TQ_callV rfl (call_static ent93 rfl) (miIsValidRelation_ok _ _ h_6) rfl rfl ?_
    refine pq tb 2 rfl ?_
    refine TQ_split (t:=(!r_5)) 15 rfl (fun g_7=>?_) (fun g_7=>?_)
    ·replace H:=cond_t g_7 H
     refine pq tb 14 rfl ?_
     refine TQ_nil ?_
     exact joined true (w0 0) (some_inj H).symm
    ·replace H:=cond_f g_7 H
     refine pq tb 3 rfl ?_
     refine TQ_split (t:=decide (0<(t_1:Int))) 18 rfl (fun g_8=>?_) (fun g_8=>?_)
     ·replace H:=cond_t g_8 H
      refine pq tb 2 rfl ?_
      refine TQ_on rfl rfl (by decide) rfl (pur_sub rfl rfl rfl (fits64 (by omega) (by omega))) rfl ?_
      obtain ⟨v_9,h_10,H⟩:=bind_inv H
      obtain ⟨n_11,hz_12,hv_13⟩:=getI_inv h_10
      refine TQ_on rfl rfl (by decide) rfl (pur_ixT (T:=tR) sl24 rfl rfl hz_12 hv_13 rfl) rfl ?_
      refine pq tb 1 rfl ?_
      refine TQ_on rfl rfl (by decide) rfl (pur_ldT (T:=tR) (i:=n_11) (off:=0) rfl one9 rfl rfl hv_13 rfl) rfl ?_
      refine pq tb 2 rfl ?_
      refine tqe [(0,sl tR relations0),(5,sl tR relations0),(6,intA (relations0.length:Int)),(7,intA (t_1:Int)),(15,boolA false),(18,boolA true),(24,strA v_9.name),(26,strA x_t_1.name)] rfl ?_
      refine TQ_on rfl rfl (by decide) rfl (pur_geqS rfl rfl rfl) rfl ?_
      refine pq tb 2 rfl ?_
      refine TQ_nil ?_
      exact joined (!ltS v_9.name x_t_1.name) (w0 0) (some_inj H).symm
     ·replace H:=cond_f g_8 H
      refine pq tb 8 rfl ?_
      refine tqe [(0,sl tR relations0),(5,sl tR relations0),(6,intA (relations0.length:Int)),(7,intA (t_1:Int)),(15,boolA false),(18,boolA false),(24,.v undef),(26,.v undef)] rfl ?_
      refine pq tb 3 rfl ?_
      refine TQ_nil ?_
      exact joined false (w0 0) (some_inj H).symm
   ·rintro _ rfl
    replace H:=H_4
    refine T_cond (t:=t29_3) rfl (fun c_14=>?_) (fun c_14=>?_)
    ·replace H:=cond_t c_14 H
     refine sr ?_
     refine pv tb 1 rfl ?_
     refine TO_nil ?_
     refine T_ret ?_
     refine block_ret ?_
     refine then_ret ?_
     refine then_ret ?_
     refine block_ret ?_
     refine then_ret ?_
     obtain rfl:=some_inj H
     obtain rfl:=some_inj K2_
     replace H:=onS_r N2_
     obtain rfl:=some_inj H
     refine end_ret (.tmp .nil) rfl rfl ⟨?_,rfl⟩
     rfl
    ·replace H:=cond_f c_14 H
     refine T_skip ?_
     refine T_region ?_
     refine Tp rfl rfl (pur_add rfl rfl rfl (fits64 (by omega) (by omega))) rfl ?_
     refine pv tb 1 rfl ?_
     refine TO_nil ?_
     obtain rfl:=some_inj H
     exact again (relations0.length - (t_1+1)) (t_1+1) (by omega) (w0 0) ⟨rfl,K2_⟩
  ·replace d2:=of_decide_eq_false d2
   obtain rfl:=forL_end L2_ (by omega)
   refine T_exit ?_
   refine then_exit ?_
   refine then_exit ?_
   refine block_exit ?_
   replace H:=onS_l N2_
   refine sr ?_
   refine pv tb 1 rfl ?_
   refine Tp rfl rfl (pur_lenT (T:=tR) sl24 rfl rfl) rfl ?_
   refine pv tb 2 rfl ?_
   refine TO_nil ?_
   refine T_ret ?_
   obtain rfl:=some_inj H
   refine end_ret (.tmp .nil) rfl rfl ⟨?_,rfl⟩
   rfl

theorem miIsValidDatabase_ok (db0:Database) (r:Bool) (H:miIsValidDatabase db0=some r):FnV prg 42 [.g (tD.enc db0)] (boolA r):=by
  unfold miIsValidDatabase at H
  refine fnV_of_T Tryz.func42 rfl rfl (Nat.le_of_ble_eq_true rfl) ?_
  refine te [(0,.g (tD.enc db0))] rfl ?_
  refine sr ?_
  refine TO_cons rfl (TOp_box rfl (boxAll rfl) rfl rfl ?_)
  refine pv tb 1 rfl ?_
  refine TO_nil (T_seq ?_)
  obtain ⟨t14_1,J_1,H_2⟩:=bind_inv H
  refine T_cutX (fun x=>t14_1=x) (fun (t14_1:Bool)=>[(1,.b 0 0),(14,boolA t14_1)]) (fun (t14_1:Bool)=>[.box [sl tR db0.relations,sl tF db0.facts]]) ?_ ?_
  ·replace H:=J_1
   refine T_region ?_
   obtain ⟨r_3,h_4,H⟩:=bind_inv H
   refine pv tb 2 rfl ?_
   refine TO_cons rfl (TOp_callV (call_static ent74 rfl) (miAreValidRelations_ok _ _ h_4) rfl rfl rfl ?_)
   refine pv tb 2 rfl ?_
   refine TO_split (t:=(!r_3)) 9 rfl (fun g_5=>?_) (fun g_5=>?_)
   ·replace H:=cond_t g_5 H
    refine pv tb 5 rfl ?_
    refine TO_nil ?_
    exact joined true (w0 1) (some_inj H).symm
   ·replace H:=cond_f g_5 H
    refine pv tb 2 rfl ?_
    refine TO_on rfl rfl (by decide) rfl rfl (TOp_pure (pur_lenT (T:=tF) sl25 rfl rfl) rfl ?_)
    refine pv tb 2 rfl ?_
    refine TO_nil ?_
    exact joined (decide (14<(db0.facts.length:Int))) (w0 1) (some_inj H).symm
  ·rintro _ rfl
   replace H:=H_2
   refine T_cond (t:=t14_1) rfl (fun c_6=>?_) (fun c_6=>?_)
   ·replace H:=cond_t c_6 H
    refine sr ?_
    refine pv tb 1 rfl ?_
    refine TO_nil ?_
    refine T_ret ?_
    refine then_ret ?_
    obtain rfl:=some_inj H
    refine end_ret (.tmp .nil) rfl rfl ⟨?_,rfl⟩
    rfl
   ·replace H:=cond_f c_6 H
    refine T_skip ?_
    refine T_seq (sr ?_)
    refine pv tb 2 rfl ?_
    refine Tp rfl rfl (pur_lenT (T:=tF) sl25 rfl rfl) rfl ?_
    refine pv tb 1 rfl ?_
    refine TO_nil ?_
    obtain ⟨O8_,L8_,N8_⟩:=bind_inv H
    clear H
    obtain ⟨B8_,hb8,L8_⟩:=gen_forL L8_
    refine T_block ?_
    refine T_loopX (fun k=>fun (t_7:Nat)=>k=db0.facts.length - t_7∧forL B8_ (db0.facts.drop t_7) (t_7:Int) ()=some O8_) (fun (t_7:Nat)=>[(1,.b 0 0),(16,sl tF db0.facts),(17,intA (db0.facts.length:Int)),(18,intA (t_7:Int))]) (fun (t_7:Nat)=>[.box [sl tR db0.relations,sl tF db0.facts]]) _ (0:Nat) (w0 1) ⟨rfl,L8_⟩ ?_
    rintro _ t_7 ⟨rfl,L8_⟩
    refine T_fact (len_sl (T:=tF) (.tmp 16) rfl) (fun hl8=>?_)
    refine sr ?_
    refine pv tb 1 rfl ?_
    refine TO_nil (T_seq ?_)
    refine T_cond (t:=decide ((t_7:Int)<(db0.facts.length:Int))) rfl (fun d8=>?_) (fun d8=>?_)
    ·replace d8:=of_decide_eq_true d8
     obtain ⟨x_t_7,hx_t_7⟩:∃ v,(db0.facts)[t_7]?=some v:=⟨_,List.getElem?_eq_getElem (by omega)⟩
     obtain ⟨C8_,H,K8_⟩:=forL_step L8_ hx_t_7
     rw [hb8] at H
     refine T_skip ?_
     refine T_seq ?_
     refine T_block ?_
     refine sr ?_
     refine pv tb 1 rfl ?_
     refine Tp rfl rfl (pur_ixT (T:=tF) sl25 rfl rfl rfl hx_t_7 rfl) rfl ?_
     refine Tp rfl rfl (pur_ldTK (T:=tF) (i:=t_7) (off:=0) rfl agg30 rfl rfl hx_t_7 (by decide) rfl) rfl ?_
     refine TO_cons rfl (TOp_alloc zero30 rfl rfl ?_)
     refine pv tb 1 rfl ?_
     refine TO_cons rfl (TOp_storeB sz30 rfl rfl rfl rfl rfl rfl rfl (by decide) (lb rfl) rfl ?_)
     refine TO_st (σ':=[.box [sl tR db0.relations,sl tF db0.facts],.box [intA x_t_7.relation,sl tInt x_t_7.values]]) rfl ?_
     refine TO_nil ?_
     obtain ⟨t42_9,J_9,H_10⟩:=bind_inv H
     refine T_cutX (fun x=>t42_9=x) (fun (t42_9:Bool)=>[(1,.b 0 0),(16,sl tF db0.facts),(17,intA (db0.facts.length:Int)),(18,intA (t_7:Int)),(42,boolA t42_9)]) (fun (t42_9:Bool)=>[.box [sl tR db0.relations,sl tF db0.facts]]) ?_ ?_
     ·replace H:=J_9
      refine T_regionD mixed (by kernel_rfl) ?_
      obtain ⟨r_11,h_12,H⟩:=bind_inv H
      refine pq tb 3 rfl ?_
      refine TQ_callV rfl (call_static ent43 rfl) (miisFact_ok _ _ _ h_12) rfl rfl ?_
      refine pq tb 2 rfl ?_
      refine TQ_split (t:=(!r_11)) 28 rfl (fun g_13=>?_) (fun g_13=>?_)
      ·replace H:=cond_t g_13 H
       refine pq tb 8 rfl ?_
       refine tqe [(1,.b 0 0),(4,.b 1 0),(16,sl tF db0.facts),(17,intA (db0.facts.length:Int)),(18,intA (t_7:Int)),(28,boolA true),(31,.v undef),(36,.v undef)] rfl ?_
       refine pq tb 6 rfl ?_
       refine TQ_nil ?_
       exact joined true (w0 1) (some_inj H).symm
      ·replace H:=cond_f g_13 H
       refine pq tb 3 rfl ?_
       refine TQ_split (t:=decide (0<(t_7:Int))) 31 rfl (fun g_14=>?_) (fun g_14=>?_)
       ·replace H:=cond_t g_14 H
        refine pq tb 3 rfl ?_
        refine TQ_on rfl rfl (by decide) rfl (pur_sub rfl rfl rfl (fits64 (by omega) (by omega))) rfl ?_
        obtain ⟨v_15,h_16,H⟩:=bind_inv H
        obtain ⟨n_17,hz_18,hv_19⟩:=getI_inv h_16
        refine TQ_on rfl rfl (by decide) rfl (pur_ixT (T:=tF) sl25 rfl rfl hz_18 hv_19 rfl) rfl ?_
        refine TQ_on rfl rfl (by decide) rfl (pur_ldTK (T:=tF) (i:=n_17) (off:=0) rfl agg30 rfl rfl hv_19 (by decide) rfl) rfl ?_
        obtain ⟨r_20,h_21,H⟩:=bind_inv H
        refine pq tb 1 rfl ?_
        refine TQ_onV rfl rfl (by decide) rfl (call_static ent15 rfl) (miCompareFacts_ok _ _ _ h_21) rfl rfl ?_
        refine tqe [(1,.b 0 0),(16,sl tF db0.facts),(17,intA (db0.facts.length:Int)),(18,intA (t_7:Int)),(28,boolA false),(31,boolA true),(39,intA r_20)] rfl ?_
        refine pq tb 3 rfl ?_
        refine TQ_nil ?_
        exact joined (decide (0≤r_20)) (w0 1) (some_inj H).symm
       ·replace H:=cond_f g_14 H
        refine pq tb 8 rfl ?_
        refine tqe [(1,.b 0 0),(16,sl tF db0.facts),(17,intA (db0.facts.length:Int)),(18,intA (t_7:Int)),(28,boolA false),(31,boolA false),(39,.v undef)] rfl ?_
        refine pq tb 3 rfl ?_
        refine TQ_nil ?_
        exact joined false (w0 1) (some_inj H).symm
     ·rintro _ rfl
      replace H:=H_10
      refine T_cond (t:=t42_9) rfl (fun c_22=>?_) (fun c_22=>?_)
      ·replace H:=cond_t c_22 H
       refine sr ?_
       refine pv tb 1 rfl ?_
       refine TO_nil ?_
       refine T_ret ?_
       refine block_ret ?_
       refine then_ret ?_
       refine then_ret ?_
       refine block_ret ?_
       refine then_ret ?_
       obtain rfl:=some_inj H
       obtain rfl:=some_inj K8_
       replace H:=onS_r N8_
       obtain rfl:=some_inj H
       refine end_ret (.tmp .nil) rfl rfl ⟨?_,rfl⟩
       rfl
      ·replace H:=cond_f c_22 H
       refine T_skip ?_
       refine T_region ?_
       refine Tp rfl rfl (pur_add rfl rfl rfl (fits64 (by omega) (by omega))) rfl ?_
       refine pv tb 1 rfl ?_
       refine TO_nil ?_
       obtain rfl:=some_inj H
       exact again (db0.facts.length - (t_7+1)) (t_7+1) (by omega) (w0 1) ⟨rfl,K8_⟩
    ·replace d8:=of_decide_eq_false d8
     obtain rfl:=forL_end L8_ (by omega)
     refine T_exit ?_
     refine then_exit ?_
     refine then_exit ?_
     refine block_exit ?_
     replace H:=onS_l N8_
     refine sr ?_
     refine pv tb 1 rfl ?_
     refine TO_nil ?_
     refine T_ret ?_
     obtain rfl:=some_inj H
     refine end_ret (.tmp .nil) rfl rfl ⟨?_,rfl⟩
     rfl

theorem m_slices_IndexFunc_Simpl_Fact_impl_Fact_ok (s0:(List Fact)) (f1:(Fact→Option Bool)) (f1_g:Nat) (f1_c:List A) (f1_E:EnT prg f1_g) (f1_l:looseL f1_c=true) (f1_m:firmL f1_c=true∧fzL f1_c=f1_c) (f1_H:∀ (x0:Fact) r,f1 x0=some r→FnV prg f1_g ([.g (tF.enc x0)]++f1_c) (boolA r)) (r:Int) (H:m_slices_IndexFunc_Simpl_Fact_impl_Fact s0 f1=some r):FnV prg 76 [sl tF s0,.f f1_g f1_c] (intA r):=by
  unfold m_slices_IndexFunc_Simpl_Fact_impl_Fact at H
  refine fnV_of_T Tryz.func76 rfl rfl (Nat.le_of_ble_eq_true rfl) ?_
  refine te [(0,sl tF s0),(1,.f f1_g f1_c)] rfl ?_
  refine sr ?_
  refine pv tb 1 rfl ?_
  refine TO_nil (T_seq (sr ?_))
  refine pv tb 1 rfl ?_
  refine Tp rfl rfl (pur_lenT (T:=tF) sl25 rfl rfl) rfl ?_
  refine pv tb 1 rfl ?_
  refine TO_nil ?_
  obtain ⟨O2_,L2_,N2_⟩:=bind_inv H
  clear H
  obtain ⟨B2_,hb2,L2_⟩:=gen_forL L2_
  refine T_block ?_
  refine T_loopX (fun k=>fun (t_1:Nat)=>k=s0.length - t_1∧forL B2_ (s0.drop t_1) (t_1:Int) ()=some O2_) (fun (t_1:Nat)=>[(0,sl tF s0),(1,.f f1_g f1_c),(7,intA (s0.length:Int)),(8,intA (t_1:Int))]) (fun (t_1:Nat)=>[]) _ (0:Nat) (wp 0 (lb rfl) rfl rfl (by simp only [namesE,A.names,namesL_enc,Bool.false_or,Bool.or_false,looseL_names f1_l]) rfl rfl) ⟨rfl,L2_⟩ ?_
  rintro _ t_1 ⟨rfl,L2_⟩
  refine T_fact (len_sl (T:=tF) (.tmp 0) rfl) (fun hl2=>?_)
  refine sr ?_
  refine pv tb 1 rfl ?_
  refine TO_nil (T_seq ?_)
  refine T_cond (t:=decide ((t_1:Int)<(s0.length:Int))) rfl (fun d2=>?_) (fun d2=>?_)
  ·replace d2:=of_decide_eq_true d2
   obtain ⟨x_t_1,hx_t_1⟩:∃ v,(s0)[t_1]?=some v:=⟨_,List.getElem?_eq_getElem (by omega)⟩
   obtain ⟨C2_,H,K2_⟩:=forL_step L2_ hx_t_1
   rw [hb2] at H
   refine T_skip ?_
   refine T_seq ?_
   refine T_block ?_
   refine sr ?_
   refine pv tb 2 rfl ?_
   refine TO_nil (sr ?_)
   refine pv tb 3 rfl ?_
   refine Tp rfl rfl (pur_ixT (T:=tF) sl25 rfl rfl rfl hx_t_1 rfl) rfl ?_
   refine Tp rfl rfl (pur_ldTK (T:=tF) (i:=t_1) (off:=0) rfl agg30 rfl rfl hx_t_1 (by decide) rfl) rfl ?_
   obtain ⟨r_3,h_4,H⟩:=bind_inv H
   refine TO_cons rfl (TOp_callV (call_closure f1_E rfl rfl) (f1_H _  _ h_4) (looseL_app rfl f1_l) rfl rfl ?_)
   refine TO_nil ?_
   refine T_cond (t:=r_3) rfl (fun c_5=>?_) (fun c_5=>?_)
   ·replace H:=cond_t c_5 H
    refine sr ?_
    refine pv tb 2 rfl ?_
    refine TO_nil ?_
    refine T_ret ?_
    refine block_ret ?_
    refine then_ret ?_
    refine then_ret ?_
    refine block_ret ?_
    refine then_ret ?_
    obtain rfl:=some_inj H
    obtain rfl:=some_inj K2_
    replace H:=onS_r N2_
    obtain rfl:=some_inj H
    refine end_ret (.tmp .nil) rfl rfl ⟨?_,rfl⟩
    rfl
   ·replace H:=cond_f c_5 H
    refine T_skip ?_
    refine T_region ?_
    refine Tp rfl rfl (pur_add rfl rfl rfl (fits64 (by omega) (by omega))) rfl ?_
    refine pv tb 1 rfl ?_
    refine TO_nil ?_
    obtain rfl:=some_inj H
    exact again (s0.length - (t_1+1)) (t_1+1) (by omega) (wp 0 (lb rfl) rfl rfl (by simp only [namesE,A.names,namesL_enc,Bool.false_or,Bool.or_false,looseL_names f1_l]) rfl rfl) ⟨rfl,K2_⟩
  ·replace d2:=of_decide_eq_false d2
   obtain rfl:=forL_end L2_ (by omega)
   refine T_exit ?_
   refine then_exit ?_
   refine then_exit ?_
   refine block_exit ?_
   replace H:=onS_l N2_
   refine sr ?_
   refine pv tb 1 rfl ?_
   refine TO_nil ?_
   refine T_ret ?_
   obtain rfl:=some_inj H
   refine end_ret (.tmp .nil) rfl rfl ⟨?_,rfl⟩
   rfl

theorem miFactIndex_1_ok (own0:Fact) (fv1:Fact) (r:Bool) (H:miFactIndex_1 own0 fv1=some r):FnV prg 77 [.g (tF.enc own0),.q [intA fv1.relation,sl tInt fv1.values] 0] (boolA r):=by
  unfold miFactIndex_1 at H
  refine fnV_of_T Tryz.func77 rfl rfl (Nat.le_of_ble_eq_true rfl) ?_
  refine te [(0,.g (tF.enc own0)),(1,.q [intA fv1.relation,sl tInt fv1.values] 0)] rfl ?_
  refine sr ?_
  refine TO_cons rfl (TOp_box rfl (boxAll rfl) rfl rfl ?_)
  refine pv tb 1 rfl ?_
  refine TO_nil (sr ?_)
  obtain ⟨r_1,h_2,H⟩:=bind_inv H
  refine pv tb 2 rfl ?_
  refine TO_cons rfl (TOp_callV (call_static ent15 rfl) (miCompareFacts_ok _ _ _ h_2) rfl rfl rfl ?_)
  refine pv tb 2 rfl ?_
  refine TO_nil ?_
  refine T_ret ?_
  obtain rfl:=some_inj H
  refine end_ret (.tmp .nil) rfl rfl ⟨?_,rfl⟩
  rfl

theorem miFactIndex_ok (db0:Database) (fact1:Fact) (r:Int) (H:miFactIndex db0 fact1=some r):FnV prg 44 [.g (tD.enc db0),.g (tF.enc fact1)] (intA r):=by
  unfold miFactIndex at H
  refine fnV_of_T Tryz.func44 rfl rfl (Nat.le_of_ble_eq_true rfl) ?_
  refine te [(0,.g (tD.enc db0)),(1,.g (tF.enc fact1))] rfl ?_
  refine sr ?_
  refine TO_cons rfl (TOp_box rfl (boxAll rfl) rfl rfl ?_)
  refine TO_cons rfl (TOp_box rfl (boxAll rfl) rfl rfl ?_)
  refine pv tb 1 rfl ?_
  refine TO_nil (sr ?_)
  obtain ⟨r_1,h_2,H⟩:=bind_inv H
  refine pv tb 3 rfl ?_
  refine TO_cons rfl (TOp_callB (call_static ent76 rfl) (frz_cons (frz_loose rfl) (frz_cons (frzOK_f (frz_cons (frzOK_b (xs:=[intA fact1.relation,sl tInt fact1.values]) (ys:=[intA fact1.relation,sl tInt fact1.values]) rfl rfl rfl) frz_nil).1 (frz_cons (frzOK_b (xs:=[intA fact1.relation,sl tInt fact1.values]) (ys:=[intA fact1.relation,sl tInt fact1.values]) rfl rfl rfl) frz_nil).2) frz_nil)).1 (frz_cons (frz_loose rfl) (frz_cons (frzOK_f (frz_cons (frzOK_b (xs:=[intA fact1.relation,sl tInt fact1.values]) (ys:=[intA fact1.relation,sl tInt fact1.values]) rfl rfl rfl) frz_nil).1 (frz_cons (frzOK_b (xs:=[intA fact1.relation,sl tInt fact1.values]) (ys:=[intA fact1.relation,sl tInt fact1.values]) rfl rfl rfl) frz_nil).2) frz_nil)).2 (m_slices_IndexFunc_Simpl_Fact_impl_Fact_ok _ (fun x0=>miFactIndex_1 x0 fact1) 77 [.q [intA fact1.relation,sl tInt fact1.values] 0] ent77 rfl ⟨rfl,rfl⟩ (fun x0 r h=>miFactIndex_1_ok x0 fact1 r h) _ h_2) rfl ?_)
  refine pv tb 1 rfl ?_
  refine TO_nil ?_
  refine T_ret ?_
  obtain rfl:=some_inj H
  refine end_ret (.tmp .nil) rfl rfl ⟨?_,rfl⟩
  rfl

theorem m_slices_Insert_Simpl_Fact_impl_Fact_xo (s0:List Fact) (i1:Int) (v2:List Fact) (r:List Fact) (H:m_slices_Insert_Simpl_Fact_impl_Fact s0 i1 v2=some r):FnS prg 45 [.m [0] 0 s0.length tF.k,intA i1,.m [1] 0 v2.length tF.k] [.row (flat tF.own s0),.row (flat tF.own v2)] (.m [2] 0 r.length tF.k) [.dead,.dead,.row (flat tF.own r)]:=by
  unfold m_slices_Insert_Simpl_Fact_impl_Fact at H
  obtain ⟨i,rfl,h1,h2,h3,rfl⟩:=insAt_inv H
  clear H
  have hk0:0<tF.k:=(sl25).pos
  obtain ⟨⟨inf,z,z1,z2,z3⟩,z4⟩:=(zero30:ZeroT prg 30 [.int .i64 0,.slice none 0 0])
  have hk:inf.size=tF.k:=by obtain ⟨i2,g1,g2⟩:=(sl25).i;rw [z1] at g1;cases g1;exact g2
  have hby:inf.bytes=32:=by have:=(bytes30);rw [z1] at this;simpa using this
  have hzc:z.cells.size=tF.k:=by rw [show tF.k=([.int .i64 0,.slice none 0 0]:List Value).length from rfl,← z3];simp
  have h63:s0.length+v2.length≤140737488355328:=by omega
  have hik:i*tF.k≤s0.length*tF.k:=Nat.mul_le_mul_right _ h1
  have hxl:(flat tF.own s0).length=s0.length*tF.k:=flat_len tF.lenO s0
  have hvl:(flat tF.own v2).length=v2.length*tF.k:=flat_len tF.lenO v2
  have hadd:(s0.length+v2.length)*tF.k=s0.length*tF.k+v2.length*tF.k:=Nat.add_mul ..
  have rowV:∀ {F Λ w} {v:Value},St F Λ [.row (flat tF.own s0),.row (flat tF.own v2)] w→OK F Λ w v (.m [1] 0 v2.length tF.k)→∃ bv ov cv csv tv,Λ [1]=some (bv,ov)∧v=.slice (some ⟨bv,ov,none⟩) v2.length cv∧w.heap[bv]?=some (.cells csv tv (0,0))∧ov+v2.length*tF.k≤csv.size∧v2.length≤cv∧bv<w.heap.size∧RowCells F Λ w 1 (flat tF.own v2) ((csv.toList.drop ov).take (v2.length*tF.k)):=fun {F Λ w v} hs hv=>by
   rcases hv.m_inv with ⟨h0,_⟩ | ⟨b,o1,cap,hL,g2,hN,hcap,cs,tv,g5,g6⟩
   ·omega
   ·have hle:v2.length*tF.k≤cap*tF.k:=Nat.mul_le_mul_right _ hN
    refine ⟨b,o1,cap,cs,tv,hL,by simpa using g2,g5,by omega,hN,(Array.getElem?_eq_some_iff.1 g5).1,?_⟩
    rw [← hvl];exact hs.rowCells (l:=1) rfl hL g5 (by omega)
  refine fnS_of_T Tryz.func45 rfl rfl (lb rfl) ?_
  refine te [(0,.m [0] 0 s0.length tF.k),(1,intA (i:Int)),(2,.m [1] 0 v2.length tF.k)] rfl ?_
  refine sr ?_
  refine Tp rfl rfl (pur_assign rfl) rfl ?_
  refine TO_nil ?_
  refine te [(0,.m [0] 0 s0.length tF.k),(1,intA (i:Int)),(2,.m [1] 0 v2.length tF.k)] rfl ?_
  refine sr ?_
  refine Tp rfl rfl (pur_move rfl) rfl ?_
  refine Tp rfl rfl (pur_move rfl) rfl ?_
  refine Tp rfl rfl (pur_cutM (i:=i) (j:=s0.length) (lo:=some (.tmp 11)) (hi:=none) sl25 rfl ⟨_,rfl⟩ rfl h1 (Nat.le_refl _) rfl) rfl ?_
  refine TO_nil ?_
  refine te [(0,.m [0] 0 s0.length tF.k),(1,intA (i:Int)),(2,.m [1] 0 v2.length tF.k)] rfl ?_
  refine sr ?_
  refine Tp rfl rfl (pur_move rfl) rfl ?_
  refine Tp rfl rfl (pur_len_m sl25 rfl rfl) rfl ?_
  refine Tp rfl rfl (pur_assign rfl) rfl ?_
  refine TO_nil ?_
  refine te [(0,.m [0] 0 s0.length tF.k),(1,intA (i:Int)),(2,.m [1] 0 v2.length tF.k),(7,intA (v2.length:Int))] rfl ?_
  refine T_seq (sr ?_)
  refine Tp rfl rfl (pur_move rfl) rfl ?_
  refine Tp rfl rfl (pur_eql rfl rfl rfl) rfl ?_
  refine TO_nil ?_
  refine te [(0,.m [0] 0 s0.length tF.k),(1,intA (i:Int)),(2,.m [1] 0 v2.length tF.k),(7,intA (v2.length:Int)),(16,boolA (decide ((v2.length:Int)=(0:Int))))] rfl ?_
  refine T_cond (t:=decide ((v2.length:Int)=(0:Int))) rfl (fun c=>?_) (fun c=>?_)
  ·exact absurd (of_decide_eq_true c) (by omega)
  refine T_skip ?_
  refine te [(0,.m [0] 0 s0.length tF.k),(1,intA (i:Int)),(2,.m [1] 0 v2.length tF.k),(7,intA (v2.length:Int))] rfl ?_
  refine sr ?_
  refine Tp rfl rfl (pur_move rfl) rfl ?_
  refine Tp rfl rfl (pur_len_m sl25 rfl rfl) rfl ?_
  refine Tp rfl rfl (pur_assign rfl) rfl ?_
  refine TO_nil ?_
  refine te [(0,.m [0] 0 s0.length tF.k),(1,intA (i:Int)),(2,.m [1] 0 v2.length tF.k),(7,intA (v2.length:Int)),(8,intA (s0.length:Int))] rfl ?_
  refine T_seq (sr ?_)
  refine Tp rfl rfl (pur_move rfl) rfl ?_
  refine Tp rfl rfl (pur_move rfl) rfl ?_
  refine Tp rfl rfl (pur_eql rfl rfl rfl) rfl ?_
  refine TO_nil ?_
  refine te [(0,.m [0] 0 s0.length tF.k),(1,intA (i:Int)),(2,.m [1] 0 v2.length tF.k),(7,intA (v2.length:Int)),(8,intA (s0.length:Int)),(22,boolA (decide ((i:Int)=(s0.length:Int))))] rfl ?_
  refine T_cond (t:=decide ((i:Int)=(s0.length:Int))) rfl (fun c2=>?_) (fun c2=>?_)
  ·have ei:i=s0.length:=by have:=of_decide_eq_true c2;omega
   refine fun F Λ w t0 Q n0 hs hf hq=>?_
   obtain ⟨bv,ov,cv,csv,tv,hLv,gv,hbv,hfv,hcv,hbvs,hvc⟩:=rowV hs (hf 2)
   have hvone:=hvc.one
   have hvfirst:∀ w1:World,w1.heap=w.heap→_:=cut_first (P:=prg) (k:=tF.k) (n:=v2.length) (cap:=cv) hbv hfv
   have hvget:∀ j,j<v2.length*tF.k→_:=cut_get (o':=ov) (q:=v2.length*tF.k) (cs:=csv)
   obtain ⟨vc,hvcd⟩:∃ vc,vc=(csv.toList.drop ov).take (v2.length*tF.k):=⟨_,rfl⟩
   rw [← hvcd] at hvc hvone hvfirst hvget
   have hvcl:vc.length=v2.length*tF.k:=by rw [hvc.1,hvl]
   have hO:∀ b,(∀ o1,Λ [0]≠some (b,o1))∨True:=fun b=>.inr trivial
   have H:∃ (ad:Option Addr) (cap:Nat) (w1:World) (b2 o2 cap2:Nat) (cs2:Array Value) (t2:TypeId) (xc:List Value),t0.getD 0 undef=.slice ad s0.length cap∧(∀ (t:Array Value) (o:Oper),o.op=.call { callee:=.builtin .append,args:=#[.tmp 23,.tmp 24],argTypes:=#[25,25] }→Act.eval ⟨t,[]⟩ (.tmp 23)=.slice ad s0.length cap→Act.eval ⟨t,[]⟩ (.tmp 24)=.slice (some ⟨bv,ov,none⟩) v2.length cv→(execOp (Act.eval ⟨t,[]⟩) o).run prg w=.ok (.value (.slice (some ⟨b2,o2,none⟩) (s0.length+v2.length) cap2)) w1)∧RowCells F Λ w 0 (flat tF.own s0) xc∧((∃ o1,Λ [0]=some (b2,o1))∨w.heap.size≤b2)∧w1.heap[b2]?=some (.cells cs2 t2 (0,0))∧(∀ b1,b1<w.heap.size→(∀ o1,Λ [0]≠some (b1,o1))→w1.heap[b1]?=w.heap[b1]?)∧Sizes w w1∧w.heap.size≤w1.heap.size∧w1.os=w.os∧w1.tape=w.tape∧w1.output=w.output∧(∀ d,d<(s0.length+v2.length)*tF.k→cs2[o2+d]?=(xc.take (i*tF.k)++vc++xc.drop (i*tF.k))[d]?)∧s0.length+v2.length≤cap2∧cap2≤maxLen∧o2+cap2*tF.k≤cs2.size:=by
    have grow:∀ (ad:Option Addr) (cap:Nat) (xc:List Value),t0.getD 0 undef=.slice ad s0.length cap→RowCells F Λ w 0 (flat tF.own s0) xc→(Builtin.firstCells tF.k s0.length (.slice ad s0.length cap)).run prg w.drew=.ok xc.toArray w.drew→cap<s0.length+v2.length→∃ (ad:Option Addr) (cap:Nat) (w1:World) (b2 o2 cap2:Nat) (cs2:Array Value) (t2:TypeId) (xc:List Value),t0.getD 0 undef=.slice ad s0.length cap∧(∀ (t:Array Value) (o:Oper),o.op=.call { callee:=.builtin .append,args:=#[.tmp 23,.tmp 24],argTypes:=#[25,25] }→Act.eval ⟨t,[]⟩ (.tmp 23)=.slice ad s0.length cap→Act.eval ⟨t,[]⟩ (.tmp 24)=.slice (some ⟨bv,ov,none⟩) v2.length cv→(execOp (Act.eval ⟨t,[]⟩) o).run prg w=.ok (.value (.slice (some ⟨b2,o2,none⟩) (s0.length+v2.length) cap2)) w1)∧RowCells F Λ w 0 (flat tF.own s0) xc∧((∃ o1,Λ [0]=some (b2,o1))∨w.heap.size≤b2)∧w1.heap[b2]?=some (.cells cs2 t2 (0,0))∧(∀ b1,b1<w.heap.size→(∀ o1,Λ [0]≠some (b1,o1))→w1.heap[b1]?=w.heap[b1]?)∧Sizes w w1∧w.heap.size≤w1.heap.size∧w1.os=w.os∧w1.tape=w.tape∧w1.output=w.output∧(∀ d,d<(s0.length+v2.length)*tF.k→cs2[o2+d]?=(xc.take (i*tF.k)++vc++xc.drop (i*tF.k))[d]?)∧s0.length+v2.length≤cap2∧cap2≤maxLen∧o2+cap2*tF.k≤cs2.size:=fun ad cap xc e0 hxc hold hg=>by
     have hge:=grownCap_ge w (s0.length+v2.length) cap 30
     have hcm:grownCap w (s0.length+v2.length) cap 30≤maxLen:=grownCap_le_maxLen w (s0.length+v2.length) cap 30 (by simp only [maxLen];omega)
     have hxcl:xc.length=s0.length*tF.k:=by rw [hxc.1,hxl]
     refine ⟨ad,cap,_,w.heap.size,0,_,_,30,xc,e0,fun t o ho v1 v3=>run_appN (sl25).u z1 z2 ho v1 v3 (by rw [hk];exact hold) (by rw [hk];exact hvfirst w.drew rfl) hg (by omega) (by rw [hby];exact growslice_fits hg h3),hxc,.inr (Nat.le_refl _),Go.heap_alloc_new w.drew _,fun b1 hb1 _=>by first | exact Go.heap_alloc_old w.drew _ hb1 | exact Go.heap_alloc_old w.drew _ b1 hb1,Sizes.alloc w.drew _,by simp,rfl,rfl,rfl,fun d hd=>?_,hge,hcm,?_⟩
     ·rw [Nat.zero_add,Array.getElem?_append_left (by simp;omega),List.append_toArray,List.getElem?_toArray,ei]
      rw [List.take_of_length_le (by omega),List.drop_eq_nil_of_le (by omega),List.append_nil]
     ·simp only [Array.size_append,List.size_toArray,size_zeroCells,hzc,hxcl,hvcl]
      have hx:s0.length*tF.k+v2.length*tF.k+(grownCap w (s0.length+v2.length) cap 30 - (s0.length+v2.length))*tF.k=grownCap w (s0.length+v2.length) cap 30*tF.k:=by rw [← Nat.add_mul,← Nat.add_mul];congr 1;omega
      omega
    rcases (hf 0).m_inv with ⟨hz,ad,g1⟩ | ⟨b,o1,cap,hL,g2,hN,hcap,cs,te,g5,g6⟩
    ·have e0:s0=[]:=List.eq_nil_of_length_eq_zero hz
     exact grow ad 0 [] (by rw [hz];exact g1) (by rw [e0];exact .nil) (by rw [hz];exact firstCells_zero w.drew _ ad 0) (by omega)
    ·simp only [Nat.add_zero] at g2 g6
     have hNk:s0.length*tF.k≤cap*tF.k:=Nat.mul_le_mul_right _ hN
     have hrc:=hs.rowCells (l:=0) rfl hL g5 (by omega)
     rw [hxl] at hrc
     by_cases hg:cap<s0.length+v2.length
     ·exact grow _ cap _ g2 hrc (cut_first (P:=prg) (k:=tF.k) (n:=s0.length) (cap:=cap) g5 (by omega) w.drew rfl) hg
     ·have hfit:o1+s0.length*inf.size+vc.length≤cs.size:=by rw [hk,hvcl];have:=Nat.mul_le_mul_right tF.k (show s0.length+v2.length≤cap by omega);omega
      refine ⟨_,cap,_,b,o1,cap,_,te,_,g2,fun t o ho v1 v3=>run_appX (sl25).u z1 ho v1 v3 (by rw [hk];exact hvfirst w rfl) hvone g5 (by omega) hfit,hrc,.inl ⟨o1,hL⟩,(insAt_row g5 hfit).1,fun b1 _ hb1=>setRow_other w b b1 _ fun e=>hb1 o1 (e▸hL),Sizes.one g5 (insAt_row g5 hfit).1 (insAt_row g5 hfit).2 fun b1 e=>setRow_other w b b1 _ e,by simp [World.setRow],rfl,rfl,rfl,fun d hd=>?_,by omega,hcap,by rw [(insAt_row g5 hfit).2];omega⟩
      have hxcl:((cs.toList.drop o1).take (s0.length*tF.k)).length=s0.length*tF.k:=by rw [hrc.1,hxl]
      have:=insE (L0:=cs.toList) (o:=o1) (xc:=(cs.toList.drop o1).take (s0.length*tF.k)) (vc:=vc) (fun d hd=>by rw [cut_get d (by omega),Array.getElem?_toList]) (by rw [hk] at hfit;rw [hxcl,Array.length_toList];exact hfit) d (by rw [hxcl,hvcl];omega)
      rw [List.getElem?_toArray,hk,ei,List.take_of_length_le (Nat.le_of_eq hxcl),List.drop_eq_nil_of_le (Nat.le_of_eq hxcl),List.append_nil]
      rw [hxcl] at this;exact this
   obtain ⟨ad,cap,w1,b2,o2,cap2,cs2,t2,xc,e0,hrun,a1,a2,a3,a4,a5,a6,a7,a8,a9,a10,a11,a12,a13⟩:=H
   have hturn:=St.ins (Y:=tF) (m:=2) hs (l:=0) (r:=1) rfl rfl (by decide) h1 a1 hvc a2 a3 a4 a5 a6 ⟨a7,fun d=>d.elim⟩ a8 a9 a10 a11 a12 a13
   have f0:=((hf.know 2 gv).know 0 e0).weak (Pk.all (E':=[(0,.v (.slice ad s0.length cap)),(2,.v (.slice (some ⟨bv,ov,none⟩) v2.length cv))]) ⟨rfl,rfl,trivial⟩)
   refine wp_seq_list ?_
   refine rawL_cons rfl (purI_move rfl) rfl rfl n0 f0 fun t1 n1 f1=>?_
   refine rawL_cons rfl (purI_move rfl) rfl rfl n1 f1 fun t2 n2 f2=>?_
   refine rawL_run rfl (hrun t2 _ rfl ((val_ok (ds:=[]) f2 (.tmp 23)).v_inv (x:=.slice ad s0.length cap)) ((val_ok (ds:=[]) f2 (.tmp 24)).v_inv (x:=.slice (some ⟨bv,ov,none⟩) v2.length cv))) rfl rfl n2 (f2.vals (F':=F) (Λ':=Λ) (w':=w1) rfl) (r:=.v (.slice (some ⟨b2,o2,none⟩) (s0.length+v2.length) cap2)) (.imm (.v _)) fun t3 n3 f3=>?_
   refine rawL_cons rfl (purI_assign rfl) rfl rfl n3 f3 fun t4 n4 f4=>?_
   refine rawL_nil ?_
   have f5:=f4.weak (Pk.all (E':=[(6,.v (.slice (some ⟨b2,o2,none⟩) (s0.length+v2.length) cap2))]) ⟨rfl,trivial⟩)
   refine T_ret (E:=[(6,.m [2] 0 (s0.take i++v2++s0.drop i).length tF.k)]) (σ:=[.dead,.dead,.row (flat tF.own (s0.take i++v2++s0.drop i))]) ?_ F _ w1 t4 Q n4 hturn.1.1 (f5.one hturn.2) fun e F2 Λ2 σ2 w2 tmps2 E2 hn2 hs2 hf2 hst2 hK2=>hq e F2 Λ2 σ2 w2 tmps2 E2 hn2 hs2 hf2 (hturn.1.2.trans hst2) hK2
   exact then_ret (end_pickX (.tmp .nil) rfl [0,1,2] (by decide) (lb rfl) rfl (lb rfl) rfl rfl rfl rfl rfl rfl)
  ·have hi:i<s0.length:=by have:=of_decide_eq_false c2;omega
   refine T_skip ?_
   refine fun F Λ w t0 Q n0 hs hf hq=>?_
   obtain ⟨bv,ov,cv,csv,tv,hLv,gv,hbv,hfv,hcv,hbvs,hvc⟩:=rowV hs (hf 2)
   have hvone:=hvc.one
   have hvfirst:∀ w1:World,w1.heap=w.heap→_:=cut_first (P:=prg) (k:=tF.k) (n:=v2.length) (cap:=cv) hbv hfv
   have hvget:∀ j,j<v2.length*tF.k→_:=cut_get (o':=ov) (q:=v2.length*tF.k) (cs:=csv)
   obtain ⟨vc,hvcd⟩:∃ vc,vc=(csv.toList.drop ov).take (v2.length*tF.k):=⟨_,rfl⟩
   rw [← hvcd] at hvc hvone hvfirst hvget
   have hvcl:vc.length=v2.length*tF.k:=by rw [hvc.1,hvl]
   have hO:∀ b,(∀ o1,Λ [0]≠some (b,o1))∨True:=fun b=>.inr trivial
   rcases (hf 0).m_inv with ⟨hz,_⟩ | ⟨b,o1,cap,hL,g2,hN,hcap,cs,tw,g5,g6⟩
   ·omega
   simp only [Nat.add_zero] at g2 g6
   have hNk:s0.length*tF.k≤cap*tF.k:=Nat.mul_le_mul_right _ hN
   have hrc:=hs.rowCells (l:=0) rfl hL g5 (by omega)
   rw [hxl] at hrc
   have hbs:b<w.heap.size:=(Array.getElem?_eq_some_iff.1 g5).1
   have hbv2:bv≠b:=fun e=>by subst e;have:=hs.apart [1] _ [0] _ _ _ _ rfl rfl hLv hL;simp at this
   have hxone:=hrc.one
   have hxfirst:∀ w1:World,w1.heap=w.heap→_:=cut_first (P:=prg) (o':=o1) (k:=tF.k) (n:=i) (cap:=cap) g5 (by omega)
   obtain ⟨xc,hxcd⟩:∃ xc,xc=(cs.toList.drop o1).take (s0.length*tF.k):=⟨_,rfl⟩
   have hxget:∀ j,j<s0.length*tF.k→xc[j]?=cs[o1+j]?:=fun j hj=>by rw [hxcd];exact cut_get j hj
   rw [← hxcd] at hrc hxone
   have hxcl:xc.length=s0.length*tF.k:=by rw [hrc.1,hxl]
   have hdl:(xc.drop (i*tF.k)).length=(s0.length - i)*tF.k:=by rw [List.length_drop,hxcl,Nat.sub_mul]
   have hdone:∀ u∈xc.drop (i*tF.k),u.oneCell'=true:=fun u hu=>hxone u (List.mem_of_mem_drop hu)
   have him:(i+v2.length)*tF.k=i*tF.k+v2.length*tF.k:=Nat.add_mul ..
   have hnik:(s0.length - i)*tF.k=s0.length*tF.k - i*tF.k:=Nat.sub_mul ..
   have hw1:Fits .i64 ((s0.length:Int)+(v2.length:Int)) ((s0.length+v2.length:Nat):Int):=by show _=IntKind.i64.wrap _;rw [IntKind.wrap_i64];omega
   have hw2:Fits .i64 (((s0.length+v2.length:Nat):Int) - (i:Int)) ((s0.length+v2.length - i:Nat):Int):=by show _=IntKind.i64.wrap _;rw [IntKind.wrap_i64];omega
   have hw3:Fits .i64 ((i:Int)+(v2.length:Int)) ((i+v2.length:Nat):Int):=by show _=IntKind.i64.wrap _;rw [IntKind.wrap_i64];omega
   have f0:=((hf.know 2 gv).know 0 g2).weak (Pk.all (E':=[(0,.v (.slice (some ⟨b,o1,none⟩) s0.length cap)),(1,intA (i:Int)),(2,.v (.slice (some ⟨bv,ov,none⟩) v2.length cv)),(7,intA (v2.length:Int)),(8,intA (s0.length:Int))]) ⟨rfl,rfl,rfl,rfl,rfl,trivial⟩)
   refine wp_seq (wp_seq_list ?_)
   refine rawL_cons rfl (purI_move rfl) rfl rfl n0 f0 fun t1 n1 f1=>?_
   refine rawL_cons rfl (purI_move rfl) rfl rfl n1 f1 fun t2 n2 f2=>?_
   refine rawL_cons rfl (purI_add (c:=((s0.length+v2.length:Nat):Int)) rfl rfl rfl hw1) rfl rfl n2 f2 fun t3 n3 f3=>?_
   refine rawL_cons rfl (purI_move rfl) rfl rfl n3 f3 fun t4 n4 f4=>?_
   refine rawL_cons rfl (purI_capX (a:=some ⟨b,o1,none⟩) (q:=s0.length) (cap:=cap) sl25 rfl rfl) rfl rfl n4 f4 fun t5 n5 f5=>?_
   refine rawL_cons rfl (purI_gtr (a:=((s0.length+v2.length:Nat):Int)) (b:=(cap:Int)) rfl rfl rfl) rfl rfl n5 f5 fun t6 n6 f6=>?_
   refine rawL_nil ?_
   have v31:Act.eval ⟨t6,[]⟩ (.tmp 31)=.bool (decide ((cap:Int)<((s0.length+v2.length:Nat):Int))):=(val_ok (ds:=[]) f6 (.tmp 31)).v_inv (x:=.bool (decide ((cap:Int)<((s0.length+v2.length:Nat):Int))))
   have f106:=f6.weak (Pk.all (E':=[(0,.v (.slice (some ⟨b,o1,none⟩) s0.length cap)),(1,intA (i:Int)),(2,.v (.slice (some ⟨bv,ov,none⟩) v2.length cv)),(7,intA (v2.length:Int)),(8,intA (s0.length:Int))]) ⟨rfl,rfl,rfl,rfl,rfl,trivial⟩)
   replace f6:=f106
   by_cases hg:cap<s0.length+v2.length
   ·rw [decide_eq_true (show (cap:Int)<((s0.length+v2.length:Nat):Int) by omega)] at v31
    refine wp_cond_true v31 ?_
    refine wp_seq_list ?_
    refine rawL_cons rfl (purI_move rfl) rfl rfl n6 f6 fun t7 n7 f7=>?_
    refine rawL_cons rfl (purI_move rfl) rfl rfl n7 f7 fun t8 n8 f8=>?_
    refine rawL_cons rfl (purI_cutA (lo:=none) (y:=.tmp 33) (b:=b) (oo:=o1) (q:=s0.length) (cap:=cap) (i:=0) (j:=i) sl25 rfl rfl ⟨_,rfl⟩ (by omega) (by omega) (by omega) rfl) rfl rfl n8 f8 fun t9 n9 f9=>?_
    refine rawL_cons rfl (purI_move rfl) rfl rfl n9 f9 fun t10 n10 f10=>?_
    refine rawL_cons rfl (purI_move rfl) rfl rfl n10 f10 fun t11 n11 f11=>?_
    refine rawL_cons rfl (purI_add (c:=((s0.length+v2.length:Nat):Int)) rfl rfl rfl hw1) rfl rfl n11 f11 fun t12 n12 f12=>?_
    refine rawL_cons rfl (purI_move rfl) rfl rfl n12 f12 fun t13 n13 f13=>?_
    refine rawL_cons rfl (purI_sub (c:=((s0.length+v2.length - i:Nat):Int)) rfl rfl rfl hw2) rfl rfl n13 f13 fun t14 n14 f14=>?_
    have v34:Act.eval ⟨t14,[]⟩ (.tmp 34)=.slice (some ⟨b,o1+0*tF.k,none⟩) (i - 0) (cap - 0):=(val_ok (ds:=[]) f14 (.tmp 34)).v_inv (x:=.slice (some ⟨b,o1+0*tF.k,none⟩) (i - 0) (cap - 0))
    rw [Nat.zero_mul,Nat.add_zero,Nat.sub_zero,Nat.sub_zero] at v34
    have v39:Act.eval ⟨t14,[]⟩ (.tmp 39)=.int .i64 ((s0.length+v2.length - i:Nat):Int):=(val_ok (ds:=[]) f14 (.tmp 39)).v_inv (x:=.int .i64 ((s0.length+v2.length - i:Nat):Int))
    have hin:i+(s0.length+v2.length - i)=s0.length+v2.length:=by omega
    have hrun:∀ o:Oper,o.op=.call { callee:=.builtin .append,args:=#[.tmp 34,.tmp 39],argTypes:=#[25,3] }→_:=fun o ho=>run_appZ (P:=prg) (w:=w) (tmps:=t14) (kn:=.i64) (sl25).u (by kernel_rfl) z1 z2 ho v34 v39 (by rw [hk];exact hxfirst w.drew rfl) (by omega) (by omega) (by omega) (by omega) (by rw [hby];omega) (by rw [hin,hby];exact growslice_fits hg h3)
    rw [hin] at hrun
    have hge:=grownCap_ge w (s0.length+v2.length) cap 30
    have hcm:grownCap w (s0.length+v2.length) cap 30≤maxLen:=grownCap_le_maxLen w (s0.length+v2.length) cap 30 (by simp only [maxLen];omega)
    generalize grownCap w (s0.length+v2.length) cap 30=G at hrun hge hcm
    obtain ⟨cur0,hcur0⟩:∃ cur0,cur0=((cs.toList.drop o1).take (i*tF.k)).toArray++Builtin.zeroCells z.cells (s0.length+v2.length - i)++Builtin.zeroCells z.cells (G - (s0.length+v2.length)):=⟨_,rfl⟩
    rw [← hcur0] at hrun
    have hol:((cs.toList.drop o1).take (i*tF.k)).length=i*tF.k:=by simp only [List.length_take,List.length_drop,Array.length_toList];omega
    have hsz0:cur0.size=G*tF.k:=by
     rw [hcur0];simp only [Array.size_append,List.size_toArray,size_zeroCells,hzc,hol,← Nat.add_mul];congr 1;omega
    have hGk:(s0.length+v2.length)*tF.k≤G*tF.k:=Nat.mul_le_mul_right _ hge
    have h00:∀ d,d<i*tF.k→cur0.toList[d]?=xc[d]?:=fun d hd=>by
     rw [Array.getElem?_toList,hcur0,Array.getElem?_append_left (by simp only [Array.size_append,List.size_toArray,hol];omega),Array.getElem?_append_left (by simp only [List.size_toArray,hol];omega),List.getElem?_toArray,cut_get d hd,hxget d (by omega)]
    obtain ⟨W1,hW1⟩:∃ W1,W1=w.drew.alloc (.cells cur0 30):=⟨_,rfl⟩
    rw [← hW1] at hrun
    have hn1:W1.heap[w.heap.size]?=some (.cells cur0 30 (0,0)):=by rw [hW1];exact Go.heap_alloc_new w.drew _
    have ho1:∀ b1,b1<w.heap.size→W1.heap[b1]?=w.heap[b1]?:=fun b1 hb1=>by rw [hW1];first | exact Go.heap_alloc_old w.drew _ hb1 | exact Go.heap_alloc_old w.drew _ b1 hb1
    have hss1:W1.heap.size=w.heap.size+1:=by rw [hW1];simp
    have hos1:W1.os=w.os∧W1.tape=w.tape∧W1.output=w.output:=by rw [hW1];exact ⟨rfl,rfl,rfl⟩
    refine rawL_run rfl (hrun _ rfl) rfl rfl n14 (f14.vals (F':=F) (Λ':=Λ) (w':=W1) rfl) (r:=.v (.slice (some ⟨w.heap.size,0,none⟩) (s0.length+v2.length) G)) (.imm (.v _)) fun t15 n15 f15=>?_
    refine rawL_cons rfl (purI_assign rfl) rfl rfl n15 f15 fun t16 n16 f16=>?_
    refine rawL_nil ?_
    have f116:=f16.weak (Pk.all (E':=[(9,.v (.slice (some ⟨w.heap.size,0,none⟩) (s0.length+v2.length) G)),(0,.v (.slice (some ⟨b,o1,none⟩) s0.length cap)),(1,intA (i:Int)),(2,.v (.slice (some ⟨bv,ov,none⟩) v2.length cv)),(7,intA (v2.length:Int)),(8,intA (s0.length:Int))]) ⟨rfl,rfl,rfl,rfl,rfl,rfl,trivial⟩)
    replace f16:=f116
    refine wp_seq_list ?_
    refine rawL_cons rfl (purI_move rfl) rfl rfl n16 f16 fun t17 n17 f17=>?_
    refine rawL_cons rfl (purI_move rfl) rfl rfl n17 f17 fun t18 n18 f18=>?_
    refine rawL_cons rfl (purI_cutA1 (lo:=some (.tmp 42)) (b:=w.heap.size) (oo:=0) (q:=s0.length+v2.length) (cap:=G) (i:=i) sl25 rfl ⟨_,rfl⟩ (by omega) hge (by omega) rfl) rfl rfl n18 f18 fun t19 n19 f19=>?_
    refine rawL_cons rfl (purI_move rfl) rfl rfl n19 f19 fun t20 n20 f20=>?_
    have v43:Act.eval ⟨t20,[]⟩ (.tmp 43)=.slice (some ⟨w.heap.size,0+i*tF.k,none⟩) (s0.length+v2.length - i) (G - i):=(val_ok (ds:=[]) f20 (.tmp 43)).v_inv (x:=.slice (some ⟨w.heap.size,0+i*tF.k,none⟩) (s0.length+v2.length - i) (G - i))
    rw [Nat.zero_add] at v43
    have v44:Act.eval ⟨t20,[]⟩ (.tmp 44)=.slice (some ⟨bv,ov,none⟩) v2.length cv:=(val_ok (ds:=[]) f20 (.tmp 44)).v_inv (x:=.slice (some ⟨bv,ov,none⟩) v2.length cv)
    have hfit1:i*tF.k+vc.length≤cur0.size:=by rw [hvcl,hsz0];omega
    have hrun:∀ o:Oper,o.op=.call { callee:=.builtin .copy,args:=#[.tmp 43,.tmp 44],argTypes:=#[25,25] }→_:=fun o ho=>run_copyX (P:=prg) (w:=W1) (tmps:=t20) (q:=v2.length) (cs:=vc) (sl25).u z1 ho v43 v44 (by omega) hn1 (by rw [hk];exact hvcl) (fun j x hj=>by
     have hjl:j<v2.length*tF.k:=by have:=(List.getElem?_eq_some_iff.1 hj).1;omega
     rw [addr_add];simp only [World.cell?,ho1 bv hbvs,hbv];rw [← hvget j hjl];exact hj) hfit1 hvone
    have hrow1:=insAt_row hn1 hfit1
    obtain ⟨cur1,hcur1⟩:∃ cur1,cur1=(cur0.toList.take (i*tF.k)++vc++cur0.toList.drop (i*tF.k+vc.length)).toArray:=⟨_,rfl⟩
    rw [← hcur1] at hrun hrow1
    obtain ⟨W2,hW2⟩:∃ W2,W2=W1.setRow w.heap.size cur1:=⟨_,rfl⟩
    rw [← hW2] at hrun hrow1
    have ho2:∀ b1,b1<w.heap.size→W2.heap[b1]?=w.heap[b1]?:=fun b1 hb1=>by rw [hW2,setRow_other _ _ _ _ (by omega)];exact ho1 b1 hb1
    have hss2:W2.heap.size=w.heap.size+1:=by rw [hW2];simpa [World.setRow] using hss1
    have hos2:W2.os=w.os∧W2.tape=w.tape∧W2.output=w.output:=by rw [hW2];exact hos1
    refine rawL_run rfl (hrun _ rfl) rfl rfl n20 (f20.vals (F':=F) (Λ':=Λ) (w':=W2) rfl) (r:=.v (goInt v2.length)) (.imm (.v _)) fun t21 n21 f21=>?_
    refine rawL_nil ?_
    have f121:=f21.weak (Pk.all (E':=[(9,.v (.slice (some ⟨w.heap.size,0,none⟩) (s0.length+v2.length) G)),(0,.v (.slice (some ⟨b,o1,none⟩) s0.length cap)),(1,intA (i:Int)),(2,.v (.slice (some ⟨bv,ov,none⟩) v2.length cv)),(7,intA (v2.length:Int)),(8,intA (s0.length:Int))]) ⟨rfl,rfl,rfl,rfl,rfl,rfl,trivial⟩)
    replace f21:=f121
    refine wp_seq_draw mixed ?_
    replace f21:=f21.vals (F':=F) (Λ':=Λ) (w':={ W2 with drawn:=W2.drawn+1 }) rfl
    refine raw_first 0 rfl (purI_move rfl) rfl rfl rfl (by kernel_rfl) n21 f21 fun t22 n22 f22=>?_
    refine raw_first 1 rfl (purI_move rfl) rfl rfl rfl (by kernel_rfl) n22 f22 fun t23 n23 f23=>?_
    refine raw_first 2 rfl (purI_move rfl) rfl rfl rfl (by kernel_rfl) n23 f23 fun t24 n24 f24=>?_
    refine raw_first 3 rfl (purI_add (c:=((i+v2.length:Nat):Int)) rfl rfl rfl hw3) rfl rfl rfl (by kernel_rfl) n24 f24 fun t25 n25 f25=>?_
    refine raw_first 4 rfl (purI_cutA1 (lo:=some (.tmp 49)) (b:=w.heap.size) (oo:=0) (q:=s0.length+v2.length) (cap:=G) (i:=i+v2.length) sl25 rfl ⟨_,rfl⟩ (by omega) hge (by omega) rfl) rfl rfl rfl (by kernel_rfl) n25 f25 fun t26 n26 f26=>?_
    refine raw_first 5 rfl (purI_move rfl) rfl rfl rfl (by kernel_rfl) n26 f26 fun t27 n27 f27=>?_
    refine raw_first 6 rfl (purI_move rfl) rfl rfl rfl (by kernel_rfl) n27 f27 fun t28 n28 f28=>?_
    refine raw_first 7 rfl (purI_cutA1 (lo:=some (.tmp 52)) (b:=b) (oo:=o1) (q:=s0.length) (cap:=cap) (i:=i) sl25 rfl ⟨_,rfl⟩ h1 hN (by omega) rfl) rfl rfl rfl (by kernel_rfl) n28 f28 fun t29 n29 f29=>?_
    have v50:Act.eval ⟨t29,[]⟩ (.tmp 50)=.slice (some ⟨w.heap.size,0+(i+v2.length)*tF.k,none⟩) (s0.length+v2.length - (i+v2.length)) (G - (i+v2.length)):=(val_ok (ds:=[]) f29 (.tmp 50)).v_inv (x:=.slice (some ⟨w.heap.size,0+(i+v2.length)*tF.k,none⟩) (s0.length+v2.length - (i+v2.length)) (G - (i+v2.length)))
    rw [Nat.zero_add] at v50
    have v53:Act.eval ⟨t29,[]⟩ (.tmp 53)=.slice (some ⟨b,o1+i*tF.k,none⟩) (s0.length - i) (cap - i):=(val_ok (ds:=[]) f29 (.tmp 53)).v_inv (x:=.slice (some ⟨b,o1+i*tF.k,none⟩) (s0.length - i) (cap - i))
    have hfit2:(i+v2.length)*tF.k+(xc.drop (i*tF.k)).length≤cur1.size:=by rw [hrow1.2,hsz0,hdl,him];omega
    have hrun:∀ o:Oper,o.op=.call { callee:=.builtin .copy,args:=#[.tmp 50,.tmp 53],argTypes:=#[25,25] }→_:=fun o ho=>run_copyX (P:=prg) (w:={ W2 with drawn:=W2.drawn+1 }) (tmps:=t29) (q:=s0.length - i) (cs:=xc.drop (i*tF.k)) (cur:=cur1) (te:=30) (sl25).u z1 ho v50 v53 (by omega) hrow1.1 (by rw [hk];exact hdl) (fun j x hj=>by
     have hjl:j<(s0.length - i)*tF.k:=by have:=(List.getElem?_eq_some_iff.1 hj).1;omega
     rw [List.getElem?_drop,hxget _ (by omega)] at hj
     rw [addr_add];simp only [World.cell?,ho2 b hbs,g5];rw [Nat.add_assoc];exact hj) hfit2 hdone
    have hrow2:=insAt_row (w:={ W2 with drawn:=W2.drawn+1 }) hrow1.1 hfit2
    obtain ⟨cur2,hcur2⟩:∃ cur2,cur2=(cur1.toList.take ((i+v2.length)*tF.k)++xc.drop (i*tF.k)++cur1.toList.drop ((i+v2.length)*tF.k+(xc.drop (i*tF.k)).length)).toArray:=⟨_,rfl⟩
    rw [← hcur2] at hrun hrow2
    obtain ⟨W3,hW3⟩:∃ W3,W3=World.setRow { W2 with drawn:=W2.drawn+1 } w.heap.size cur2:=⟨_,rfl⟩
    rw [← hW3] at hrun hrow2
    have ho3:∀ b1,b1<w.heap.size→W3.heap[b1]?=w.heap[b1]?:=fun b1 hb1=>by rw [hW3,setRow_other _ _ _ _ (by omega)];exact ho2 b1 hb1
    have hss3:W3.heap.size=w.heap.size+1:=by rw [hW3];simpa [World.setRow] using hss2
    have hos3:W3.os=w.os∧W3.tape=w.tape∧W3.output=w.output:=by rw [hW3];exact hos2
    refine raw_one 8 (by kernel_rfl) rfl rfl rfl rfl n29 (hrun _ rfl) (f29.vals (F':=F) (Λ':=Λ) (w':=W3) rfl) (r:=.v (goInt (s0.length - i:Nat))) (.imm (.v _)) fun t30 n30 f30=>?_
    refine raw_nil (by kernel_rfl) ?_
    have f130:=f30.weak (Pk.all (E':=[(9,.v (.slice (some ⟨w.heap.size,0,none⟩) (s0.length+v2.length) G))]) ⟨rfl,trivial⟩)
    replace f30:=f130
    have hturn:=St.ins (Y:=tF) (m:=2) (w':=W3) hs (l:=0) (r:=1) (b2:=w.heap.size) (o2:=0) (cap2:=G) rfl rfl (by decide) h1 hrc hvc (.inr (Nat.le_refl _)) hrow2.1 (fun b1 hb1 _=>ho3 b1 hb1) (Sizes.same ho3) (by omega) ⟨hos3.1,fun d=>d.elim⟩ hos3.2.1 hos3.2.2 (fun d hd=>by
     have:=insB (L0:=cur0.toList) (xc:=xc) (vc:=vc) (a:=i*tF.k) (q:=(i+v2.length)*tF.k) h00 (by omega) (by rw [hxcl,hvcl,← hadd,show cur0.toList.length=G*tF.k from (Array.length_toList (xs:=cur0)).trans hsz0];exact hGk) (by rw [him,hvcl]) d (by rw [hxcl,hvcl,← hadd];exact hd)
     rw [Nat.zero_add,hcur2,List.getElem?_toArray,hcur1];exact this) hge hcm (by rw [hrow2.2,hrow1.2,hsz0];omega)
    refine T_fin (m:=2) (E:=[(9,.m [2] 0 (s0.take i++v2++s0.drop i).length tF.k)]) (σ:=[.dead,.dead,.row (flat tF.own (s0.take i++v2++s0.drop i))]) ?_ n30 hturn.1.1 (f30.one hturn.2) (fun F2 Λ2 σ2 w2 tmps2 E2 hn2 hs2 hf2 hst2 hK2=>hq .ret F2 Λ2 σ2 w2 tmps2 E2 hn2 hs2 hf2 (hturn.1.2.trans hst2) hK2)
    refine sr ?_
    refine Tp rfl rfl (pur_move rfl) rfl ?_
    refine Tp rfl rfl (pur_assign rfl) rfl ?_
    refine TO_nil ?_
    refine te [(6,.m [2] 0 (s0.take i++v2++s0.drop i).length tF.k)] rfl ?_
    refine T_ret ?_
    exact ⟨rfl,end_pickX (.tmp .nil) rfl [0,1,2] (by decide) (lb rfl) rfl (lb rfl) rfl rfl rfl rfl rfl rfl⟩
   ·rw [decide_eq_false (show ¬ (cap:Int)<((s0.length+v2.length:Nat):Int) by omega)] at v31
    have hroom:s0.length+v2.length≤cap:=by omega
    refine wp_cond_false v31 (wp_skip ?_)
    refine wp_seq_list ?_
    refine rawL_cons rfl (purI_move rfl) rfl rfl n6 f6 fun t7 n7 f7=>?_
    refine rawL_cons rfl (purI_move rfl) rfl rfl n7 f7 fun t8 n8 f8=>?_
    refine rawL_cons rfl (purI_move rfl) rfl rfl n8 f8 fun t9 n9 f9=>?_
    refine rawL_cons rfl (purI_add (c:=((s0.length+v2.length:Nat):Int)) rfl rfl rfl hw1) rfl rfl n9 f9 fun t10 n10 f10=>?_
    refine rawL_cons rfl (purI_cutA (lo:=none) (y:=.tmp 59) (b:=b) (oo:=o1) (q:=s0.length) (cap:=cap) (i:=0) (j:=s0.length+v2.length) sl25 rfl rfl ⟨_,rfl⟩ (by omega) hroom (by omega) rfl) rfl rfl n10 f10 fun t11 n11 f11=>?_
    refine rawL_cons rfl (purI_assign rfl) rfl rfl n11 f11 fun t12 n12 f12=>?_
    refine rawL_nil ?_
    have f112:=f12.weak (Pk.all (E':=[(0,.v (.slice (some ⟨b,o1+0*tF.k,none⟩) (s0.length+v2.length - 0) (cap - 0))),(1,intA (i:Int)),(2,.v (.slice (some ⟨bv,ov,none⟩) v2.length cv)),(7,intA (v2.length:Int)),(8,intA (s0.length:Int))]) ⟨rfl,rfl,rfl,rfl,rfl,trivial⟩)
    rw [Nat.zero_mul,Nat.add_zero,Nat.sub_zero,Nat.sub_zero] at f112
    replace f12:=f112
    refine wp_seq (wp_seq_list ?_)
    refine rawL_cons rfl (purI_move rfl) rfl rfl n12 f12 fun t13 n13 f13=>?_
    refine rawL_cons rfl (purI_move rfl) rfl rfl n13 f13 fun t14 n14 f14=>?_
    refine rawL_cons rfl (purI_move rfl) rfl rfl n14 f14 fun t15 n15 f15=>?_
    refine rawL_cons rfl (purI_move rfl) rfl rfl n15 f15 fun t16 n16 f16=>?_
    refine rawL_cons rfl (purI_add (c:=((i+v2.length:Nat):Int)) rfl rfl rfl hw3) rfl rfl n16 f16 fun t17 n17 f17=>?_
    refine rawL_cons rfl (purI_cutA1 (lo:=some (.tmp 65)) (b:=b) (oo:=o1) (q:=s0.length+v2.length) (cap:=cap) (i:=i+v2.length) sl25 rfl ⟨_,rfl⟩ (by omega) hroom (by omega) rfl) rfl rfl n17 f17 fun t18 n18 f18=>?_
    have v61:Act.eval ⟨t18,[]⟩ (.tmp 61)=.slice (some ⟨bv,ov,none⟩) v2.length cv:=(val_ok (ds:=[]) f18 (.tmp 61)).v_inv (x:=.slice (some ⟨bv,ov,none⟩) v2.length cv)
    have v66:Act.eval ⟨t18,[]⟩ (.tmp 66)=.slice (some ⟨b,o1+(i+v2.length)*tF.k,none⟩) (s0.length+v2.length - (i+v2.length)) (cap - (i+v2.length)):=(val_ok (ds:=[]) f18 (.tmp 66)).v_inv (x:=.slice (some ⟨b,o1+(i+v2.length)*tF.k,none⟩) (s0.length+v2.length - (i+v2.length)) (cap - (i+v2.length)))
    have hcsz:cs.size≠0:=by have:=Nat.mul_pos (show 0<cap by omega) hk0;omega
    have hrun:∀ o:Oper,o.op=.call { callee:=.value (.func 78),args:=#[.tmp 61,.tmp 66],argTypes:=#[25,25] }→_:=fun o ho=>run_overX (P:=prg) (w:=w) (tmps:=t18) (tr:=4) (sl25).u z1 ho Tryz.func78 (by kernel_rfl) (by kernel_rfl) (by kernel_rfl) (by kernel_rfl) v61 v66 hbv2 hbv g5 hcsz
    refine rawL_run rfl (hrun _ rfl) rfl rfl n18 f18 (r:=.v (.bool false)) (.imm (.v _)) fun t19 n19 f19=>?_
    refine rawL_cons rfl (purI_not (b:=false) rfl rfl) rfl rfl n19 f19 fun t20 n20 f20=>?_
    refine rawL_nil ?_
    have v68:Act.eval ⟨t20,[]⟩ (.tmp 68)=.bool true:=(val_ok (ds:=[]) f20 (.tmp 68)).v_inv (x:=.bool true)
    have f120:=f20.weak (Pk.all (E':=[(0,.v (.slice (some ⟨b,o1,none⟩) (s0.length+v2.length) cap)),(1,intA (i:Int)),(2,.v (.slice (some ⟨bv,ov,none⟩) v2.length cv)),(7,intA (v2.length:Int)),(8,intA (s0.length:Int))]) ⟨rfl,rfl,rfl,rfl,rfl,trivial⟩)
    replace f20:=f120
    refine wp_cond_true v68 ?_
    refine wp_seq_draw mixed ?_
    replace f20:=f20.vals (F':=F) (Λ':=Λ) (w':={ w with drawn:=w.drawn+1 }) rfl
    refine raw_first 0 rfl (purI_move rfl) rfl rfl rfl (by kernel_rfl) n20 f20 fun t21 n21 f21=>?_
    refine raw_first 1 rfl (purI_move rfl) rfl rfl rfl (by kernel_rfl) n21 f21 fun t22 n22 f22=>?_
    refine raw_first 2 rfl (purI_move rfl) rfl rfl rfl (by kernel_rfl) n22 f22 fun t23 n23 f23=>?_
    refine raw_first 3 rfl (purI_add (c:=((i+v2.length:Nat):Int)) rfl rfl rfl hw3) rfl rfl rfl (by kernel_rfl) n23 f23 fun t24 n24 f24=>?_
    refine raw_first 4 rfl (purI_cutA1 (lo:=some (.tmp 72)) (b:=b) (oo:=o1) (q:=s0.length+v2.length) (cap:=cap) (i:=i+v2.length) sl25 rfl ⟨_,rfl⟩ (by omega) hroom (by omega) rfl) rfl rfl rfl (by kernel_rfl) n24 f24 fun t25 n25 f25=>?_
    refine raw_first 5 rfl (purI_move rfl) rfl rfl rfl (by kernel_rfl) n25 f25 fun t26 n26 f26=>?_
    refine raw_first 6 rfl (purI_move rfl) rfl rfl rfl (by kernel_rfl) n26 f26 fun t27 n27 f27=>?_
    refine raw_first 7 rfl (purI_cutA1 (lo:=some (.tmp 75)) (b:=b) (oo:=o1) (q:=s0.length+v2.length) (cap:=cap) (i:=i) sl25 rfl ⟨_,rfl⟩ (by omega) hroom (by omega) rfl) rfl rfl rfl (by kernel_rfl) n27 f27 fun t28 n28 f28=>?_
    have v73:Act.eval ⟨t28,[]⟩ (.tmp 73)=.slice (some ⟨b,o1+(i+v2.length)*tF.k,none⟩) (s0.length+v2.length - (i+v2.length)) (cap - (i+v2.length)):=(val_ok (ds:=[]) f28 (.tmp 73)).v_inv (x:=.slice (some ⟨b,o1+(i+v2.length)*tF.k,none⟩) (s0.length+v2.length - (i+v2.length)) (cap - (i+v2.length)))
    have v76:Act.eval ⟨t28,[]⟩ (.tmp 76)=.slice (some ⟨b,o1+i*tF.k,none⟩) (s0.length+v2.length - i) (cap - i):=(val_ok (ds:=[]) f28 (.tmp 76)).v_inv (x:=.slice (some ⟨b,o1+i*tF.k,none⟩) (s0.length+v2.length - i) (cap - i))
    have hck:(s0.length+v2.length)*tF.k≤cap*tF.k:=Nat.mul_le_mul_right _ hroom
    have hfit1:o1+(i+v2.length)*tF.k+(xc.drop (i*tF.k)).length≤cs.size:=by rw [hdl,him];omega
    have hrun:∀ o:Oper,o.op=.call { callee:=.builtin .copy,args:=#[.tmp 73,.tmp 76],argTypes:=#[25,25] }→_:=fun o ho=>run_copyX (P:=prg) (w:={ w with drawn:=w.drawn+1 }) (tmps:=t28) (q:=s0.length - i) (cs:=xc.drop (i*tF.k)) (cur:=cs) (te:=tw) (sl25).u z1 ho v73 v76 (by omega) g5 (by rw [hk];exact hdl) (fun j x hj=>by
     have hjl:j<(s0.length - i)*tF.k:=by have:=(List.getElem?_eq_some_iff.1 hj).1;omega
     rw [List.getElem?_drop,hxget _ (by omega)] at hj
     rw [addr_add];simp only [World.cell?,g5];rw [Nat.add_assoc];exact hj) hfit1 hdone
    have hrow1:=insAt_row (w:={ w with drawn:=w.drawn+1 }) g5 hfit1
    obtain ⟨cur1,hcur1⟩:∃ cur1,cur1=(cs.toList.take (o1+(i+v2.length)*tF.k)++xc.drop (i*tF.k)++cs.toList.drop (o1+(i+v2.length)*tF.k+(xc.drop (i*tF.k)).length)).toArray:=⟨_,rfl⟩
    rw [← hcur1] at hrun hrow1
    obtain ⟨W2,hW2⟩:∃ W2,W2=World.setRow { w with drawn:=w.drawn+1 } b cur1:=⟨_,rfl⟩
    rw [← hW2] at hrun hrow1
    have ho2:∀ b1,b1≠b→W2.heap[b1]?=w.heap[b1]?:=fun b1 hb1=>by rw [hW2,setRow_other _ _ _ _ hb1]
    have hss2:W2.heap.size=w.heap.size:=by rw [hW2];simp [World.setRow]
    have hos2:W2.os=w.os∧W2.tape=w.tape∧W2.output=w.output:=by rw [hW2];exact ⟨rfl,rfl,rfl⟩
    refine raw_one 8 (by kernel_rfl) rfl rfl rfl rfl n28 (hrun _ rfl) (f28.vals (F':=F) (Λ':=Λ) (w':=W2) rfl) (r:=.v (goInt (s0.length - i:Nat))) (.imm (.v _)) fun t29 n29 f29=>?_
    refine raw_nil (by kernel_rfl) ?_
    have f129:=f29.weak (Pk.all (E':=[(0,.v (.slice (some ⟨b,o1,none⟩) (s0.length+v2.length) cap)),(1,intA (i:Int)),(2,.v (.slice (some ⟨bv,ov,none⟩) v2.length cv)),(7,intA (v2.length:Int)),(8,intA (s0.length:Int))]) ⟨rfl,rfl,rfl,rfl,rfl,trivial⟩)
    replace f29:=f129
    refine wp_seq_list ?_
    refine rawL_cons rfl (purI_move rfl) rfl rfl n29 f29 fun t30 n30 f30=>?_
    refine rawL_cons rfl (purI_move rfl) rfl rfl n30 f30 fun t31 n31 f31=>?_
    refine rawL_cons rfl (purI_cutA1 (lo:=some (.tmp 79)) (b:=b) (oo:=o1) (q:=s0.length+v2.length) (cap:=cap) (i:=i) sl25 rfl ⟨_,rfl⟩ (by omega) hroom (by omega) rfl) rfl rfl n31 f31 fun t32 n32 f32=>?_
    refine rawL_cons rfl (purI_move rfl) rfl rfl n32 f32 fun t33 n33 f33=>?_
    have v80:Act.eval ⟨t33,[]⟩ (.tmp 80)=.slice (some ⟨b,o1+i*tF.k,none⟩) (s0.length+v2.length - i) (cap - i):=(val_ok (ds:=[]) f33 (.tmp 80)).v_inv (x:=.slice (some ⟨b,o1+i*tF.k,none⟩) (s0.length+v2.length - i) (cap - i))
    have v81:Act.eval ⟨t33,[]⟩ (.tmp 81)=.slice (some ⟨bv,ov,none⟩) v2.length cv:=(val_ok (ds:=[]) f33 (.tmp 81)).v_inv (x:=.slice (some ⟨bv,ov,none⟩) v2.length cv)
    have hfit2:o1+i*tF.k+vc.length≤cur1.size:=by rw [hrow1.2,hvcl];omega
    have hrun:∀ o:Oper,o.op=.call { callee:=.builtin .copy,args:=#[.tmp 80,.tmp 81],argTypes:=#[25,25] }→_:=fun o ho=>run_copyX (P:=prg) (w:=W2) (tmps:=t33) (q:=v2.length) (cs:=vc) (cur:=cur1) (te:=tw) (sl25).u z1 ho v80 v81 (by omega) hrow1.1 (by rw [hk];exact hvcl) (fun j x hj=>by
     have hjl:j<v2.length*tF.k:=by have:=(List.getElem?_eq_some_iff.1 hj).1;omega
     rw [addr_add];simp only [World.cell?,ho2 bv hbv2,hbv];rw [← hvget j hjl];exact hj) hfit2 hvone
    have hrow2:=insAt_row hrow1.1 hfit2
    obtain ⟨cur2,hcur2⟩:∃ cur2,cur2=(cur1.toList.take (o1+i*tF.k)++vc++cur1.toList.drop (o1+i*tF.k+vc.length)).toArray:=⟨_,rfl⟩
    rw [← hcur2] at hrun hrow2
    obtain ⟨W3,hW3⟩:∃ W3,W3=World.setRow W2 b cur2:=⟨_,rfl⟩
    rw [← hW3] at hrun hrow2
    have ho3:∀ b1,b1≠b→W3.heap[b1]?=w.heap[b1]?:=fun b1 hb1=>by rw [hW3,setRow_other _ _ _ _ hb1];exact ho2 b1 hb1
    have hss3:W3.heap.size=w.heap.size:=by rw [hW3];simpa [World.setRow] using hss2
    have hos3:W3.os=w.os∧W3.tape=w.tape∧W3.output=w.output:=by rw [hW3];exact hos2
    refine rawL_run rfl (hrun _ rfl) rfl rfl n33 (f33.vals (F':=F) (Λ':=Λ) (w':=W3) rfl) (r:=.v (goInt v2.length)) (.imm (.v _)) fun t34 n34 f34=>?_
    refine rawL_nil ?_
    have f134:=f34.weak (Pk.all (E':=[(0,.v (.slice (some ⟨b,o1,none⟩) (s0.length+v2.length) cap))]) ⟨rfl,trivial⟩)
    replace f34:=f134
    have hturn:=St.ins (Y:=tF) (m:=2) (w':=W3) hs (l:=0) (r:=1) (b2:=b) (o2:=o1) (cap2:=cap) rfl rfl (by decide) h1 hrc hvc (.inl ⟨o1,hL⟩) hrow2.1 (fun b1 hb1 h=>ho3 b1 fun e=>h o1 (e▸hL)) (Sizes.one g5 hrow2.1 (by rw [hrow2.2,hrow1.2]) ho3) (by omega) ⟨hos3.1,fun d=>d.elim⟩ hos3.2.1 hos3.2.2 (fun d hd=>by
     have:=insC (L0:=cs.toList) (xc:=xc) (vc:=vc) (o:=o1) (a:=i*tF.k) (q:=o1+(i+v2.length)*tF.k) (fun d hd=>by rw [Array.getElem?_toList];exact (hxget d (by omega)).symm) (by omega) (by rw [hxcl,hvcl,show cs.toList.length=cs.size from Array.length_toList (xs:=cs)];omega) (by rw [him,hvcl];omega) d (by rw [hxcl,hvcl,← hadd];exact hd)
     rw [hcur2,List.getElem?_toArray,hcur1];exact this) hroom hcap (by rw [hrow2.2,hrow1.2];omega)
    refine T_fin (m:=2) (E:=[(0,.m [2] 0 (s0.take i++v2++s0.drop i).length tF.k)]) (σ:=[.dead,.dead,.row (flat tF.own (s0.take i++v2++s0.drop i))]) ?_ n34 hturn.1.1 (f34.one hturn.2) (fun F2 Λ2 σ2 w2 tmps2 E2 hn2 hs2 hf2 hst2 hK2=>hq .ret F2 Λ2 σ2 w2 tmps2 E2 hn2 hs2 hf2 (hturn.1.2.trans hst2) hK2)
    refine sr ?_
    refine Tp rfl rfl (pur_move rfl) rfl ?_
    refine Tp rfl rfl (pur_assign rfl) rfl ?_
    refine TO_nil ?_
    refine te [(6,.m [2] 0 (s0.take i++v2++s0.drop i).length tF.k)] rfl ?_
    refine T_ret ?_
    exact ⟨rfl,end_pickX (.tmp .nil) rfl [0,1,2] (by decide) (lb rfl) rfl (lb rfl) rfl rfl rfl rfl rfl rfl⟩


theorem miInsertFact_own (u:Nat) (db0:Database) (fact1:Fact) (r:(Database × Bool)) (H:miInsertFact u db0 fact1=some r):FnO prg 18 [.g (tD.enc db0),.g (tF.enc fact1)] (.t [.g [.m [0] 0 r.1.relations.length tR.k,.m [1] 0 r.1.facts.length tF.k],boolA r.2]) [.row (flat tR.own r.1.relations),.row (flat tF.own r.1.facts)]:=by
  unfold miInsertFact at H
  refine fnO_of_T Tryz.func18 rfl rfl (Nat.le_of_ble_eq_true rfl) ?_
  refine te [(0,.g (tD.enc db0)),(1,.g (tF.enc fact1))] rfl ?_
  refine sr ?_
  refine TO_cons rfl (TOp_box rfl (boxAll rfl) rfl rfl ?_)
  refine TO_cons rfl (TOp_box rfl (boxAll rfl) rfl rfl ?_)
  refine TO_cons rfl (TOp_alloc zero27 rfl rfl ?_)
  refine pv tb 1 rfl ?_
  refine TO_nil (sr ?_)
  obtain ⟨r_1,h_2,H⟩:=bind_inv H
  refine pv tb 1 rfl ?_
  refine TO_cons rfl (TOp_callO (call_static ent21 rfl) rfl (micopyDatabase_own _ _ h_2) rfl rfl rfl ?_)
  refine toe [(2,.b 0 0),(3,.b 1 0),(4,.b 2 0),(8,.g (tD.enc db0)),(9,.g [.m [3] 0 r_1.relations.length tR.k,.m [4] 0 r_1.facts.length tF.k])] rfl ?_
  refine TO_st (σ':=[.box [sl tR db0.relations,sl tF db0.facts],.box [intA fact1.relation,sl tInt fact1.values],.box [.n,.n],.row (flat tR.own r_1.relations),.row (flat tF.own r_1.facts)]) rfl ?_
  refine TO_cons rfl (TOp_alloc zero27 rfl rfl ?_)
  refine TO_cons rfl (TOp_storeB sz27 rfl rfl rfl rfl rfl rfl rfl (by decide) (lb rfl) rfl ?_)
  refine TO_st (σ':=[.box [sl tR db0.relations,sl tF db0.facts],.box [intA fact1.relation,sl tInt fact1.values],.box [.n,.n],.row (flat tR.own r_1.relations),.row (flat tF.own r_1.facts),.box [.m [3] 0 r_1.relations.length tR.k,.m [4] 0 r_1.facts.length tF.k]]) rfl ?_
  refine TO_nil (T_seq ?_)
  obtain ⟨t31_3,J_3,H_4⟩:=bind_inv H
  refine T_cutX (fun x=>t31_3=x) (fun (t31_3:Bool)=>[(2,.b 0 0),(3,.b 1 0),(4,.b 2 0),(6,.b 5 0),(31,boolA t31_3)]) (fun (t31_3:Bool)=>[.box [sl tR db0.relations,sl tF db0.facts],.box [intA fact1.relation,sl tInt fact1.values],.box [.n,.n],.row (flat tR.own r_1.relations),.row (flat tF.own r_1.facts),.box [.m [3] 0 r_1.relations.length tR.k,.m [4] 0 r_1.facts.length tF.k]]) ?_ ?_
  ·replace H:=J_3
   refine T_region ?_
   obtain ⟨r_5,h_6,H⟩:=bind_inv H
   refine pv tb 1 rfl ?_
   refine TO_cons rfl (TOp_callV (call_static ent42 rfl) (miIsValidDatabase_ok _ _ h_6) rfl rfl rfl ?_)
   refine pv tb 2 rfl ?_
   refine TO_split (t:=(!r_5)) 13 rfl (fun g_7=>?_) (fun g_7=>?_)
   ·replace H:=cond_t g_7 H
    refine pv tb 18 rfl ?_
    refine TO_nil ?_
    exact joined true (w0 6) (some_inj H).symm
   ·replace H:=cond_f g_7 H
    obtain ⟨r_8,h_9,H⟩:=bind_inv H
    refine pv tb 3 rfl ?_
    refine TO_on rfl rfl (by decide) rfl rfl (TOp_callV (call_static ent43 rfl) (miisFact_ok _ _ _ h_9) rfl rfl rfl ?_)
    refine pv tb 3 rfl ?_
    refine TO_split (t:=(!r_8)) 20 rfl (fun g_10=>?_) (fun g_10=>?_)
    ·replace H:=cond_t g_10 H
     refine pv tb 8 rfl ?_
     refine toe [(2,.b 0 0),(3,.b 1 0),(4,.b 2 0),(6,.b 5 0),(26,boolA true),(28,.v undef)] rfl ?_
     refine pv tb 3 rfl ?_
     refine TO_nil ?_
     exact joined true (w0 6) (some_inj H).symm
    ·replace H:=cond_f g_10 H
     obtain ⟨r_11,h_12,H⟩:=bind_inv H
     refine pv tb 2 rfl ?_
     refine TO_on rfl rfl (by decide) rfl rfl (TOp_callV (call_static ent44 rfl) (miFactIndex_ok _ _ _ h_12) rfl rfl rfl ?_)
     refine pv tb 3 rfl ?_
     refine TO_split (t:=decide (0≤r_11)) 26 rfl (fun g_13=>?_) (fun g_13=>?_)
     ·replace H:=cond_t g_13 H
      refine pv tb 5 rfl ?_
      refine TO_nil ?_
      exact joined true (w0 6) (some_inj H).symm
     ·replace H:=cond_f g_13 H
      refine pv tb 2 rfl ?_
      refine TO_on rfl rfl (by decide) rfl rfl (TOp_pure (pur_lenT (T:=tF) sl25 rfl rfl) rfl ?_)
      refine pv tb 2 rfl ?_
      refine TO_nil ?_
      exact joined (decide ((db0.facts.length:Int)=14)) (w0 6) (some_inj H).symm
  ·rintro _ rfl
   replace H:=H_4
   refine T_cond (t:=t31_3) rfl (fun c_14=>?_) (fun c_14=>?_)
   ·replace H:=cond_t c_14 H
    refine sr ?_
    refine pv tb 1 rfl ?_
    refine TO_cons rfl (TOp_storeB sz27 rfl rfl rfl rfl rfl rfl rfl (by decide) (lb rfl) rfl ?_)
    refine TO_st (σ':=[.box [sl tR db0.relations,sl tF db0.facts],.box [intA fact1.relation,sl tInt fact1.values],.box [.m [3] 0 r_1.relations.length tR.k,.m [4] 0 r_1.facts.length tF.k],.row (flat tR.own r_1.relations),.row (flat tF.own r_1.facts),.box [.m [3] 0 r_1.relations.length tR.k,.m [4] 0 r_1.facts.length tF.k]]) rfl ?_
    refine pv tb 1 rfl ?_
    refine TO_nil ?_
    refine T_ret ?_
    refine then_ret ?_
    obtain rfl:=some_inj H
    exact end_pick (.cellK rfl agg27 rfl (lb rfl) (.tmp .nil)) rfl [3,4] (by decide) rfl rfl rfl rfl rfl rfl
   ·replace H:=cond_f c_14 H
    refine T_skip ?_
    refine sr ?_
    refine pv tb 1 rfl ?_
    refine TO_nil ?_
    obtain ⟨O15_,L15_,N15_⟩:=bind_inv H
    clear H
    obtain ⟨B15_,hb15,L15_⟩:=gen_whileF L15_
    refine T_cutX (fun (x:Int)=>O15_=.inl x) (fun (at7:Int)=>[(3,.b 1 0),(4,.b 2 0),(6,.b 5 0),(7,intA at7)]) (fun (at7:Int)=>[.box [sl tR db0.relations,sl tF db0.facts],.box [intA fact1.relation,sl tInt fact1.values],.box [.n,.n],.row (flat tR.own r_1.relations),.row (flat tF.own r_1.facts),.box [.m [3] 0 r_1.relations.length tR.k,.m [4] 0 r_1.facts.length tF.k]]) ?_ ?_
    ·skip
     refine T_block ?_
     refine T_loopX (fun k=>fun (at7:Int)=>whileF B15_ k at7=some O15_) (fun (at7:Int)=>[(2,.b 0 0),(3,.b 1 0),(4,.b 2 0),(6,.b 5 0),(7,intA at7)]) (fun (at7:Int)=>[.box [sl tR db0.relations,sl tF db0.facts],.box [intA fact1.relation,sl tInt fact1.values],.box [.n,.n],.row (flat tR.own r_1.relations),.row (flat tF.own r_1.facts),.box [.m [3] 0 r_1.relations.length tR.k,.m [4] 0 r_1.facts.length tF.k]]) u 0 (w0 6) L15_ ?_
     rintro _ at7 L15_
     obtain ⟨k15,rfl,C15_,H,K15_⟩:=while_step L15_
     rw [hb15] at H
     refine T_seq ?_
     obtain ⟨t47_16,J_16,H_17⟩:=bind_inv H
     refine T_cutX (fun x=>t47_16=x) (fun (t47_16:Bool)=>[(2,.b 0 0),(3,.b 1 0),(4,.b 2 0),(6,.b 5 0),(7,intA at7),(47,boolA t47_16)]) (fun (t47_16:Bool)=>[.box [sl tR db0.relations,sl tF db0.facts],.box [intA fact1.relation,sl tInt fact1.values],.box [.n,.n],.row (flat tR.own r_1.relations),.row (flat tF.own r_1.facts),.box [.m [3] 0 r_1.relations.length tR.k,.m [4] 0 r_1.facts.length tF.k]]) ?_ ?_
     ·replace H:=J_16
      refine T_regionD mixed (by kernel_rfl) ?_
      refine pq tb 3 rfl ?_
      refine TQ_pure rfl (pur_lenT (T:=tF) sl25 rfl rfl) rfl ?_
      refine pq tb 2 rfl ?_
      refine TQ_split (t:=decide (at7<(db0.facts.length:Int))) 38 rfl (fun g_18=>?_) (fun g_18=>?_)
      ·replace H:=cond_t g_18 H
       obtain ⟨v_19,h_20,H⟩:=bind_inv H
       obtain ⟨n_21,hz_22,hv_23⟩:=getI_inv h_20
       refine pq tb 3 rfl ?_
       refine TQ_on rfl rfl (by decide) rfl (pur_ixT (T:=tF) sl25 rfl rfl hz_22 hv_23 rfl) rfl ?_
       refine TQ_on rfl rfl (by decide) rfl (pur_ldTK (T:=tF) (i:=n_21) (off:=0) rfl agg30 rfl rfl hv_23 (by decide) rfl) rfl ?_
       obtain ⟨r_24,h_25,H⟩:=bind_inv H
       refine pq tb 1 rfl ?_
       refine TQ_onV rfl rfl (by decide) rfl (call_static ent15 rfl) (miCompareFacts_ok _ _ _ h_25) rfl rfl ?_
       refine pq tb 2 rfl ?_
       refine TQ_nil ?_
       exact joined (decide (r_24<0)) (w0 6) (some_inj H).symm
      ·replace H:=cond_f g_18 H
       refine pq tb 9 rfl ?_
       refine TQ_nil ?_
       exact joined false (w0 6) (some_inj H).symm
     ·rintro _ rfl
      replace H:=H_17
      refine T_cond (t:=t47_16) rfl (fun c_26=>?_) (fun c_26=>?_)
      ·replace H:=cond_t c_26 H
       refine T_skip ?_
       refine T_block ?_
       refine T_region ?_
       refine pv tb 3 rfl ?_
       refine TO_nil ?_
       obtain rfl:=some_inj H
       exact again k15 (w64 (at7+1)) (Nat.lt_succ_self _) (w0 6) K15_
      ·replace H:=cond_f c_26 H
       refine T_exit ?_
       refine then_exit ?_
       refine then_exit ?_
       refine block_exit ?_
       obtain rfl:=some_inj H
       obtain rfl:=some_inj K15_
       exact joined at7 (w0 6) rfl
    ·rintro at7 rfl
     replace H:=onS_l N15_
     obtain ⟨us_27,h_28,H⟩:=bind_inv H
     obtain ⟨r_29,h_30,H⟩:=bind_inv H
     refine T_pad ?_
     refine T_pad ?_
     refine T_cutX (fun (_:Unit)=>True) (fun _=>[(4,.b 2 0),(6,.b 5 0)]) (fun _=>[.box [sl tR db0.relations,sl tF db0.facts],.box [intA fact1.relation,sl tInt fact1.values],.box [.n,.n],.row (flat tR.own r_1.relations),.row (flat tF.own r_29),.box [.m [3] 0 r_1.relations.length tR.k,.m [4] 0 r_29.length tF.k]]) ?_ ?_
     ·skip
      refine T_regionP 4 mixed rfl ?_
      refine TA_have 3 #[true,true,true,true,true,true,true,true,true,true,true,false,false,false] [(4,.b 2 0),(6,.b 5 0),(51,.m [4] 0 r_1.facts.length tF.k),(52,intA at7),(60,.m [8] 0 1 tF.k)] [.dead,.dead,.dead,.row (flat tR.own r_1.relations),.row (flat tF.own r_1.facts),.box [.m [3] 0 r_1.relations.length tR.k,.m [4] 0 r_1.facts.length tF.k],.row (flat tInt.enc us_27),.dead,.box [intA fact1.relation,.m [6] 0 us_27.length tInt.k]] ?_ (fun hj0_7=>?_)
      ·skip
       refine tae [(4,.b 2 0),(6,.b 5 0),(51,.m [4] 0 r_1.facts.length tF.k),(52,intA at7),(60,.m [8] 0 1 tF.k)] rfl ?_
       refine TA_st (σ':=[.dead,.dead,.dead,.row (flat tR.own r_1.relations),.row (flat tF.own r_1.facts),.box [.m [3] 0 r_1.relations.length tR.k,.m [4] 0 r_1.facts.length tF.k],.row (flat tInt.enc us_27),.dead,.box [intA fact1.relation,.m [6] 0 us_27.length tInt.k]]) rfl ?_
       refine TA_absorbA (pr:=[]) 8 1 6 rfl rfl rfl (by decide) tInt.pos (flat_len tInt.len _) (lb rfl) (lb rfl) rfl (nms_dead (nms_dead (nms_dead (nms_row (nms_row (nms_box rfl (nms_row (nms_dead (nms_box rfl nms_nil))))))))) ?_
       refine TA_st (σ':=[.dead,.dead,.dead,.row (flat tR.own r_1.relations),.row (flat tF.own r_1.facts),.box [.m [3] 0 r_1.relations.length tR.k,.m [4] 0 r_1.facts.length tF.k],.dead,.dead,.box [intA fact1.relation,.o tInt.k (flat tInt.enc us_27)]]) rfl ?_
       refine TA_rowifyT (T:=tF) (xs:=[]) (us:=([({ relation:=fact1.relation,values:=us_27 }:Fact)]:List Fact)) (v:=({ relation:=fact1.relation,values:=us_27 }:Fact)) 8 rfl rfl (app_ok (b:=32) (xs:=[]) (ys:=([({ relation:=fact1.relation,values:=us_27 }:Fact)]:List Fact)) (show (0+1)*32≤140737488355328 by decide)) (lb rfl) ?_
       refine tae [(4,.b 2 0),(6,.b 5 0),(51,.m [4] 0 r_1.facts.length tF.k),(52,intA at7),(60,.m [8] 0 ([({ relation:=fact1.relation,values:=us_27 }:Fact)]:List Fact).length tF.k)] rfl ?_
       refine TA_st (σ':=[.dead,.dead,.dead,.row (flat tR.own r_1.relations),.row (flat tF.own r_1.facts),.box [.m [3] 0 r_1.relations.length tR.k,.m [4] 0 r_1.facts.length tF.k],.dead,.dead,.row (flat tF.own ([({ relation:=fact1.relation,values:=us_27 }:Fact)]:List Fact))]) rfl ?_
       refine t1 11 (by kernel_rfl) rfl rfl (TOp_callS [4,8] (call_static ent45 rfl) (by decide) rfl rfl rfl rfl rfl rfl (m_slices_Insert_Simpl_Fact_impl_Fact_xo _ _ _ _ h_30) rfl rfl ?_)
       refine tmv 4 9 (by decide) (lb rfl) rfl rfl (lb rfl) ?_
       refine TA_st (σ':=[.dead,.dead,.dead,.row (flat tR.own r_1.relations),.row (flat tF.own r_29),.box [.m [3] 0 r_1.relations.length tR.k,.j],.dead,.dead,.dead,.dead]) rfl ?_
       refine tae [(4,.b 2 0),(6,.b 5 0),(52,intA at7),(61,.m [4] 0 r_29.length tF.k)] rfl ?_
       refine TA_st (σ':=[.dead,.dead,.dead,.row (flat tR.own r_1.relations),.row (flat tF.own r_29),.box [.m [3] 0 r_1.relations.length tR.k,.j],.dead,.dead,.dead,.dead]) rfl ?_
       refine pa tb [12] 1 rfl (by kernel_rfl) rfl ?_
       refine t1 13 (by kernel_rfl) rfl rfl (TOp_storeB sz25 rfl rfl rfl rfl rfl rfl rfl (by decide) (lb rfl) rfl ?_)
       refine TA_st (σ':=[.dead,.dead,.dead,.row (flat tR.own r_1.relations),.row (flat tF.own r_29),.box [.m [3] 0 r_1.relations.length tR.k,.m [4] 0 r_29.length tF.k],.dead,.dead,.dead,.dead]) rfl ?_
       exact TA_nil (by kernel_rfl) (joined () (w0 6) trivial)
      refine TA_have 4 #[true,true,true,true,true,true,true,true,true,true,false,false,false,false] [(4,.b 2 0),(6,.b 5 0),(51,.m [4] 0 r_1.facts.length tF.k),(52,intA at7),(59,.g [intA fact1.relation,.m [6] 0 us_27.length tInt.k])] [.dead,.dead,.dead,.row (flat tR.own r_1.relations),.row (flat tF.own r_1.facts),.box [.m [3] 0 r_1.relations.length tR.k,.m [4] 0 r_1.facts.length tF.k],.row (flat tInt.enc us_27),.dead] ?_ (fun hj1_7=>?_)
      ·skip
       refine t1 10 (by kernel_rfl) rfl rfl (TOp_litB (nn:=1) (k:=2) sl25 zero30 rfl rfl rfl rfl (by decide) ?_)
       refine TA_st (σ':=[.dead,.dead,.dead,.row (flat tR.own r_1.relations),.row (flat tF.own r_1.facts),.box [.m [3] 0 r_1.relations.length tR.k,.m [4] 0 r_1.facts.length tF.k],.row (flat tInt.enc us_27),.dead,.box [intA fact1.relation,.m [6] 0 us_27.length tInt.k]]) rfl ?_
       exact tj hj0_7 rfl (w0 9)
      refine TA_have 6 #[true,true,true,true,true,true,true,true,false,false,false,false,false,false] [(4,.b 2 0),(6,.b 5 0),(51,.m [4] 0 r_1.facts.length tF.k),(52,intA at7),(54,intA fact1.relation),(55,.m [6] 0 ([]:(List Int)).length tInt.k),(57,sl tInt fact1.values)] [.dead,.dead,.dead,.row (flat tR.own r_1.relations),.row (flat tF.own r_1.facts),.box [.m [3] 0 r_1.relations.length tR.k,.m [4] 0 r_1.facts.length tF.k],.row (flat tInt.enc ([]:(List Int))),.dead] ?_ (fun hj2_7=>?_)
      ·skip
       refine t1 8 (by kernel_rfl) rfl rfl (TOp_appY (T:=tInt) (f:=tInt.enc) (xs:=([]:(List Int))) (ys:=fact1.values) tInt.len sl28 zero3 rfl bytes3 (by decide) rfl rfl rfl rfl (src_T (T:=tInt) rfl) (flat_cell tInt _) h_28 ?_)
       refine tmw 6 8 (by decide) (lb rfl) rfl rfl (lb rfl) rfl ?_
       refine tf 9 rfl (pur_build bld30 rfl rfl) rfl rfl (by kernel_rfl) ?_
       exact tj hj1_7 rfl (w0 8)
      refine pa tb [0,2,3,4,6,7] 8 rfl (by kernel_rfl) rfl ?_
      refine TA_all [1,5] (by kernel_rfl) (by decide) ⟨?_,?_,trivial⟩
      ·skip
       refine ⟨_,rfl,rfl,TOp_pure (pur_ld_b one25 rfl rfl rfl rfl) rfl ?_⟩
       refine t1 5 (by kernel_rfl) rfl rfl (TOp_lit (nn:=0) (k:=1) sl28 zero3 rfl rfl rfl rfl (by decide) ?_)
       refine tmw 6 8 (by decide) (lb rfl) rfl rfl (lb rfl) rfl ?_
       exact tj hj2_7 rfl (w0 8)
      ·skip
       refine ⟨_,rfl,rfl,TOp_lit (nn:=0) (k:=1) sl28 zero3 rfl rfl rfl rfl (by decide) ?_⟩
       refine tmw 6 8 (by decide) (lb rfl) rfl rfl (lb rfl) rfl ?_
       refine TA_all [1,8] (by kernel_rfl) (by decide) ⟨?_,?_,trivial⟩
       ·skip
        refine ⟨_,rfl,rfl,TOp_pure (pur_ld_b one25 rfl rfl rfl rfl) rfl ?_⟩
        exact tj hj2_7 rfl (w0 8)
       ·skip
        refine ⟨_,rfl,rfl,TOp_appY (T:=tInt) (f:=tInt.enc) (xs:=([]:(List Int))) (ys:=fact1.values) tInt.len sl28 zero3 rfl bytes3 (by decide) rfl rfl rfl rfl (src_T (T:=tInt) rfl) (flat_cell tInt _) h_28 ?_⟩
        refine tmw 6 9 (by decide) (lb rfl) rfl rfl (lb rfl) rfl ?_
        refine tae [(4,.b 2 0),(6,.b 5 0),(50,.b 5 1),(52,intA at7),(54,intA fact1.relation),(58,.m [6] 0 us_27.length tInt.k)] rfl ?_
        refine TA_st (σ':=[.dead,.dead,.dead,.row (flat tR.own r_1.relations),.row (flat tF.own r_1.facts),.box [.m [3] 0 r_1.relations.length tR.k,.m [4] 0 r_1.facts.length tF.k],.row (flat tInt.enc us_27),.dead,.dead,.dead]) rfl ?_
        refine tf 9 rfl (pur_build bld30 rfl rfl) rfl rfl (by kernel_rfl) ?_
        refine TA_all [1,10] (by kernel_rfl) (by decide) ⟨?_,?_,trivial⟩
        ·skip
         refine ⟨_,rfl,rfl,TOp_pure (pur_ld_b one25 rfl rfl rfl rfl) rfl ?_⟩
         exact tj hj1_7 rfl (w0 8)
        ·skip
         refine ⟨_,rfl,rfl,TOp_ghost (E':=[(4,.b 2 0),(6,.b 5 0),(50,.b 5 1),(52,intA at7),(54,intA fact1.relation),(58,.m [6] 0 us_27.length tInt.k),(59,.g [intA fact1.relation,.m [6] 0 us_27.length tInt.k])]) (σ':=[.dead,.dead,.dead,.row (flat tR.own r_1.relations),.row (flat tF.own r_1.facts),.box [.m [3] 0 r_1.relations.length tR.k,.m [4] 0 r_1.facts.length tF.k],.row (flat tInt.enc us_27),.dead]) (by exact Ghost.weak (w0 8)) (TOp_litB (nn:=1) (k:=2) sl25 zero30 rfl rfl rfl rfl (by decide) ?_)⟩
         refine TA_st (σ':=[.dead,.dead,.dead,.row (flat tR.own r_1.relations),.row (flat tF.own r_1.facts),.box [.m [3] 0 r_1.relations.length tR.k,.m [4] 0 r_1.facts.length tF.k],.row (flat tInt.enc us_27),.dead,.box [intA fact1.relation,.m [6] 0 us_27.length tInt.k]]) rfl ?_
         refine t1 1 (by kernel_rfl) rfl rfl (TOp_pure (pur_ld_b one25 rfl rfl rfl rfl) rfl ?_)
         exact tj hj0_7 rfl (w0 9)
     ·rintro _ _
      refine sr ?_
      refine pv tb 1 rfl ?_
      refine TO_cons rfl (TOp_storeB sz27 rfl rfl rfl rfl rfl rfl rfl (by decide) (lb rfl) rfl ?_)
      refine TO_st (σ':=[.box [sl tR db0.relations,sl tF db0.facts],.box [intA fact1.relation,sl tInt fact1.values],.box [.m [3] 0 r_1.relations.length tR.k,.m [4] 0 r_29.length tF.k],.row (flat tR.own r_1.relations),.row (flat tF.own r_29),.box [.m [3] 0 r_1.relations.length tR.k,.m [4] 0 r_29.length tF.k]]) rfl ?_
      refine pv tb 1 rfl ?_
      refine TO_nil ?_
      refine T_ret ?_
      obtain rfl:=some_inj H
      exact end_pick (.cellK rfl agg27 rfl (lb rfl) (.tmp .nil)) rfl [3,4] (by decide) rfl rfl rfl rfl rfl rfl
theorem miInsertFact_ok (u:Nat) (db0:Database) (fact1:Fact) (r:(Database × Bool)) (H:miInsertFact u db0 fact1=some r):FnV prg 18 [.g (tD.enc db0),.g (tF.enc fact1)] (.t [.g (tD.enc r.1),boolA r.2]):=(miInsertFact_own u db0 fact1 r H).frz (frzOK_t (frz_cons (frzOK_g (frz_cons (frzT (T:=tR) rfl) (frz_cons (frzT (T:=tF) rfl) frz_nil)).1 (frz_cons (frzT (T:=tR) rfl) (frz_cons (frzT (T:=tF) rfl) frz_nil)).2) (frz_cons (frz_loose rfl) frz_nil)).1 (frz_cons (frzOK_g (frz_cons (frzT (T:=tR) rfl) (frz_cons (frzT (T:=tF) rfl) frz_nil)).1 (frz_cons (frzT (T:=tR) rfl) (frz_cons (frzT (T:=tF) rfl) frz_nil)).2) (frz_cons (frz_loose rfl) frz_nil)).2)

theorem miContainsFact_ok (db0:Database) (fact1:Fact) (r:Bool) (H:miContainsFact db0 fact1=some r):FnV prg 46 [.g (tD.enc db0),.g (tF.enc fact1)] (boolA r):=by
  unfold miContainsFact at H
  refine fnV_of_T Tryz.func46 rfl rfl (Nat.le_of_ble_eq_true rfl) ?_
  refine te [(0,.g (tD.enc db0)),(1,.g (tF.enc fact1))] rfl ?_
  refine sr ?_
  refine TO_cons rfl (TOp_box rfl (boxAll rfl) rfl rfl ?_)
  refine TO_cons rfl (TOp_box rfl (boxAll rfl) rfl rfl ?_)
  refine pv tb 1 rfl ?_
  refine TO_nil ?_
  obtain ⟨t4_1,J_1,H_2⟩:=bind_inv H
  refine T_cutX (fun x=>t4_1=x) (fun (t4_1:Bool)=>[(4,boolA t4_1)]) (fun (t4_1:Bool)=>[]) ?_ ?_
  ·replace H:=J_1
   refine T_region ?_
   obtain ⟨r_3,h_4,H⟩:=bind_inv H
   refine pv tb 1 rfl ?_
   refine TO_cons rfl (TOp_callV (call_static ent42 rfl) (miIsValidDatabase_ok _ _ h_4) rfl rfl rfl ?_)
   refine pv tb 1 rfl ?_
   refine TO_split (t:=r_3) 7 rfl (fun g_5=>?_) (fun g_5=>?_)
   ·replace H:=cond_t g_5 H
    obtain ⟨r_6,h_7,H⟩:=bind_inv H
    refine pv tb 2 rfl ?_
    refine TO_on rfl rfl (by decide) rfl rfl (TOp_callV (call_static ent44 rfl) (miFactIndex_ok _ _ _ h_7) rfl rfl rfl ?_)
    refine pv tb 3 rfl ?_
    refine TO_nil ?_
    exact joined (decide (0≤r_6)) (w0 0) (some_inj H).symm
   ·replace H:=cond_f g_5 H
    refine pv tb 6 rfl ?_
    refine TO_nil ?_
    exact joined false (w0 0) (some_inj H).symm
  ·rintro _ rfl
   replace H:=H_2
   refine T_ret ?_
   obtain rfl:=some_inj H
   refine end_ret (.tmp .nil) rfl rfl ⟨?_,rfl⟩
   rfl
end Go.Proofs.YtaadmoaanhdboaaGreatDoor

import Derived.Test.YtaadmoaanhdboaaGreatDoorM1
import Derived.Test.YtaadmoaanhdboaaGreatDoorM2
set_option linter.unusedVariables false
set_option linter.unusedSimpArgs false
set_option maxRecDepth 4000
set_option maxHeartbeats 1000000
namespace Go.Proofs.YtaadmoaanhdboaaGreatDoor
open Go Go.Proofs Go.Sep
theorem msl4Db_x (u:Nat) (c0:l1Cur) (r:(Database × l1Cur)) (H:msl4Db u c0=some r):FnS prg 63 [.b 0 0] [.box [sl (tI .u8) c0.b,intA c0.i,intA c0.h]] (.g [.m [1] 0 r.1.relations.length tR.k,.m [2] 0 r.1.facts.length tF.k]) [.box [sl (tI .u8) r.2.b,intA r.2.i,intA r.2.h],.row (flat tR.enc r.1.relations),.row (flat tF.enc r.1.facts)]:=by
  unfold msl4Db at H
  refine fnS_of_T Tryz.func63 rfl rfl (Nat.le_of_ble_eq_true rfl) ?_
  refine te [(0,.b 0 0)] rfl ?_
  refine T_st (σ':=[.box [sl (tI .u8) c0.b,intA c0.i,intA c0.h]]) rfl ?_
  refine sr ?_
  refine TO_cons rfl (TOp_alloc zero27 rfl rfl ?_)
  refine TO_nil (sr ?_)
  obtain ⟨r_1,h_2,H⟩:=bind_inv H
  refine pv tb 1 rfl ?_
  refine TO_cons rfl (TOp_callS [0] (call_static ent90 rfl) (by decide) rfl rfl rfl rfl rfl rfl (msl2Sigs_x _ _ h_2) rfl rfl ?_)
  refine toe [(0,.b 0 0),(2,.b 1 0),(6,.b 0 0),(7,.m [2] 0 r_1.1.length tR.k)] rfl ?_
  refine TO_st (σ':=[.box [sl (tI .u8) r_1.2.b,intA r_1.2.i,intA r_1.2.h],.box [.n,.n],.row (flat tR.enc r_1.1)]) rfl ?_
  refine Tp rfl rfl (pur_build bld27 rfl rfl) rfl ?_
  refine TO_cons rfl (TOp_alloc zero27 rfl rfl ?_)
  refine TO_cons rfl (TOp_storeB sz27 rfl rfl rfl rfl rfl rfl rfl (by decide) (lb rfl) rfl ?_)
  refine TO_st (σ':=[.box [sl (tI .u8) r_1.2.b,intA r_1.2.i,intA r_1.2.h],.box [.n,.n],.row (flat tR.enc r_1.1),.box [.m [2] 0 r_1.1.length tR.k,.n]]) rfl ?_
  refine TO_nil (sr ?_)
  refine pv tb 1 rfl ?_
  refine TO_cons rfl (TOp_lit (nn:=4) (k:=1) sl28 zero3 rfl rfl rfl rfl (by decide) ?_)
  refine TO_st (σ':=[.box [sl (tI .u8) r_1.2.b,intA r_1.2.i,intA r_1.2.h],.box [.n,.n],.row (flat tR.enc r_1.1),.box [.m [2] 0 r_1.1.length tR.k,.n],.row (flat tInt.enc ([2,2,3,3]:(List Int)))]) rfl ?_
  refine TO_frz1 4 (E':=[(0,.b 0 0),(2,.b 1 0),(3,.b 3 0),(9,.b 0 0),(10,sl tInt ([2,2,3,3]:(List Int)))]) rfl rfl (lb rfl) ⟨.keep rfl,.keep rfl,.keep rfl,.keep rfl,fz1E,trivial⟩ ?_
  refine TO_st (σ':=[.box [sl (tI .u8) r_1.2.b,intA r_1.2.i,intA r_1.2.h],.box [.n,.n],.row (flat tR.enc r_1.1),.box [.m [2] 0 r_1.1.length tR.k,.n],.dead]) rfl ?_
  obtain ⟨r_3,h_4,H⟩:=bind_inv H
  refine TO_cons rfl (TOp_callS [0] (call_static ent67 rfl) (by decide) rfl rfl rfl rfl rfl rfl (msl1PickInt_x _ _ _ h_4) rfl rfl ?_)
  refine toe [(0,.b 0 0),(2,.b 1 0),(3,.b 3 0),(9,.b 0 0),(10,sl tInt ([2,2,3,3]:(List Int))),(11,intA r_3.1)] rfl ?_
  refine TO_st (σ':=[.box [sl (tI .u8) r_3.2.b,intA r_3.2.i,intA r_3.2.h],.box [.n,.n],.row (flat tR.enc r_1.1),.box [.m [2] 0 r_1.1.length tR.k,.n],.dead]) rfl ?_
  refine pv tb 1 rfl ?_
  refine TO_nil (T_seq (sr ?_))
  obtain ⟨r_5,h_6,H⟩:=bind_inv H
  refine pv tb 1 rfl ?_
  refine TO_cons rfl (TOp_callS [0] (call_static ent64 rfl) (by decide) rfl rfl rfl rfl rfl rfl (msl1Below_x _ _ _ h_6) rfl rfl ?_)
  refine toe [(0,.b 0 0),(2,.b 1 0),(3,.b 3 0),(4,intA r_3.1),(12,.b 0 0),(13,intA r_5.1)] rfl ?_
  refine TO_st (σ':=[.box [sl (tI .u8) r_5.2.b,intA r_5.2.i,intA r_5.2.h],.box [.n,.n],.row (flat tR.enc r_1.1),.box [.m [2] 0 r_1.1.length tR.k,.n],.dead]) rfl ?_
  refine pv tb 2 rfl ?_
  refine TO_nil ?_
  refine T_row0 ?_
  refine T_boxle (xs:=[.m [2] 0 r_1.1.length tR.k,.n]) (ys:=[.m [2] 0 r_1.1.length tR.k,.m [5] 0 ([]:(List Fact)).length tF.k]) 3 rfl (leCons (leR rfl) (leCons leM leNil)) ?_
  refine T_st (σ':=[.box [sl (tI .u8) r_5.2.b,intA r_5.2.i,intA r_5.2.h],.box [.n,.n],.row (flat tR.enc r_1.1),.box [.m [2] 0 r_1.1.length tR.k,.m [5] 0 ([]:(List Fact)).length tF.k],.dead,.row (flat tF.enc ([]:(List Fact)))]) rfl ?_
  obtain ⟨O7_,L7_,N7_⟩:=bind_inv H
  clear H
  obtain ⟨B7_,hb7,L7_⟩:=gen_whileF L7_
  refine T_block ?_
  refine T_loopX (fun k=>fun (⟨n5,box0,box3_relations,box3_facts⟩:Int × l1Cur × (List Relation) × (List Fact))=>whileF B7_ k (n5,box0,box3_relations,box3_facts)=some O7_) (fun (⟨n5,box0,box3_relations,box3_facts⟩:Int × l1Cur × (List Relation) × (List Fact))=>[(0,.b 0 0),(2,.b 1 0),(3,.b 3 0),(4,intA r_3.1),(5,intA n5)]) (fun (⟨n5,box0,box3_relations,box3_facts⟩:Int × l1Cur × (List Relation) × (List Fact))=>[.box [sl (tI .u8) box0.b,intA box0.i,intA box0.h],.box [.n,.n],.row (flat tR.enc box3_relations),.box [.m [2] 0 box3_relations.length tR.k,.m [5] 0 box3_facts.length tF.k],.dead,.row (flat tF.enc box3_facts)]) u ((w64 (2+r_5.1)),r_5.2,r_1.1,([]:(List Fact))) (w0 6) L7_ ?_
  rintro _ ⟨n5,box0,box3_relations,box3_facts⟩ L7_
  obtain ⟨k7,rfl,C7_,H,K7_⟩:=while_step L7_
  rw [hb7] at H
  refine T_seq (sr ?_)
  refine pv tb 2 rfl ?_
  refine TO_nil ?_
  refine T_cond (t:=decide (0<n5)) rfl (fun c_8=>?_) (fun c_8=>?_)
  ·replace H:=cond_t c_8 H
   refine T_skip ?_
   refine T_seq ?_
   refine T_block ?_
   obtain ⟨r_9,h_10,H⟩:=bind_inv H
   obtain ⟨r_11,h_12,H⟩:=bind_inv H
   refine T_pad ?_
   refine T_pad ?_
   refine T_pad ?_
   refine T_pad ?_
   refine T_pad ?_
   refine T_regionP 0 mixed rfl ?_
   refine TA_have 5 #[true,true,true,true,true,true,false,false,false,false,false] [(0,.b 0 0),(2,.b 1 0),(3,.b 3 0),(4,intA r_3.1),(5,intA n5),(20,.g [sl tR box3_relations,sl tF box3_facts]),(25,.g [intA r_9.1.relation,sl tInt r_9.1.values])] [.box [sl (tI .u8) r_9.2.b,intA r_9.2.i,intA r_9.2.h],.box [.n,.n],.dead,.box [sl tR box3_relations,sl tF box3_facts],.dead,.dead,.dead,.dead,.dead,.dead,.dead] ?_ (fun hj0_6=>?_)
   ·skip
    refine t1 6 (by kernel_rfl) rfl rfl (TOp_callO (call_static ent23 rfl) rfl (msInsertFact_own u _ _ _ h_12) rfl rfl rfl ?_)
    refine tae [(0,.b 0 0),(2,.b 1 0),(3,.b 3 0),(4,intA r_3.1),(5,intA n5),(20,.g [sl tR box3_relations,sl tF box3_facts]),(25,.g [intA r_9.1.relation,sl tInt r_9.1.values]),(26,.t [.g [.m [11] 0 r_11.1.relations.length tR.k,.m [12] 0 r_11.1.facts.length tF.k],boolA r_11.2])] rfl ?_
    refine TA_st (σ':=[.box [sl (tI .u8) r_9.2.b,intA r_9.2.i,intA r_9.2.h],.box [.n,.n],.dead,.box [sl tR box3_relations,sl tF box3_facts],.dead,.dead,.dead,.dead,.dead,.dead,.dead,.row (flat tR.enc r_11.1.relations),.row (flat tF.enc r_11.1.facts)]) rfl ?_
    refine tmw 9 11 (by decide) (lb rfl) rfl rfl (lb rfl) rfl ?_
    refine tmw 10 12 (by decide) (lb rfl) rfl rfl (lb rfl) rfl ?_
    refine pa tb [7,8,9] 1 rfl (by kernel_rfl) rfl ?_
    refine t1 10 (by kernel_rfl) rfl rfl (TOp_storeB sz27 rfl rfl rfl rfl rfl rfl rfl (by decide) (lb rfl) rfl ?_)
    refine TA_st (σ':=[.box [sl (tI .u8) r_9.2.b,intA r_9.2.i,intA r_9.2.h],.box [.n,.n],.dead,.box [.m [9] 0 r_11.1.relations.length tR.k,.m [10] 0 r_11.1.facts.length tF.k],.dead,.dead,.dead,.dead,.dead,.row (flat tR.enc r_11.1.relations),.row (flat tF.enc r_11.1.facts),.dead,.dead]) rfl ?_
    refine TA_ghost (E':=[(0,.b 0 0),(2,.b 1 0),(3,.b 3 0),(4,intA r_3.1),(5,intA n5)]) (σ':=[.box [sl (tI .u8) r_9.2.b,intA r_9.2.i,intA r_9.2.h],.box [.n,.n],.dead,.box [.m [6] 0 r_11.1.relations.length tR.k,.m [10] 0 r_11.1.facts.length tF.k],.dead,.dead,.row (flat tR.enc r_11.1.relations),.dead,.dead,.dead,.row (flat tF.enc r_11.1.facts),.dead,.dead]) (Ghost.move 6 9 (by decide) (lb rfl) rfl rfl (lb rfl) (Ghost.weak (WeakL.to 13 (lb rfl) rfl rfl rfl rfl ⟨leR rfl,leR rfl,leR rfl,leR rfl,leR rfl,trivial⟩))) ?_
    refine TA_ghost (E':=[(0,.b 0 0),(2,.b 1 0),(3,.b 3 0),(4,intA r_3.1),(5,intA n5)]) (σ':=[.box [sl (tI .u8) r_9.2.b,intA r_9.2.i,intA r_9.2.h],.box [.n,.n],.dead,.box [.m [6] 0 r_11.1.relations.length tR.k,.m [7] 0 r_11.1.facts.length tF.k],.dead,.dead,.row (flat tR.enc r_11.1.relations),.row (flat tF.enc r_11.1.facts),.dead,.dead,.dead,.dead,.dead]) (Ghost.move 7 10 (by decide) (lb rfl) rfl rfl (lb rfl) (Ghost.weak (WeakL.to 13 (lb rfl) rfl rfl rfl rfl ⟨leR rfl,leR rfl,leR rfl,leR rfl,leR rfl,trivial⟩))) ?_
    refine TA_nil (by kernel_rfl) ?_
    refine T_move' 2 6 (by decide) (lb rfl) rfl rfl (lb rfl) ?_
    refine te [(0,.b 0 0),(2,.b 1 0),(3,.b 3 0),(4,intA r_3.1),(5,intA n5)] rfl ?_
    refine T_st (σ':=[.box [sl (tI .u8) r_9.2.b,intA r_9.2.i,intA r_9.2.h],.box [.n,.n],.row (flat tR.enc r_11.1.relations),.box [.m [2] 0 r_11.1.relations.length tR.k,.m [7] 0 r_11.1.facts.length tF.k],.dead,.dead,.dead,.row (flat tF.enc r_11.1.facts),.dead,.dead,.dead,.dead,.dead]) rfl ?_
    refine T_move' 5 7 (by decide) (lb rfl) rfl rfl (lb rfl) ?_
    refine te [(0,.b 0 0),(2,.b 1 0),(3,.b 3 0),(4,intA r_3.1),(5,intA n5)] rfl ?_
    refine T_st (σ':=[.box [sl (tI .u8) r_9.2.b,intA r_9.2.i,intA r_9.2.h],.box [.n,.n],.row (flat tR.enc r_11.1.relations),.box [.m [2] 0 r_11.1.relations.length tR.k,.m [5] 0 r_11.1.facts.length tF.k],.dead,.row (flat tF.enc r_11.1.facts),.dead,.dead,.dead,.dead,.dead,.dead,.dead]) rfl ?_
    refine T_region ?_
    refine pv tb 3 rfl ?_
    refine TO_nil ?_
    obtain rfl:=some_inj H
    exact again k7 ((w64 (n5 - 1)),r_9.2,r_11.1.relations,r_11.1.facts) (Nat.lt_succ_self _) (w0 6) K7_
   refine TA_have 6 #[true,true,true,true,true,false,false,false,false,false,false] [(0,.b 0 0),(2,.b 1 0),(3,.b 3 0),(4,intA r_3.1),(5,intA n5),(20,.g [sl tR box3_relations,.m [5] 0 box3_facts.length tF.k]),(21,.b 0 0),(23,sl tR box3_relations),(24,intA r_3.1)] [.box [sl (tI .u8) box0.b,intA box0.i,intA box0.h],.box [.n,.n],.dead,.box [sl tR box3_relations,.m [5] 0 box3_facts.length tF.k],.dead,.row (flat tF.enc box3_facts),.dead,.dead,.dead,.dead,.dead] ?_ (fun hj1_6=>?_)
   ·skip
    refine t1 5 (by kernel_rfl) rfl rfl (TOp_callS [0] (call_static ent91 rfl) (by decide) rfl rfl rfl rfl rfl rfl (msl3Fact_x u _ _ _ _ h_10) rfl rfl ?_)
    refine tae [(0,.b 0 0),(2,.b 1 0),(3,.b 3 0),(4,intA r_3.1),(5,intA n5),(20,.g [sl tR box3_relations,.m [5] 0 box3_facts.length tF.k]),(21,.b 0 0),(23,sl tR box3_relations),(24,intA r_3.1),(25,.g [intA r_9.1.relation,.m [11] 0 r_9.1.values.length tInt.k])] rfl ?_
    refine TA_st (σ':=[.box [sl (tI .u8) r_9.2.b,intA r_9.2.i,intA r_9.2.h],.box [.n,.n],.dead,.box [sl tR box3_relations,.m [5] 0 box3_facts.length tF.k],.dead,.row (flat tF.enc box3_facts),.dead,.dead,.dead,.dead,.dead,.row (flat tInt.enc r_9.1.values)]) rfl ?_
    refine tmw 8 11 (by decide) (lb rfl) rfl rfl (lb rfl) rfl ?_
    refine TA_ghost (E':=[(0,.b 0 0),(2,.b 1 0),(3,.b 3 0),(4,intA r_3.1),(5,intA n5),(20,.g [sl tR box3_relations,.m [5] 0 box3_facts.length tF.k]),(21,.b 0 0),(23,sl tR box3_relations),(24,intA r_3.1),(25,.g [intA r_9.1.relation,.m [8] 0 r_9.1.values.length tInt.k])]) (σ':=[.box [sl (tI .u8) r_9.2.b,intA r_9.2.i,intA r_9.2.h],.box [.n,.n],.dead,.box [sl tR box3_relations,.m [5] 0 box3_facts.length tF.k],.dead,.row (flat tF.enc box3_facts),.dead,.dead,.row (flat tInt.enc r_9.1.values),.dead,.dead,.dead]) (Ghost.weak (WeakL.to 12 (lb rfl) rfl rfl rfl rfl ⟨leR rfl,leR rfl,leR rfl,leR rfl,leR rfl,leR rfl,leR rfl,leR rfl,leR rfl,leR rfl,trivial⟩)) ?_
    refine TA_frzB 5 (E':=[(0,.b 0 0),(2,.b 1 0),(3,.b 3 0),(4,intA r_3.1),(5,intA n5),(20,.g [sl tR box3_relations,sl tF box3_facts]),(21,.b 0 0),(23,sl tR box3_relations),(24,intA r_3.1),(25,.g [intA r_9.1.relation,.m [8] 0 r_9.1.values.length tInt.k])]) (σ':=[.box [sl (tI .u8) r_9.2.b,intA r_9.2.i,intA r_9.2.h],.box [.n,.n],.dead,.box [sl tR box3_relations,sl tF box3_facts],.dead,.dead,.dead,.dead,.row (flat tInt.enc r_9.1.values),.dead,.dead,.dead]) rfl (lb rfl) ?_ ?_ ?_
    ·exact ⟨.keep rfl,.keep rfl,.keep rfl,.keep rfl,.keep rfl,fz1G (fzC (.keep rfl) (fzC fz1E fzN)),.keep rfl,.keep rfl,.keep rfl,.keep rfl,trivial⟩
    ·exact ⟨fzK rfl,fzK rfl,trivial,fzC (.keep rfl) (fzC fz1E fzN),trivial,trivial,trivial,trivial,rfl,trivial,trivial,trivial,trivial⟩
    refine TA_ghost (E':=[(0,.b 0 0),(2,.b 1 0),(3,.b 3 0),(4,intA r_3.1),(5,intA n5),(20,.g [sl tR box3_relations,sl tF box3_facts]),(21,.b 0 0),(23,sl tR box3_relations),(24,intA r_3.1),(25,.g [intA r_9.1.relation,.m [8] 0 r_9.1.values.length tInt.k])]) (σ':=[.box [sl (tI .u8) r_9.2.b,intA r_9.2.i,intA r_9.2.h],.box [.n,.n],.dead,.box [sl tR box3_relations,sl tF box3_facts],.dead,.dead,.dead,.dead,.row (flat tInt.enc r_9.1.values),.dead,.dead,.dead]) (Ghost.weak (WeakL.to 12 (lb rfl) rfl rfl rfl rfl ⟨leR rfl,leR rfl,leR rfl,leR rfl,leR rfl,leR rfl,leR rfl,leR rfl,leR rfl,leR rfl,trivial⟩)) ?_
    refine TA_frz1 8 (E':=[(0,.b 0 0),(2,.b 1 0),(3,.b 3 0),(4,intA r_3.1),(5,intA n5),(20,.g [sl tR box3_relations,sl tF box3_facts]),(21,.b 0 0),(23,sl tR box3_relations),(24,intA r_3.1),(25,.g [intA r_9.1.relation,sl tInt r_9.1.values])]) rfl rfl (lb rfl) ?_ ?_
    ·exact ⟨.keep rfl,.keep rfl,.keep rfl,.keep rfl,.keep rfl,.keep rfl,.keep rfl,.keep rfl,.keep rfl,fz1G (fzC (.keep rfl) (fzC fz1E fzN)),trivial⟩
    refine TA_st (σ':=[.box [sl (tI .u8) r_9.2.b,intA r_9.2.i,intA r_9.2.h],.box [.n,.n],.dead,.box [sl tR box3_relations,sl tF box3_facts],.dead,.dead,.dead,.dead,.dead,.dead,.dead,.dead]) rfl ?_
    exact tj hj0_6 rfl (w0 11)
   refine pa tb [1,2,4] 8 rfl (by kernel_rfl) rfl ?_
   refine TA_all [0,3] (by kernel_rfl) (by decide) ⟨?_,?_,trivial⟩
   ·skip
    refine ⟨_,rfl,rfl,TOp_pure (pur_ldK_b agg27 rfl rfl (lb rfl) rfl) rfl ?_⟩
    refine t1 3 (by kernel_rfl) rfl rfl (TOp_pure (pur_ld_b one24 rfl rfl rfl rfl) rfl ?_)
    refine TA_ghost (E':=[(0,.b 0 0),(2,.b 1 0),(3,.b 3 0),(4,intA r_3.1),(5,intA n5),(20,.g [.m [2] 0 box3_relations.length tR.k,.m [5] 0 box3_facts.length tF.k]),(21,.b 0 0),(22,.b 3 0),(23,.m [2] 0 box3_relations.length tR.k),(24,intA r_3.1)]) (σ':=[.box [sl (tI .u8) box0.b,intA box0.i,intA box0.h],.box [.n,.n],.row (flat tR.enc box3_relations),.box [.m [2] 0 box3_relations.length tR.k,.m [5] 0 box3_facts.length tF.k],.dead,.row (flat tF.enc box3_facts),.dead,.dead,.dead,.dead,.dead]) (Ghost.weak (WeakL.to 11 (lb rfl) rfl rfl rfl rfl ⟨leR rfl,leR rfl,leR rfl,leR rfl,leR rfl,leR rfl,leR rfl,leR rfl,leR rfl,leR rfl,trivial⟩)) ?_
    refine TA_frzB 2 (E':=[(0,.b 0 0),(2,.b 1 0),(3,.b 3 0),(4,intA r_3.1),(5,intA n5),(20,.g [sl tR box3_relations,.m [5] 0 box3_facts.length tF.k]),(21,.b 0 0),(22,.b 3 0),(23,sl tR box3_relations),(24,intA r_3.1)]) (σ':=[.box [sl (tI .u8) box0.b,intA box0.i,intA box0.h],.box [.n,.n],.dead,.box [sl tR box3_relations,.m [5] 0 box3_facts.length tF.k],.dead,.row (flat tF.enc box3_facts),.dead,.dead,.dead,.dead,.dead]) rfl (lb rfl) ?_ ?_ ?_
    ·exact ⟨.keep rfl,.keep rfl,.keep rfl,.keep rfl,.keep rfl,fz1G (fzC fz1E (fzC (.keep rfl) fzN)),.keep rfl,.keep rfl,fz1E,.keep rfl,trivial⟩
    ·exact ⟨fzK rfl,fzK rfl,trivial,fzC fz1E (fzC (.keep rfl) fzN),trivial,rfl,trivial,trivial,trivial,trivial,trivial,trivial⟩
    exact tj hj1_6 rfl (w0 11)
   ·skip
    refine ⟨_,rfl,rfl,TOp_pure (pur_ld_b one24 rfl rfl rfl rfl) rfl ?_⟩
    refine TA_ghost (E':=[(0,.b 0 0),(2,.b 1 0),(3,.b 3 0),(4,intA r_3.1),(5,intA n5),(21,.b 0 0),(22,.b 3 0),(23,.m [2] 0 box3_relations.length tR.k),(24,intA r_3.1)]) (σ':=[.box [sl (tI .u8) box0.b,intA box0.i,intA box0.h],.box [.n,.n],.row (flat tR.enc box3_relations),.box [.m [2] 0 box3_relations.length tR.k,.m [5] 0 box3_facts.length tF.k],.dead,.row (flat tF.enc box3_facts),.dead,.dead,.dead,.dead,.dead]) (Ghost.weak (WeakL.to 11 (lb rfl) rfl rfl rfl rfl ⟨leR rfl,leR rfl,leR rfl,leR rfl,leR rfl,leR rfl,leR rfl,leR rfl,leR rfl,trivial⟩)) ?_
    refine TA_frzB 2 (E':=[(0,.b 0 0),(2,.b 1 0),(3,.b 3 0),(4,intA r_3.1),(5,intA n5),(21,.b 0 0),(22,.b 3 0),(23,sl tR box3_relations),(24,intA r_3.1)]) (σ':=[.box [sl (tI .u8) box0.b,intA box0.i,intA box0.h],.box [.n,.n],.dead,.box [sl tR box3_relations,.m [5] 0 box3_facts.length tF.k],.dead,.row (flat tF.enc box3_facts),.dead,.dead,.dead,.dead,.dead]) rfl (lb rfl) ?_ ?_ ?_
    ·exact ⟨.keep rfl,.keep rfl,.keep rfl,.keep rfl,.keep rfl,.keep rfl,.keep rfl,fz1E,.keep rfl,trivial⟩
    ·exact ⟨fzK rfl,fzK rfl,trivial,fzC fz1E (fzC (.keep rfl) fzN),trivial,rfl,trivial,trivial,trivial,trivial,trivial,trivial⟩
    refine TA_all [0,5] (by kernel_rfl) (by decide) ⟨?_,?_,trivial⟩
    ·skip
     refine ⟨_,rfl,rfl,TOp_pure (pur_ldK_b agg27 rfl rfl (lb rfl) rfl) rfl ?_⟩
     exact tj hj1_6 rfl (w0 11)
    ·skip
     refine ⟨_,rfl,rfl,TOp_callS [0] (call_static ent91 rfl) (by decide) rfl rfl rfl rfl rfl rfl (msl3Fact_x u _ _ _ _ h_10) rfl rfl ?_⟩
     refine tae [(0,.b 0 0),(2,.b 1 0),(3,.b 3 0),(4,intA r_3.1),(5,intA n5),(21,.b 0 0),(22,.b 3 0),(23,sl tR box3_relations),(24,intA r_3.1),(25,.g [intA r_9.1.relation,.m [11] 0 r_9.1.values.length tInt.k])] rfl ?_
     refine TA_st (σ':=[.box [sl (tI .u8) r_9.2.b,intA r_9.2.i,intA r_9.2.h],.box [.n,.n],.dead,.box [sl tR box3_relations,.m [5] 0 box3_facts.length tF.k],.dead,.row (flat tF.enc box3_facts),.dead,.dead,.dead,.dead,.dead,.row (flat tInt.enc r_9.1.values)]) rfl ?_
     refine tmw 8 11 (by decide) (lb rfl) rfl rfl (lb rfl) rfl ?_
     refine t1 0 (by kernel_rfl) rfl rfl (TOp_pure (pur_ldK_b agg27 rfl rfl (lb rfl) rfl) rfl ?_)
     refine TA_ghost (E':=[(0,.b 0 0),(2,.b 1 0),(3,.b 3 0),(4,intA r_3.1),(5,intA n5),(20,.g [sl tR box3_relations,.m [5] 0 box3_facts.length tF.k]),(21,.b 0 0),(22,.b 3 0),(23,sl tR box3_relations),(24,intA r_3.1),(25,.g [intA r_9.1.relation,.m [8] 0 r_9.1.values.length tInt.k])]) (σ':=[.box [sl (tI .u8) r_9.2.b,intA r_9.2.i,intA r_9.2.h],.box [.n,.n],.dead,.box [sl tR box3_relations,.m [5] 0 box3_facts.length tF.k],.dead,.row (flat tF.enc box3_facts),.dead,.dead,.row (flat tInt.enc r_9.1.values),.dead,.dead,.dead]) (Ghost.weak (WeakL.to 12 (lb rfl) rfl rfl rfl rfl ⟨leR rfl,leR rfl,leR rfl,leR rfl,leR rfl,leR rfl,leR rfl,leR rfl,leR rfl,leR rfl,leR rfl,trivial⟩)) ?_
     refine TA_frzB 5 (E':=[(0,.b 0 0),(2,.b 1 0),(3,.b 3 0),(4,intA r_3.1),(5,intA n5),(20,.g [sl tR box3_relations,sl tF box3_facts]),(21,.b 0 0),(22,.b 3 0),(23,sl tR box3_relations),(24,intA r_3.1),(25,.g [intA r_9.1.relation,.m [8] 0 r_9.1.values.length tInt.k])]) (σ':=[.box [sl (tI .u8) r_9.2.b,intA r_9.2.i,intA r_9.2.h],.box [.n,.n],.dead,.box [sl tR box3_relations,sl tF box3_facts],.dead,.dead,.dead,.dead,.row (flat tInt.enc r_9.1.values),.dead,.dead,.dead]) rfl (lb rfl) ?_ ?_ ?_
     ·exact ⟨.keep rfl,.keep rfl,.keep rfl,.keep rfl,.keep rfl,fz1G (fzC (.keep rfl) (fzC fz1E fzN)),.keep rfl,.keep rfl,.keep rfl,.keep rfl,.keep rfl,trivial⟩
     ·exact ⟨fzK rfl,fzK rfl,trivial,fzC (.keep rfl) (fzC fz1E fzN),trivial,trivial,trivial,trivial,rfl,trivial,trivial,trivial,trivial⟩
     refine TA_ghost (E':=[(0,.b 0 0),(2,.b 1 0),(3,.b 3 0),(4,intA r_3.1),(5,intA n5),(20,.g [sl tR box3_relations,sl tF box3_facts]),(21,.b 0 0),(22,.b 3 0),(23,sl tR box3_relations),(24,intA r_3.1),(25,.g [intA r_9.1.relation,.m [8] 0 r_9.1.values.length tInt.k])]) (σ':=[.box [sl (tI .u8) r_9.2.b,intA r_9.2.i,intA r_9.2.h],.box [.n,.n],.dead,.box [sl tR box3_relations,sl tF box3_facts],.dead,.dead,.dead,.dead,.row (flat tInt.enc r_9.1.values),.dead,.dead,.dead]) (Ghost.weak (WeakL.to 12 (lb rfl) rfl rfl rfl rfl ⟨leR rfl,leR rfl,leR rfl,leR rfl,leR rfl,leR rfl,leR rfl,leR rfl,leR rfl,leR rfl,leR rfl,trivial⟩)) ?_
     refine TA_frz1 8 (E':=[(0,.b 0 0),(2,.b 1 0),(3,.b 3 0),(4,intA r_3.1),(5,intA n5),(20,.g [sl tR box3_relations,sl tF box3_facts]),(21,.b 0 0),(22,.b 3 0),(23,sl tR box3_relations),(24,intA r_3.1),(25,.g [intA r_9.1.relation,sl tInt r_9.1.values])]) rfl rfl (lb rfl) ?_ ?_
     ·exact ⟨.keep rfl,.keep rfl,.keep rfl,.keep rfl,.keep rfl,.keep rfl,.keep rfl,.keep rfl,.keep rfl,.keep rfl,fz1G (fzC (.keep rfl) (fzC fz1E fzN)),trivial⟩
     refine TA_st (σ':=[.box [sl (tI .u8) r_9.2.b,intA r_9.2.i,intA r_9.2.h],.box [.n,.n],.dead,.box [sl tR box3_relations,sl tF box3_facts],.dead,.dead,.dead,.dead,.dead,.dead,.dead,.dead]) rfl ?_
     exact tj hj0_6 rfl (w0 11)
  ·replace H:=cond_f c_8 H
   refine T_exit ?_
   refine then_exit ?_
   refine then_exit ?_
   refine block_exit ?_
   obtain rfl:=some_inj H
   obtain rfl:=some_inj K7_
   replace H:=onS_l N7_
   refine sr ?_
   refine pv tb 1 rfl ?_
   refine TO_cons rfl (TOp_storeB sz27 rfl rfl rfl rfl rfl rfl rfl (by decide) (lb rfl) rfl ?_)
   refine TO_st (σ':=[.box [sl (tI .u8) box0.b,intA box0.i,intA box0.h],.box [.m [2] 0 box3_relations.length tR.k,.m [5] 0 box3_facts.length tF.k],.row (flat tR.enc box3_relations),.box [.m [2] 0 box3_relations.length tR.k,.m [5] 0 box3_facts.length tF.k],.dead,.row (flat tF.enc box3_facts)]) rfl ?_
   refine TO_nil ?_
   refine T_ret ?_
   obtain rfl:=some_inj H
   exact end_pickX (.cellK rfl agg27 rfl (lb rfl) .nil) rfl [0,2,5] (by decide) (lb rfl) rfl (lb rfl) rfl rfl rfl rfl rfl rfl

theorem msl3Any_x (u:Nat) (c0:l1Cur) (l1:(List Relation)) (r:(Fact × l1Cur)) (H:msl3Any u c0 l1=some r):FnS prg 65 [.b 0 0,sl tR l1] [.box [sl (tI .u8) c0.b,intA c0.i,intA c0.h]] (.g [intA r.1.relation,.m [1] 0 r.1.values.length tInt.k]) [.box [sl (tI .u8) r.2.b,intA r.2.i,intA r.2.h],.row (flat tInt.enc r.1.values)]:=by
  unfold msl3Any at H
  refine fnS_of_T Tryz.func65 rfl rfl (Nat.le_of_ble_eq_true rfl) ?_
  refine te [(0,.b 0 0),(1,sl tR l1)] rfl ?_
  refine T_st (σ':=[.box [sl (tI .u8) c0.b,intA c0.i,intA c0.h]]) rfl ?_
  refine sr ?_
  refine TO_cons rfl (TOp_alloc zero30 rfl rfl ?_)
  refine TO_nil (sr ?_)
  obtain ⟨r_1,h_2,H⟩:=bind_inv H
  refine pv tb 2 rfl ?_
  refine TO_cons rfl (TOp_callS [0] (call_static ent91 rfl) (by decide) rfl rfl rfl rfl rfl rfl (msl3Fact_x u _ _ _ _ h_2) rfl rfl ?_)
  refine toe [(0,.b 0 0),(1,sl tR l1),(4,.b 1 0),(6,.b 0 0),(7,sl tR l1),(8,.g [intA r_1.1.relation,.m [2] 0 r_1.1.values.length tInt.k])] rfl ?_
  refine TO_st (σ':=[.box [sl (tI .u8) r_1.2.b,intA r_1.2.i,intA r_1.2.h],.box [intA 0,.n],.row (flat tInt.enc r_1.1.values)]) rfl ?_
  refine TO_cons rfl (TOp_alloc zero30 rfl rfl ?_)
  refine TO_cons rfl (TOp_storeB sz30 rfl rfl rfl rfl rfl rfl rfl (by decide) (lb rfl) rfl ?_)
  refine TO_st (σ':=[.box [sl (tI .u8) r_1.2.b,intA r_1.2.i,intA r_1.2.h],.box [intA 0,.n],.row (flat tInt.enc r_1.1.values),.box [intA r_1.1.relation,.m [2] 0 r_1.1.values.length tInt.k]]) rfl ?_
  refine TO_nil (T_seq (sr ?_))
  obtain ⟨r_3,h_4,H⟩:=bind_inv H
  refine pv tb 1 rfl ?_
  refine TO_cons rfl (TOp_callS [0] (call_static ent64 rfl) (by decide) rfl rfl rfl rfl rfl rfl (msl1Below_x _ _ _ h_4) rfl rfl ?_)
  refine toe [(0,.b 0 0),(4,.b 1 0),(5,.b 3 0),(9,.b 0 0),(10,intA r_3.1)] rfl ?_
  refine TO_st (σ':=[.box [sl (tI .u8) r_3.2.b,intA r_3.2.i,intA r_3.2.h],.box [intA 0,.n],.row (flat tInt.enc r_1.1.values),.box [intA r_1.1.relation,.m [2] 0 r_1.1.values.length tInt.k]]) rfl ?_
  refine TO_nil ?_
  refine T_block ?_
  refine sr ?_
  refine pv tb 2 rfl ?_
  refine TO_nil ?_
  refine T_cond (t:=decide (r_3.1=0)) rfl (fun c_5=>?_) (fun c_5=>?_)
  ·replace H:=cond_t c_5 H
   refine T_region ?_
   obtain ⟨r_6,h_7,H⟩:=bind_inv H
   refine pv tb 1 rfl ?_
   refine TO_cons rfl (TOp_callS [0] (call_static ent64 rfl) (by decide) rfl rfl rfl rfl rfl rfl (msl1Below_x _ _ _ h_7) rfl rfl ?_)
   refine toe [(0,.b 0 0),(4,.b 1 0),(5,.b 3 0),(10,intA r_3.1),(11,boolA (decide (r_3.1=0))),(13,.b 0 0),(14,intA r_6.1)] rfl ?_
   refine TO_st (σ':=[.box [sl (tI .u8) r_6.2.b,intA r_6.2.i,intA r_6.2.h],.box [intA 0,.n],.row (flat tInt.enc r_1.1.values),.box [intA r_1.1.relation,.m [2] 0 r_1.1.values.length tInt.k]]) rfl ?_
   refine pv tb 2 rfl ?_
   refine TO_cons rfl (TOp_storeB sz3 rfl rfl rfl rfl rfl rfl rfl (by decide) (lb rfl) rfl ?_)
   refine TO_st (σ':=[.box [sl (tI .u8) r_6.2.b,intA r_6.2.i,intA r_6.2.h],.box [intA 0,.n],.row (flat tInt.enc r_1.1.values),.box [intA (w64 (r_6.1 - 1)),.m [2] 0 r_1.1.values.length tInt.k]]) rfl ?_
   refine TO_nil (sr ?_)
   refine pv tb 1 rfl ?_
   refine TO_cons rfl (TOp_storeB sz30 rfl rfl rfl rfl rfl rfl rfl (by decide) (lb rfl) rfl ?_)
   refine TO_st (σ':=[.box [sl (tI .u8) r_6.2.b,intA r_6.2.i,intA r_6.2.h],.box [intA (w64 (r_6.1 - 1)),.m [2] 0 r_1.1.values.length tInt.k],.row (flat tInt.enc r_1.1.values),.box [intA (w64 (r_6.1 - 1)),.m [2] 0 r_1.1.values.length tInt.k]]) rfl ?_
   refine TO_nil ?_
   refine T_ret ?_
   obtain rfl:=some_inj H
   exact end_pickX (.cellK rfl agg30 rfl (lb rfl) .nil) rfl [0,2] (by decide) (lb rfl) rfl (lb rfl) rfl rfl rfl rfl rfl rfl
  ·replace H:=cond_f c_5 H
   refine sr ?_
   refine pv tb 2 rfl ?_
   refine TO_nil ?_
   refine T_cond (t:=decide (r_3.1=1)) rfl (fun c_8=>?_) (fun c_8=>?_)
   ·replace H:=cond_t c_8 H
    refine T_region ?_
    refine pv tb 2 rfl ?_
    refine TO_cons rfl (TOp_lit (nn:=1) (k:=1) sl28 zero3 rfl rfl rfl rfl (by decide) ?_)
    refine TO_st (σ':=[.box [sl (tI .u8) r_3.2.b,intA r_3.2.i,intA r_3.2.h],.box [intA 0,.n],.row (flat tInt.enc r_1.1.values),.box [intA r_1.1.relation,.m [2] 0 r_1.1.values.length tInt.k],.row (flat tInt.enc ([1]:(List Int)))]) rfl ?_
    obtain ⟨us_9,h_10,H⟩:=bind_inv H
    refine TO_cons rfl (TOp_appZ (T:=tInt) (f:=tInt.enc) (xs:=r_1.1.values) (ys:=([1]:(List Int))) tInt.len sl28 zero3 rfl bytes3 (by decide) rfl rfl rfl rfl (src_mT (f:=tInt.enc) tInt.len rfl rfl (flat_cell tInt _)) (flat_cell tInt _) h_10 (lb rfl) ?_)
    refine toe [(0,.b 0 0),(4,.b 1 0),(5,.b 3 0),(10,intA r_3.1),(17,boolA (decide (r_3.1=1))),(19,.b 3 1),(21,.m [4] 0 ([1]:(List Int)).length tInt.k),(22,.m [2] 0 us_9.length tInt.k)] rfl ?_
    refine TO_st (σ':=[.box [sl (tI .u8) r_3.2.b,intA r_3.2.i,intA r_3.2.h],.box [intA 0,.n],.row (flat tInt.enc us_9),.box [intA r_1.1.relation,.j],.row (flat tInt.enc ([1]:(List Int))),.dead]) rfl ?_
    refine pv tb 1 rfl ?_
    refine TO_cons rfl (TOp_storeB sz28 rfl rfl rfl rfl rfl rfl rfl (by decide) (lb rfl) rfl ?_)
    refine TO_st (σ':=[.box [sl (tI .u8) r_3.2.b,intA r_3.2.i,intA r_3.2.h],.box [intA 0,.n],.row (flat tInt.enc us_9),.box [intA r_1.1.relation,.m [2] 0 us_9.length tInt.k],.row (flat tInt.enc ([1]:(List Int))),.dead]) rfl ?_
    refine TO_nil (sr ?_)
    refine pv tb 1 rfl ?_
    refine TO_cons rfl (TOp_storeB sz30 rfl rfl rfl rfl rfl rfl rfl (by decide) (lb rfl) rfl ?_)
    refine TO_st (σ':=[.box [sl (tI .u8) r_3.2.b,intA r_3.2.i,intA r_3.2.h],.box [intA r_1.1.relation,.m [2] 0 us_9.length tInt.k],.row (flat tInt.enc us_9),.box [intA r_1.1.relation,.m [2] 0 us_9.length tInt.k],.row (flat tInt.enc ([1]:(List Int))),.dead]) rfl ?_
    refine TO_nil ?_
    refine T_ret ?_
    obtain rfl:=some_inj H
    exact end_pickX (.cellK rfl agg30 rfl (lb rfl) .nil) rfl [0,2] (by decide) (lb rfl) rfl (lb rfl) rfl rfl rfl rfl rfl rfl
   ·replace H:=cond_f c_8 H
    refine sr ?_
    refine pv tb 2 rfl ?_
    refine TO_nil ?_
    refine T_cond (t:=decide (r_3.1=2)) rfl (fun c_11=>?_) (fun c_11=>?_)
    ·replace H:=cond_t c_11 H
     obtain ⟨r_12,h_13,H⟩:=bind_inv H
     obtain ⟨v_14,h_15,H⟩:=bind_inv H
     obtain ⟨n_16,hz_17,hv_18⟩:=getI_inv h_15
     refine T_pad ?_
     refine T_regionP 0 mixed rfl ?_
     refine TA_have 2 #[true,true,true,true,true,false,false] [(4,.b 1 0),(5,.b 3 0),(27,.m [2] 0 r_1.1.values.length tInt.k),(30,intA r_12.1)] [.box [sl (tI .u8) r_12.2.b,intA r_12.2.i,intA r_12.2.h],.box [intA 0,.n],.row (flat tInt.enc r_1.1.values),.box [intA r_1.1.relation,.m [2] 0 r_1.1.values.length tInt.k],.dead] ?_ (fun hj0_8=>?_)
     ·skip
      refine tf 5 rfl (pur_ixM (T:=tInt) sl28 rfl rfl hz_17 hv_18 rfl) rfl rfl (by kernel_rfl) ?_
      refine t1 6 (by kernel_rfl) rfl rfl (TOp_setT (f:=tInt.enc) (z:=0) (y:=r_12.1) tInt.len tInt.pos hz_17 sz3 rfl rfl rfl rfl rfl hv_18 rfl rfl ?_)
      refine TA_env (E':=[(4,.b 1 0),(5,.b 3 0),(27,.m [2] 0 (r_1.1.values.set (0:Int).toNat r_12.1).length tInt.k),(30,intA r_12.1)]) ⟨rfl,rfl,congrArg (fun q=>A.m [2] 0 q tInt.k) (List.length_set ..).symm,rfl,trivial⟩ ?_
      refine TA_st (σ':=[.box [sl (tI .u8) r_12.2.b,intA r_12.2.i,intA r_12.2.h],.box [intA 0,.n],.row (flat tInt.enc (r_1.1.values.set (0:Int).toNat r_12.1)),.box [intA r_1.1.relation,.m [2] 0 r_1.1.values.length tInt.k],.dead]) rfl ?_
      refine TA_st (σ':=[.box [sl (tI .u8) r_12.2.b,intA r_12.2.i,intA r_12.2.h],.box [intA 0,.n],.row (flat tInt.enc (r_1.1.values.set (0:Int).toNat r_12.1)),.box [intA r_1.1.relation,.m [2] 0 (r_1.1.values.set (0:Int).toNat r_12.1).length tInt.k],.dead]) (by simp only [List.length_set]) ?_
      refine TA_nil (by kernel_rfl) ?_
      refine sr ?_
      refine pv tb 1 rfl ?_
      refine TO_cons rfl (TOp_storeB sz30 rfl rfl rfl rfl rfl rfl rfl (by decide) (lb rfl) rfl ?_)
      refine TO_st (σ':=[.box [sl (tI .u8) r_12.2.b,intA r_12.2.i,intA r_12.2.h],.box [intA r_1.1.relation,.m [2] 0 (r_1.1.values.set (0:Int).toNat r_12.1).length tInt.k],.row (flat tInt.enc (r_1.1.values.set (0:Int).toNat r_12.1)),.box [intA r_1.1.relation,.m [2] 0 (r_1.1.values.set (0:Int).toNat r_12.1).length tInt.k],.dead]) rfl ?_
      refine TO_nil ?_
      refine T_ret ?_
      obtain rfl:=some_inj H
      exact end_pickX (.cellK rfl agg30 rfl (lb rfl) .nil) rfl [0,2] (by decide) (lb rfl) rfl (lb rfl) rfl rfl rfl rfl rfl rfl
     refine TA_have 3 #[true,true,true,true,false,false,false] [(4,.b 1 0),(5,.b 3 0),(27,.m [2] 0 r_1.1.values.length tInt.k),(28,.b 0 0),(29,sl tInt ([-1,10,9]:(List Int)))] [.box [sl (tI .u8) r_3.2.b,intA r_3.2.i,intA r_3.2.h],.box [intA 0,.n],.row (flat tInt.enc r_1.1.values),.box [intA r_1.1.relation,.m [2] 0 r_1.1.values.length tInt.k],.dead] ?_ (fun hj1_8=>?_)
     ·skip
      refine t1 4 (by kernel_rfl) rfl rfl (TOp_callS [0] (call_static ent67 rfl) (by decide) rfl rfl rfl rfl rfl rfl (msl1PickInt_x _ _ _ h_13) rfl rfl ?_)
      refine tae [(4,.b 1 0),(5,.b 3 0),(27,.m [2] 0 r_1.1.values.length tInt.k),(28,.b 0 0),(29,sl tInt ([-1,10,9]:(List Int))),(30,intA r_12.1)] rfl ?_
      refine TA_st (σ':=[.box [sl (tI .u8) r_12.2.b,intA r_12.2.i,intA r_12.2.h],.box [intA 0,.n],.row (flat tInt.enc r_1.1.values),.box [intA r_1.1.relation,.m [2] 0 r_1.1.values.length tInt.k],.dead]) rfl ?_
      exact tj hj0_8 rfl (w0 5)
     refine pa tb [0,2] 5 rfl (by kernel_rfl) rfl ?_
     refine TA_all [1,3] (by kernel_rfl) (by decide) ⟨?_,?_,trivial⟩
     ·skip
      refine ⟨_,rfl,rfl,TOp_pure (pur_ld_b one28 rfl rfl rfl rfl) rfl ?_⟩
      refine t1 3 (by kernel_rfl) rfl rfl (TOp_lit (nn:=3) (k:=1) sl28 zero3 rfl rfl rfl rfl (by decide) ?_)
      refine tmw 4 5 (by decide) (lb rfl) rfl rfl (lb rfl) rfl ?_
      refine TA_ghost (E':=[(0,.b 0 0),(4,.b 1 0),(5,.b 3 0),(24,boolA (decide (r_3.1=2))),(26,.b 3 1),(27,.m [2] 0 r_1.1.values.length tInt.k),(28,.b 0 0),(29,.m [4] 0 ([-1,10,9]:(List Int)).length tInt.k)]) (σ':=[.box [sl (tI .u8) r_3.2.b,intA r_3.2.i,intA r_3.2.h],.box [intA 0,.n],.row (flat tInt.enc r_1.1.values),.box [intA r_1.1.relation,.m [2] 0 r_1.1.values.length tInt.k],.row (flat tInt.enc ([-1,10,9]:(List Int))),.dead]) (Ghost.weak (WeakL.to 6 (lb rfl) rfl rfl rfl rfl ⟨leR rfl,leR rfl,leR rfl,leR rfl,leR rfl,leR rfl,leR rfl,leR rfl,trivial⟩)) ?_
      refine TA_frz1 4 (E':=[(0,.b 0 0),(4,.b 1 0),(5,.b 3 0),(24,boolA (decide (r_3.1=2))),(26,.b 3 1),(27,.m [2] 0 r_1.1.values.length tInt.k),(28,.b 0 0),(29,sl tInt ([-1,10,9]:(List Int)))]) rfl rfl (lb rfl) ⟨.keep rfl,.keep rfl,.keep rfl,.keep rfl,.keep rfl,.keep rfl,.keep rfl,fz1E,trivial⟩ ?_
      refine TA_st (σ':=[.box [sl (tI .u8) r_3.2.b,intA r_3.2.i,intA r_3.2.h],.box [intA 0,.n],.row (flat tInt.enc r_1.1.values),.box [intA r_1.1.relation,.m [2] 0 r_1.1.values.length tInt.k],.dead,.dead]) rfl ?_
      exact tj hj1_8 rfl (w0 5)
     ·skip
      refine ⟨_,rfl,rfl,TOp_lit (nn:=3) (k:=1) sl28 zero3 rfl rfl rfl rfl (by decide) ?_⟩
      refine tmw 4 5 (by decide) (lb rfl) rfl rfl (lb rfl) rfl ?_
      refine TA_ghost (E':=[(0,.b 0 0),(4,.b 1 0),(5,.b 3 0),(24,boolA (decide (r_3.1=2))),(26,.b 3 1),(28,.b 0 0),(29,.m [4] 0 ([-1,10,9]:(List Int)).length tInt.k)]) (σ':=[.box [sl (tI .u8) r_3.2.b,intA r_3.2.i,intA r_3.2.h],.box [intA 0,.n],.row (flat tInt.enc r_1.1.values),.box [intA r_1.1.relation,.m [2] 0 r_1.1.values.length tInt.k],.row (flat tInt.enc ([-1,10,9]:(List Int))),.dead]) (Ghost.weak (WeakL.to 6 (lb rfl) rfl rfl rfl rfl ⟨leR rfl,leR rfl,leR rfl,leR rfl,leR rfl,leR rfl,leR rfl,trivial⟩)) ?_
      refine TA_frz1 4 (E':=[(0,.b 0 0),(4,.b 1 0),(5,.b 3 0),(24,boolA (decide (r_3.1=2))),(26,.b 3 1),(28,.b 0 0),(29,sl tInt ([-1,10,9]:(List Int)))]) rfl rfl (lb rfl) ⟨.keep rfl,.keep rfl,.keep rfl,.keep rfl,.keep rfl,.keep rfl,fz1E,trivial⟩ ?_
      refine TA_st (σ':=[.box [sl (tI .u8) r_3.2.b,intA r_3.2.i,intA r_3.2.h],.box [intA 0,.n],.row (flat tInt.enc r_1.1.values),.box [intA r_1.1.relation,.m [2] 0 r_1.1.values.length tInt.k],.dead,.dead]) rfl ?_
      refine TA_all [1,4] (by kernel_rfl) (by decide) ⟨?_,?_,trivial⟩
      ·skip
       refine ⟨_,rfl,rfl,TOp_pure (pur_ld_b one28 rfl rfl rfl rfl) rfl ?_⟩
       exact tj hj1_8 rfl (w0 5)
      ·skip
       refine ⟨_,rfl,rfl,TOp_callS [0] (call_static ent67 rfl) (by decide) rfl rfl rfl rfl rfl rfl (msl1PickInt_x _ _ _ h_13) rfl rfl ?_⟩
       refine tae [(0,.b 0 0),(4,.b 1 0),(5,.b 3 0),(24,boolA (decide (r_3.1=2))),(26,.b 3 1),(28,.b 0 0),(29,sl tInt ([-1,10,9]:(List Int))),(30,intA r_12.1)] rfl ?_
       refine TA_st (σ':=[.box [sl (tI .u8) r_12.2.b,intA r_12.2.i,intA r_12.2.h],.box [intA 0,.n],.row (flat tInt.enc r_1.1.values),.box [intA r_1.1.relation,.m [2] 0 r_1.1.values.length tInt.k],.dead,.dead]) rfl ?_
       refine t1 1 (by kernel_rfl) rfl rfl (TOp_pure (pur_ld_b one28 rfl rfl rfl rfl) rfl ?_)
       exact tj hj0_8 rfl (w0 5)
    ·replace H:=cond_f c_11 H
     refine T_skip ?_
     refine sr ?_
     refine pv tb 1 rfl ?_
     refine TO_cons rfl (TOp_storeB sz30 rfl rfl rfl rfl rfl rfl rfl (by decide) (lb rfl) rfl ?_)
     refine TO_st (σ':=[.box [sl (tI .u8) r_3.2.b,intA r_3.2.i,intA r_3.2.h],.box [intA r_1.1.relation,.m [2] 0 r_1.1.values.length tInt.k],.row (flat tInt.enc r_1.1.values),.box [intA r_1.1.relation,.m [2] 0 r_1.1.values.length tInt.k]]) rfl ?_
     refine TO_nil ?_
     refine T_ret ?_
     obtain rfl:=some_inj H
     exact end_pickX (.cellK rfl agg30 rfl (lb rfl) .nil) rfl [0,2] (by decide) (lb rfl) rfl (lb rfl) rfl rfl rfl rfl rfl rfl

theorem msl1Pick_x (c0:l1Cur) (list1:(List ByteArray)) (r:(ByteArray × l1Cur)) (H:msl1Pick c0 list1=some r):FnS prg 35 [.b 0 0,sl tStr list1] [.box [sl (tI .u8) c0.b,intA c0.i,intA c0.h]] (strA r.1) [.box [sl (tI .u8) r.2.b,intA r.2.i,intA r.2.h]]:=by
  unfold msl1Pick at H
  refine fnS_of_T Tryz.func35 rfl rfl (Nat.le_of_ble_eq_true rfl) ?_
  refine te [(0,.b 0 0),(1,sl tStr list1)] rfl ?_
  refine T_st (σ':=[.box [sl (tI .u8) c0.b,intA c0.i,intA c0.h]]) rfl ?_
  refine sr ?_
  refine pv tb 1 rfl ?_
  refine TO_nil (sr ?_)
  refine pv tb 3 rfl ?_
  refine Tp rfl rfl (pur_lenT (T:=tStr) sl65 rfl rfl) rfl ?_
  obtain ⟨r_1,h_2,H⟩:=bind_inv H
  refine TO_cons rfl (TOp_callS [0] (call_static ent64 rfl) (by decide) rfl rfl rfl rfl rfl rfl (msl1Below_x _ _ _ h_2) rfl rfl ?_)
  refine toe [(0,.b 0 0),(1,sl tStr list1),(5,sl tStr list1),(6,.b 0 0),(7,sl tStr list1),(8,intA (list1.length:Int)),(9,intA r_1.1)] rfl ?_
  refine TO_st (σ':=[.box [sl (tI .u8) r_1.2.b,intA r_1.2.i,intA r_1.2.h]]) rfl ?_
  obtain ⟨v_3,h_4,H⟩:=bind_inv H
  obtain ⟨n_5,hz_6,hv_7⟩:=getI_inv h_4
  refine Tp rfl rfl (pur_ixT (T:=tStr) sl65 rfl rfl hz_6 hv_7 rfl) rfl ?_
  refine Tp rfl rfl (pur_ldT (T:=tStr) (i:=n_5) (off:=0) rfl one9 rfl rfl hv_7 rfl) rfl ?_
  refine pv tb 1 rfl ?_
  refine TO_nil ?_
  refine T_ret ?_
  obtain rfl:=some_inj H
  exact end_pickX (.tmp .nil) rfl [0] (by decide) (lb rfl) rfl (lb rfl) rfl rfl rfl rfl rfl rfl

theorem msl2Any_x (c0:l1Cur) (r:(Relation × l1Cur)) (H:msl2Any c0=some r):FnS prg 66 [.b 0 0] [.box [sl (tI .u8) c0.b,intA c0.i,intA c0.h]] (.g (tR.enc r.1)) [.box [sl (tI .u8) r.2.b,intA r.2.i,intA r.2.h]]:=by
  unfold msl2Any at H
  refine fnS_of_T Tryz.func66 rfl rfl (Nat.le_of_ble_eq_true rfl) ?_
  refine te [(0,.b 0 0)] rfl ?_
  refine T_st (σ':=[.box [sl (tI .u8) c0.b,intA c0.i,intA c0.h]]) rfl ?_
  refine sr ?_
  refine TO_cons rfl (TOp_alloc zero53 rfl rfl ?_)
  refine TO_nil (sr ?_)
  refine pv tb 1 rfl ?_
  refine TO_cons rfl (TOp_lit (nn:=6) (k:=1) sl65 zero9 rfl rfl rfl rfl (by decide) ?_)
  refine TO_st (σ':=[.box [sl (tI .u8) c0.b,intA c0.i,intA c0.h],.box [strA ByteArray.empty,intA 0,intA 0],.row (flat tStr.enc ([(⟨#[114]⟩:ByteArray),(⟨#[122]⟩:ByteArray),(⟨#[97]⟩:ByteArray),(⟨#[]⟩:ByteArray),(⟨#[82]⟩:ByteArray),(⟨#[97,98]⟩:ByteArray)]:(List ByteArray)))]) rfl ?_
  refine TO_frz1 2 (E':=[(0,.b 0 0),(2,.b 1 0),(3,.b 0 0),(4,sl tStr ([(⟨#[114]⟩:ByteArray),(⟨#[122]⟩:ByteArray),(⟨#[97]⟩:ByteArray),(⟨#[]⟩:ByteArray),(⟨#[82]⟩:ByteArray),(⟨#[97,98]⟩:ByteArray)]:(List ByteArray)))]) rfl rfl (lb rfl) ⟨.keep rfl,.keep rfl,.keep rfl,fz1E,trivial⟩ ?_
  refine TO_st (σ':=[.box [sl (tI .u8) c0.b,intA c0.i,intA c0.h],.box [strA ByteArray.empty,intA 0,intA 0],.dead]) rfl ?_
  obtain ⟨r_1,h_2,H⟩:=bind_inv H
  refine TO_cons rfl (TOp_callS [0] (call_static ent35 rfl) (by decide) rfl rfl rfl rfl rfl rfl (msl1Pick_x _ _ _ h_2) rfl rfl ?_)
  refine toe [(0,.b 0 0),(2,.b 1 0),(3,.b 0 0),(4,sl tStr ([(⟨#[114]⟩:ByteArray),(⟨#[122]⟩:ByteArray),(⟨#[97]⟩:ByteArray),(⟨#[]⟩:ByteArray),(⟨#[82]⟩:ByteArray),(⟨#[97,98]⟩:ByteArray)]:(List ByteArray))),(5,strA r_1.1)] rfl ?_
  refine TO_st (σ':=[.box [sl (tI .u8) r_1.2.b,intA r_1.2.i,intA r_1.2.h],.box [strA ByteArray.empty,intA 0,intA 0],.dead]) rfl ?_
  obtain ⟨r_3,h_4,H⟩:=bind_inv H
  refine pv tb 1 rfl ?_
  refine TO_cons rfl (TOp_callS [0] (call_static ent64 rfl) (by decide) rfl rfl rfl rfl rfl rfl (msl1Below_x _ _ _ h_4) rfl rfl ?_)
  refine toe [(0,.b 0 0),(2,.b 1 0),(3,.b 0 0),(4,sl tStr ([(⟨#[114]⟩:ByteArray),(⟨#[122]⟩:ByteArray),(⟨#[97]⟩:ByteArray),(⟨#[]⟩:ByteArray),(⟨#[82]⟩:ByteArray),(⟨#[97,98]⟩:ByteArray)]:(List ByteArray))),(5,strA r_1.1),(6,.b 0 0),(7,intA r_3.1)] rfl ?_
  refine TO_st (σ':=[.box [sl (tI .u8) r_3.2.b,intA r_3.2.i,intA r_3.2.h],.box [strA ByteArray.empty,intA 0,intA 0],.dead]) rfl ?_
  obtain ⟨r_5,h_6,H⟩:=bind_inv H
  refine pv tb 2 rfl ?_
  refine TO_cons rfl (TOp_callS [0] (call_static ent64 rfl) (by decide) rfl rfl rfl rfl rfl rfl (msl1Below_x _ _ _ h_6) rfl rfl ?_)
  refine toe [(0,.b 0 0),(2,.b 1 0),(3,.b 0 0),(4,sl tStr ([(⟨#[114]⟩:ByteArray),(⟨#[122]⟩:ByteArray),(⟨#[97]⟩:ByteArray),(⟨#[]⟩:ByteArray),(⟨#[82]⟩:ByteArray),(⟨#[97,98]⟩:ByteArray)]:(List ByteArray))),(5,strA r_1.1),(6,.b 0 0),(7,intA r_3.1),(8,intA (w64 (r_3.1 - 1))),(9,.b 0 0),(10,intA r_5.1)] rfl ?_
  refine TO_st (σ':=[.box [sl (tI .u8) r_5.2.b,intA r_5.2.i,intA r_5.2.h],.box [strA ByteArray.empty,intA 0,intA 0],.dead]) rfl ?_
  refine pv tb 1 rfl ?_
  refine Tp rfl rfl (pur_build bld53 rfl rfl) rfl ?_
  refine TO_cons rfl (TOp_storeB sz53 rfl rfl rfl rfl rfl rfl rfl (by decide) (lb rfl) rfl ?_)
  refine TO_st (σ':=[.box [sl (tI .u8) r_5.2.b,intA r_5.2.i,intA r_5.2.h],.box [strA r_1.1,intA (w64 (r_3.1 - 1)),intA (w64 (r_5.1 - 1))],.dead]) rfl ?_
  refine TO_nil ?_
  refine T_ret ?_
  obtain rfl:=some_inj H
  exact end_pickX (.cellK rfl agg53 rfl (lb rfl) .nil) rfl [0] (by decide) (lb rfl) rfl (lb rfl) rfl rfl rfl rfl rfl rfl

theorem msl4Any_x (u:Nat) (c0:l1Cur) (r:(Database × l1Cur)) (H:msl4Any u c0=some r):FnS prg 32 [.b 0 0] [.box [sl (tI .u8) c0.b,intA c0.i,intA c0.h]] (.g (tD.enc r.1)) [.box [sl (tI .u8) r.2.b,intA r.2.i,intA r.2.h]]:=by
  unfold msl4Any at H
  refine fnS_of_T Tryz.func32 rfl rfl (Nat.le_of_ble_eq_true rfl) ?_
  refine te [(0,.b 0 0)] rfl ?_
  refine T_st (σ':=[.box [sl (tI .u8) c0.b,intA c0.i,intA c0.h]]) rfl ?_
  refine sr ?_
  refine TO_cons rfl (TOp_alloc zero27 rfl rfl ?_)
  refine TO_nil (sr ?_)
  obtain ⟨r_1,h_2,H⟩:=bind_inv H
  refine pv tb 1 rfl ?_
  refine TO_cons rfl (TOp_callS [0] (call_static ent63 rfl) (by decide) rfl rfl rfl rfl rfl rfl (msl4Db_x u _ _ h_2) rfl rfl ?_)
  refine toe [(0,.b 0 0),(2,.b 1 0),(4,.b 0 0),(5,.g [.m [2] 0 r_1.1.relations.length tR.k,.m [3] 0 r_1.1.facts.length tF.k])] rfl ?_
  refine TO_st (σ':=[.box [sl (tI .u8) r_1.2.b,intA r_1.2.i,intA r_1.2.h],.box [.n,.n],.row (flat tR.enc r_1.1.relations),.row (flat tF.enc r_1.1.facts)]) rfl ?_
  refine TO_cons rfl (TOp_alloc zero27 rfl rfl ?_)
  refine TO_cons rfl (TOp_storeB sz27 rfl rfl rfl rfl rfl rfl rfl (by decide) (lb rfl) rfl ?_)
  refine TO_st (σ':=[.box [sl (tI .u8) r_1.2.b,intA r_1.2.i,intA r_1.2.h],.box [.n,.n],.row (flat tR.enc r_1.1.relations),.row (flat tF.enc r_1.1.facts),.box [.m [2] 0 r_1.1.relations.length tR.k,.m [3] 0 r_1.1.facts.length tF.k]]) rfl ?_
  refine TO_nil (T_seq (sr ?_))
  obtain ⟨r_3,h_4,H⟩:=bind_inv H
  refine pv tb 1 rfl ?_
  refine TO_cons rfl (TOp_callS [0] (call_static ent64 rfl) (by decide) rfl rfl rfl rfl rfl rfl (msl1Below_x _ _ _ h_4) rfl rfl ?_)
  refine toe [(0,.b 0 0),(2,.b 1 0),(3,.b 4 0),(6,.b 0 0),(7,intA r_3.1)] rfl ?_
  refine TO_st (σ':=[.box [sl (tI .u8) r_3.2.b,intA r_3.2.i,intA r_3.2.h],.box [.n,.n],.row (flat tR.enc r_1.1.relations),.row (flat tF.enc r_1.1.facts),.box [.m [2] 0 r_1.1.relations.length tR.k,.m [3] 0 r_1.1.facts.length tF.k]]) rfl ?_
  refine TO_nil ?_
  refine T_block ?_
  refine sr ?_
  refine pv tb 2 rfl ?_
  refine TO_nil ?_
  refine T_cond (t:=decide (r_3.1=0)) rfl (fun c_5=>?_) (fun c_5=>?_)
  ·replace H:=cond_t c_5 H
   obtain ⟨r_6,h_7,H⟩:=bind_inv H
   obtain ⟨us_8,h_9,H⟩:=bind_inv H
   refine T_pad ?_
   refine T_pad ?_
   refine T_regionP 0 mixed rfl ?_
   refine TA_have 3 #[true,true,true,true,true,true,true,false,false,false] [(2,.b 1 0),(3,.b 4 0),(11,.m [3] 0 r_1.1.facts.length tF.k),(16,.m [6] 0 ([r_6.1]:(List Fact)).length tF.k)] [.box [sl (tI .u8) r_6.2.b,intA r_6.2.i,intA r_6.2.h],.box [.n,.n],.dead,.row (flat tF.enc r_1.1.facts),.box [sl tR r_1.1.relations,.m [3] 0 r_1.1.facts.length tF.k],.dead,.row (flat tF.enc ([r_6.1]:(List Fact)))] ?_ (fun hj0_4=>?_)
   ·skip
    refine t1 7 (by kernel_rfl) rfl rfl (TOp_appY (T:=tF) (f:=tF.enc) (xs:=r_1.1.facts) (ys:=([r_6.1]:(List Fact))) tF.len sl25 zero30 rfl bytes30 (by decide) rfl rfl rfl rfl (src_mT (f:=tF.enc) tF.len rfl rfl (flat_cell tF _)) (flat_cell tF _) h_9 ?_)
    refine tmv 3 7 (by decide) (lb rfl) rfl rfl (lb rfl) ?_
    refine TA_st (σ':=[.box [sl (tI .u8) r_6.2.b,intA r_6.2.i,intA r_6.2.h],.box [.n,.n],.dead,.row (flat tF.enc us_8),.box [sl tR r_1.1.relations,.j],.dead,.row (flat tF.enc ([r_6.1]:(List Fact))),.dead]) rfl ?_
    refine pa tb [8] 1 rfl (by kernel_rfl) rfl ?_
    refine t1 9 (by kernel_rfl) rfl rfl (TOp_storeB sz25 rfl rfl rfl rfl rfl rfl rfl (by decide) (lb rfl) rfl ?_)
    refine TA_st (σ':=[.box [sl (tI .u8) r_6.2.b,intA r_6.2.i,intA r_6.2.h],.box [.n,.n],.dead,.row (flat tF.enc us_8),.box [sl tR r_1.1.relations,.m [3] 0 us_8.length tF.k],.dead,.row (flat tF.enc ([r_6.1]:(List Fact))),.dead]) rfl ?_
    refine TA_nil (by kernel_rfl) ?_
    refine sr ?_
    refine pv tb 1 rfl ?_
    refine TO_cons rfl (TOp_storeB sz27 rfl rfl rfl rfl rfl rfl rfl (by decide) (lb rfl) rfl ?_)
    refine TO_st (σ':=[.box [sl (tI .u8) r_6.2.b,intA r_6.2.i,intA r_6.2.h],.box [sl tR r_1.1.relations,.m [3] 0 us_8.length tF.k],.dead,.row (flat tF.enc us_8),.box [sl tR r_1.1.relations,.m [3] 0 us_8.length tF.k],.dead,.row (flat tF.enc ([r_6.1]:(List Fact))),.dead]) rfl ?_
    refine TO_nil ?_
    refine T_frzB 3 (E':=[(2,.b 1 0)]) (σ':=[.box [sl (tI .u8) r_6.2.b,intA r_6.2.i,intA r_6.2.h],.box [sl tR r_1.1.relations,sl tF us_8],.dead,.dead,.box [sl tR r_1.1.relations,sl tF us_8],.dead,.row (flat tF.enc ([r_6.1]:(List Fact))),.dead]) rfl (lb rfl) ?_ ?_ ?_
    ·exact ⟨.keep rfl,trivial⟩
    ·exact ⟨fzK rfl,fzC (.keep rfl) (fzC fz1E fzN),trivial,trivial,fzC (.keep rfl) (fzC fz1E fzN),trivial,rfl,trivial,trivial⟩
    refine T_ret ?_
    obtain rfl:=some_inj H
    exact end_pickX (.cellK rfl agg27 rfl (lb rfl) .nil) rfl [0] (by decide) (lb rfl) rfl (lb rfl) rfl rfl rfl rfl rfl rfl
   refine TA_have 4 #[true,true,true,true,true,true,false,false,false,false] [(2,.b 1 0),(3,.b 4 0),(11,.m [3] 0 r_1.1.facts.length tF.k),(15,.g [intA r_6.1.relation,sl tInt r_6.1.values])] [.box [sl (tI .u8) r_6.2.b,intA r_6.2.i,intA r_6.2.h],.box [.n,.n],.dead,.row (flat tF.enc r_1.1.facts),.box [sl tR r_1.1.relations,.m [3] 0 r_1.1.facts.length tF.k],.dead,.dead] ?_ (fun hj1_4=>?_)
   ·skip
    refine t1 6 (by kernel_rfl) rfl rfl (TOp_lit (nn:=1) (k:=2) sl25 zero30 rfl rfl rfl rfl (by decide) ?_)
    refine tmw 6 7 (by decide) (lb rfl) rfl rfl (lb rfl) rfl ?_
    exact tj hj0_4 rfl (w0 7)
   refine TA_have 5 #[true,true,true,true,true,false,false,false,false,false] [(2,.b 1 0),(3,.b 4 0),(11,.m [3] 0 r_1.1.facts.length tF.k),(12,.b 0 0),(14,sl tR r_1.1.relations)] [.box [sl (tI .u8) r_3.2.b,intA r_3.2.i,intA r_3.2.h],.box [.n,.n],.dead,.row (flat tF.enc r_1.1.facts),.box [sl tR r_1.1.relations,.m [3] 0 r_1.1.facts.length tF.k],.dead,.dead] ?_ (fun hj2_4=>?_)
   ·skip
    refine t1 5 (by kernel_rfl) rfl rfl (TOp_callS [0] (call_static ent65 rfl) (by decide) rfl rfl rfl rfl rfl rfl (msl3Any_x u _ _ _ h_7) rfl rfl ?_)
    refine tae [(2,.b 1 0),(3,.b 4 0),(11,.m [3] 0 r_1.1.facts.length tF.k),(12,.b 0 0),(14,sl tR r_1.1.relations),(15,.g [intA r_6.1.relation,.m [7] 0 r_6.1.values.length tInt.k])] rfl ?_
    refine TA_st (σ':=[.box [sl (tI .u8) r_6.2.b,intA r_6.2.i,intA r_6.2.h],.box [.n,.n],.dead,.row (flat tF.enc r_1.1.facts),.box [sl tR r_1.1.relations,.m [3] 0 r_1.1.facts.length tF.k],.dead,.dead,.row (flat tInt.enc r_6.1.values)]) rfl ?_
    refine tmw 5 7 (by decide) (lb rfl) rfl rfl (lb rfl) rfl ?_
    refine TA_ghost (E':=[(2,.b 1 0),(3,.b 4 0),(11,.m [3] 0 r_1.1.facts.length tF.k),(12,.b 0 0),(14,sl tR r_1.1.relations),(15,.g [intA r_6.1.relation,.m [5] 0 r_6.1.values.length tInt.k])]) (σ':=[.box [sl (tI .u8) r_6.2.b,intA r_6.2.i,intA r_6.2.h],.box [.n,.n],.dead,.row (flat tF.enc r_1.1.facts),.box [sl tR r_1.1.relations,.m [3] 0 r_1.1.facts.length tF.k],.row (flat tInt.enc r_6.1.values),.dead,.dead]) (Ghost.weak (WeakL.to 8 (lb rfl) rfl rfl rfl rfl ⟨leR rfl,leR rfl,leR rfl,leR rfl,leR rfl,leR rfl,trivial⟩)) ?_
    refine TA_frz1 5 (E':=[(2,.b 1 0),(3,.b 4 0),(11,.m [3] 0 r_1.1.facts.length tF.k),(12,.b 0 0),(14,sl tR r_1.1.relations),(15,.g [intA r_6.1.relation,sl tInt r_6.1.values])]) rfl rfl (lb rfl) ?_ ?_
    ·exact ⟨.keep rfl,.keep rfl,.keep rfl,.keep rfl,.keep rfl,fz1G (fzC (.keep rfl) (fzC fz1E fzN)),trivial⟩
    refine TA_st (σ':=[.box [sl (tI .u8) r_6.2.b,intA r_6.2.i,intA r_6.2.h],.box [.n,.n],.dead,.row (flat tF.enc r_1.1.facts),.box [sl tR r_1.1.relations,.m [3] 0 r_1.1.facts.length tF.k],.dead,.dead,.dead]) rfl ?_
    exact tj hj1_4 rfl (w0 7)
   refine pa tb [0,2,3] 7 rfl (by kernel_rfl) rfl ?_
   refine TA_all [1,4] (by kernel_rfl) (by decide) ⟨?_,?_,trivial⟩
   ·skip
    refine ⟨_,rfl,rfl,TOp_pure (pur_ld_b one25 rfl rfl rfl rfl) rfl ?_⟩
    refine t1 4 (by kernel_rfl) rfl rfl (TOp_pure (pur_ld_b one24 rfl rfl rfl rfl) rfl ?_)
    refine TA_ghost (E':=[(0,.b 0 0),(2,.b 1 0),(3,.b 4 0),(7,intA r_3.1),(8,boolA (decide (r_3.1=0))),(10,.b 4 1),(11,.m [3] 0 r_1.1.facts.length tF.k),(12,.b 0 0),(13,.b 4 0),(14,.m [2] 0 r_1.1.relations.length tR.k)]) (σ':=[.box [sl (tI .u8) r_3.2.b,intA r_3.2.i,intA r_3.2.h],.box [.n,.n],.row (flat tR.enc r_1.1.relations),.row (flat tF.enc r_1.1.facts),.box [.m [2] 0 r_1.1.relations.length tR.k,.m [3] 0 r_1.1.facts.length tF.k],.dead,.dead]) (Ghost.weak (WeakL.to 7 (lb rfl) rfl rfl rfl rfl ⟨leR rfl,leR rfl,leR rfl,leR rfl,leR rfl,leR rfl,leR rfl,leR rfl,leR rfl,leR rfl,trivial⟩)) ?_
    refine TA_frzB 2 (E':=[(0,.b 0 0),(2,.b 1 0),(3,.b 4 0),(7,intA r_3.1),(8,boolA (decide (r_3.1=0))),(10,.b 4 1),(11,.m [3] 0 r_1.1.facts.length tF.k),(12,.b 0 0),(13,.b 4 0),(14,sl tR r_1.1.relations)]) (σ':=[.box [sl (tI .u8) r_3.2.b,intA r_3.2.i,intA r_3.2.h],.box [.n,.n],.dead,.row (flat tF.enc r_1.1.facts),.box [sl tR r_1.1.relations,.m [3] 0 r_1.1.facts.length tF.k],.dead,.dead]) rfl (lb rfl) ?_ ?_ ?_
    ·exact ⟨.keep rfl,.keep rfl,.keep rfl,.keep rfl,.keep rfl,.keep rfl,.keep rfl,.keep rfl,.keep rfl,fz1E,trivial⟩
    ·exact ⟨fzK rfl,fzK rfl,trivial,rfl,fzC fz1E (fzC (.keep rfl) fzN),trivial,trivial,trivial⟩
    exact tj hj2_4 rfl (w0 7)
   ·skip
    refine ⟨_,rfl,rfl,TOp_pure (pur_ld_b one24 rfl rfl rfl rfl) rfl ?_⟩
    refine TA_ghost (E':=[(0,.b 0 0),(2,.b 1 0),(3,.b 4 0),(7,intA r_3.1),(8,boolA (decide (r_3.1=0))),(10,.b 4 1),(12,.b 0 0),(13,.b 4 0),(14,.m [2] 0 r_1.1.relations.length tR.k)]) (σ':=[.box [sl (tI .u8) r_3.2.b,intA r_3.2.i,intA r_3.2.h],.box [.n,.n],.row (flat tR.enc r_1.1.relations),.row (flat tF.enc r_1.1.facts),.box [.m [2] 0 r_1.1.relations.length tR.k,.m [3] 0 r_1.1.facts.length tF.k],.dead,.dead]) (Ghost.weak (WeakL.to 7 (lb rfl) rfl rfl rfl rfl ⟨leR rfl,leR rfl,leR rfl,leR rfl,leR rfl,leR rfl,leR rfl,leR rfl,leR rfl,trivial⟩)) ?_
    refine TA_frzB 2 (E':=[(0,.b 0 0),(2,.b 1 0),(3,.b 4 0),(7,intA r_3.1),(8,boolA (decide (r_3.1=0))),(10,.b 4 1),(12,.b 0 0),(13,.b 4 0),(14,sl tR r_1.1.relations)]) (σ':=[.box [sl (tI .u8) r_3.2.b,intA r_3.2.i,intA r_3.2.h],.box [.n,.n],.dead,.row (flat tF.enc r_1.1.facts),.box [sl tR r_1.1.relations,.m [3] 0 r_1.1.facts.length tF.k],.dead,.dead]) rfl (lb rfl) ?_ ?_ ?_
    ·exact ⟨.keep rfl,.keep rfl,.keep rfl,.keep rfl,.keep rfl,.keep rfl,.keep rfl,.keep rfl,fz1E,trivial⟩
    ·exact ⟨fzK rfl,fzK rfl,trivial,rfl,fzC fz1E (fzC (.keep rfl) fzN),trivial,trivial,trivial⟩
    refine TA_all [1,5] (by kernel_rfl) (by decide) ⟨?_,?_,trivial⟩
    ·skip
     refine ⟨_,rfl,rfl,TOp_pure (pur_ld_b one25 rfl rfl rfl rfl) rfl ?_⟩
     exact tj hj2_4 rfl (w0 7)
    ·skip
     refine ⟨_,rfl,rfl,TOp_callS [0] (call_static ent65 rfl) (by decide) rfl rfl rfl rfl rfl rfl (msl3Any_x u _ _ _ h_7) rfl rfl ?_⟩
     refine tae [(0,.b 0 0),(2,.b 1 0),(3,.b 4 0),(7,intA r_3.1),(8,boolA (decide (r_3.1=0))),(10,.b 4 1),(12,.b 0 0),(13,.b 4 0),(14,sl tR r_1.1.relations),(15,.g [intA r_6.1.relation,.m [7] 0 r_6.1.values.length tInt.k])] rfl ?_
     refine TA_st (σ':=[.box [sl (tI .u8) r_6.2.b,intA r_6.2.i,intA r_6.2.h],.box [.n,.n],.dead,.row (flat tF.enc r_1.1.facts),.box [sl tR r_1.1.relations,.m [3] 0 r_1.1.facts.length tF.k],.dead,.dead,.row (flat tInt.enc r_6.1.values)]) rfl ?_
     refine tmw 5 7 (by decide) (lb rfl) rfl rfl (lb rfl) rfl ?_
     refine TA_ghost (E':=[(0,.b 0 0),(2,.b 1 0),(3,.b 4 0),(7,intA r_3.1),(8,boolA (decide (r_3.1=0))),(10,.b 4 1),(12,.b 0 0),(13,.b 4 0),(14,sl tR r_1.1.relations),(15,.g [intA r_6.1.relation,.m [5] 0 r_6.1.values.length tInt.k])]) (σ':=[.box [sl (tI .u8) r_6.2.b,intA r_6.2.i,intA r_6.2.h],.box [.n,.n],.dead,.row (flat tF.enc r_1.1.facts),.box [sl tR r_1.1.relations,.m [3] 0 r_1.1.facts.length tF.k],.row (flat tInt.enc r_6.1.values),.dead,.dead]) (Ghost.weak (WeakL.to 8 (lb rfl) rfl rfl rfl rfl ⟨leR rfl,leR rfl,leR rfl,leR rfl,leR rfl,leR rfl,leR rfl,leR rfl,leR rfl,leR rfl,trivial⟩)) ?_
     refine TA_frz1 5 (E':=[(0,.b 0 0),(2,.b 1 0),(3,.b 4 0),(7,intA r_3.1),(8,boolA (decide (r_3.1=0))),(10,.b 4 1),(12,.b 0 0),(13,.b 4 0),(14,sl tR r_1.1.relations),(15,.g [intA r_6.1.relation,sl tInt r_6.1.values])]) rfl rfl (lb rfl) ?_ ?_
     ·exact ⟨.keep rfl,.keep rfl,.keep rfl,.keep rfl,.keep rfl,.keep rfl,.keep rfl,.keep rfl,.keep rfl,fz1G (fzC (.keep rfl) (fzC fz1E fzN)),trivial⟩
     refine TA_st (σ':=[.box [sl (tI .u8) r_6.2.b,intA r_6.2.i,intA r_6.2.h],.box [.n,.n],.dead,.row (flat tF.enc r_1.1.facts),.box [sl tR r_1.1.relations,.m [3] 0 r_1.1.facts.length tF.k],.dead,.dead,.dead]) rfl ?_
     refine TA_all [1,6] (by kernel_rfl) (by decide) ⟨?_,?_,trivial⟩
     ·skip
      refine ⟨_,rfl,rfl,TOp_pure (pur_ld_b one25 rfl rfl rfl rfl) rfl ?_⟩
      exact tj hj1_4 rfl (w0 7)
     ·skip
      refine ⟨_,rfl,rfl,TOp_lit (nn:=1) (k:=2) sl25 zero30 rfl rfl rfl rfl (by decide) ?_⟩
      refine tmw 6 8 (by decide) (lb rfl) rfl rfl (lb rfl) rfl ?_
      refine t1 1 (by kernel_rfl) rfl rfl (TOp_pure (pur_ld_b one25 rfl rfl rfl rfl) rfl ?_)
      exact tj hj0_4 rfl (w0 7)
  ·replace H:=cond_f c_5 H
   refine sr ?_
   refine pv tb 2 rfl ?_
   refine TO_nil ?_
   refine T_cond (t:=decide (r_3.1=1)) rfl (fun c_10=>?_) (fun c_10=>?_)
   ·replace H:=cond_t c_10 H
    obtain ⟨r_11,h_12,H⟩:=bind_inv H
    obtain ⟨ys_13,h_14,H⟩:=bind_inv H
    obtain ⟨i_15,j_16,hi_17,hj_18,hij_19,hjl_20,hys_21,_⟩:=cutI_inv h_14
    refine T_regionP 0 mixed rfl ?_
    refine TA_have 3 #[true,true,true,true,false,false,false] [(2,.b 1 0),(3,.b 4 0),(22,.m [2] 0 r_1.1.relations.length tR.k),(24,intA r_11.1)] [.box [sl (tI .u8) r_11.2.b,intA r_11.2.i,intA r_11.2.h],.box [.n,.n],.row (flat tR.enc r_1.1.relations),.row (flat tF.enc r_1.1.facts),.box [.m [2] 0 r_1.1.relations.length tR.k,.m [3] 0 r_1.1.facts.length tF.k]] ?_ (fun hj0_6=>?_)
    ·skip
     refine tf 4 rfl (pur_cutM (lo:=none) (hi:=(some (.tmp 24))) sl24 rfl hi_17.symm ⟨_,congrArg (fun z=>A.v (.int .i64 z)) hj_18⟩ hij_19 hjl_20 rfl) rfl rfl (by kernel_rfl) ?_
     refine pa tb [5] 1 rfl (by kernel_rfl) rfl ?_
     refine t1 6 (by kernel_rfl) rfl rfl (TOp_storeB sz24 rfl rfl rfl rfl rfl rfl rfl (by decide) (lb rfl) rfl ?_)
     refine TA_st (σ':=[.box [sl (tI .u8) r_11.2.b,intA r_11.2.i,intA r_11.2.h],.box [.n,.n],.row (flat tR.enc r_1.1.relations),.row (flat tF.enc r_1.1.facts),.box [.m [2] (i_15*tR.k) (j_16 - i_15) tR.k,.m [3] 0 r_1.1.facts.length tF.k]]) rfl ?_
     refine TA_nil (by kernel_rfl) ?_
     refine sr ?_
     refine pv tb 1 rfl ?_
     refine TO_cons rfl (TOp_storeB sz27 rfl rfl rfl rfl rfl rfl rfl (by decide) (lb rfl) rfl ?_)
     refine TO_st (σ':=[.box [sl (tI .u8) r_11.2.b,intA r_11.2.i,intA r_11.2.h],.box [.m [2] (i_15*tR.k) (j_16 - i_15) tR.k,.m [3] 0 r_1.1.facts.length tF.k],.row (flat tR.enc r_1.1.relations),.row (flat tF.enc r_1.1.facts),.box [.m [2] (i_15*tR.k) (j_16 - i_15) tR.k,.m [3] 0 r_1.1.facts.length tF.k]]) rfl ?_
     refine TO_nil ?_
     refine T_frzB 2 (E':=[(2,.b 1 0)]) (σ':=[.box [sl (tI .u8) r_11.2.b,intA r_11.2.i,intA r_11.2.h],.box [sl tR ys_13,.m [3] 0 r_1.1.facts.length tF.k],.dead,.row (flat tF.enc r_1.1.facts),.box [sl tR ys_13,.m [3] 0 r_1.1.facts.length tF.k]]) rfl (lb rfl) ?_ ?_ ?_
     ·exact ⟨.keep rfl,trivial⟩
     ·exact ⟨fzK rfl,fzC (fz1C hij_19 hjl_20 hys_21) (fzC (.keep rfl) fzN),trivial,rfl,fzC (fz1C hij_19 hjl_20 hys_21) (fzC (.keep rfl) fzN),trivial⟩
     refine T_frzB 3 (E':=[(2,.b 1 0)]) (σ':=[.box [sl (tI .u8) r_11.2.b,intA r_11.2.i,intA r_11.2.h],.box [sl tR ys_13,sl tF r_1.1.facts],.dead,.dead,.box [sl tR ys_13,sl tF r_1.1.facts]]) rfl (lb rfl) ?_ ?_ ?_
     ·exact ⟨.keep rfl,trivial⟩
     ·exact ⟨fzK rfl,fzC (.keep rfl) (fzC fz1E fzN),trivial,trivial,fzC (.keep rfl) (fzC fz1E fzN),trivial⟩
     refine T_ret ?_
     obtain rfl:=some_inj H
     exact end_pickX (.cellK rfl agg27 rfl (lb rfl) .nil) rfl [0] (by decide) (lb rfl) rfl (lb rfl) rfl rfl rfl rfl rfl rfl
    refine pa tb [0,2] 5 rfl (by kernel_rfl) rfl ?_
    refine TA_all [1,3] (by kernel_rfl) (by decide) ⟨?_,?_,trivial⟩
    ·skip
     refine ⟨_,rfl,rfl,TOp_pure (pur_ld_b one24 rfl rfl rfl rfl) rfl ?_⟩
     refine t1 3 (by kernel_rfl) rfl rfl (TOp_callS [0] (call_static ent64 rfl) (by decide) rfl rfl rfl rfl rfl rfl (msl1Below_x _ _ _ h_12) rfl rfl ?_)
     refine tae [(0,.b 0 0),(2,.b 1 0),(3,.b 4 0),(7,intA r_3.1),(19,boolA (decide (r_3.1=1))),(21,.b 4 0),(22,.m [2] 0 r_1.1.relations.length tR.k),(23,.b 0 0),(24,intA r_11.1)] rfl ?_
     refine TA_st (σ':=[.box [sl (tI .u8) r_11.2.b,intA r_11.2.i,intA r_11.2.h],.box [.n,.n],.row (flat tR.enc r_1.1.relations),.row (flat tF.enc r_1.1.facts),.box [.m [2] 0 r_1.1.relations.length tR.k,.m [3] 0 r_1.1.facts.length tF.k]]) rfl ?_
     exact tj hj0_6 rfl (w0 5)
    ·skip
     refine ⟨_,rfl,rfl,TOp_callS [0] (call_static ent64 rfl) (by decide) rfl rfl rfl rfl rfl rfl (msl1Below_x _ _ _ h_12) rfl rfl ?_⟩
     refine tae [(0,.b 0 0),(2,.b 1 0),(3,.b 4 0),(7,intA r_3.1),(19,boolA (decide (r_3.1=1))),(21,.b 4 0),(23,.b 0 0),(24,intA r_11.1)] rfl ?_
     refine TA_st (σ':=[.box [sl (tI .u8) r_11.2.b,intA r_11.2.i,intA r_11.2.h],.box [.n,.n],.row (flat tR.enc r_1.1.relations),.row (flat tF.enc r_1.1.facts),.box [.m [2] 0 r_1.1.relations.length tR.k,.m [3] 0 r_1.1.facts.length tF.k]]) rfl ?_
     refine t1 1 (by kernel_rfl) rfl rfl (TOp_pure (pur_ld_b one24 rfl rfl rfl rfl) rfl ?_)
     exact tj hj0_6 rfl (w0 5)
   ·replace H:=cond_f c_10 H
    refine sr ?_
    refine pv tb 2 rfl ?_
    refine TO_nil ?_
    refine T_cond (t:=decide (r_3.1=2)) rfl (fun c_22=>?_) (fun c_22=>?_)
    ·replace H:=cond_t c_22 H
     obtain ⟨r_23,h_24,H⟩:=bind_inv H
     obtain ⟨r_25,h_26,H⟩:=bind_inv H
     obtain ⟨v_27,h_28,H⟩:=bind_inv H
     obtain ⟨n_29,hz_30,hv_31⟩:=getI_inv h_28
     refine T_regionP 0 mixed rfl ?_
     refine TA_have 2 #[true,true,true,true,true,true,false,false] [(2,.b 1 0),(3,.b 4 0),(30,.m [2] 0 r_1.1.relations.length tR.k),(32,intA r_23.1),(34,.g (tR.enc r_25.1))] [.box [sl (tI .u8) r_25.2.b,intA r_25.2.i,intA r_25.2.h],.box [.n,.n],.row (flat tR.enc r_1.1.relations),.row (flat tF.enc r_1.1.facts),.box [.m [2] 0 r_1.1.relations.length tR.k,.m [3] 0 r_1.1.facts.length tF.k]] ?_ (fun hj0_8=>?_)
     ·skip
      refine tf 6 rfl (pur_ixM (T:=tR) sl24 rfl rfl hz_30 hv_31 rfl) rfl rfl (by kernel_rfl) ?_
      refine t1 7 (by kernel_rfl) rfl rfl (TOp_setT (f:=tR.enc) (z:=r_23.1) (y:=r_25.1) tR.len tR.pos hz_30 sz53 rfl rfl rfl rfl rfl hv_31 rfl rfl ?_)
      refine TA_env (E':=[(2,.b 1 0),(3,.b 4 0),(30,.m [2] 0 (r_1.1.relations.set (r_23.1).toNat r_25.1).length tR.k),(32,intA r_23.1),(34,.g (tR.enc r_25.1))]) ⟨rfl,rfl,congrArg (fun q=>A.m [2] 0 q tR.k) (List.length_set ..).symm,rfl,rfl,trivial⟩ ?_
      refine TA_st (σ':=[.box [sl (tI .u8) r_25.2.b,intA r_25.2.i,intA r_25.2.h],.box [.n,.n],.row (flat tR.enc (r_1.1.relations.set (r_23.1).toNat r_25.1)),.row (flat tF.enc r_1.1.facts),.box [.m [2] 0 r_1.1.relations.length tR.k,.m [3] 0 r_1.1.facts.length tF.k]]) rfl ?_
      refine TA_st (σ':=[.box [sl (tI .u8) r_25.2.b,intA r_25.2.i,intA r_25.2.h],.box [.n,.n],.row (flat tR.enc (r_1.1.relations.set (r_23.1).toNat r_25.1)),.row (flat tF.enc r_1.1.facts),.box [.m [2] 0 (r_1.1.relations.set (r_23.1).toNat r_25.1).length tR.k,.m [3] 0 r_1.1.facts.length tF.k]]) (by simp only [List.length_set]) ?_
      refine TA_nil (by kernel_rfl) ?_
      refine sr ?_
      refine pv tb 1 rfl ?_
      refine TO_cons rfl (TOp_storeB sz27 rfl rfl rfl rfl rfl rfl rfl (by decide) (lb rfl) rfl ?_)
      refine TO_st (σ':=[.box [sl (tI .u8) r_25.2.b,intA r_25.2.i,intA r_25.2.h],.box [.m [2] 0 (r_1.1.relations.set (r_23.1).toNat r_25.1).length tR.k,.m [3] 0 r_1.1.facts.length tF.k],.row (flat tR.enc (r_1.1.relations.set (r_23.1).toNat r_25.1)),.row (flat tF.enc r_1.1.facts),.box [.m [2] 0 (r_1.1.relations.set (r_23.1).toNat r_25.1).length tR.k,.m [3] 0 r_1.1.facts.length tF.k]]) rfl ?_
      refine TO_nil ?_
      refine T_frzB 2 (E':=[(2,.b 1 0)]) (σ':=[.box [sl (tI .u8) r_25.2.b,intA r_25.2.i,intA r_25.2.h],.box [sl tR (r_1.1.relations.set (r_23.1).toNat r_25.1),.m [3] 0 r_1.1.facts.length tF.k],.dead,.row (flat tF.enc r_1.1.facts),.box [sl tR (r_1.1.relations.set (r_23.1).toNat r_25.1),.m [3] 0 r_1.1.facts.length tF.k]]) rfl (lb rfl) ?_ ?_ ?_
      ·exact ⟨.keep rfl,trivial⟩
      ·exact ⟨fzK rfl,fzC fz1E (fzC (.keep rfl) fzN),trivial,rfl,fzC fz1E (fzC (.keep rfl) fzN),trivial⟩
      refine T_frzB 3 (E':=[(2,.b 1 0)]) (σ':=[.box [sl (tI .u8) r_25.2.b,intA r_25.2.i,intA r_25.2.h],.box [sl tR (r_1.1.relations.set (r_23.1).toNat r_25.1),sl tF r_1.1.facts],.dead,.dead,.box [sl tR (r_1.1.relations.set (r_23.1).toNat r_25.1),sl tF r_1.1.facts]]) rfl (lb rfl) ?_ ?_ ?_
      ·exact ⟨.keep rfl,trivial⟩
      ·exact ⟨fzK rfl,fzC (.keep rfl) (fzC fz1E fzN),trivial,trivial,fzC (.keep rfl) (fzC fz1E fzN),trivial⟩
      refine T_ret ?_
      obtain rfl:=some_inj H
      exact end_pickX (.cellK rfl agg27 rfl (lb rfl) .nil) rfl [0] (by decide) (lb rfl) rfl (lb rfl) rfl rfl rfl rfl rfl rfl
     refine TA_have 3 #[true,true,true,true,true,false,false,false] [(2,.b 1 0),(3,.b 4 0),(30,.m [2] 0 r_1.1.relations.length tR.k),(32,intA r_23.1),(33,.b 0 0)] [.box [sl (tI .u8) r_23.2.b,intA r_23.2.i,intA r_23.2.h],.box [.n,.n],.row (flat tR.enc r_1.1.relations),.row (flat tF.enc r_1.1.facts),.box [.m [2] 0 r_1.1.relations.length tR.k,.m [3] 0 r_1.1.facts.length tF.k]] ?_ (fun hj1_8=>?_)
     ·skip
      refine t1 5 (by kernel_rfl) rfl rfl (TOp_callS [0] (call_static ent66 rfl) (by decide) rfl rfl rfl rfl rfl rfl (msl2Any_x _ _ h_26) rfl rfl ?_)
      refine tae [(2,.b 1 0),(3,.b 4 0),(30,.m [2] 0 r_1.1.relations.length tR.k),(32,intA r_23.1),(33,.b 0 0),(34,.g (tR.enc r_25.1))] rfl ?_
      refine TA_st (σ':=[.box [sl (tI .u8) r_25.2.b,intA r_25.2.i,intA r_25.2.h],.box [.n,.n],.row (flat tR.enc r_1.1.relations),.row (flat tF.enc r_1.1.facts),.box [.m [2] 0 r_1.1.relations.length tR.k,.m [3] 0 r_1.1.facts.length tF.k]]) rfl ?_
      exact tj hj0_8 rfl (w0 5)
     refine pa tb [0,2,4] 5 rfl (by kernel_rfl) rfl ?_
     refine TA_all [1,3] (by kernel_rfl) (by decide) ⟨?_,?_,trivial⟩
     ·skip
      refine ⟨_,rfl,rfl,TOp_pure (pur_ld_b one24 rfl rfl rfl rfl) rfl ?_⟩
      refine t1 3 (by kernel_rfl) rfl rfl (TOp_callS [0] (call_static ent64 rfl) (by decide) rfl rfl rfl rfl rfl rfl (msl1Below_x _ _ _ h_24) rfl rfl ?_)
      refine tae [(0,.b 0 0),(2,.b 1 0),(3,.b 4 0),(27,boolA (decide (r_3.1=2))),(29,.b 4 0),(30,.m [2] 0 r_1.1.relations.length tR.k),(31,.b 0 0),(32,intA r_23.1),(33,.b 0 0)] rfl ?_
      refine TA_st (σ':=[.box [sl (tI .u8) r_23.2.b,intA r_23.2.i,intA r_23.2.h],.box [.n,.n],.row (flat tR.enc r_1.1.relations),.row (flat tF.enc r_1.1.facts),.box [.m [2] 0 r_1.1.relations.length tR.k,.m [3] 0 r_1.1.facts.length tF.k]]) rfl ?_
      exact tj hj1_8 rfl (w0 5)
     ·skip
      refine ⟨_,rfl,rfl,TOp_callS [0] (call_static ent64 rfl) (by decide) rfl rfl rfl rfl rfl rfl (msl1Below_x _ _ _ h_24) rfl rfl ?_⟩
      refine tae [(0,.b 0 0),(2,.b 1 0),(3,.b 4 0),(27,boolA (decide (r_3.1=2))),(29,.b 4 0),(31,.b 0 0),(32,intA r_23.1),(33,.b 0 0)] rfl ?_
      refine TA_st (σ':=[.box [sl (tI .u8) r_23.2.b,intA r_23.2.i,intA r_23.2.h],.box [.n,.n],.row (flat tR.enc r_1.1.relations),.row (flat tF.enc r_1.1.facts),.box [.m [2] 0 r_1.1.relations.length tR.k,.m [3] 0 r_1.1.facts.length tF.k]]) rfl ?_
      refine TA_all [1,5] (by kernel_rfl) (by decide) ⟨?_,?_,trivial⟩
      ·skip
       refine ⟨_,rfl,rfl,TOp_pure (pur_ld_b one24 rfl rfl rfl rfl) rfl ?_⟩
       exact tj hj1_8 rfl (w0 5)
      ·skip
       refine ⟨_,rfl,rfl,TOp_callS [0] (call_static ent66 rfl) (by decide) rfl rfl rfl rfl rfl rfl (msl2Any_x _ _ h_26) rfl rfl ?_⟩
       refine tae [(0,.b 0 0),(2,.b 1 0),(3,.b 4 0),(27,boolA (decide (r_3.1=2))),(29,.b 4 0),(31,.b 0 0),(32,intA r_23.1),(33,.b 0 0),(34,.g (tR.enc r_25.1))] rfl ?_
       refine TA_st (σ':=[.box [sl (tI .u8) r_25.2.b,intA r_25.2.i,intA r_25.2.h],.box [.n,.n],.row (flat tR.enc r_1.1.relations),.row (flat tF.enc r_1.1.facts),.box [.m [2] 0 r_1.1.relations.length tR.k,.m [3] 0 r_1.1.facts.length tF.k]]) rfl ?_
       refine t1 1 (by kernel_rfl) rfl rfl (TOp_pure (pur_ld_b one24 rfl rfl rfl rfl) rfl ?_)
       exact tj hj0_8 rfl (w0 5)
    ·replace H:=cond_f c_22 H
     refine T_skip ?_
     refine sr ?_
     refine pv tb 1 rfl ?_
     refine TO_cons rfl (TOp_storeB sz27 rfl rfl rfl rfl rfl rfl rfl (by decide) (lb rfl) rfl ?_)
     refine TO_st (σ':=[.box [sl (tI .u8) r_3.2.b,intA r_3.2.i,intA r_3.2.h],.box [.m [2] 0 r_1.1.relations.length tR.k,.m [3] 0 r_1.1.facts.length tF.k],.row (flat tR.enc r_1.1.relations),.row (flat tF.enc r_1.1.facts),.box [.m [2] 0 r_1.1.relations.length tR.k,.m [3] 0 r_1.1.facts.length tF.k]]) rfl ?_
     refine TO_nil ?_
     refine T_frzB 2 (E':=[(2,.b 1 0)]) (σ':=[.box [sl (tI .u8) r_3.2.b,intA r_3.2.i,intA r_3.2.h],.box [sl tR r_1.1.relations,.m [3] 0 r_1.1.facts.length tF.k],.dead,.row (flat tF.enc r_1.1.facts),.box [sl tR r_1.1.relations,.m [3] 0 r_1.1.facts.length tF.k]]) rfl (lb rfl) ?_ ?_ ?_
     ·exact ⟨.keep rfl,trivial⟩
     ·exact ⟨fzK rfl,fzC fz1E (fzC (.keep rfl) fzN),trivial,rfl,fzC fz1E (fzC (.keep rfl) fzN),trivial⟩
     refine T_frzB 3 (E':=[(2,.b 1 0)]) (σ':=[.box [sl (tI .u8) r_3.2.b,intA r_3.2.i,intA r_3.2.h],.box [sl tR r_1.1.relations,sl tF r_1.1.facts],.dead,.dead,.box [sl tR r_1.1.relations,sl tF r_1.1.facts]]) rfl (lb rfl) ?_ ?_ ?_
     ·exact ⟨.keep rfl,trivial⟩
     ·exact ⟨fzK rfl,fzC (.keep rfl) (fzC fz1E fzN),trivial,trivial,fzC (.keep rfl) (fzC fz1E fzN),trivial⟩
     refine T_ret ?_
     obtain rfl:=some_inj H
     exact end_pickX (.cellK rfl agg27 rfl (lb rfl) .nil) rfl [0] (by decide) (lb rfl) rfl (lb rfl) rfl rfl rfl rfl rfl rfl

theorem msl1Once_x (c0:l1Cur) (n1:Int) (r:(Bool × l1Cur)) (H:msl1Once c0 n1=some r):FnS prg 34 [.b 0 0,intA n1] [.box [sl (tI .u8) c0.b,intA c0.i,intA c0.h]] (boolA r.1) [.box [sl (tI .u8) r.2.b,intA r.2.i,intA r.2.h]]:=by
  unfold msl1Once at H
  refine fnS_of_T Tryz.func34 rfl rfl (Nat.le_of_ble_eq_true rfl) ?_
  refine te [(0,.b 0 0),(1,intA n1)] rfl ?_
  refine T_st (σ':=[.box [sl (tI .u8) c0.b,intA c0.i,intA c0.h]]) rfl ?_
  refine sr ?_
  refine pv tb 1 rfl ?_
  refine TO_nil (sr ?_)
  obtain ⟨r_1,h_2,H⟩:=bind_inv H
  refine pv tb 2 rfl ?_
  refine TO_cons rfl (TOp_callS [0] (call_static ent64 rfl) (by decide) rfl rfl rfl rfl rfl rfl (msl1Below_x _ _ _ h_2) rfl rfl ?_)
  refine toe [(0,.b 0 0),(1,intA n1),(5,.b 0 0),(6,intA n1),(7,intA r_1.1)] rfl ?_
  refine TO_st (σ':=[.box [sl (tI .u8) r_1.2.b,intA r_1.2.i,intA r_1.2.h]]) rfl ?_
  refine pv tb 2 rfl ?_
  refine TO_nil ?_
  refine T_ret ?_
  obtain rfl:=some_inj H
  exact end_pickX (.tmp .nil) rfl [0] (by decide) (lb rfl) rfl (lb rfl) rfl rfl rfl rfl rfl rfl

theorem msl4Fact_x (u:Nat) (c0:l1Cur) (d1:Database) (r:(Fact × l1Cur)) (H:msl4Fact u c0 d1=some r):FnS prg 68 [.b 0 0,.g (tD.enc d1)] [.box [sl (tI .u8) c0.b,intA c0.i,intA c0.h]] (.g (tF.enc r.1)) [.box [sl (tI .u8) r.2.b,intA r.2.i,intA r.2.h]]:=by
  unfold msl4Fact at H
  refine fnS_of_T Tryz.func68 rfl rfl (Nat.le_of_ble_eq_true rfl) ?_
  refine te [(0,.b 0 0),(1,.g (tD.enc d1))] rfl ?_
  refine T_st (σ':=[.box [sl (tI .u8) c0.b,intA c0.i,intA c0.h]]) rfl ?_
  refine sr ?_
  refine TO_cons rfl (TOp_box rfl (boxAll rfl) rfl rfl ?_)
  refine TO_cons rfl (TOp_alloc zero30 rfl rfl ?_)
  refine TO_nil (T_seq ?_)
  obtain ⟨⟨t12_1,box0_1⟩,J_1,H_2⟩:=bind_inv H
  refine T_cutX (fun x=>(t12_1,box0_1)=x) (fun (⟨t12_1,box0_1⟩:Bool × l1Cur)=>[(0,.b 0 0),(3,.b 1 0),(4,.b 2 0),(12,boolA t12_1)]) (fun (⟨t12_1,box0_1⟩:Bool × l1Cur)=>[.box [sl (tI .u8) box0_1.b,intA box0_1.i,intA box0_1.h],.box [sl tR d1.relations,sl tF d1.facts],.box [intA 0,.n]]) ?_ ?_
  ·replace H:=J_1
   refine T_region ?_
   refine pv tb 2 rfl ?_
   refine Tp rfl rfl (pur_lenT (T:=tF) sl25 rfl rfl) rfl ?_
   refine pv tb 2 rfl ?_
   refine TO_split (t:=decide (0<(d1.facts.length:Int))) 9 rfl (fun g_3=>?_) (fun g_3=>?_)
   ·replace H:=cond_t g_3 H
    obtain ⟨r_4,h_5,H⟩:=bind_inv H
    refine pv tb 1 rfl ?_
    refine TO_on rfl rfl (by decide) rfl rfl (TOp_callS [0] (call_static ent34 rfl) (by decide) rfl rfl rfl rfl rfl rfl (msl1Once_x _ _ _ h_5) rfl rfl ?_)
    refine toe [(0,.b 0 0),(3,.b 1 0),(4,.b 2 0),(5,.b 1 1),(6,sl tF d1.facts),(7,intA (d1.facts.length:Int)),(8,boolA (decide (0<(d1.facts.length:Int)))),(9,boolA true),(10,.b 0 0),(11,boolA r_4.1)] rfl ?_
    refine TO_st (σ':=[.box [sl (tI .u8) r_4.2.b,intA r_4.2.i,intA r_4.2.h],.box [sl tR d1.relations,sl tF d1.facts],.box [intA 0,.n]]) rfl ?_
    refine pv tb 1 rfl ?_
    refine TO_nil ?_
    exact joined (r_4.1,r_4.2) (w0 3) (some_inj H).symm
   ·replace H:=cond_f g_3 H
    refine pv tb 3 rfl ?_
    refine TO_nil ?_
    exact joined (false,c0) (w0 3) (some_inj H).symm
  ·rintro _ rfl
   replace H:=H_2
   refine T_cond (t:=t12_1) rfl (fun c_6=>?_) (fun c_6=>?_)
   ·replace H:=cond_t c_6 H
    obtain ⟨r_7,h_8,H⟩:=bind_inv H
    obtain ⟨v_9,h_10,H⟩:=bind_inv H
    obtain ⟨n_11,hz_12,hv_13⟩:=getI_inv h_10
    refine T_cutX (fun (_:Unit)=>True) (fun _=>[(4,.b 2 0)]) (fun _=>[.box [sl (tI .u8) r_7.2.b,intA r_7.2.i,intA r_7.2.h],.box [sl tR d1.relations,sl tF d1.facts],.box [intA v_9.relation,sl tInt v_9.values]]) ?_ ?_
    ·skip
     refine T_regionP 0 mixed rfl ?_
     refine TA_have 3 #[true,true,true,true,true,true,true,false,false,false] [(4,.b 2 0),(14,sl tF d1.facts),(19,intA r_7.1)] [.box [sl (tI .u8) r_7.2.b,intA r_7.2.i,intA r_7.2.h],.box [sl tR d1.relations,sl tF d1.facts],.box [intA 0,.n]] ?_ (fun hj0_2=>?_)
     ·skip
      refine tf 7 rfl (pur_ixT (T:=tF) sl25 rfl rfl hz_12 hv_13 rfl) rfl rfl (by kernel_rfl) ?_
      refine tf 8 rfl (pur_ldTK (T:=tF) (i:=n_11) (off:=0) rfl agg30 rfl rfl hv_13 (by decide) rfl) rfl rfl (by kernel_rfl) ?_
      refine t1 9 (by kernel_rfl) rfl rfl (TOp_storeB sz30 rfl rfl rfl rfl rfl rfl rfl (by decide) (lb rfl) rfl ?_)
      refine TA_st (σ':=[.box [sl (tI .u8) r_7.2.b,intA r_7.2.i,intA r_7.2.h],.box [sl tR d1.relations,sl tF d1.facts],.box [intA v_9.relation,sl tInt v_9.values]]) rfl ?_
      exact TA_nil (by kernel_rfl) (joined () (w0 3) trivial)
     refine TA_have 4 #[true,true,true,true,true,true,false,false,false,false] [(4,.b 2 0),(14,sl tF d1.facts),(15,.b 0 0),(18,intA (d1.facts.length:Int))] [.box [sl (tI .u8) box0_1.b,intA box0_1.i,intA box0_1.h],.box [sl tR d1.relations,sl tF d1.facts],.box [intA 0,.n]] ?_ (fun hj1_2=>?_)
     ·skip
      refine t1 6 (by kernel_rfl) rfl rfl (TOp_callS [0] (call_static ent64 rfl) (by decide) rfl rfl rfl rfl rfl rfl (msl1Below_x _ _ _ h_8) rfl rfl ?_)
      refine tae [(4,.b 2 0),(14,sl tF d1.facts),(15,.b 0 0),(18,intA (d1.facts.length:Int)),(19,intA r_7.1)] rfl ?_
      refine TA_st (σ':=[.box [sl (tI .u8) r_7.2.b,intA r_7.2.i,intA r_7.2.h],.box [sl tR d1.relations,sl tF d1.facts],.box [intA 0,.n]]) rfl ?_
      exact tj hj0_2 rfl (w0 3)
     refine pa tb [0,2,3] 7 rfl (by kernel_rfl) rfl ?_
     refine TA_all [1,4] (by kernel_rfl) (by decide) ⟨?_,?_,trivial⟩
     ·skip
      refine ⟨_,rfl,rfl,TOp_pure (pur_ld_b one25 rfl rfl rfl rfl) rfl ?_⟩
      refine t1 4 (by kernel_rfl) rfl rfl (TOp_pure (pur_ld_b one25 rfl rfl rfl rfl) rfl ?_)
      refine tf 5 rfl (pur_lenT (T:=tF) sl25 rfl rfl) rfl rfl (by kernel_rfl) ?_
      exact tj hj1_2 rfl (w0 3)
     ·skip
      refine ⟨_,rfl,rfl,TOp_pure (pur_ld_b one25 rfl rfl rfl rfl) rfl ?_⟩
      refine tf 5 rfl (pur_lenT (T:=tF) sl25 rfl rfl) rfl rfl (by kernel_rfl) ?_
      refine TA_all [1,6] (by kernel_rfl) (by decide) ⟨?_,?_,trivial⟩
      ·skip
       refine ⟨_,rfl,rfl,TOp_pure (pur_ld_b one25 rfl rfl rfl rfl) rfl ?_⟩
       exact tj hj1_2 rfl (w0 3)
      ·skip
       refine ⟨_,rfl,rfl,TOp_callS [0] (call_static ent64 rfl) (by decide) rfl rfl rfl rfl rfl rfl (msl1Below_x _ _ _ h_8) rfl rfl ?_⟩
       refine tae [(0,.b 0 0),(3,.b 1 0),(4,.b 2 0),(12,boolA t12_1),(13,.b 1 1),(15,.b 0 0),(16,.b 1 1),(17,sl tF d1.facts),(18,intA (d1.facts.length:Int)),(19,intA r_7.1)] rfl ?_
       refine TA_st (σ':=[.box [sl (tI .u8) r_7.2.b,intA r_7.2.i,intA r_7.2.h],.box [sl tR d1.relations,sl tF d1.facts],.box [intA 0,.n]]) rfl ?_
       refine t1 1 (by kernel_rfl) rfl rfl (TOp_pure (pur_ld_b one25 rfl rfl rfl rfl) rfl ?_)
       exact tj hj0_2 rfl (w0 3)
    ·rintro _ _
     refine T_ret ?_
     refine then_ret ?_
     obtain rfl:=some_inj H
     exact end_pickX (.cellK rfl agg30 rfl (lb rfl) .nil) rfl [0] (by decide) (lb rfl) rfl (lb rfl) rfl rfl rfl rfl rfl rfl
   ·replace H:=cond_f c_6 H
    refine T_skip ?_
    refine sr ?_
    refine pv tb 1 rfl ?_
    refine Tp rfl rfl (pur_build bld53 rfl rfl) rfl ?_
    refine Tp rfl rfl (pur_build bld53 rfl rfl) rfl ?_
    refine Tp rfl rfl (pur_build bld53 rfl rfl) rfl ?_
    refine Tp rfl rfl (pur_build bld53 rfl rfl) rfl ?_
    refine TO_cons rfl (TOp_lit (nn:=4) (k:=3) sl24 zero53 rfl rfl rfl rfl (by decide) ?_)
    refine TO_st (σ':=[.box [sl (tI .u8) box0_1.b,intA box0_1.i,intA box0_1.h],.box [sl tR d1.relations,sl tF d1.facts],.box [intA 0,.n],.row (flat tR.enc ([({ name:=(⟨#[114]⟩:ByteArray),arity:=2,keyLength:=0 }:Relation),({ name:=(⟨#[115]⟩:ByteArray),arity:=2,keyLength:=0 }:Relation),({ name:=(⟨#[116]⟩:ByteArray),arity:=2,keyLength:=0 }:Relation),({ name:=(⟨#[117]⟩:ByteArray),arity:=3,keyLength:=0 }:Relation)]:(List Relation)))]) rfl ?_
    refine TO_frz1 3 (E':=[(0,.b 0 0),(4,.b 2 0),(22,.b 0 0),(23,.g [strA (⟨#[114]⟩:ByteArray),intA 2,intA 0]),(24,.g [strA (⟨#[115]⟩:ByteArray),intA 2,intA 0]),(25,.g [strA (⟨#[116]⟩:ByteArray),intA 2,intA 0]),(26,.g [strA (⟨#[117]⟩:ByteArray),intA 3,intA 0]),(27,sl tR ([({ name:=(⟨#[114]⟩:ByteArray),arity:=2,keyLength:=0 }:Relation),({ name:=(⟨#[115]⟩:ByteArray),arity:=2,keyLength:=0 }:Relation),({ name:=(⟨#[116]⟩:ByteArray),arity:=2,keyLength:=0 }:Relation),({ name:=(⟨#[117]⟩:ByteArray),arity:=3,keyLength:=0 }:Relation)]:(List Relation)))]) rfl rfl (lb rfl) ⟨.keep rfl,.keep rfl,.keep rfl,.keep rfl,.keep rfl,.keep rfl,.keep rfl,fz1E,trivial⟩ ?_
    refine TO_st (σ':=[.box [sl (tI .u8) box0_1.b,intA box0_1.i,intA box0_1.h],.box [sl tR d1.relations,sl tF d1.facts],.box [intA 0,.n],.dead]) rfl ?_
    obtain ⟨r_14,h_15,H⟩:=bind_inv H
    refine TO_cons rfl (TOp_callS [0] (call_static ent65 rfl) (by decide) rfl rfl rfl rfl rfl rfl (msl3Any_x u _ _ _ h_15) rfl rfl ?_)
    refine toe [(0,.b 0 0),(4,.b 2 0),(22,.b 0 0),(23,.g [strA (⟨#[114]⟩:ByteArray),intA 2,intA 0]),(24,.g [strA (⟨#[115]⟩:ByteArray),intA 2,intA 0]),(25,.g [strA (⟨#[116]⟩:ByteArray),intA 2,intA 0]),(26,.g [strA (⟨#[117]⟩:ByteArray),intA 3,intA 0]),(27,sl tR ([({ name:=(⟨#[114]⟩:ByteArray),arity:=2,keyLength:=0 }:Relation),({ name:=(⟨#[115]⟩:ByteArray),arity:=2,keyLength:=0 }:Relation),({ name:=(⟨#[116]⟩:ByteArray),arity:=2,keyLength:=0 }:Relation),({ name:=(⟨#[117]⟩:ByteArray),arity:=3,keyLength:=0 }:Relation)]:(List Relation))),(28,.g [intA r_14.1.relation,.m [4] 0 r_14.1.values.length tInt.k])] rfl ?_
    refine TO_st (σ':=[.box [sl (tI .u8) r_14.2.b,intA r_14.2.i,intA r_14.2.h],.box [sl tR d1.relations,sl tF d1.facts],.box [intA 0,.n],.dead,.row (flat tInt.enc r_14.1.values)]) rfl ?_
    refine TO_cons rfl (TOp_storeB sz30 rfl rfl rfl rfl rfl rfl rfl (by decide) (lb rfl) rfl ?_)
    refine TO_st (σ':=[.box [sl (tI .u8) r_14.2.b,intA r_14.2.i,intA r_14.2.h],.box [sl tR d1.relations,sl tF d1.facts],.box [intA r_14.1.relation,.m [4] 0 r_14.1.values.length tInt.k],.dead,.row (flat tInt.enc r_14.1.values)]) rfl ?_
    refine TO_nil ?_
    refine T_frzB 4 (E':=[(4,.b 2 0)]) (σ':=[.box [sl (tI .u8) r_14.2.b,intA r_14.2.i,intA r_14.2.h],.box [sl tR d1.relations,sl tF d1.facts],.box [intA r_14.1.relation,sl tInt r_14.1.values],.dead,.dead]) rfl (lb rfl) ?_ ?_ ?_
    ·exact ⟨.keep rfl,trivial⟩
    ·exact ⟨fzK rfl,fzK rfl,fzC (.keep rfl) (fzC fz1E fzN),trivial,trivial,trivial⟩
    refine T_ret ?_
    obtain rfl:=some_inj H
    exact end_pickX (.cellK rfl agg30 rfl (lb rfl) .nil) rfl [0] (by decide) (lb rfl) rfl (lb rfl) rfl rfl rfl rfl rfl rfl

theorem msl30Edit_x (u:Nat) (c0:l1Cur) (d1:Database) (r:(Edit × l1Cur)) (H:msl30Edit u c0 d1=some r):FnS prg 33 [.b 0 0,.g (tD.enc d1)] [.box [sl (tI .u8) c0.b,intA c0.i,intA c0.h]] (.g (tEdit.enc r.1)) [.box [sl (tI .u8) r.2.b,intA r.2.i,intA r.2.h]]:=by
  unfold msl30Edit at H
  refine fnS_of_T Tryz.func33 rfl rfl (Nat.le_of_ble_eq_true rfl) ?_
  refine te [(0,.b 0 0),(1,.g (tD.enc d1))] rfl ?_
  refine T_st (σ':=[.box [sl (tI .u8) c0.b,intA c0.i,intA c0.h]]) rfl ?_
  refine sr ?_
  refine TO_cons rfl (TOp_box rfl (boxAll rfl) rfl rfl ?_)
  refine TO_cons rfl (TOp_alloc zero32 rfl rfl ?_)
  refine TO_nil ?_
  obtain ⟨r_1,h_2,H⟩:=bind_inv H
  obtain ⟨r_3,h_4,H⟩:=bind_inv H
  refine T_pad ?_
  refine T_cutX (fun (_:Unit)=>True) (fun _=>[(4,.b 2 0)]) (fun _=>[.box [sl (tI .u8) r_3.2.b,intA r_3.2.i,intA r_3.2.h],.box [sl tR d1.relations,sl tF d1.facts],.box [intA r_1.1,intA r_3.1.relation,sl tInt r_3.1.values]]) ?_ ?_
  ·skip
   refine T_regionP 0 mixed rfl ?_
   refine TA_have 3 #[true,true,true,true,true,false,false,false] [(4,.b 2 0),(7,intA r_1.1),(8,.b 0 0),(9,.g (tD.enc d1))] [.box [sl (tI .u8) r_1.2.b,intA r_1.2.i,intA r_1.2.h],.box [sl tR d1.relations,sl tF d1.facts],.box [intA 0,intA 0,.n],.dead] ?_ (fun hj0_1=>?_)
   ·skip
    refine t1 5 (by kernel_rfl) rfl rfl (TOp_callS [0] (call_static ent68 rfl) (by decide) rfl rfl rfl rfl rfl rfl (msl4Fact_x u _ _ _ h_4) rfl rfl ?_)
    refine tae [(4,.b 2 0),(7,intA r_1.1),(8,.b 0 0),(9,.g (tD.enc d1)),(10,.g (tF.enc r_3.1))] rfl ?_
    refine TA_st (σ':=[.box [sl (tI .u8) r_3.2.b,intA r_3.2.i,intA r_3.2.h],.box [sl tR d1.relations,sl tF d1.facts],.box [intA 0,intA 0,.n],.dead]) rfl ?_
    refine tf 6 rfl (pur_build bld32 rfl rfl) rfl rfl (by kernel_rfl) ?_
    refine t1 7 (by kernel_rfl) rfl rfl (TOp_storeB sz32 rfl rfl rfl rfl rfl rfl rfl (by decide) (lb rfl) rfl ?_)
    refine TA_st (σ':=[.box [sl (tI .u8) r_3.2.b,intA r_3.2.i,intA r_3.2.h],.box [sl tR d1.relations,sl tF d1.facts],.box [intA r_1.1,intA r_3.1.relation,sl tInt r_3.1.values],.dead]) rfl ?_
    exact TA_nil (by kernel_rfl) (joined () (w0 3) trivial)
   refine TA_have 4 #[true,true,false,true,true,false,false,false] [(4,.b 2 0),(5,.b 0 0),(6,sl tInt ([1,1,2,3,1,2,3,0,4]:(List Int))),(8,.b 0 0),(9,.g (tD.enc d1))] [.box [sl (tI .u8) c0.b,intA c0.i,intA c0.h],.box [sl tR d1.relations,sl tF d1.facts],.box [intA 0,intA 0,.n],.dead] ?_ (fun hj1_1=>?_)
   ·skip
    refine t1 2 (by kernel_rfl) rfl rfl (TOp_callS [0] (call_static ent67 rfl) (by decide) rfl rfl rfl rfl rfl rfl (msl1PickInt_x _ _ _ h_2) rfl rfl ?_)
    refine tae [(4,.b 2 0),(5,.b 0 0),(6,sl tInt ([1,1,2,3,1,2,3,0,4]:(List Int))),(7,intA r_1.1),(8,.b 0 0),(9,.g (tD.enc d1))] rfl ?_
    refine TA_st (σ':=[.box [sl (tI .u8) r_1.2.b,intA r_1.2.i,intA r_1.2.h],.box [sl tR d1.relations,sl tF d1.facts],.box [intA 0,intA 0,.n],.dead]) rfl ?_
    exact tj hj0_1 rfl (w0 4)
   refine pa tb [0,3] 6 rfl (by kernel_rfl) rfl ?_
   refine TA_all [1,4] (by kernel_rfl) (by decide) ⟨?_,?_,trivial⟩
   ·skip
    refine ⟨_,rfl,rfl,TOp_lit (nn:=9) (k:=1) sl28 zero3 rfl rfl rfl rfl (by decide) ?_⟩
    refine tmw 3 4 (by decide) (lb rfl) rfl rfl (lb rfl) rfl ?_
    refine TA_ghost (E':=[(0,.b 0 0),(3,.b 1 0),(4,.b 2 0),(5,.b 0 0),(6,.m [3] 0 ([1,1,2,3,1,2,3,0,4]:(List Int)).length tInt.k),(8,.b 0 0)]) (σ':=[.box [sl (tI .u8) c0.b,intA c0.i,intA c0.h],.box [sl tR d1.relations,sl tF d1.facts],.box [intA 0,intA 0,.n],.row (flat tInt.enc ([1,1,2,3,1,2,3,0,4]:(List Int))),.dead]) (Ghost.weak (WeakL.to 5 (lb rfl) rfl rfl rfl rfl ⟨leR rfl,leR rfl,leR rfl,leR rfl,leR rfl,leR rfl,trivial⟩)) ?_
    refine TA_frz1 3 (E':=[(0,.b 0 0),(3,.b 1 0),(4,.b 2 0),(5,.b 0 0),(6,sl tInt ([1,1,2,3,1,2,3,0,4]:(List Int))),(8,.b 0 0)]) rfl rfl (lb rfl) ⟨.keep rfl,.keep rfl,.keep rfl,.keep rfl,fz1E,.keep rfl,trivial⟩ ?_
    refine TA_st (σ':=[.box [sl (tI .u8) c0.b,intA c0.i,intA c0.h],.box [sl tR d1.relations,sl tF d1.facts],.box [intA 0,intA 0,.n],.dead,.dead]) rfl ?_
    refine TA_all [2,4] (by kernel_rfl) (by decide) ⟨?_,?_,trivial⟩
    ·skip
     refine ⟨_,rfl,rfl,TOp_callS [0] (call_static ent67 rfl) (by decide) rfl rfl rfl rfl rfl rfl (msl1PickInt_x _ _ _ h_2) rfl rfl ?_⟩
     refine tae [(0,.b 0 0),(3,.b 1 0),(4,.b 2 0),(5,.b 0 0),(6,sl tInt ([1,1,2,3,1,2,3,0,4]:(List Int))),(7,intA r_1.1),(8,.b 0 0)] rfl ?_
     refine TA_st (σ':=[.box [sl (tI .u8) r_1.2.b,intA r_1.2.i,intA r_1.2.h],.box [sl tR d1.relations,sl tF d1.facts],.box [intA 0,intA 0,.n],.dead,.dead]) rfl ?_
     refine t1 4 (by kernel_rfl) rfl rfl (TOp_pure (pur_ldK_b agg27 rfl rfl (lb rfl) rfl) rfl ?_)
     exact tj hj0_1 rfl (w0 4)
    ·skip
     refine ⟨_,rfl,rfl,TOp_pure (pur_ldK_b agg27 rfl rfl (lb rfl) rfl) rfl ?_⟩
     exact tj hj1_1 rfl (w0 4)
   ·skip
    refine ⟨_,rfl,rfl,TOp_pure (pur_ldK_b agg27 rfl rfl (lb rfl) rfl) rfl ?_⟩
    refine t1 1 (by kernel_rfl) rfl rfl (TOp_lit (nn:=9) (k:=1) sl28 zero3 rfl rfl rfl rfl (by decide) ?_)
    refine tmw 3 4 (by decide) (lb rfl) rfl rfl (lb rfl) rfl ?_
    refine TA_ghost (E':=[(0,.b 0 0),(3,.b 1 0),(4,.b 2 0),(5,.b 0 0),(6,.m [3] 0 ([1,1,2,3,1,2,3,0,4]:(List Int)).length tInt.k),(8,.b 0 0),(9,.g (tD.enc d1))]) (σ':=[.box [sl (tI .u8) c0.b,intA c0.i,intA c0.h],.box [sl tR d1.relations,sl tF d1.facts],.box [intA 0,intA 0,.n],.row (flat tInt.enc ([1,1,2,3,1,2,3,0,4]:(List Int))),.dead]) (Ghost.weak (WeakL.to 5 (lb rfl) rfl rfl rfl rfl ⟨leR rfl,leR rfl,leR rfl,leR rfl,leR rfl,leR rfl,leR rfl,trivial⟩)) ?_
    refine TA_frz1 3 (E':=[(0,.b 0 0),(3,.b 1 0),(4,.b 2 0),(5,.b 0 0),(6,sl tInt ([1,1,2,3,1,2,3,0,4]:(List Int))),(8,.b 0 0),(9,.g (tD.enc d1))]) rfl rfl (lb rfl) ⟨.keep rfl,.keep rfl,.keep rfl,.keep rfl,fz1E,.keep rfl,.keep rfl,trivial⟩ ?_
    refine TA_st (σ':=[.box [sl (tI .u8) c0.b,intA c0.i,intA c0.h],.box [sl tR d1.relations,sl tF d1.facts],.box [intA 0,intA 0,.n],.dead,.dead]) rfl ?_
    exact tj hj1_1 rfl (w0 4)
  ·rintro _ _
   refine T_ret ?_
   obtain rfl:=some_inj H
   exact end_pickX (.cellK rfl agg32 rfl (lb rfl) .nil) rfl [0] (by decide) (lb rfl) rfl (lb rfl) rfl rfl rfl rfl rfl rfl

theorem msDrawApplyEdit_ok (u:Nat) (code0:(List Int)) (r:(Database × Edit)) (H:msDrawApplyEdit u code0=some r):FnV prg 17 [sl (tI .u8) code0] (.t [.g (tD.enc r.1),.g (tEdit.enc r.2)]):=by
  unfold msDrawApplyEdit at H
  refine fnV_of_T Tryz.func17 rfl rfl (Nat.le_of_ble_eq_true rfl) ?_
  refine te [(0,sl (tI .u8) code0)] rfl ?_
  refine sr ?_
  refine TO_cons rfl (TOp_alloc zero27 rfl rfl ?_)
  refine TO_cons rfl (TOp_alloc zero32 rfl rfl ?_)
  refine TO_nil (sr ?_)
  obtain ⟨r_1,h_2,H⟩:=bind_inv H
  refine pv tb 1 rfl ?_
  refine TO_cons rfl (TOp_callS [] (call_static ent31 rfl) (by decide) rfl rfl rfl rfl rfl rfl (msl1New_x u _ _ h_2) rfl rfl ?_)
  refine toe [(0,sl (tI .u8) code0),(2,.b 0 0),(3,.b 1 0),(6,sl (tI .u8) code0),(7,.b 2 0)] rfl ?_
  refine TO_st (σ':=[.box [.n,.n],.box [intA 0,intA 0,.n],.box [sl (tI .u8) r_1.b,intA r_1.i,intA r_1.h]]) rfl ?_
  refine pv tb 1 rfl ?_
  refine TO_nil (sr ?_)
  obtain ⟨r_3,h_4,H⟩:=bind_inv H
  refine pv tb 1 rfl ?_
  refine TO_cons rfl (TOp_callS [2] (call_static ent32 rfl) (by decide) rfl rfl rfl rfl rfl rfl (msl4Any_x u _ _ h_4) rfl rfl ?_)
  refine toe [(2,.b 0 0),(3,.b 1 0),(4,.b 2 0),(8,.b 2 0),(9,.g (tD.enc r_3.1))] rfl ?_
  refine TO_st (σ':=[.box [.n,.n],.box [intA 0,intA 0,.n],.box [sl (tI .u8) r_3.2.b,intA r_3.2.i,intA r_3.2.h]]) rfl ?_
  refine TO_cons rfl (TOp_alloc zero27 rfl rfl ?_)
  refine TO_cons rfl (TOp_storeB sz27 rfl rfl rfl rfl rfl rfl rfl (by decide) (lb rfl) rfl ?_)
  refine TO_st (σ':=[.box [.n,.n],.box [intA 0,intA 0,.n],.box [sl (tI .u8) r_3.2.b,intA r_3.2.i,intA r_3.2.h],.box [sl tR r_3.1.relations,sl tF r_3.1.facts]]) rfl ?_
  refine TO_nil ?_
  obtain ⟨r_5,h_6,H⟩:=bind_inv H
  refine T_cutX (fun (_:Unit)=>True) (fun _=>[(2,.b 0 0),(3,.b 1 0)]) (fun _=>[.box [sl tR r_3.1.relations,sl tF r_3.1.facts],.box [intA r_5.1.kind,intA r_5.1.fact.relation,sl tInt r_5.1.fact.values],.box [sl (tI .u8) r_5.2.b,intA r_5.2.i,intA r_5.2.h],.box [sl tR r_3.1.relations,sl tF r_3.1.facts]]) ?_ ?_
  ·skip
   refine T_regionP 0 mixed rfl ?_
   refine TA_have 2 #[true,true,true,true,false,false] [(2,.b 0 0),(3,.b 1 0),(10,.g (tD.enc r_3.1)),(13,.g (tEdit.enc r_5.1))] [.box [.n,.n],.box [intA 0,intA 0,.n],.box [sl (tI .u8) r_5.2.b,intA r_5.2.i,intA r_5.2.h],.box [sl tR r_3.1.relations,sl tF r_3.1.facts]] ?_ (fun hj0_3=>?_)
   ·skip
    refine t1 4 (by kernel_rfl) rfl rfl (TOp_storeB sz27 rfl rfl rfl rfl rfl rfl rfl (by decide) (lb rfl) rfl ?_)
    refine TA_st (σ':=[.box [sl tR r_3.1.relations,sl tF r_3.1.facts],.box [intA 0,intA 0,.n],.box [sl (tI .u8) r_5.2.b,intA r_5.2.i,intA r_5.2.h],.box [sl tR r_3.1.relations,sl tF r_3.1.facts]]) rfl ?_
    refine t1 5 (by kernel_rfl) rfl rfl (TOp_storeB sz32 rfl rfl rfl rfl rfl rfl rfl (by decide) (lb rfl) rfl ?_)
    refine TA_st (σ':=[.box [sl tR r_3.1.relations,sl tF r_3.1.facts],.box [intA r_5.1.kind,intA r_5.1.fact.relation,sl tInt r_5.1.fact.values],.box [sl (tI .u8) r_5.2.b,intA r_5.2.i,intA r_5.2.h],.box [sl tR r_3.1.relations,sl tF r_3.1.facts]]) rfl ?_
    exact TA_nil (by kernel_rfl) (joined () (w0 4) trivial)
   refine TA_have 3 #[true,true,true,false,false,false] [(2,.b 0 0),(3,.b 1 0),(10,.g (tD.enc r_3.1)),(11,.b 2 0),(12,.g (tD.enc r_3.1))] [.box [.n,.n],.box [intA 0,intA 0,.n],.box [sl (tI .u8) r_3.2.b,intA r_3.2.i,intA r_3.2.h],.box [sl tR r_3.1.relations,sl tF r_3.1.facts]] ?_ (fun hj1_3=>?_)
   ·skip
    refine t1 3 (by kernel_rfl) rfl rfl (TOp_callS [2] (call_static ent33 rfl) (by decide) rfl rfl rfl rfl rfl rfl (msl30Edit_x u _ _ _ h_6) rfl rfl ?_)
    refine tae [(2,.b 0 0),(3,.b 1 0),(10,.g (tD.enc r_3.1)),(11,.b 2 0),(12,.g (tD.enc r_3.1)),(13,.g (tEdit.enc r_5.1))] rfl ?_
    refine TA_st (σ':=[.box [.n,.n],.box [intA 0,intA 0,.n],.box [sl (tI .u8) r_5.2.b,intA r_5.2.i,intA r_5.2.h],.box [sl tR r_3.1.relations,sl tF r_3.1.facts]]) rfl ?_
    exact tj hj0_3 rfl (w0 4)
   refine pa tb [1] 5 rfl (by kernel_rfl) rfl ?_
   refine TA_all [0,2] (by kernel_rfl) (by decide) ⟨?_,?_,trivial⟩
   ·skip
    refine ⟨_,rfl,rfl,TOp_pure (pur_ldK_b agg27 rfl rfl (lb rfl) rfl) rfl ?_⟩
    refine t1 2 (by kernel_rfl) rfl rfl (TOp_pure (pur_ldK_b agg27 rfl rfl (lb rfl) rfl) rfl ?_)
    exact tj hj1_3 rfl (w0 4)
   ·skip
    refine ⟨_,rfl,rfl,TOp_pure (pur_ldK_b agg27 rfl rfl (lb rfl) rfl) rfl ?_⟩
    refine TA_all [0,3] (by kernel_rfl) (by decide) ⟨?_,?_,trivial⟩
    ·skip
     refine ⟨_,rfl,rfl,TOp_pure (pur_ldK_b agg27 rfl rfl (lb rfl) rfl) rfl ?_⟩
     exact tj hj1_3 rfl (w0 4)
    ·skip
     refine ⟨_,rfl,rfl,TOp_callS [2] (call_static ent33 rfl) (by decide) rfl rfl rfl rfl rfl rfl (msl30Edit_x u _ _ _ h_6) rfl rfl ?_⟩
     refine tae [(2,.b 0 0),(3,.b 1 0),(4,.b 2 0),(5,.b 3 0),(11,.b 2 0),(12,.g (tD.enc r_3.1)),(13,.g (tEdit.enc r_5.1))] rfl ?_
     refine TA_st (σ':=[.box [.n,.n],.box [intA 0,intA 0,.n],.box [sl (tI .u8) r_5.2.b,intA r_5.2.i,intA r_5.2.h],.box [sl tR r_3.1.relations,sl tF r_3.1.facts]]) rfl ?_
     refine t1 0 (by kernel_rfl) rfl rfl (TOp_pure (pur_ldK_b agg27 rfl rfl (lb rfl) rfl) rfl ?_)
     exact tj hj0_3 rfl (w0 4)
  ·rintro _ _
   refine T_ret ?_
   obtain rfl:=some_inj H
   refine end_ret (.cellK rfl agg27 rfl (lb rfl) (.cellK rfl agg32 rfl (lb rfl) .nil)) rfl rfl ⟨?_,rfl⟩
   rfl

theorem msDrawInverseEdits_ok (u:Nat) (code0:(List Int)) (r:(Database × Edit)) (H:msDrawInverseEdits u code0=some r):FnV prg 5 [sl (tI .u8) code0] (.t [.g (tD.enc r.1),.g (tEdit.enc r.2)]):=by
  unfold msDrawInverseEdits at H
  refine fnV_of_T Tryz.func5 rfl rfl (Nat.le_of_ble_eq_true rfl) ?_
  refine te [(0,sl (tI .u8) code0)] rfl ?_
  refine sr ?_
  refine TO_cons rfl (TOp_alloc zero27 rfl rfl ?_)
  refine TO_cons rfl (TOp_alloc zero32 rfl rfl ?_)
  refine TO_nil (sr ?_)
  obtain ⟨r_1,h_2,H⟩:=bind_inv H
  refine pv tb 1 rfl ?_
  refine TO_cons rfl (TOp_callV (call_static ent17 rfl) (msDrawApplyEdit_ok u _ _ h_2) rfl rfl rfl ?_)
  refine pv tb 2 rfl ?_
  refine TO_cons rfl (TOp_storeB sz27 rfl rfl rfl rfl rfl rfl rfl (by decide) (lb rfl) rfl ?_)
  refine TO_st (σ':=[.box [sl tR r_1.1.relations,sl tF r_1.1.facts],.box [intA 0,intA 0,.n]]) rfl ?_
  refine TO_cons rfl (TOp_storeB sz32 rfl rfl rfl rfl rfl rfl rfl (by decide) (lb rfl) rfl ?_)
  refine TO_st (σ':=[.box [sl tR r_1.1.relations,sl tF r_1.1.facts],.box [intA r_1.2.kind,intA r_1.2.fact.relation,sl tInt r_1.2.fact.values]]) rfl ?_
  refine TO_nil ?_
  refine T_ret ?_
  obtain rfl:=some_inj H
  refine end_ret (.cellK rfl agg27 rfl (lb rfl) (.cellK rfl agg32 rfl (lb rfl) .nil)) rfl rfl ⟨?_,rfl⟩
  rfl

theorem micompare_ok (a0:Int) (b1:Int) (r:Int) (H:micompare a0 b1=some r):FnV prg 40 [intA a0,intA b1] (intA r):=by
  unfold micompare at H
  refine fnV_of_T Tryz.func40 rfl rfl (Nat.le_of_ble_eq_true rfl) ?_
  refine te [(0,intA a0),(1,intA b1)] rfl ?_
  refine sr ?_
  refine pv tb 1 rfl ?_
  refine TO_nil (T_seq ?_)
  refine T_block ?_
  refine sr ?_
  refine pv tb 4 rfl ?_
  refine TO_nil ?_
  refine T_cond (t:=decide (a0<b1)) rfl (fun c_1=>?_) (fun c_1=>?_)
  ·replace H:=cond_t c_1 H
   refine sr ?_
   refine pv tb 1 rfl ?_
   refine TO_nil ?_
   refine T_ret ?_
   refine block_ret ?_
   refine then_ret ?_
   obtain rfl:=some_inj H
   refine end_ret (.tmp .nil) rfl rfl ⟨?_,rfl⟩
   rfl
  ·replace H:=cond_f c_1 H
   refine sr ?_
   refine pv tb 4 rfl ?_
   refine TO_nil ?_
   refine T_cond (t:=decide (b1<a0)) rfl (fun c_2=>?_) (fun c_2=>?_)
   ·replace H:=cond_t c_2 H
    refine sr ?_
    refine pv tb 1 rfl ?_
    refine TO_nil ?_
    refine T_ret ?_
    refine block_ret ?_
    refine then_ret ?_
    obtain rfl:=some_inj H
    refine end_ret (.tmp .nil) rfl rfl ⟨?_,rfl⟩
    rfl
   ·replace H:=cond_f c_2 H
    refine T_skip ?_
    refine sr ?_
    refine pv tb 1 rfl ?_
    refine TO_nil ?_
    refine T_ret ?_
    obtain rfl:=some_inj H
    refine end_ret (.tmp .nil) rfl rfl ⟨?_,rfl⟩
    rfl

theorem m_cmp_isNaN_int_ok (x0:Int) (r:Bool) (H:m_cmp_isNaN_int x0=some r):FnV prg 92 [intA x0] (boolA r):=by
  unfold m_cmp_isNaN_int at H
  refine fnV_of_T Tryz.func92 rfl rfl (Nat.le_of_ble_eq_true rfl) ?_
  refine te [(0,intA x0)] rfl ?_
  refine sr ?_
  refine pv tb 1 rfl ?_
  refine TO_nil (sr ?_)
  refine pv tb 4 rfl ?_
  refine TO_nil ?_
  refine T_ret ?_
  obtain rfl:=some_inj H
  refine end_ret (.tmp .nil) rfl rfl ⟨?_,rfl⟩
  rfl

theorem m_cmp_Compare_int_ok (x0:Int) (y1:Int) (r:Int) (H:m_cmp_Compare_int x0 y1=some r):FnV prg 73 [intA x0,intA y1] (intA r):=by
  unfold m_cmp_Compare_int at H
  refine fnV_of_T Tryz.func73 rfl rfl (Nat.le_of_ble_eq_true rfl) ?_
  refine te [(0,intA x0),(1,intA y1)] rfl ?_
  refine sr ?_
  refine pv tb 1 rfl ?_
  refine TO_nil (sr ?_)
  obtain ⟨r_1,h_2,H⟩:=bind_inv H
  refine pv tb 1 rfl ?_
  refine TO_cons rfl (TOp_callV (call_static ent92 rfl) (m_cmp_isNaN_int_ok _ _ h_2) rfl rfl rfl ?_)
  refine pv tb 1 rfl ?_
  refine TO_nil (sr ?_)
  obtain ⟨r_3,h_4,H⟩:=bind_inv H
  refine pv tb 1 rfl ?_
  refine TO_cons rfl (TOp_callV (call_static ent92 rfl) (m_cmp_isNaN_int_ok _ _ h_4) rfl rfl rfl ?_)
  refine pv tb 1 rfl ?_
  refine TO_nil (T_seq (sr ?_))
  refine pv tb 1 rfl ?_
  refine TO_nil ?_
  refine T_cond (t:=r_1) rfl (fun c_5=>?_) (fun c_5=>?_)
  ·replace H:=cond_t c_5 H
   refine T_seq (sr ?_)
   refine pv tb 1 rfl ?_
   refine TO_nil ?_
   refine T_cond (t:=r_3) rfl (fun c_6=>?_) (fun c_6=>?_)
   ·replace H:=cond_t c_6 H
    refine sr ?_
    refine pv tb 1 rfl ?_
    refine TO_nil ?_
    refine T_ret ?_
    refine then_ret ?_
    refine then_ret ?_
    obtain rfl:=some_inj H
    refine end_ret (.tmp .nil) rfl rfl ⟨?_,rfl⟩
    rfl
   ·replace H:=cond_f c_6 H
    refine T_skip ?_
    refine sr ?_
    refine pv tb 1 rfl ?_
    refine TO_nil ?_
    refine T_ret ?_
    refine then_ret ?_
    obtain rfl:=some_inj H
    refine end_ret (.tmp .nil) rfl rfl ⟨?_,rfl⟩
    rfl
  ·replace H:=cond_f c_5 H
   refine T_skip ?_
   refine T_seq (sr ?_)
   refine pv tb 1 rfl ?_
   refine TO_nil ?_
   refine T_cond (t:=r_3) rfl (fun c_7=>?_) (fun c_7=>?_)
   ·replace H:=cond_t c_7 H
    refine sr ?_
    refine pv tb 1 rfl ?_
    refine TO_nil ?_
    refine T_ret ?_
    refine then_ret ?_
    obtain rfl:=some_inj H
    refine end_ret (.tmp .nil) rfl rfl ⟨?_,rfl⟩
    rfl
   ·replace H:=cond_f c_7 H
    refine T_skip ?_
    refine T_seq (sr ?_)
    refine pv tb 3 rfl ?_
    refine TO_nil ?_
    refine T_cond (t:=decide (x0<y1)) rfl (fun c_8=>?_) (fun c_8=>?_)
    ·replace H:=cond_t c_8 H
     refine sr ?_
     refine pv tb 1 rfl ?_
     refine TO_nil ?_
     refine T_ret ?_
     refine then_ret ?_
     obtain rfl:=some_inj H
     refine end_ret (.tmp .nil) rfl rfl ⟨?_,rfl⟩
     rfl
    ·replace H:=cond_f c_8 H
     refine T_skip ?_
     refine T_seq (sr ?_)
     refine pv tb 3 rfl ?_
     refine TO_nil ?_
     refine te [(19,boolA (decide (y1<x0)))] rfl ?_
     refine T_cond (t:=decide (y1<x0)) rfl (fun c_9=>?_) (fun c_9=>?_)
     ·replace H:=cond_t c_9 H
      refine sr ?_
      refine pv tb 1 rfl ?_
      refine TO_nil ?_
      refine T_ret ?_
      refine then_ret ?_
      obtain rfl:=some_inj H
      refine end_ret (.tmp .nil) rfl rfl ⟨?_,rfl⟩
      rfl
     ·replace H:=cond_f c_9 H
      refine T_skip ?_
      refine sr ?_
      refine pv tb 1 rfl ?_
      refine TO_nil ?_
      refine T_ret ?_
      obtain rfl:=some_inj H
      refine end_ret (.tmp .nil) rfl rfl ⟨?_,rfl⟩
      rfl

theorem m_slices_Compare_Sint_int_ok (s10:(List Int)) (s21:(List Int)) (r:Int) (H:m_slices_Compare_Sint_int s10 s21=some r):FnV prg 41 [sl tInt s10,sl tInt s21] (intA r):=by
  unfold m_slices_Compare_Sint_int at H
  refine fnV_of_T Tryz.func41 rfl rfl (Nat.le_of_ble_eq_true rfl) ?_
  refine te [(0,sl tInt s10),(1,sl tInt s21)] rfl ?_
  refine sr ?_
  refine pv tb 1 rfl ?_
  refine TO_nil (T_seq (sr ?_))
  refine pv tb 1 rfl ?_
  refine Tp rfl rfl (pur_lenT (T:=tInt) sl28 rfl rfl) rfl ?_
  refine pv tb 1 rfl ?_
  refine TO_nil ?_
  obtain ⟨O2_,L2_,N2_⟩:=bind_inv H
  clear H
  obtain ⟨B2_,hb2,L2_⟩:=gen_forL L2_
  refine T_block ?_
  refine T_loopX (fun k=>fun (t_1:Nat)=>k=s10.length - t_1∧forL B2_ (s10.drop t_1) (t_1:Int) ()=some O2_) (fun (t_1:Nat)=>[(0,sl tInt s10),(1,sl tInt s21),(9,sl tInt s10),(10,intA (s10.length:Int)),(11,intA (t_1:Int))]) (fun (t_1:Nat)=>[]) _ (0:Nat) (w0 0) ⟨rfl,L2_⟩ ?_
  rintro _ t_1 ⟨rfl,L2_⟩
  refine T_fact (len_sl (T:=tInt) (.tmp 0) rfl) (fun hl2=>?_)
  refine sr ?_
  refine pv tb 1 rfl ?_
  refine TO_nil (T_seq ?_)
  refine T_cond (t:=decide ((t_1:Int)<(s10.length:Int))) rfl (fun d2=>?_) (fun d2=>?_)
  ·replace d2:=of_decide_eq_true d2
   obtain ⟨x_t_1,hx_t_1⟩:∃ v,(s10)[t_1]?=some v:=⟨_,List.getElem?_eq_getElem (by omega)⟩
   obtain ⟨C2_,H,K2_⟩:=forL_step L2_ hx_t_1
   rw [hb2] at H
   refine T_skip ?_
   refine T_seq ?_
   refine T_block ?_
   refine sr ?_
   refine pv tb 1 rfl ?_
   refine Tp rfl rfl (pur_ixT (T:=tInt) sl28 rfl rfl rfl hx_t_1 rfl) rfl ?_
   refine Tp rfl rfl (pur_ldT (T:=tInt) (i:=t_1) (off:=0) rfl one3 rfl rfl hx_t_1 rfl) rfl ?_
   refine pv tb 2 rfl ?_
   refine TO_nil (T_seq (sr ?_))
   refine pv tb 2 rfl ?_
   refine Tp rfl rfl (pur_lenT (T:=tInt) sl28 rfl rfl) rfl ?_
   refine pv tb 1 rfl ?_
   refine TO_nil ?_
   refine T_cond (t:=decide ((s21.length:Int)≤(t_1:Int))) rfl (fun c_3=>?_) (fun c_3=>?_)
   ·replace H:=cond_t c_3 H
    refine sr ?_
    refine pv tb 1 rfl ?_
    refine TO_nil ?_
    refine te [(4,intA 1)] rfl ?_
    refine T_ret ?_
    refine then_ret ?_
    refine block_ret ?_
    refine then_ret ?_
    refine then_ret ?_
    refine block_ret ?_
    refine then_ret ?_
    obtain rfl:=some_inj H
    obtain rfl:=some_inj K2_
    replace H:=onS_r N2_
    obtain rfl:=some_inj H
    refine end_ret (.tmp .nil) rfl rfl ⟨?_,rfl⟩
    rfl
   ·replace H:=cond_f c_3 H
    refine T_skip ?_
    refine sr ?_
    obtain ⟨v_4,h_5,H⟩:=bind_inv H
    obtain ⟨n_6,hz_7,hv_8⟩:=getI_inv h_5
    refine pv tb 2 rfl ?_
    refine Tp rfl rfl (pur_ixT (T:=tInt) sl28 rfl rfl hz_7 hv_8 rfl) rfl ?_
    refine Tp rfl rfl (pur_ldT (T:=tInt) (i:=n_6) (off:=0) rfl one3 rfl rfl hv_8 rfl) rfl ?_
    refine pv tb 1 rfl ?_
    refine TO_nil (sr ?_)
    obtain ⟨r_9,h_10,H⟩:=bind_inv H
    refine pv tb 2 rfl ?_
    refine TO_cons rfl (TOp_callV (call_static ent73 rfl) (m_cmp_Compare_int_ok _ _ _ h_10) rfl rfl rfl ?_)
    refine pv tb 1 rfl ?_
    refine TO_nil ?_
    refine te [(0,sl tInt s10),(1,sl tInt s21),(8,intA r_9),(9,sl tInt s10),(10,intA (s10.length:Int)),(11,intA (t_1:Int))] rfl ?_
    refine sr ?_
    refine pv tb 2 rfl ?_
    refine TO_nil ?_
    refine T_cond (t:=decide (r_9≠0)) rfl (fun c_11=>?_) (fun c_11=>?_)
    ·replace H:=cond_t c_11 H
     refine sr ?_
     refine pv tb 2 rfl ?_
     refine TO_nil ?_
     refine T_ret ?_
     refine block_ret ?_
     refine then_ret ?_
     refine then_ret ?_
     refine block_ret ?_
     refine then_ret ?_
     obtain rfl:=some_inj H
     obtain rfl:=some_inj K2_
     replace H:=onS_r N2_
     obtain rfl:=some_inj H
     refine end_ret (.tmp .nil) rfl rfl ⟨?_,rfl⟩
     rfl
    ·replace H:=cond_f c_11 H
     refine T_skip ?_
     refine T_region ?_
     refine Tp rfl rfl (pur_add rfl rfl rfl (fits64 (by omega) (by omega))) rfl ?_
     refine pv tb 1 rfl ?_
     refine TO_nil ?_
     obtain rfl:=some_inj H
     exact again (s10.length - (t_1+1)) (t_1+1) (by omega) (w0 0) ⟨rfl,K2_⟩
  ·replace d2:=of_decide_eq_false d2
   obtain rfl:=forL_end L2_ (by omega)
   refine T_exit ?_
   refine then_exit ?_
   refine then_exit ?_
   refine block_exit ?_
   replace H:=onS_l N2_
   refine T_seq (sr ?_)
   refine pv tb 1 rfl ?_
   refine Tp rfl rfl (pur_lenT (T:=tInt) sl28 rfl rfl) rfl ?_
   refine pv tb 1 rfl ?_
   refine Tp rfl rfl (pur_lenT (T:=tInt) sl28 rfl rfl) rfl ?_
   refine pv tb 1 rfl ?_
   refine TO_nil ?_
   refine T_cond (t:=decide ((s10.length:Int)<(s21.length:Int))) rfl (fun c_12=>?_) (fun c_12=>?_)
   ·replace H:=cond_t c_12 H
    refine sr ?_
    refine pv tb 1 rfl ?_
    refine TO_nil ?_
    refine T_ret ?_
    refine then_ret ?_
    obtain rfl:=some_inj H
    refine end_ret (.tmp .nil) rfl rfl ⟨?_,rfl⟩
    rfl
   ·replace H:=cond_f c_12 H
    refine T_skip ?_
    refine sr ?_
    refine pv tb 1 rfl ?_
    refine TO_nil ?_
    refine T_ret ?_
    obtain rfl:=some_inj H
    refine end_ret (.tmp .nil) rfl rfl ⟨?_,rfl⟩
    rfl

theorem miCompareFacts_ok (a0:Fact) (b1:Fact) (r:Int) (H:miCompareFacts a0 b1=some r):FnV prg 15 [.g (tF.enc a0),.g (tF.enc b1)] (intA r):=by
  unfold miCompareFacts at H
  refine fnV_of_T Tryz.func15 rfl rfl (Nat.le_of_ble_eq_true rfl) ?_
  refine te [(0,.g (tF.enc a0)),(1,.g (tF.enc b1))] rfl ?_
  refine sr ?_
  refine TO_cons rfl (TOp_box rfl (boxAll rfl) rfl rfl ?_)
  refine TO_cons rfl (TOp_box rfl (boxAll rfl) rfl rfl ?_)
  refine pv tb 1 rfl ?_
  refine TO_nil (T_seq (sr ?_))
  refine pv tb 5 rfl ?_
  refine TO_nil ?_
  refine T_cond (t:=decide (a0.relation≠b1.relation)) rfl (fun c_1=>?_) (fun c_1=>?_)
  ·replace H:=cond_t c_1 H
   refine sr ?_
   obtain ⟨r_2,h_3,H⟩:=bind_inv H
   refine pv tb 4 rfl ?_
   refine TO_cons rfl (TOp_callV (call_static ent40 rfl) (micompare_ok _ _ _ h_3) rfl rfl rfl ?_)
   refine pv tb 1 rfl ?_
   refine TO_nil ?_
   refine te [(4,intA r_2)] rfl ?_
   refine T_ret ?_
   refine then_ret ?_
   obtain rfl:=some_inj H
   refine end_ret (.tmp .nil) rfl rfl ⟨?_,rfl⟩
   rfl
  ·replace H:=cond_f c_1 H
   refine T_skip ?_
   refine sr ?_
   obtain ⟨r_4,h_5,H⟩:=bind_inv H
   refine pv tb 4 rfl ?_
   refine TO_cons rfl (TOp_callV (call_static ent41 rfl) (m_slices_Compare_Sint_int_ok _ _ _ h_5) rfl rfl rfl ?_)
   refine pv tb 1 rfl ?_
   refine TO_nil ?_
   refine te [(4,intA r_4)] rfl ?_
   refine T_ret ?_
   obtain rfl:=some_inj H
   refine end_ret (.tmp .nil) rfl rfl ⟨?_,rfl⟩
   rfl
end Go.Proofs.YtaadmoaanhdboaaGreatDoor

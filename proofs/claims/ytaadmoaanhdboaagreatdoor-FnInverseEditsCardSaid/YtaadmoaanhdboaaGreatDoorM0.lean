import Derived.Test.YtaadmoaanhdboaaGreatDoorCRD
set_option linter.unusedVariables false
set_option maxRecDepth 4000
namespace Go.Proofs.YtaadmoaanhdboaaGreatDoor
open Go Go.Proofs Go.Sep
structure l1Cur where
  b:(List Int)
  i:Int
  h:Int
instance:Inhabited l1Cur:=⟨⟨default,default,default⟩⟩
instance:DecidableEq l1Cur:=fun a b=>decidable_of_iff (a.b=b.b∧a.i=b.i∧a.h=b.h) (by cases a;cases b;simp)
structure Relation where
  name:ByteArray
  arity:Int
  keyLength:Int
instance:Inhabited Relation:=⟨⟨default,default,default⟩⟩
instance:DecidableEq Relation:=fun a b=>decidable_of_iff (a.name=b.name∧a.arity=b.arity∧a.keyLength=b.keyLength) (by cases a;cases b;simp)
def tR:Ty Relation:=tAs (fun x=>(x.name,(x.arity,x.keyLength))) (tP tStr (tP tInt tInt))
structure Fact where
  relation:Int
  values:(List Int)
instance:Inhabited Fact:=⟨⟨default,default⟩⟩
instance:DecidableEq Fact:=fun a b=>decidable_of_iff (a.relation=b.relation∧a.values=b.values) (by cases a;cases b;simp)
def tF:Ty Fact:=tAs (fun x=>(x.relation,x.values)) (tP tInt (tSl tInt))
structure Database where
  relations:(List Relation)
  facts:(List Fact)
instance:Inhabited Database:=⟨⟨default,default⟩⟩
instance:DecidableEq Database:=fun a b=>decidable_of_iff (a.relations=b.relations∧a.facts=b.facts) (by cases a;cases b;simp)
def tD:Ty Database:=tAs (fun x=>(x.relations,x.facts)) (tP (tSl tR) (tSl tF))
structure Edit where
  kind:Int
  fact:Fact
instance:Inhabited Edit:=⟨⟨default,default⟩⟩
instance:DecidableEq Edit:=fun a b=>decidable_of_iff (a.kind=b.kind∧a.fact=b.fact) (by cases a;cases b;simp)
def tEdit:Ty Edit:=tAs (fun x=>(x.kind,x.fact)) (tP tInt tF)
def mlbig (code0:(List Int)):Option Bool :=
  some (decide (1048576<(code0.length:Int)))
def msl1New (u:Nat) (code0:(List Int)):Option l1Cur :=
  (whileF (R:=l1Cur) (fun (⟨h3,i4⟩:Int × Int)=>cond ((decide (i4<(code0.length:Int))) && (decide (i4<4000))) ((getI code0 i4).bind fun v_6=>some (.next ((bitI .and .i64 (w64 ((w64 ((w64 (h3*131))+(w64 v_6)))+7)) 1073741823),(w64 (i4+1))))) (some (.brk (h3,i4)))) u ((w64 (10101+(code0.length:Int))),0)).bind fun O1_=>onS O1_ (fun (⟨h3,i4⟩:Int × Int)=>some ({ b:=code0,i:=0,h:=h3 }:l1Cur)) (fun r=>none)
def msl4Copy (u:Nat) (d0:Database):Option Database :=
  (app 32 ([]:(List Relation)) d0.relations).bind fun us_1=>(whileF (R:=Database) (fun (⟨i4,box4_facts⟩:Int × (List Fact))=>cond (decide (i4<(d0.facts.length:Int))) ((getI d0.facts i4).bind fun v_5=>(app 8 ([]:(List Int)) v_5.values).bind fun us_10=>(app 32 box4_facts ([({ relation:=v_5.relation,values:=us_10 }:Fact)]:(List Fact))).bind fun us_12=>some (.next ((w64 (i4+1)),us_12))) (some (.brk (i4,box4_facts)))) u (0,([]:(List Fact)))).bind fun O3_=>onS O3_ (fun (⟨i4,box4_facts⟩:Int × (List Fact))=>some ({ relations:=us_1,facts:=box4_facts }:Database)) (fun r=>none)
def msl3Ints (u:Nat) (a0:(List Int)) (b1:(List Int)):Option Int :=
  (whileF (R:=Int) (fun (i5:Int)=>cond ((decide (i5<(a0.length:Int))) && (decide (i5<(b1.length:Int)))) ((getI a0 i5).bind fun v_6=>(getI b1 i5).bind fun v_11=>cond (decide (v_6<v_11)) (some (.ret (-1))) (cond (decide (v_11<v_6)) (some (.ret 1)) (some (.next (w64 (i5+1)))))) (some (.brk i5))) u 0).bind fun O1_=>onS O1_ (fun (i5:Int)=>cond (decide ((a0.length:Int)<(b1.length:Int))) (some (-1)) (cond (decide ((b1.length:Int)<(a0.length:Int))) (some 1) (some 0))) (fun r=>some r)
def msCompareFacts (u:Nat) (a0:Fact) (b1:Fact):Option Int :=
  cond (decide (a0.relation<b1.relation)) (some (-1)) (cond (decide (b1.relation<a0.relation)) (some 1) ((msl3Ints u a0.values b1.values).bind fun r_3=>some r_3))
def msl1In (x0:Int) (low1:Int) (high2:Int):Option Bool :=
  some ((decide (low1≤x0)) && (decide (x0≤high2)))
def msIsValidRelation (s0:Relation):Option Bool :=
  (cond (decide ((s0.name.size:Int)=1)) ((getB s0.name 0).bind fun b_4=>cond (decide (97≤b_4)) ((getB s0.name 0).bind fun b_7=>cond (decide (b_7≤122)) ((msl1In s0.arity 1 3).bind fun r_10=>cond r_10 ((msl1In s0.keyLength 0 s0.arity).bind fun r_13=>some r_13) (some false)) (some false)) (some false)) (some false)).bind fun (t2_1:Bool)=>some t2_1
def msAreValidRelations (l0:(List Relation)):Option Bool :=
  (forL (R:=Bool) (fun (i_1:Int) (x_i_1:Relation) (_:Unit)=>((msIsValidRelation x_i_1).bind fun r_5=>cond (!r_5) (some true) (cond (decide (0<(i_1:Int))) ((getI l0 ((i_1:Int) - 1)).bind fun v_9=>some (!ltS v_9.name x_i_1.name)) (some false))).bind fun (t33_3:Bool)=>cond t33_3 (some (.ret false)) (some (.next ()))) l0 0 ()).bind fun O2_=>onS O2_ (fun (_:Unit)=>some (decide ((l0.length:Int)≤4))) (fun r=>some r)
def msIsValidFact (u:Nat) (l0:(List Relation)) (f1:Fact):Option Bool :=
  ((msAreValidRelations l0).bind fun r_3=>cond (!r_3) (some true) ((msl1In f1.relation 0 ((l0.length:Int) - 1)).bind fun r_7=>cond (!r_7) (some true) ((getI l0 f1.relation).bind fun v_10=>some (decide ((f1.values.length:Int)≠v_10.arity))))).bind fun (t29_1:Bool)=>cond t29_1 (some false) ((whileF (R:=Bool) (fun (i5:Int)=>cond (decide (i5<(f1.values.length:Int))) ((getI f1.values i5).bind fun v_18=>(msl1In v_18 0 9).bind fun r_23=>cond (!r_23) (some (.ret false)) (some (.next (w64 (i5+1))))) (some (.brk i5))) u 0).bind fun O16_=>onS O16_ (fun (i5:Int)=>some true) (fun r=>some r))
def msIsValidDatabase (u:Nat) (d0:Database):Option Bool :=
  (whileF (R:=Bool) (fun (i3:Int)=>cond (decide (i3<(d0.facts.length:Int))) (((getI d0.facts i3).bind fun v_5=>(msIsValidFact u d0.relations v_5).bind fun r_10=>cond (!r_10) (some true) (cond (decide (0<i3)) ((getI d0.facts (w64 (i3 - 1))).bind fun v_14=>(msCompareFacts u v_14 v_5).bind fun r_19=>some (decide (0≤r_19))) (some false))).bind fun (t38_3:Bool)=>cond t38_3 (some (.ret false)) (some (.next (w64 (i3+1))))) (some (.brk i3))) u 0).bind fun O1_=>onS O1_ (fun (i3:Int)=>((msAreValidRelations d0.relations).bind fun r_24=>cond r_24 (some (decide ((d0.facts.length:Int)≤14))) (some false)).bind fun (t2_22:Bool)=>some t2_22) (fun r=>some r)
def msFactIndex (u:Nat) (d0:Database) (f1:Fact):Option Int :=
  (whileF (R:=Int) (fun (i5:Int)=>cond (decide (i5<(d0.facts.length:Int))) ((getI d0.facts i5).bind fun v_3=>(msCompareFacts u v_3 f1).bind fun r_8=>cond (decide (r_8=0)) (some (.ret i5)) (some (.next (w64 (i5+1))))) (some (.brk i5))) u 0).bind fun O1_=>onS O1_ (fun (i5:Int)=>some (-1)) (fun r=>some r)
def msContainsFact (u:Nat) (d0:Database) (f1:Fact):Option Bool :=
  ((msIsValidDatabase u d0).bind fun r_3=>cond r_3 ((msFactIndex u d0 f1).bind fun r_6=>some (decide (0≤r_6))) (some false)).bind fun (t4_1:Bool)=>some t4_1
def msInsertFact (u:Nat) (d0:Database) (f1:Fact):Option (Database × Bool) :=
  (msl4Copy u d0).bind fun r_1=>((msIsValidDatabase u d0).bind fun r_5=>cond (!r_5) (some true) ((msIsValidFact u d0.relations f1).bind fun r_8=>cond (!r_8) (some true) ((msContainsFact u d0 f1).bind fun r_11=>cond r_11 (some true) (some (decide ((d0.facts.length:Int)=14)))))).bind fun (t31_3:Bool)=>cond t31_3 (some (r_1,false)) ((whileF (R:=(Database × Bool)) (fun (k7:Int)=>(cond (decide (k7<(r_1.facts.length:Int))) ((getI r_1.facts k7).bind fun v_19=>(msCompareFacts u v_19 f1).bind fun r_24=>some (decide (r_24<0))) (some false)).bind fun (t47_16:Bool)=>cond t47_16 (some (.next (w64 (k7+1)))) (some (.brk k7))) u 0).bind fun O15_=>onS O15_ (fun (k7:Int)=>(app 8 ([]:(List Int)) f1.values).bind fun us_27=>(cutI r_1.facts k7 (r_1.facts.length:Int)).bind fun ys_29=>(app 32 ([({ relation:=f1.relation,values:=us_27 }:Fact)]:(List Fact)) ys_29).bind fun us_38=>(cutI r_1.facts 0 k7).bind fun ys_40=>(app 32 ([]:(List Fact)) ys_40).bind fun us_49=>(app 32 us_49 us_38).bind fun us_51=>some (({ relations:=r_1.relations,facts:=us_51 }:Database),true)) (fun r=>none))
def msl1Byte (c0:l1Cur):Option (Int × l1Cur) :=
  cond (decide (c0.i<(c0.b.length:Int))) ((getI c0.b c0.i).bind fun v_2=>some ((bitI .and .i64 (w64 ((bitI .and .i64 (bitI .xor .i64 (shrI .i64 (w64 ((w64 (c0.h*6364136223846793005))+1442695040888963407)) 33) (shrI .i64 (w64 ((w64 (c0.h*6364136223846793005))+1442695040888963407)) 45)) 255)+(w64 v_2))) 255),({ b:=c0.b,i:=(w64 (c0.i+1)),h:=(w64 ((w64 (c0.h*6364136223846793005))+1442695040888963407)) }:l1Cur))) (some ((bitI .and .i64 (bitI .xor .i64 (shrI .i64 (w64 ((w64 (c0.h*6364136223846793005))+1442695040888963407)) 33) (shrI .i64 (w64 ((w64 (c0.h*6364136223846793005))+1442695040888963407)) 45)) 255),({ b:=c0.b,i:=c0.i,h:=(w64 ((w64 (c0.h*6364136223846793005))+1442695040888963407)) }:l1Cur)))
def msl1Below (c0:l1Cur) (n1:Int):Option (Int × l1Cur) :=
  cond (decide (n1≤0)) (some (0,c0)) (cond (decide (n1≤256)) ((msl1Byte c0).bind fun r_3=>(gD n1).bind fun _u=>some ((r_3.1.tmod n1),r_3.2)) ((msl1Byte c0).bind fun r_6=>(msl1Byte r_6.2).bind fun r_8=>(msl1Byte r_8.2).bind fun r_10=>(msl1Byte r_10.2).bind fun r_12=>(gD n1).bind fun _u=>some (((w64 ((w64 ((w64 ((w64 (r_6.1*16777216))+(w64 (r_8.1*65536))))+(w64 (r_10.1*256))))+r_12.1)).tmod n1),r_12.2)))
def msl1PickInt (c0:l1Cur) (list1:(List Int)):Option (Int × l1Cur) :=
  (msl1Below c0 (list1.length:Int)).bind fun r_1=>(getI list1 r_1.1).bind fun v_3=>some (v_3,r_1.2)
def msl2Sigs (c0:l1Cur):Option ((List Relation) × l1Cur) :=
  (msl1PickInt c0 ([1,1,2,0]:(List Int))).bind fun r_1=>(msl1Below r_1.2 2).bind fun r_3=>some (([({ name:=(⟨#[114]⟩:ByteArray),arity:=2,keyLength:=1 }:Relation),({ name:=(⟨#[115]⟩:ByteArray),arity:=2,keyLength:=1 }:Relation),({ name:=(⟨#[116]⟩:ByteArray),arity:=2,keyLength:=r_1.1 }:Relation),({ name:=(⟨#[117]⟩:ByteArray),arity:=3,keyLength:=(w64 (1+r_3.1)) }:Relation)]:(List Relation)),r_3.2)
def msl3Fact (u:Nat) (c0:l1Cur) (l1:(List Relation)) (val2:Int):Option (Fact × l1Cur) :=
  (msl1Below c0 (l1.length:Int)).bind fun r_1=>(whileF (R:=Fact) (fun (⟨box0,box2_values⟩:l1Cur × (List Int))=>(getI l1 r_1.1).bind fun v_4=>cond (decide ((box2_values.length:Int)<v_4.arity)) ((msl1Below box0 val2).bind fun r_10=>(app 8 box2_values ([r_10.1]:(List Int))).bind fun us_12=>some (.next (r_10.2,us_12))) (some (.brk (box0,box2_values)))) u (r_1.2,([]:(List Int)))).bind fun O3_=>onS O3_ (fun (⟨box0,box2_values⟩:l1Cur × (List Int))=>some (({ relation:=r_1.1,values:=box2_values }:Fact),box0)) (fun r=>none)
def msl4Db (u:Nat) (c0:l1Cur):Option (Database × l1Cur) :=
  (msl2Sigs c0).bind fun r_1=>(msl1PickInt r_1.2 ([2,2,3,3]:(List Int))).bind fun r_3=>(msl1Below r_3.2 11).bind fun r_5=>(whileF (R:=Database) (fun (⟨n5,box0,box3_relations,box3_facts⟩:Int × l1Cur × (List Relation) × (List Fact))=>cond (decide (0<n5)) ((msl3Fact u box0 box3_relations r_3.1).bind fun r_9=>(msInsertFact u ({ relations:=box3_relations,facts:=box3_facts }:Database) r_9.1).bind fun r_11=>some (.next ((w64 (n5 - 1)),r_9.2,r_11.1.relations,r_11.1.facts))) (some (.brk (n5,box0,box3_relations,box3_facts)))) u ((w64 (2+r_5.1)),r_5.2,r_1.1,([]:(List Fact)))).bind fun O7_=>onS O7_ (fun (⟨n5,box0,box3_relations,box3_facts⟩:Int × l1Cur × (List Relation) × (List Fact))=>some (({ relations:=box3_relations,facts:=box3_facts }:Database),box0)) (fun r=>none)
def msl3Any (u:Nat) (c0:l1Cur) (l1:(List Relation)):Option (Fact × l1Cur) :=
  (msl3Fact u c0 l1 4).bind fun r_1=>(msl1Below r_1.2 10).bind fun r_3=>cond (decide (r_3.1=0)) ((msl1Below r_3.2 6).bind fun r_6=>some (({ relation:=(w64 (r_6.1 - 1)),values:=r_1.1.values }:Fact),r_6.2)) (cond (decide (r_3.1=1)) ((app 8 r_1.1.values ([1]:(List Int))).bind fun us_9=>some (({ relation:=r_1.1.relation,values:=us_9 }:Fact),r_3.2)) (cond (decide (r_3.1=2)) ((msl1PickInt r_3.2 ([-1,10,9]:(List Int))).bind fun r_12=>(getI r_1.1.values 0).bind fun v_14=>some (({ relation:=r_1.1.relation,values:=(r_1.1.values.set (0:Int).toNat r_12.1) }:Fact),r_12.2)) (some (r_1.1,r_3.2))))
def msl1Pick (c0:l1Cur) (list1:(List ByteArray)):Option (ByteArray × l1Cur) :=
  (msl1Below c0 (list1.length:Int)).bind fun r_1=>(getI list1 r_1.1).bind fun v_3=>some (v_3,r_1.2)
def msl2Any (c0:l1Cur):Option (Relation × l1Cur) :=
  (msl1Pick c0 ([(⟨#[114]⟩:ByteArray),(⟨#[122]⟩:ByteArray),(⟨#[97]⟩:ByteArray),(⟨#[]⟩:ByteArray),(⟨#[82]⟩:ByteArray),(⟨#[97,98]⟩:ByteArray)]:(List ByteArray))).bind fun r_1=>(msl1Below r_1.2 6).bind fun r_3=>(msl1Below r_3.2 5).bind fun r_5=>some (({ name:=r_1.1,arity:=(w64 (r_3.1 - 1)),keyLength:=(w64 (r_5.1 - 1)) }:Relation),r_5.2)
def msl4Any (u:Nat) (c0:l1Cur):Option (Database × l1Cur) :=
  (msl4Db u c0).bind fun r_1=>(msl1Below r_1.2 14).bind fun r_3=>cond (decide (r_3.1=0)) ((msl3Any u r_3.2 r_1.1.relations).bind fun r_6=>(app 32 r_1.1.facts ([r_6.1]:(List Fact))).bind fun us_8=>some (({ relations:=r_1.1.relations,facts:=us_8 }:Database),r_6.2)) (cond (decide (r_3.1=1)) ((msl1Below r_3.2 4).bind fun r_11=>(cutI r_1.1.relations 0 r_11.1).bind fun ys_13=>some (({ relations:=ys_13,facts:=r_1.1.facts }:Database),r_11.2)) (cond (decide (r_3.1=2)) ((msl1Below r_3.2 4).bind fun r_23=>(msl2Any r_23.2).bind fun r_25=>(getI r_1.1.relations r_23.1).bind fun v_27=>some (({ relations:=(r_1.1.relations.set (r_23.1).toNat r_25.1),facts:=r_1.1.facts }:Database),r_25.2)) (some (r_1.1,r_3.2))))
def msl1Once (c0:l1Cur) (n1:Int):Option (Bool × l1Cur) :=
  (msl1Below c0 n1).bind fun r_1=>some (decide (r_1.1=0),r_1.2)
def msl4Fact (u:Nat) (c0:l1Cur) (d1:Database):Option (Fact × l1Cur) :=
  (cond (decide (0<(d1.facts.length:Int))) ((msl1Once c0 2).bind fun r_4=>some (r_4.1,r_4.2)) (some (false,c0))).bind fun (t12_1,box0_1)=>cond t12_1 ((msl1Below box0_1 (d1.facts.length:Int)).bind fun r_7=>(getI d1.facts r_7.1).bind fun v_9=>some (v_9,r_7.2)) ((msl3Any u box0_1 ([({ name:=(⟨#[114]⟩:ByteArray),arity:=2,keyLength:=0 }:Relation),({ name:=(⟨#[115]⟩:ByteArray),arity:=2,keyLength:=0 }:Relation),({ name:=(⟨#[116]⟩:ByteArray),arity:=2,keyLength:=0 }:Relation),({ name:=(⟨#[117]⟩:ByteArray),arity:=3,keyLength:=0 }:Relation)]:(List Relation))).bind fun r_14=>some (r_14.1,r_14.2))
def msl30Edit (u:Nat) (c0:l1Cur) (d1:Database):Option (Edit × l1Cur) :=
  (msl1PickInt c0 ([1,1,2,3,1,2,3,0,4]:(List Int))).bind fun r_1=>(msl4Fact u r_1.2 d1).bind fun r_3=>some (({ kind:=r_1.1,fact:=r_3.1 }:Edit),r_3.2)
def msDrawApplyEdit (u:Nat) (code0:(List Int)):Option (Database × Edit) :=
  (msl1New u code0).bind fun r_1=>(msl4Any u r_1).bind fun r_3=>(msl30Edit u r_3.2 r_3.1).bind fun r_5=>some (r_3.1,r_5.1)
def msDrawInverseEdits (u:Nat) (code0:(List Int)):Option (Database × Edit) :=
  (msDrawApplyEdit u code0).bind fun r_1=>some (r_1.1,r_1.2)
def micompare (a0:Int) (b1:Int):Option Int :=
  cond (decide (a0<b1)) (some (-1)) (cond (decide (b1<a0)) (some 1) (some 0))
def m_cmp_isNaN_int (x0:Int):Option Bool :=
  some (decide (x0≠x0))
def m_cmp_Compare_int (x0:Int) (y1:Int):Option Int :=
  (m_cmp_isNaN_int x0).bind fun r_1=>(m_cmp_isNaN_int y1).bind fun r_3=>cond r_1 (cond r_3 (some 0) (some (-1))) (cond r_3 (some 1) (cond (decide (x0<y1)) (some (-1)) (cond (decide (y1<x0)) (some 1) (some 0))))
def m_slices_Compare_Sint_int (s10:(List Int)) (s21:(List Int)):Option Int :=
  (forL (R:=Int) (fun (t_1:Int) (x_t_1:Int) (_:Unit)=>cond (decide ((s21.length:Int)≤(t_1:Int))) (some (.ret 1)) ((getI s21 (t_1:Int)).bind fun v_4=>(m_cmp_Compare_int x_t_1 v_4).bind fun r_9=>cond (decide (r_9≠0)) (some (.ret r_9)) (some (.next ())))) s10 0 ()).bind fun O2_=>onS O2_ (fun (_:Unit)=>cond (decide ((s10.length:Int)<(s21.length:Int))) (some (-1)) (some 0)) (fun r=>some r)
def miCompareFacts (a0:Fact) (b1:Fact):Option Int :=
  cond (decide (a0.relation≠b1.relation)) ((micompare a0.relation b1.relation).bind fun r_2=>some r_2) ((m_slices_Compare_Sint_int a0.values b1.values).bind fun r_4=>some r_4)
def micopyDatabase (db0:Database):Option Database :=
  (app 32 ([]:(List Relation)) db0.relations).bind fun us_1=>(forS (fun (t_3:Int) (x_t_3:Fact) (box5_facts:(List Fact))=>(app 8 ([]:(List Int)) x_t_3.values).bind fun us_5=>(app 32 box5_facts ([({ relation:=x_t_3.relation,values:=us_5 }:Fact)]:(List Fact))).bind fun us_7=>some us_7) db0.facts 0 ([]:(List Fact))).bind fun (box5_facts:(List Fact))=>some ({ relations:=us_1,facts:=box5_facts }:Database)
def miwithin (n0:Int) (low1:Int) (high2:Int):Option Bool :=
  some ((decide (low1≤n0)) && (decide (n0≤high2)))
def m_slices_IndexFunc_Sint_int (s0:(List Int)) (f1:(Int→Option Bool)):Option Int :=
  (forL (R:=Int) (fun (t_1:Int) (x_t_1:Int) (_:Unit)=>(f1 x_t_1).bind fun r_3=>cond r_3 (some (.ret (t_1:Int))) (some (.next ()))) s0 0 ()).bind fun O2_=>onS O2_ (fun (_:Unit)=>some (-1)) (fun r=>some r)
def m_slices_ContainsFunc_Sint_int (s0:(List Int)) (f1:(Int→Option Bool)):Option Bool :=
  (m_slices_IndexFunc_Sint_int s0 f1).bind fun r_1=>some (decide (0≤r_1))
def miareValues_1 (v0:Int):Option Bool :=
  (miwithin v0 0 9).bind fun r_1=>some (!r_1)
def miareValues (list0:(List Int)):Option Bool :=
  (m_slices_ContainsFunc_Sint_int list0 (fun x0=>miareValues_1 x0)).bind fun r_1=>some (!r_1)
def miisFact (relations0:(List Relation)) (fact1:Fact):Option Bool :=
  ((miwithin fact1.relation 0 ((relations0.length:Int) - 1)).bind fun r_4=>cond r_4 ((getI relations0 fact1.relation).bind fun v_7=>cond (decide ((fact1.values.length:Int)=v_7.arity)) ((miareValues fact1.values).bind fun r_13=>some r_13) (some false)) (some false)).bind fun (t4_1:Bool)=>some t4_1
def miIsValidRelation (relation0:Relation):Option Bool :=
  (cond (decide ((relation0.name.size:Int)=1)) ((getB relation0.name 0).bind fun b_4=>cond (decide (97≤b_4)) ((getB relation0.name 0).bind fun b_7=>cond (decide (b_7≤122)) ((miwithin relation0.arity 1 3).bind fun r_10=>cond r_10 ((miwithin relation0.keyLength 0 relation0.arity).bind fun r_13=>some r_13) (some false)) (some false)) (some false)) (some false)).bind fun (t2_1:Bool)=>some t2_1
def miAreValidRelations (relations0:(List Relation)):Option Bool :=
  (forL (R:=Bool) (fun (t_1:Int) (x_t_1:Relation) (_:Unit)=>((miIsValidRelation x_t_1).bind fun r_5=>cond (!r_5) (some true) (cond (decide (0<(t_1:Int))) ((getI relations0 ((t_1:Int) - 1)).bind fun v_9=>some (!ltS v_9.name x_t_1.name)) (some false))).bind fun (t29_3:Bool)=>cond t29_3 (some (.ret false)) (some (.next ()))) relations0 0 ()).bind fun O2_=>onS O2_ (fun (_:Unit)=>some (decide ((relations0.length:Int)≤4))) (fun r=>some r)
def miIsValidDatabase (db0:Database):Option Bool :=
  ((miAreValidRelations db0.relations).bind fun r_3=>cond (!r_3) (some true) (some (decide (14<(db0.facts.length:Int))))).bind fun (t14_1:Bool)=>cond t14_1 (some false) ((forL (R:=Bool) (fun (t_7:Int) (x_t_7:Fact) (_:Unit)=>((miisFact db0.relations x_t_7).bind fun r_11=>cond (!r_11) (some true) (cond (decide (0<(t_7:Int))) ((getI db0.facts ((t_7:Int) - 1)).bind fun v_15=>(miCompareFacts v_15 x_t_7).bind fun r_20=>some (decide (0≤r_20))) (some false))).bind fun (t42_9:Bool)=>cond t42_9 (some (.ret false)) (some (.next ()))) db0.facts 0 ()).bind fun O8_=>onS O8_ (fun (_:Unit)=>some true) (fun r=>some r))
def m_slices_IndexFunc_Simpl_Fact_impl_Fact (s0:(List Fact)) (f1:(Fact→Option Bool)):Option Int :=
  (forL (R:=Int) (fun (t_1:Int) (x_t_1:Fact) (_:Unit)=>(f1 x_t_1).bind fun r_3=>cond r_3 (some (.ret (t_1:Int))) (some (.next ()))) s0 0 ()).bind fun O2_=>onS O2_ (fun (_:Unit)=>some (-1)) (fun r=>some r)
def miFactIndex_1 (own0:Fact) (fv1:Fact):Option Bool :=
  (miCompareFacts own0 fv1).bind fun r_1=>some (decide (r_1=0))
def miFactIndex (db0:Database) (fact1:Fact):Option Int :=
  (m_slices_IndexFunc_Simpl_Fact_impl_Fact db0.facts (fun x0=>miFactIndex_1 x0 fact1)).bind fun r_1=>some r_1
def m_slices_Insert_Simpl_Fact_impl_Fact (s0:List Fact) (i1:Int) (v2:List Fact):Option (List Fact):=insAt 32 s0 i1 v2
def miInsertFact (u:Nat) (db0:Database) (fact1:Fact):Option (Database × Bool) :=
  (micopyDatabase db0).bind fun r_1=>((miIsValidDatabase db0).bind fun r_5=>cond (!r_5) (some true) ((miisFact db0.relations fact1).bind fun r_8=>cond (!r_8) (some true) ((miFactIndex db0 fact1).bind fun r_11=>cond (decide (0≤r_11)) (some true) (some (decide ((db0.facts.length:Int)=14)))))).bind fun (t31_3:Bool)=>cond t31_3 (some (r_1,false)) ((whileF (R:=(Database × Bool)) (fun (at7:Int)=>(cond (decide (at7<(db0.facts.length:Int))) ((getI db0.facts at7).bind fun v_19=>(miCompareFacts v_19 fact1).bind fun r_24=>some (decide (r_24<0))) (some false)).bind fun (t47_16:Bool)=>cond t47_16 (some (.next (w64 (at7+1)))) (some (.brk at7))) u 0).bind fun O15_=>onS O15_ (fun (at7:Int)=>(app 8 ([]:(List Int)) fact1.values).bind fun us_27=>(m_slices_Insert_Simpl_Fact_impl_Fact r_1.facts at7 ([({ relation:=fact1.relation,values:=us_27 }:Fact)]:List Fact)).bind fun r_29=>some (({ relations:=r_1.relations,facts:=r_29 }:Database),true)) (fun r=>none))
def miContainsFact (db0:Database) (fact1:Fact):Option Bool :=
  ((miIsValidDatabase db0).bind fun r_3=>cond r_3 ((miFactIndex db0 fact1).bind fun r_6=>some (decide (0≤r_6))) (some false)).bind fun (t4_1:Bool)=>some t4_1
def m_slices_Delete_Simpl_Fact_impl_Fact (s0:List Fact) (i1 j2:Int):Option (List Fact):=cutOut s0 i1 j2
def miDeleteFact (db0:Database) (fact1:Fact):Option (Database × Bool) :=
  (micopyDatabase db0).bind fun r_1=>(miContainsFact db0 fact1).bind fun r_3=>cond (!r_3) (some (r_1,false)) ((miFactIndex db0 fact1).bind fun r_6=>(m_slices_Delete_Simpl_Fact_impl_Fact r_1.facts r_6 (w64 (r_6+1))).bind fun r_8=>some (({ relations:=r_1.relations,facts:=r_8 }:Database),true))
def m_slices_Index_Sint_int (s0:(List Int)) (v1:Int):Option Int :=
  (forL (R:=Int) (fun (t_1:Int) (x_t_1:Int) (_:Unit)=>cond (decide (v1=x_t_1)) (some (.ret (t_1:Int))) (some (.next ()))) s0 0 ()).bind fun O2_=>onS O2_ (fun (_:Unit)=>some (-1)) (fun r=>some r)
def m_slices_Contains_Sint_int (s0:(List Int)) (v1:Int):Option Bool :=
  (m_slices_Index_Sint_int s0 v1).bind fun r_1=>some (decide (0≤r_1))
def miwithout (a0:(List Int)) (b1:(List Int)):Option (List Int) :=
  (forS (fun (t_1:Int) (x_t_1:Int) (out5:(List Int))=>(m_slices_Contains_Sint_int b1 x_t_1).bind fun r_3=>cond (!r_3) ((app 8 out5 ([x_t_1]:(List Int))).bind fun us_6=>some us_6) (some out5)) a0 0 ([]:(List Int))).bind fun (out5:(List Int))=>some out5
def miareIndices (indices0:(List Int)) (n1:Int):Option Bool :=
  (forL (R:=Bool) (fun (t_1:Int) (x_t_1:Int) (_:Unit)=>((miwithin x_t_1 0 (w64 (n1 - 1))).bind fun r_5=>cond (!r_5) (some true) (cond (decide (0<(t_1:Int))) ((getI indices0 ((t_1:Int) - 1)).bind fun v_9=>some (decide (x_t_1≤v_9))) (some false))).bind fun (t31_3:Bool)=>cond t31_3 (some (.ret false)) (some (.next ()))) indices0 0 ()).bind fun O2_=>onS O2_ (fun (_:Unit)=>some true) (fun r=>some r)
def miSelectFacts (db0:Database) (indices1:(List Int)):Option (Database × Bool) :=
  ((miIsValidDatabase db0).bind fun r_3=>cond (!r_3) (some true) ((miareIndices indices1 (db0.facts.length:Int)).bind fun r_6=>some (!r_6))).bind fun (t20_1:Bool)=>cond t20_1 (some (({ relations:=([]:(List Relation)),facts:=([]:(List Fact)) }:Database),false)) ((micopyDatabase db0).bind fun r_9=>(forS (fun (t_11:Int) (x_t_11:Int) (box5_facts:(List Fact))=>(getI r_9.facts x_t_11).bind fun v_13=>(app 32 box5_facts ([v_13]:(List Fact))).bind fun us_18=>some us_18) indices1 0 ([]:(List Fact))).bind fun (box5_facts:(List Fact))=>some (({ relations:=r_9.relations,facts:=box5_facts }:Database),true))
def miwithoutFacts (db0:Database) (indices1:(List Int)):Option Database :=
  (gN (db0.facts.length:Int)).bind fun _=>(forM (fun (t_1:Int) (all5:(List Int))=>(app 8 all5 ([(t_1:Int)]:(List Int))).bind fun us_4=>some us_4) ((db0.facts.length:Int) - 0).toNat 0 ([]:(List Int))).bind fun (all5:(List Int))=>(miwithout all5 indices1).bind fun r_6=>(miSelectFacts db0 r_6).bind fun r_8=>some r_8.1
def m_slices_Equal_Sint_int (s10:(List Int)) (s21:(List Int)):Option Bool :=
  cond (decide ((s10.length:Int)≠(s21.length:Int))) (some false) ((forL (R:=Bool) (fun (t_2:Int) (x_t_2:Int) (_:Unit)=>(getI s21 (t_2:Int)).bind fun v_4=>cond (decide (x_t_2≠v_4)) (some (.ret false)) (some (.next ()))) s10 0 ()).bind fun O3_=>onS O3_ (fun (_:Unit)=>some true) (fun r=>some r))
def misameKey (relations0:(List Relation)) (a1:Fact) (b2:Fact):Option Bool :=
  cond (decide (a1.relation≠b2.relation)) (some false) ((getI relations0 a1.relation).bind fun v_2=>(cutI a1.values 0 v_2.keyLength).bind fun ys_7=>(cutI b2.values 0 v_2.keyLength).bind fun ys_9=>(m_slices_Equal_Sint_int ys_7 ys_9).bind fun r_11=>some r_11)
def miblocks (db0:Database):Option (List (List Int)) :=
  (forS (fun (t_1:Int) (x_t_1:Fact) (out3:(List (List Int)))=>(cond (decide (0≤((out3.length:Int) - 1))) ((getI out3 ((out3.length:Int) - 1)).bind fun v_7=>(getI v_7 0).bind fun v_12=>(getI db0.facts v_12).bind fun v_17=>(misameKey db0.relations v_17 x_t_1).bind fun r_22=>some r_22) (some false)).bind fun (t36_4:Bool)=>cond t36_4 ((getI out3 ((out3.length:Int) - 1)).bind fun v_25=>(app 8 v_25 ([(t_1:Int)]:(List Int))).bind fun us_30=>some (out3.set (((out3.length:Int) - 1)).toNat us_30)) ((app 24 out3 ([([(t_1:Int)]:(List Int))]:(List (List Int)))).bind fun us_32=>some us_32)) db0.facts 0 ([]:(List (List Int)))).bind fun (out3:(List (List Int)))=>some out3
def miBlocks (db0:Database):Option (List (List Int)) :=
  (miIsValidDatabase db0).bind fun r_1=>cond (!r_1) (some ([]:(List (List Int)))) ((miblocks db0).bind fun r_4=>some r_4)
def miBlockOf (db0:Database) (index1:Int):Option (List Int) :=
  (miBlocks db0).bind fun r_1=>(forL (R:=(List Int)) (fun (t_3:Int) (x_t_3:(List Int)) (_:Unit)=>(m_slices_Contains_Sint_int x_t_3 index1).bind fun r_5=>cond r_5 (some (.ret x_t_3)) (some (.next ()))) r_1 0 ()).bind fun O4_=>onS O4_ (fun (_:Unit)=>some ([]:(List Int))) (fun r=>some r)
def miResolveConflict (db0:Database) (fact1:Fact):Option (Database × Bool) :=
  (miContainsFact db0 fact1).bind fun r_1=>cond (!r_1) ((micopyDatabase db0).bind fun r_4=>some (r_4,false)) ((miFactIndex db0 fact1).bind fun r_6=>(miBlockOf db0 r_6).bind fun r_8=>(miwithout r_8 ([r_6]:(List Int))).bind fun r_10=>(miwithoutFacts db0 r_10).bind fun r_12=>some (r_12,true))
def miApplyEdit (u:Nat) (db0:Database) (edit1:Edit):Option (Database × Bool) :=
  cond (decide (edit1.kind=1)) ((miInsertFact u db0 edit1.fact).bind fun r_2=>some (r_2.1,r_2.2)) (cond (decide (edit1.kind=2)) ((miDeleteFact db0 edit1.fact).bind fun r_5=>some (r_5.1,r_5.2)) (cond (decide (edit1.kind=3)) ((miResolveConflict db0 edit1.fact).bind fun r_8=>some (r_8.1,r_8.2)) ((micopyDatabase db0).bind fun r_10=>some (r_10,false))))
def msDeleteFact (u:Nat) (d0:Database) (f1:Fact):Option (Database × Bool) :=
  (msl4Copy u d0).bind fun r_1=>(msContainsFact u d0 f1).bind fun r_3=>cond (!r_3) (some (r_1,false)) ((msFactIndex u d0 f1).bind fun r_6=>(cutI r_1.facts 0 r_6).bind fun ys_8=>(app 32 ([]:(List Fact)) ys_8).bind fun us_17=>(cutI r_1.facts (w64 (r_6+1)) (r_1.facts.length:Int)).bind fun ys_19=>(app 32 us_17 ys_19).bind fun us_28=>some (({ relations:=r_1.relations,facts:=us_28 }:Database),true))
def msKeyOf (u:Nat) (l0:(List Relation)) (f1:Fact):Option (List Int) :=
  (msIsValidFact u l0 f1).bind fun r_1=>cond (!r_1) (some ([]:(List Int))) ((getI l0 f1.relation).bind fun v_4=>(cutI f1.values 0 v_4.keyLength).bind fun ys_9=>(app 8 ([]:(List Int)) ys_9).bind fun us_11=>some us_11)
def msHaveSameKey (u:Nat) (l0:(List Relation)) (a1:Fact) (b2:Fact):Option Bool :=
  ((msIsValidFact u l0 a1).bind fun r_3=>cond r_3 ((msIsValidFact u l0 b2).bind fun r_6=>cond r_6 (cond (decide (a1.relation=b2.relation)) ((msKeyOf u l0 a1).bind fun r_10=>(msKeyOf u l0 b2).bind fun r_12=>(msl3Ints u r_10 r_12).bind fun r_14=>some (decide (r_14=0))) (some false)) (some false)) (some false)).bind fun (t6_1:Bool)=>some t6_1
def msBlockOf (u:Nat) (d0:Database) (i1:Int):Option (List Int) :=
  (whileF (R:=(List Int)) (fun (⟨out5,k6⟩:(List Int) × Int)=>(cond (decide (k6<(d0.facts.length:Int))) ((msIsValidDatabase u d0).bind fun r_5=>cond r_5 ((msl1In i1 0 ((d0.facts.length:Int) - 1)).bind fun r_9=>some r_9) (some false)) (some false)).bind fun (t24_2:Bool)=>cond t24_2 ((getI d0.facts i1).bind fun v_12=>(getI d0.facts k6).bind fun v_17=>(msHaveSameKey u d0.relations v_12 v_17).bind fun r_22=>cond r_22 ((app 8 out5 ([k6]:(List Int))).bind fun us_25=>some (.next (us_25,(w64 (k6+1))))) (some (.next (out5,(w64 (k6+1)))))) (some (.brk (out5,k6)))) u (([]:(List Int)),0)).bind fun O1_=>onS O1_ (fun (⟨out5,k6⟩:(List Int) × Int)=>some out5) (fun r=>none)
def msl7Has (l0:(List Int)) (x1:Int):Option Bool :=
  (forL (R:=Bool) (fun (i_1:Int) (x_i_1:Int) (_:Unit)=>cond (decide (x_i_1=x1)) (some (.ret true)) (some (.next ()))) l0 0 ()).bind fun O2_=>onS O2_ (fun (_:Unit)=>some false) (fun r=>some r)
def msl4Set (d0:Database) (l1:(List Int)):Option Bool :=
  (forL (R:=Bool) (fun (i_1:Int) (x_i_1:Int) (_:Unit)=>((msl1In x_i_1 0 ((d0.facts.length:Int) - 1)).bind fun r_6=>cond (!r_6) (some true) (cond (decide (0<(i_1:Int))) ((getI l1 ((i_1:Int) - 1)).bind fun v_10=>some (decide (x_i_1≤v_10))) (some false))).bind fun (t37_3:Bool)=>cond t37_3 (some (.ret false)) (some (.next ()))) l1 0 ()).bind fun O2_=>onS O2_ (fun (_:Unit)=>some true) (fun r=>some r)
def msSelectFacts (u:Nat) (d0:Database) (l1:(List Int)):Option (Database × Bool) :=
  ((msIsValidDatabase u d0).bind fun r_3=>cond (!r_3) (some true) ((msl4Set d0 l1).bind fun r_6=>some (!r_6))).bind fun (t17_1:Bool)=>cond t17_1 (some (({ relations:=([]:(List Relation)),facts:=([]:(List Fact)) }:Database),false)) ((app 32 ([]:(List Relation)) d0.relations).bind fun us_9=>(forS (fun (i_11:Int) (x_i_11:Int) (box4_facts:(List Fact))=>(getI d0.facts x_i_11).bind fun v_13=>(app 8 ([]:(List Int)) v_13.values).bind fun us_18=>(app 32 box4_facts ([({ relation:=v_13.relation,values:=us_18 }:Fact)]:(List Fact))).bind fun us_20=>some us_20) l1 0 ([]:(List Fact))).bind fun (box4_facts:(List Fact))=>some (({ relations:=us_9,facts:=box4_facts }:Database),true))
def msResolveConflict (u:Nat) (d0:Database) (f1:Fact):Option (Database × Bool) :=
  (msContainsFact u d0 f1).bind fun r_1=>cond (!r_1) ((msl4Copy u d0).bind fun r_4=>some (r_4,false)) ((msFactIndex u d0 f1).bind fun r_6=>(msBlockOf u d0 r_6).bind fun r_8=>(whileF (R:=(Database × Bool)) (fun (⟨keep8,i9⟩:(List Int) × Int)=>cond (decide (i9<(d0.facts.length:Int))) ((cond (decide (i9=r_6)) (some true) ((msl7Has r_8 i9).bind fun r_15=>some (!r_15))).bind fun (t40_12:Bool)=>cond t40_12 ((app 8 keep8 ([i9]:(List Int))).bind fun us_18=>some (.next (us_18,(w64 (i9+1))))) (some (.next (keep8,(w64 (i9+1)))))) (some (.brk (keep8,i9)))) u (([]:(List Int)),0)).bind fun O10_=>onS O10_ (fun (⟨keep8,i9⟩:(List Int) × Int)=>(msSelectFacts u d0 keep8).bind fun r_20=>some (r_20.1,true)) (fun r=>none))
def msApplyEdit (u:Nat) (d0:Database) (e1:Edit):Option (Database × Bool) :=
  (msl4Copy u d0).bind fun r_1=>cond (decide (e1.kind=1)) ((msInsertFact u d0 e1.fact).bind fun r_4=>some (r_4.1,r_4.2)) (cond (decide (e1.kind=2)) ((msDeleteFact u d0 e1.fact).bind fun r_7=>some (r_7.1,r_7.2)) (cond (decide (e1.kind=3)) ((msResolveConflict u d0 e1.fact).bind fun r_10=>some (r_10.1,r_10.2)) (some (r_1,false))))
def mieditsFor (kind0:Int) (a1:Database) (b2:Database):Option (List Edit) :=
  (micopyDatabase a1).bind fun r_1=>(forS (fun (t_3:Int) (x_t_3:Fact) (out7:(List Edit))=>(miFactIndex b2 x_t_3).bind fun r_5=>cond (decide (r_5<0)) ((app 40 out7 ([({ kind:=kind0,fact:=x_t_3 }:Edit)]:(List Edit))).bind fun us_8=>some us_8) (some out7)) r_1.facts 0 ([]:(List Edit))).bind fun (out7:(List Edit))=>some out7
def miInverseEdits (u:Nat) (db0:Database) (edit1:Edit):Option ((List Edit) × Bool) :=
  (miApplyEdit u db0 edit1).bind fun r_1=>cond (!r_1.2) (some (([]:(List Edit)),false)) ((mieditsFor 2 r_1.1 db0).bind fun r_4=>(mieditsFor 1 db0 r_1.1).bind fun r_6=>(app 40 r_4 r_6).bind fun us_8=>some (us_8,true))
def msEqualDatabases (u:Nat) (a0:Database) (b1:Database):Option Bool :=
  cond ((decide ((a0.relations.length:Int)≠(b1.relations.length:Int))) || (decide ((a0.facts.length:Int)≠(b1.facts.length:Int)))) (some false) ((whileF (R:=Bool) (fun (i5:Int)=>cond (decide (i5<(a0.relations.length:Int))) ((getI a0.relations i5).bind fun v_7=>(getI b1.relations i5).bind fun v_12=>cond (!(cmpSc [.s v_7.name v_12.name,.i v_7.arity v_12.arity,.i v_7.keyLength v_12.keyLength])) (some (.ret false)) (some (.next (w64 (i5+1))))) (some (.brk i5))) u 0).bind fun O5_=>onS O5_ (fun (i5:Int)=>(whileF (R:=Bool) (fun (i6:Int)=>cond (decide (i6<(a0.facts.length:Int))) ((getI a0.facts i6).bind fun v_20=>(getI b1.facts i6).bind fun v_25=>(msCompareFacts u v_20 v_25).bind fun r_30=>cond (decide (r_30≠0)) (some (.ret false)) (some (.next (w64 (i6+1))))) (some (.brk i6))) u 0).bind fun O18_=>onS O18_ (fun (i6:Int)=>some true) (fun r=>some r)) (fun r=>some r))
def miIsValidFact (relations0:(List Relation)) (fact1:Fact):Option Bool :=
  ((miAreValidRelations relations0).bind fun r_3=>cond r_3 ((miisFact relations0 fact1).bind fun r_6=>some r_6) (some false)).bind fun (t4_1:Bool)=>some t4_1
def m_strconv_Itoa (v0:Int):Option ByteArray:=if -9223372036854775808≤v0∧v0≤9223372036854775807 then some ⟨(Go.Lib.itoa v0).toArray⟩ else none
def miFormatInt (n0:Int):Option ByteArray :=
  (m_strconv_Itoa n0).bind fun r_1=>some r_1
def m_strings_Join (s0:List ByteArray) (v1:ByteArray):Option ByteArray:=if s0.length≤140737488355328∧(Go.Lib.join (s0.map (·.data.toList)) v1.data.toList).length≤140737488355328 then some ⟨(Go.Lib.join (s0.map (·.data.toList)) v1.data.toList).toArray⟩ else none
def mibarred (parts0:(List ByteArray)) (at1:Int):Option ByteArray :=
  (cutI parts0 0 at1).bind fun ys_1=>(m_strings_Join ys_1 (⟨#[]⟩:ByteArray)).bind fun r_3=>cond (decide (at1<(parts0.length:Int))) ((cutI parts0 at1 (parts0.length:Int)).bind fun ys_6=>(m_strings_Join ys_6 (⟨#[]⟩:ByteArray)).bind fun r_8=>(catS (⟨#[124]⟩:ByteArray) r_8).bind fun cat_10=>(catS r_3 cat_10).bind fun cat_12=>some cat_12) (some r_3)
def miFormatFact (relations0:(List Relation)) (fact1:Fact):Option ByteArray :=
  (miIsValidFact relations0 fact1).bind fun r_1=>cond (!r_1) (some (⟨#[]⟩:ByteArray)) ((forS (fun (t_4:Int) (x_t_4:Int) (parts5:(List ByteArray))=>(miFormatInt x_t_4).bind fun r_6=>(app 16 parts5 ([r_6]:(List ByteArray))).bind fun us_8=>some us_8) fact1.values 0 ([]:(List ByteArray))).bind fun (parts5:(List ByteArray))=>(getI relations0 fact1.relation).bind fun v_10=>(mibarred parts5 v_10.keyLength).bind fun r_15=>(catS v_10.name r_15).bind fun cat_17=>some cat_17)
def miFormatEdit (db0:Database) (edit1:Edit):Option ByteArray :=
  (miFormatFact db0.relations edit1.fact).bind fun r_1=>(cond (decide (r_1=(⟨#[]⟩:ByteArray))) (some true) ((miwithin edit1.kind 1 3).bind fun r_6=>some (!r_6))).bind fun (t18_3:Bool)=>cond t18_3 (some (⟨#[]⟩:ByteArray)) ((cutB (⟨#[32,43,45,33]⟩:ByteArray) edit1.kind (w64 (edit1.kind+1))).bind fun ss_9=>(catS ss_9 r_1).bind fun cat_11=>some cat_11)
def m_slices_IndexFunc_Simpl_Relation_impl_Relation (s0:(List Relation)) (f1:(Relation→Option Bool)):Option Int :=
  (forL (R:=Int) (fun (t_1:Int) (x_t_1:Relation) (_:Unit)=>(f1 x_t_1).bind fun r_3=>cond r_3 (some (.ret (t_1:Int))) (some (.next ()))) s0 0 ()).bind fun O2_=>onS O2_ (fun (_:Unit)=>some (-1)) (fun r=>some r)
def miRelationIndex_1 (r0:Relation) (fv1:ByteArray):Option Bool :=
  some (decide (r0.name=fv1))
def miRelationIndex (relations0:(List Relation)) (name1:ByteArray):Option Int :=
  (m_slices_IndexFunc_Simpl_Relation_impl_Relation relations0 (fun x0=>miRelationIndex_1 x0 name1)).bind fun r_1=>some r_1
def miParseFact (relations0:(List Relation)) (s1:ByteArray):Option (Fact × Bool) :=
  cond (decide (s1=(⟨#[]⟩:ByteArray))) (some (({ relation:=0,values:=([]:(List Int)) }:Fact),false)) ((cutB s1 0 1).bind fun ss_2=>(miRelationIndex relations0 ss_2).bind fun r_4=>(gN (s1.size:Int)).bind fun _=>(forM (fun (i_6:Int) (box1_values:(List Int))=>(getB s1 (i_6:Int)).bind fun b_9=>cond (decide (b_9≠124)) ((getB s1 (i_6:Int)).bind fun b_12=>(app 8 box1_values ([(w64 ((w64 b_12) - 48))]:(List Int))).bind fun us_14=>some us_14) (some box1_values)) ((s1.size:Int) - 1).toNat 1 ([]:(List Int))).bind fun (box1_values:(List Int))=>(miFormatFact relations0 ({ relation:=r_4,values:=box1_values }:Fact)).bind fun r_16=>cond (decide (r_16≠s1)) (some (({ relation:=0,values:=([]:(List Int)) }:Fact),false)) (some (({ relation:=r_4,values:=box1_values }:Fact),true)))
def miParseEdit (u:Nat) (db0:Database) (s1:ByteArray):Option (Edit × Bool) :=
  (whileF (R:=(Edit × Bool)) (fun (kind6:Int)=>cond ((decide (kind6≤3)) && (decide (s1≠(⟨#[]⟩:ByteArray)))) ((getB s1 0).bind fun b_6=>(getB (⟨#[32,43,45,33]⟩:ByteArray) kind6).bind fun b_8=>cond (decide (b_6≠b_8)) (some (.next (w64 (kind6+1)))) ((cutB s1 1 (s1.size:Int)).bind fun ss_11=>(miParseFact db0.relations ss_11).bind fun r_13=>cond (!r_13.2) (some (.ret (({ kind:=0,fact:=({ relation:=0,values:=([]:(List Int)) }:Fact) }:Edit),false))) (some (.ret (({ kind:=kind6,fact:=r_13.1 }:Edit),true))))) (some (.brk kind6))) u 1).bind fun O1_=>onS O1_ (fun (kind6:Int)=>some (({ kind:=0,fact:=({ relation:=0,values:=([]:(List Int)) }:Fact) }:Edit),false)) (fun r=>some r)
def msFormatInt (u:Nat) (n0:Int):Option ByteArray :=
  cond (decide (n0=0)) (some (⟨#[48]⟩:ByteArray)) ((whileF (R:=ByteArray) (fun (⟨n0z,out3⟩:Int × ByteArray)=>cond (decide (n0z≠0)) (cond (decide ((n0z.tmod 10)<0)) ((catS (strOf ([(IntKind.wrap .u8 (w64 (48+(w64 (-(n0z.tmod 10))))))]:(List Int))) out3).bind fun cat_5=>some (.next ((w64 (n0z.tdiv 10)),cat_5))) ((catS (strOf ([(IntKind.wrap .u8 (w64 (48+(n0z.tmod 10))))]:(List Int))) out3).bind fun cat_7=>some (.next ((w64 (n0z.tdiv 10)),cat_7)))) (some (.brk (n0z,out3)))) u (n0,(⟨#[]⟩:ByteArray))).bind fun O2_=>onS O2_ (fun (⟨n0z,out3⟩:Int × ByteArray)=>cond (decide (n0<0)) ((catS (⟨#[45]⟩:ByteArray) out3).bind fun cat_10=>some cat_10) (some out3)) (fun r=>none))
def msFormatFact (u:Nat) (l0:(List Relation)) (f1:Fact):Option ByteArray :=
  (msIsValidFact u l0 f1).bind fun r_1=>cond (!r_1) (some (⟨#[]⟩:ByteArray)) ((getI l0 f1.relation).bind fun v_4=>(whileF (R:=ByteArray) (fun (⟨s5,i6⟩:ByteArray × Int)=>cond (decide (i6<(f1.values.length:Int))) (cond (decide (i6=v_4.keyLength)) ((catS s5 (⟨#[124]⟩:ByteArray)).bind fun cat_12=>(getI f1.values i6).bind fun v_14=>(msFormatInt u v_14).bind fun r_19=>(catS cat_12 r_19).bind fun cat_21=>some (.next (cat_21,(w64 (i6+1))))) ((getI f1.values i6).bind fun v_23=>(msFormatInt u v_23).bind fun r_28=>(catS s5 r_28).bind fun cat_30=>some (.next (cat_30,(w64 (i6+1)))))) (some (.brk (s5,i6)))) u (v_4.name,0)).bind fun O9_=>onS O9_ (fun (⟨s5,i6⟩:ByteArray × Int)=>some s5) (fun r=>none))
def msFormatEdit (u:Nat) (d0:Database) (e1:Edit):Option ByteArray :=
  (msFormatFact u d0.relations e1.fact).bind fun r_1=>(cond (decide (r_1=(⟨#[]⟩:ByteArray))) (some true) ((msl1In e1.kind 1 3).bind fun r_6=>some (!r_6))).bind fun (t18_3:Bool)=>cond t18_3 (some (⟨#[]⟩:ByteArray)) ((getI ([(⟨#[43]⟩:ByteArray),(⟨#[45]⟩:ByteArray),(⟨#[33]⟩:ByteArray)]:(List ByteArray)) (w64 (e1.kind - 1))).bind fun v_9=>(catS v_9 r_1).bind fun cat_14=>some cat_14)
def msl1Text (u:Nat) (c0:l1Cur) (most1:Int):Option (ByteArray × l1Cur) :=
  (msl1Below c0 4).bind fun r_1=>(msl1Below r_1.2 (w64 (most1+1))).bind fun r_3=>(whileF (R:=ByteArray) (fun (⟨out5,n7,box0⟩:(List Int) × Int × l1Cur)=>cond (decide (0<n7)) ((msl1Byte box0).bind fun r_7=>cond (decide (r_1.1=1)) (cond (decide (r_1.1=2)) ((app 1 out5 ([(IntKind.wrap .u8 (w64 (97+((r_7.1.tmod 2).tmod 4))))]:(List Int))).bind fun us_11=>some (.next (us_11,(w64 (n7 - 1)),r_7.2))) ((app 1 out5 ([(IntKind.wrap .u8 (r_7.1.tmod 2))]:(List Int))).bind fun us_13=>some (.next (us_13,(w64 (n7 - 1)),r_7.2)))) (cond (decide (r_1.1=2)) ((app 1 out5 ([(IntKind.wrap .u8 (w64 (97+(r_7.1.tmod 4))))]:(List Int))).bind fun us_16=>some (.next (us_16,(w64 (n7 - 1)),r_7.2))) ((app 1 out5 ([(IntKind.wrap .u8 r_7.1)]:(List Int))).bind fun us_18=>some (.next (us_18,(w64 (n7 - 1)),r_7.2))))) (some (.brk (out5,n7,box0)))) u (([]:(List Int)),r_3.1,r_3.2)).bind fun O5_=>onS O5_ (fun (⟨out5,n7,box0⟩:(List Int) × Int × l1Cur)=>some ((strOf out5),box0)) (fun r=>none)
def msl1Spoil (u:Nat) (c0:l1Cur) (s1:ByteArray):Option (ByteArray × l1Cur) :=
  cond (decide ((s1.size:Int)=0)) ((msl1Text u c0 3).bind fun r_2=>some (r_2.1,r_2.2)) ((msl1Below c0 (s1.size:Int)).bind fun r_4=>(msl1Below r_4.2 4).bind fun r_6=>cond (decide (r_6.1=0)) ((cutB s1 0 r_4.1).bind fun ss_9=>(cutB s1 (w64 (r_4.1+1)) (s1.size:Int)).bind fun ss_11=>(catS ss_9 ss_11).bind fun cat_13=>some (cat_13,r_6.2)) (cond (decide (r_6.1=1)) ((cutB s1 0 r_4.1).bind fun ss_16=>(msl1Byte r_6.2).bind fun r_18=>(catS ss_16 (strOf ([(IntKind.wrap .u8 r_18.1)]:(List Int)))).bind fun cat_20=>(cutB s1 r_4.1 (s1.size:Int)).bind fun ss_22=>(catS cat_20 ss_22).bind fun cat_24=>some (cat_24,r_18.2)) (cond (decide (r_6.1=2)) ((cutB s1 0 r_4.1).bind fun ss_27=>some (ss_27,r_6.2)) ((cutB s1 0 r_4.1).bind fun ss_29=>(getB s1 r_4.1).bind fun b_31=>(msl1Below r_6.2 255).bind fun r_33=>(catS ss_29 (strOf ([(IntKind.wrap .u8 (bitI .xor .i64 (w64 b_31) (w64 (1+r_33.1))))]:(List Int)))).bind fun cat_35=>(cutB s1 (w64 (r_4.1+1)) (s1.size:Int)).bind fun ss_37=>(catS cat_35 ss_37).bind fun cat_39=>some (cat_39,r_33.2)))))
def msDrawParseEdit (u:Nat) (code0:(List Int)):Option (Database × ByteArray) :=
  (msl1New u code0).bind fun r_1=>(msl4Any u r_1).bind fun r_3=>(msl30Edit u r_3.2 r_3.1).bind fun r_5=>(msFormatEdit u r_3.1 r_5.1).bind fun r_7=>(msl1Once r_5.2 3).bind fun r_9=>cond r_9.1 ((msl1Spoil u r_9.2 r_7).bind fun r_12=>(msl1Pick r_12.2 ([(⟨#[]⟩:ByteArray),(⟨#[43]⟩:ByteArray),(⟨#[43,114]⟩:ByteArray),(⟨#[114,49,124,50]⟩:ByteArray),(⟨#[42,114,49,124,50]⟩:ByteArray),(⟨#[45,114,49,124,50]⟩:ByteArray),(⟨#[33,115,48,124,48]⟩:ByteArray),(⟨#[43,114,49,124,50,32]⟩:ByteArray),r_12.1]:(List ByteArray))).bind fun r_14=>some (r_3.1,r_14.1)) (some (r_3.1,r_7))
def msRelationIndex (l0:(List Relation)) (name1:ByteArray):Option Int :=
  (forL (R:=Int) (fun (i_1:Int) (x_i_1:Relation) (_:Unit)=>cond (decide (x_i_1.name=name1)) (some (.ret (i_1:Int))) (some (.next ()))) l0 0 ()).bind fun O2_=>onS O2_ (fun (_:Unit)=>some (-1)) (fun r=>some r)
def msParseFact (u:Nat) (l0:(List Relation)) (s1:ByteArray):Option (Fact × Bool) :=
  cond (decide (s1=(⟨#[]⟩:ByteArray))) (some (({ relation:=0,values:=([]:(List Int)) }:Fact),false)) ((cutB s1 0 1).bind fun ss_2=>(msRelationIndex l0 ss_2).bind fun r_4=>(gN (s1.size:Int)).bind fun _=>(forM (fun (i_6:Int) (box1_values:(List Int))=>(getB s1 (i_6:Int)).bind fun b_9=>cond (decide (b_9≠124)) ((getB s1 (i_6:Int)).bind fun b_12=>(app 8 box1_values ([(w64 ((w64 b_12) - 48))]:(List Int))).bind fun us_14=>some us_14) (some box1_values)) ((s1.size:Int) - 1).toNat 1 ([]:(List Int))).bind fun (box1_values:(List Int))=>(msFormatFact u l0 ({ relation:=r_4,values:=box1_values }:Fact)).bind fun r_16=>cond (decide (r_16≠s1)) (some (({ relation:=0,values:=([]:(List Int)) }:Fact),false)) (some (({ relation:=r_4,values:=box1_values }:Fact),true)))
def msParseEdit (u:Nat) (d0:Database) (s1:ByteArray):Option (Edit × Bool) :=
  (whileF (R:=(Edit × Bool)) (fun (k6:Int)=>cond ((decide (k6≤3)) && (decide (s1≠(⟨#[]⟩:ByteArray)))) ((cutB s1 1 (s1.size:Int)).bind fun ss_6=>(msParseFact u d0.relations ss_6).bind fun r_8=>(cond r_8.2 ((msFormatEdit u d0 ({ kind:=k6,fact:=r_8.1 }:Edit)).bind fun r_13=>some (decide (r_13=s1))) (some false)).bind fun (t36_10:Bool)=>cond t36_10 (some (.ret (({ kind:=k6,fact:=r_8.1 }:Edit),true))) (some (.next (w64 (k6+1))))) (some (.brk k6))) u 1).bind fun O1_=>onS O1_ (fun (k6:Int)=>some (({ kind:=0,fact:=({ relation:=0,values:=([]:(List Int)) }:Fact) }:Edit),false)) (fun r=>some r)
def miApplyEdits (u:Nat) (db0:Database) (edits1:(List Edit)):Option (Database × Int) :=
  (micopyDatabase db0).bind fun r_1=>(forS (fun (t_3:Int) (x_t_3:Edit) (⟨count7,box2⟩:Int × Database)=>(miApplyEdit u box2 x_t_3).bind fun r_5=>cond r_5.2 (some ((w64 (count7+1)),r_5.1)) (some (count7,box2))) edits1 0 (0,r_1)).bind fun (⟨count7,box2⟩:Int × Database)=>some (box2,count7)
def mlFnInverseEdits (u:Nat) (code0:(List Int)):Option Bool :=
  (mlbig code0).bind fun r_1=>cond r_1 (some true) ((msDrawInverseEdits u code0).bind fun r_4=>(miApplyEdit u r_4.1 r_4.2).bind fun r_6=>(msApplyEdit u r_4.1 r_4.2).bind fun r_8=>(miInverseEdits u r_4.1 r_4.2).bind fun r_10=>(cond (r_6.2 != r_8.2) (some true) (cond (r_10.2 != r_6.2) (some true) ((msEqualDatabases u r_6.1 r_8.1).bind fun r_16=>some (!r_16)))).bind fun (t60_12:Bool)=>cond t60_12 (some false) ((miFormatEdit r_4.1 r_4.2).bind fun r_19=>(miParseEdit u r_4.1 r_19).bind fun r_21=>(msDrawParseEdit u code0).bind fun r_23=>(miParseEdit u r_23.1 r_23.2).bind fun r_25=>(msParseEdit u r_23.1 r_23.2).bind fun r_27=>((msFormatEdit u r_4.1 r_4.2).bind fun r_31=>cond (decide (r_19≠r_31)) (some true) (cond ((decide (r_19≠(⟨#[]⟩:ByteArray))) != r_21.2) (some true) (cond r_21.2 (cond (decide (r_21.1.kind≠r_4.2.kind)) (some true) ((miCompareFacts r_21.1.fact r_4.2.fact).bind fun r_37=>cond (decide (r_37≠0)) (some true) (cond (r_25.2 != r_27.2) (some true) (cond r_25.2 ((miFormatEdit r_23.1 r_25.1).bind fun r_42=>some (decide (r_42≠r_23.2))) (some false))))) (cond (r_25.2 != r_27.2) (some true) (cond r_25.2 ((miFormatEdit r_23.1 r_25.1).bind fun r_46=>some (decide (r_46≠r_23.2))) (some false)))))).bind fun (t130_29:Bool)=>cond t130_29 (some false) (cond (!r_6.2) (((msEqualDatabases u r_6.1 r_4.1).bind fun r_52=>cond r_52 (some (decide ((r_10.1.length:Int)=0))) (some false)).bind fun (t2_50:Bool)=>some t2_50) ((miApplyEdits u r_6.1 r_10.1).bind fun r_55=>((msEqualDatabases u r_55.1 r_4.1).bind fun r_59=>cond r_59 (some (decide (r_55.2=(r_10.1.length:Int)))) (some false)).bind fun (t2_57:Bool)=>some t2_57))))
end Go.Proofs.YtaadmoaanhdboaaGreatDoor


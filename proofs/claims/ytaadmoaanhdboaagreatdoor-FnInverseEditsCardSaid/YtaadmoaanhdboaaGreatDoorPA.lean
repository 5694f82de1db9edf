import Derived.Test.YtaadmoaanhdboaaGreatDoorCRC
import Derived.Test.YtaadmoaanhdboaaGreatDoorM0
import Derived.Test.YtaadmoaanhdboaaGreatDoorCRD
import Derived.Lib.ItoaLen
set_option linter.unusedVariables false
set_option linter.unusedSimpArgs false
namespace Go.Proofs.YtaadmoaanhdboaaGreatDoor
open Go Go.Proofs Go.Sep
theorem cond_nt {α:Type} {x y:α}:cond (!true) x y=y:=rfl
def DbS (d:Database):Prop:=d.relations.length≤1048576∧d.facts.length≤1048576∧(∀ r∈d.relations,r.name.size≤1048576)∧∀ f∈d.facts,f.values.length≤1048576
theorem cmpL_drop {a b:List Int} {i:Nat} (h1:i<a.length) (h2:i<b.length):cmpL (a.drop i) (b.drop i)=if a[i]<b[i] then -1 else if b[i]<a[i] then 1 else cmpL (a.drop (i+1)) (b.drop (i+1)):=by
 rw [List.drop_eq_getElem_cons h1,List.drop_eq_getElem_cons h2];rfl
theorem cmpL_nil_r (a:List Int):cmpL a []=if a.length=0 then 0 else 1:=by cases a<;>simp [cmpL]
theorem cmpL_nil_l (b:List Int):cmpL [] b=if b.length=0 then 0 else -1:=by cases b<;>simp [cmpL]
theorem cmp_Compare_eq (x y:Int):m_cmp_Compare_int x y=some (if x<y then -1 else if y<x then 1 else 0):=by
 unfold m_cmp_Compare_int m_cmp_isNaN_int
 simp only [Option.bind_some,ne_eq,not_true_eq_false,decide_false,cond_false]
 by_cases h1:x<y
 ·simp [h1]
 ·by_cases h2:y<x<;>simp [h1,h2]
theorem slices_Compare_from (a b:List Int):∀ (k i:Nat),i+k=a.length→(forL (R:=Int) (fun (t_1:Int) (x_t_1:Int) (_:Unit)=>cond (decide ((b.length:Int)≤(t_1:Int))) (some (.ret 1)) ((getI b (t_1:Int)).bind fun v_4=>(m_cmp_Compare_int x_t_1 v_4).bind fun r_9=>cond (decide (r_9≠0)) (some (.ret r_9)) (some (.next ())))) (a.drop i) (i:Int) ()).bind (fun O2_=>onS O2_ (fun (_:Unit)=>cond (decide ((a.length:Int)<(b.length:Int))) (some (-1)) (some 0)) (fun r=>some r))=some (cmpL (a.drop i) (b.drop i))
 | 0,i,hk=>by
  rw [List.drop_eq_nil_of_le (show a.length≤i by omega),cmpL_nil_l]
  simp only [forL,Option.bind_some,onS,List.length_drop]
  by_cases h:a.length<b.length
  ·rw [cond_T' (by simpa using h),if_neg (by omega)]
  ·rw [cond_F' (by simpa using h),if_pos (by omega)]
 | k+1,i,hk=>by
  have hi:i<a.length:=by omega
  rw [List.drop_eq_getElem_cons hi]
  simp only [forL]
  by_cases hb:b.length≤i
  ·rw [cond_T' (by simpa using hb),List.drop_eq_nil_of_le hb];rfl
  ·rw [cond_F' (by simpa using hb),getI_lt (show i<b.length by omega),Option.bind_some,cmp_Compare_eq,Option.bind_some]
   rw [← List.drop_eq_getElem_cons hi,cmpL_drop hi (by omega)]
   by_cases h1:a[i]<b[i]
   ·simp [h1,onS]
   ·by_cases h2:b[i]<a[i]
    ·simp [h1,h2,onS]
    ·simp only [h1,h2,if_false,ne_eq,not_true_eq_false,decide_false,cond_false,Option.bind_some]
     exact slices_Compare_from a b k (i+1) (by omega)
theorem slices_Compare_eq (a b:List Int):m_slices_Compare_Sint_int a b=some (cmpL a b):=slices_Compare_from a b a.length 0 (by omega)
theorem l3Ints_cmp (a b:List Int) (u:Nat) (hu:a.length<u) (ha:a.length≤1048576) (hb:b.length≤9223372036854775807):msl3Ints u a b=some (cmpL a b):=by
 unfold msl3Ints
 obtain ⟨o,h1,h2⟩:=while_ok (f:=fun (i5:Int)=>cond ((decide (i5<(a.length:Int))) && (decide (i5<(b.length:Int)))) ((getI a i5).bind fun v_6=>(getI b i5).bind fun v_11=>cond (decide (v_6<v_11)) (some (.ret (-1))) (cond (decide (v_11<v_6)) (some (.ret 1)) (some (.next (w64 (i5+1)))))) (some (.brk i5)))
  (fun i=>∃ n:Nat,i=n∧n≤a.length∧n≤b.length∧cmpL a b=cmpL (a.drop n) (b.drop n)) (fun i=>a.length - i.toNat) (fun i=>∃ n:Nat,i=n∧n≤a.length∧n≤b.length∧cmpL a b=cmpL (a.drop n) (b.drop n)∧(n=a.length∨n=b.length)) (fun (r:Int)=>r=cmpL a b)
  (fun i ⟨n,hi,hn1,hn2,hI⟩=>by
   subst hi
   by_cases h:n<a.length∧n<b.length
   ·rw [cond_T' (by simp;omega),getI_lt h.1,Option.bind_some,getI_lt h.2,Option.bind_some]
    rw [cmpL_drop h.1 h.2] at hI
    by_cases c1:a[n]<b[n]
    ·rw [cond_T' (by simpa using c1)];exact ⟨_,rfl,by rw [if_pos c1] at hI;exact hI.symm⟩
    ·rw [cond_F' (by simpa using c1)]
     rw [if_neg c1] at hI
     by_cases c2:b[n]<a[n]
     ·rw [cond_T' (by simpa using c2)];exact ⟨_,rfl,by rw [if_pos c2] at hI;exact hI.symm⟩
     ·rw [cond_F' (by simpa using c2),w64_id (by omega)]
      rw [if_neg c2] at hI
      exact ⟨_,rfl,⟨n+1,by omega,h.1,h.2,hI⟩,by have:=h.1;omega⟩
   ·rw [cond_F' (by simp;omega)]
    exact ⟨_,rfl,n,rfl,hn1,hn2,hI,by omega⟩)
  u 0 (by simpa using hu) ⟨0,rfl,by omega,by omega,rfl⟩
 rw [h1,Option.bind_some]
 cases o with
 | inr r=>simp only [onS];rw [h2]
 | inl i =>
  obtain ⟨n,rfl,hn1,hn2,hI,hn⟩:=h2
  simp only [onS]
  rw [hI]
  by_cases c1:a.length<b.length
  ·have e:n=a.length:=by omega
   rw [cond_T' (by simpa using c1),e,List.drop_eq_nil_of_le (Nat.le_refl _),cmpL_nil_l,if_neg (by simp;omega)]
  ·rw [cond_F' (by simpa using c1)]
   by_cases c2:b.length<a.length
   ·have e:n=b.length:=by omega
    rw [cond_T' (by simpa using c2),e,List.drop_eq_nil_of_le (Nat.le_refl b.length),cmpL_nil_r,if_neg (by simp;omega)]
   ·have e:n=a.length:=by omega
    rw [cond_F' (by simpa using c2),e,List.drop_eq_nil_of_le (Nat.le_refl _),cmpL_nil_l,if_pos (by simp;omega)]
theorem validRelation_tot (r:Relation):∃ b,miIsValidRelation r=some b:=by
 unfold miIsValidRelation miwithin
 by_cases h:r.name.size=1
 ·have hb:∃ z,getB r.name 0=some z:=by
   have h0:0<r.name.size:=by omega
   exact ⟨((r.name[0]'h0).toNat:Int),by unfold getB;rw [if_pos (by omega)];simp [h0]⟩
  obtain ⟨z,hz⟩:=hb
  rw [cond_T' (by simp [h])]
  simp only [hz,Option.bind_some]
  cases decide (97≤z)<;>cases decide (z≤122)<;>simp only [cond_true,cond_false,Option.bind_some]<;>first | exact ⟨_,rfl⟩ | skip
  cases (decide (1≤r.arity) && decide (r.arity≤3))<;>exact ⟨_,rfl⟩
 ·rw [cond_F' (by simp;omega)];exact ⟨_,rfl⟩
theorem validRelations_tot (l:List Relation):∃ b,miAreValidRelations l=some b:=by
 unfold miAreValidRelations
 obtain ⟨o,h1,h2⟩:=forL_ok (xs:=l) (s:=()) (f:=fun (t_1:Int) (x_t_1:Relation) (_:Unit)=>((miIsValidRelation x_t_1).bind fun r_5=>cond (!r_5) (some true) (cond (decide (0<(t_1:Int))) ((getI l ((t_1:Int) - 1)).bind fun v_9=>some (!ltS v_9.name x_t_1.name)) (some false))).bind fun (t29:Bool)=>cond t29 (some (.ret false)) (some (.next ())))
  (fun _ _=>True) (fun _=>False) (fun (_:Bool)=>True) trivial fun n x s hx _=>by
   obtain ⟨b,hb⟩:=validRelation_tot x
   have hn:n<l.length:=(List.getElem?_eq_some_iff.1 hx).1
   rw [hb,Option.bind_some]
   have key:∃ t,cond (!b) (some true) (cond (decide (0<(n:Int))) ((getI l ((n:Int) - 1)).bind fun v_9=>some (!ltS v_9.name x.name)) (some false))=some t:=by
    cases b with
    | false=>exact ⟨_,rfl⟩
    | true =>
     by_cases h0:0<n
     ·have e:(n:Int) - 1=((n - 1:Nat):Int):=by omega
      rw [cond_nt,cond_T' (by simpa using h0),e,getI_lt (show n - 1<l.length by omega)];exact ⟨_,rfl⟩
     ·rw [cond_nt,cond_F' (by simpa using h0)];exact ⟨_,rfl⟩
   obtain ⟨t,ht⟩:=key
   rw [ht,Option.bind_some]
   cases t<;>exact ⟨_,rfl,trivial⟩
 rw [h1,Option.bind_some]
 cases o<;>exact ⟨_,rfl⟩
theorem spec_validRelations (l:List Relation):msAreValidRelations l=miAreValidRelations l:=rfl
def FactOK (l:List Relation) (f:Fact):Prop:=∃ (n:Nat) (r:Relation),f.relation=n∧l[n]?=some r∧(f.values.length:Int)=r.arity∧∀ v∈f.values,0≤v∧v≤9
theorem areValues_eq (l:List Int):∃ b,miareValues l=some b∧(b=true↔∀ v∈l,0≤v∧v≤9):=by
 unfold miareValues m_slices_ContainsFunc_Sint_int m_slices_IndexFunc_Sint_int
 obtain ⟨o,h1,h2⟩:=forL_ok (xs:=l) (s:=()) (f:=fun (t_1:Int) (x_t_1:Int) (_:Unit)=>(miareValues_1 x_t_1).bind fun r_3=>cond r_3 (some (.ret (t_1:Int))) (some (.next ())))
  (fun n _=>∀ (j:Nat) x,j<n→l[j]?=some x→0≤x∧x≤9) (fun _=>False) (fun r=>0≤r∧∃ x∈l,¬ (0≤x∧x≤9)) (fun j x hj=>by omega) fun n x s hx hI=>by
   simp only [miareValues_1,miwithin,Option.bind_some]
   by_cases hp:0≤x∧x≤9
   ·rw [cond_F' (by simp [hp])]
    refine ⟨_,rfl,fun j y hj hy=>?_⟩
    by_cases e:j=n
    ·subst e;rw [hx] at hy;cases hy;exact hp
    ·exact hI j y (by omega) hy
   ·rw [cond_T' (by simp;omega)]
    exact ⟨_,rfl,by omega,x,List.mem_of_getElem? hx,hp⟩
 rw [h1]
 cases o with
 | inl s =>
  refine ⟨_,rfl,?_⟩
  have:=h2.resolve_right id
  refine ⟨fun _ v hv=>?_,fun _=>by simp⟩
  obtain ⟨j,hj⟩:=List.getElem?_of_mem hv
  exact this j v (List.getElem?_eq_some_iff.1 hj).1 hj
 | inr r =>
  refine ⟨_,rfl,?_⟩
  obtain ⟨h3,x,hx,hp⟩:=h2
  refine ⟨fun h=>by simp at h;omega,fun h=>(hp (h x hx)).elim⟩
theorem isFact_eq (l:List Relation) (f:Fact):∃ b,miisFact l f=some b∧(b=true↔FactOK l f):=by
 unfold miisFact miwithin
 simp only [Option.bind_some]
 by_cases h:0≤f.relation∧f.relation≤(l.length:Int) - 1
 ·rw [cond_T' (by simp [h])]
  obtain ⟨n,hn⟩:∃ n:Nat,f.relation=n:=⟨f.relation.toNat,by omega⟩
  have hnl:n<l.length:=by omega
  rw [hn,getI_lt hnl,Option.bind_some]
  by_cases ha:(f.values.length:Int)=l[n].arity
  ·rw [cond_T' (by simpa using ha)]
   obtain ⟨b,h1,h2⟩:=areValues_eq f.values
   rw [h1]
   refine ⟨b,rfl,h2.trans ⟨fun hv=>⟨n,l[n],hn,List.getElem?_eq_getElem hnl,ha,hv⟩,fun ⟨_,_,_,_,_,hv⟩=>hv⟩⟩
  ·rw [cond_F' (by simpa using ha)]
   refine ⟨false,rfl,by simp,fun ⟨n',r,h3,h4,h5,_⟩=>?_⟩
   have:n'=n:=by omega
   subst this
   rw [List.getElem?_eq_getElem hnl] at h4;cases h4
   exact (ha h5).elim
 ·rw [cond_F' (by simp;omega)]
  refine ⟨false,rfl,by simp,fun ⟨n',r,h3,h4,_⟩=>?_⟩
  have:=(List.getElem?_eq_some_iff.1 h4).1
  omega
theorem spec_isFact_eq (u:Nat) (l:List Relation) (f:Fact) (hu:f.values.length<u) (hf:f.values.length≤1048576):∃ b,msIsValidFact u l f=some b∧(b=true↔miAreValidRelations l=some true∧FactOK l f):=by
 unfold msIsValidFact msl1In
 rw [spec_validRelations]
 obtain ⟨bl,hbl⟩:=validRelations_tot l
 rw [hbl,Option.bind_some]
 cases bl with
 | false=>exact ⟨false,rfl,by simp⟩
 | true =>
  rw [cond_nt]
  simp only [Option.bind_some]
  by_cases h:0≤f.relation∧f.relation≤(l.length:Int) - 1
  ·rw [cond_F' (by simp [h])]
   obtain ⟨n,hn⟩:∃ n:Nat,f.relation=n:=⟨f.relation.toNat,by omega⟩
   have hnl:n<l.length:=by omega
   rw [hn,getI_lt hnl,Option.bind_some,Option.bind_some]
   by_cases ha:(f.values.length:Int)=l[n].arity
   ·rw [cond_F' (by simpa using ha)]
    obtain ⟨o,h1,h2⟩:=while_ok (f:=fun (i5:Int)=>cond (decide (i5<(f.values.length:Int))) ((getI f.values i5).bind fun v_18=>(some ((decide (0≤v_18)) && (decide (v_18≤9)))).bind fun r_23=>cond (!r_23) (some (.ret false)) (some (.next (w64 (i5+1))))) (some (.brk i5)))
     (fun i=>∃ n:Nat,i=n∧n≤f.values.length∧∀ (j:Nat) x,j<n→f.values[j]?=some x→0≤x∧x≤9) (fun i=>f.values.length - i.toNat) (fun i=>∀ v∈f.values,0≤v∧v≤9) (fun (r:Bool)=>r=false∧¬ ∀ v∈f.values,0≤v∧v≤9)
     (fun i ⟨n,hi,hn1,hI⟩=>by
      subst hi
      by_cases h:n<f.values.length
      ·rw [cond_T' (by simpa using h),getI_lt h,Option.bind_some,Option.bind_some]
       by_cases hp:0≤f.values[n]∧f.values[n]≤9
       ·rw [cond_F' (by simp [hp]),w64_id (by omega)]
        refine ⟨_,rfl,⟨n+1,by omega,h,fun j x hj hx=>?_⟩,by omega⟩
        by_cases e:j=n
        ·subst e;rw [List.getElem?_eq_getElem h] at hx;cases hx;exact hp
        ·exact hI j x (by omega) hx
       ·rw [cond_T' (by simp;omega)]
        exact ⟨_,rfl,rfl,fun hv=>hp (hv _ (List.getElem_mem h))⟩
      ·rw [cond_F' (by simpa using h)]
       refine ⟨_,rfl,fun v hv=>?_⟩
       obtain ⟨j,hj⟩:=List.getElem?_of_mem hv
       have:=(List.getElem?_eq_some_iff.1 hj).1
       exact hI j v (by omega) hj)
     u 0 (by simpa using hu) ⟨0,rfl,by omega,fun j x hj=>by omega⟩
    simp only [Option.bind_some] at h1
    rw [h1,Option.bind_some]
    cases o with
    | inl i=>exact ⟨true,rfl,by simp;exact ⟨n,l[n],hn,List.getElem?_eq_getElem hnl,ha,h2⟩⟩
    | inr r =>
     obtain ⟨rfl,h3⟩:=h2
     exact ⟨false,rfl,by simp;rintro ⟨_,_,_,_,_,hv⟩;exact h3 hv⟩
   ·rw [cond_T' (by simpa using ha)]
    refine ⟨false,rfl,by simp,fun ⟨_,n',r,h3,h4,h5,_⟩=>?_⟩
    have:n'=n:=by omega
    subst this
    rw [List.getElem?_eq_getElem hnl] at h4;cases h4
    exact (ha h5).elim
  ·rw [cond_T' (by simp;omega)]
   refine ⟨false,rfl,by simp,fun ⟨_,n',r,h3,h4,_⟩=>?_⟩
   have:=(List.getElem?_eq_some_iff.1 h4).1
   omega
def cmpF (a b:Fact):Int:=if a.relation<b.relation then -1 else if b.relation<a.relation then 1 else cmpL a.values b.values
theorem impl_CompareFacts_eq (a b:Fact):miCompareFacts a b=some (cmpF a b):=by
 unfold miCompareFacts micompare cmpF
 rw [slices_Compare_eq]
 by_cases h1:a.relation<b.relation
 ·rw [cond_T' (by simp;omega),cond_T' (by simpa using h1),if_pos h1];rfl
 ·by_cases h2:b.relation<a.relation
  ·rw [cond_T' (by simp;omega),cond_F' (by simpa using h1),cond_T' (by simpa using h2),if_neg h1,if_pos h2];rfl
  ·rw [cond_F' (by simp;omega),if_neg h1,if_neg h2];rfl
theorem spec_CompareFacts_eq (u:Nat) (a b:Fact) (hu:a.values.length<u) (ha:a.values.length≤1048576) (hb:b.values.length≤1048576):msCompareFacts u a b=some (cmpF a b):=by
 unfold msCompareFacts cmpF
 rw [l3Ints_cmp _ _ u hu ha (by omega)]
 by_cases h1:a.relation<b.relation
 ·rw [cond_T' (by simpa using h1),if_pos h1]
 ·by_cases h2:b.relation<a.relation
  ·rw [cond_F' (by simpa using h1),cond_T' (by simpa using h2),if_neg h1,if_pos h2]
  ·rw [cond_F' (by simpa using h1),cond_F' (by simpa using h2),if_neg h1,if_neg h2];rfl
structure DbOK (d:Database):Prop where
  rels:miAreValidRelations d.relations=some true
  few:d.facts.length≤14
  fact:∀ (n:Nat) f,d.facts[n]?=some f→FactOK d.relations f
  sorted:∀ (n:Nat) f g,d.facts[n]?=some f→d.facts[n+1]?=some g→cmpF f g<0
theorem round_eq (d:Database) {n:Nat} (hn:n<d.facts.length) (b:Bool) (p:Prop) (hb:b=true↔p):∃ t,cond (!b) (some true) (cond (decide (0<(n:Int))) ((getI d.facts ((n:Int) - 1)).bind fun v_15=>some (decide (0≤cmpF v_15 d.facts[n]))) (some false))=some t∧(t=false↔p∧∀ m f,m+1=n→d.facts[m]?=some f→cmpF f d.facts[n]<0):=by
 cases b with
 | false=>exact ⟨true,rfl,by simp at hb;simp [hb]⟩
 | true =>
  have hp:p:=hb.1 rfl
  by_cases h0:0<n
  ·have e:(n:Int) - 1=((n - 1:Nat):Int):=by omega
   rw [cond_nt,cond_T' (by simpa using h0),e,getI_lt (show n - 1<d.facts.length by omega)]
   refine ⟨_,rfl,?_⟩
   simp only [decide_eq_false_iff_not,hp,true_and]
   constructor
   ·intro h m f hm hf
    have:m=n - 1:=by omega
    subst this
    rw [List.getElem?_eq_getElem (by omega)] at hf;cases hf;omega
   ·intro h
    have:=h (n - 1) d.facts[n - 1] (by omega) (List.getElem?_eq_getElem (by omega));omega
  ·rw [cond_nt,cond_F' (by simpa using h0)]
   exact ⟨_,rfl,by simp [hp];intro m f hm;omega⟩
theorem impl_IsValidDatabase_eq (d:Database):∃ b,miIsValidDatabase d=some b∧(b=true↔DbOK d):=by
 unfold miIsValidDatabase
 obtain ⟨bl,hbl⟩:=validRelations_tot d.relations
 rw [hbl,Option.bind_some]
 cases bl with
 | false=>exact ⟨false,rfl,by simp;intro h;have:=h.rels;rw [hbl] at this;cases this⟩
 | true =>
  rw [cond_nt,Option.bind_some]
  by_cases hf:d.facts.length≤14
  ·rw [cond_F' (by simp;omega)]
   obtain ⟨o,h1,h2⟩:=forL_ok (xs:=d.facts) (s:=()) (f:=fun (t_7:Int) (x_t_7:Fact) (_:Unit)=>((miisFact d.relations x_t_7).bind fun r_11=>cond (!r_11) (some true) (cond (decide (0<(t_7:Int))) ((getI d.facts ((t_7:Int) - 1)).bind fun v_15=>(miCompareFacts v_15 x_t_7).bind fun r_20=>some (decide (0≤r_20))) (some false))).bind fun (t42:Bool)=>cond t42 (some (.ret false)) (some (.next ())))
    (fun n _=>∀ (j:Nat) (h:j<d.facts.length),j<n→FactOK d.relations d.facts[j]∧∀ m f,m+1=j→d.facts[m]?=some f→cmpF f d.facts[j]<0) (fun _=>False) (fun r=>r=false∧¬ DbOK d) (fun j _ hj=>by omega) fun n x s hx hI=>by
     have hn:n<d.facts.length:=(List.getElem?_eq_some_iff.1 hx).1
     rw [List.getElem?_eq_getElem hn] at hx;cases hx
     obtain ⟨b,h3,h4⟩:=isFact_eq d.relations d.facts[n]
     rw [h3,Option.bind_some]
     simp only [impl_CompareFacts_eq,Option.bind_some]
     obtain ⟨t,h5,h6⟩:=round_eq d hn b _ h4
     rw [h5,Option.bind_some]
     cases t with
     | false =>
      refine ⟨_,rfl,fun j hj hjn=>?_⟩
      by_cases e:j=n
      ·subst e;exact h6.1 rfl
      ·exact hI j hj (by omega)
     | true =>
      refine ⟨_,rfl,rfl,fun hok=>?_⟩
      have:=h6.2 ⟨hok.fact n _ (List.getElem?_eq_getElem hn),fun m f hm hf=>hok.sorted m f _ hf (by rw [hm];exact List.getElem?_eq_getElem hn)⟩
      cases this
   rw [h1,Option.bind_some]
   cases o with
   | inl s =>
    have h3:=h2.resolve_right id
    refine ⟨true,rfl,fun _=>⟨hbl,hf,fun n f hn=>?_,fun n f g hn hg=>?_⟩,fun _=>rfl⟩
    ·obtain ⟨hl,rfl⟩:=List.getElem?_eq_some_iff.1 hn;exact (h3 n hl hl).1
    ·obtain ⟨hl,rfl⟩:=List.getElem?_eq_some_iff.1 hg;exact (h3 (n+1) hl hl).2 n f rfl hn
   | inr r=>obtain ⟨rfl,h3⟩:=h2;exact ⟨false,rfl,by simp [h3]⟩
  ·rw [cond_T' (by simp;omega)]
   exact ⟨false,rfl,by simp;intro h;exact hf h.few⟩
theorem spec_IsValidDatabase_eq (u:Nat) (d:Database) (hd:DbS d) (hu:1048577<u):∃ b,msIsValidDatabase u d=some b∧(b=true↔DbOK d):=by
 unfold msIsValidDatabase
 have hfl:=hd.2.1
 obtain ⟨o,h1,h2⟩:=while_ok (f:=fun (i3:Int)=>cond (decide (i3<(d.facts.length:Int))) (((getI d.facts i3).bind fun v_5=>(msIsValidFact u d.relations v_5).bind fun r_10=>cond (!r_10) (some true) (cond (decide (0<i3)) ((getI d.facts (w64 (i3 - 1))).bind fun v_14=>(msCompareFacts u v_14 v_5).bind fun r_19=>some (decide (0≤r_19))) (some false))).bind fun (t38:Bool)=>cond t38 (some (.ret false)) (some (.next (w64 (i3+1))))) (some (.brk i3)))
  (fun i=>∃ n:Nat,i=n∧n≤d.facts.length∧∀ (j:Nat) (h:j<d.facts.length),j<n→FactOK d.relations d.facts[j]∧∀ m f,m+1=j→d.facts[m]?=some f→cmpF f d.facts[j]<0) (fun i=>d.facts.length - i.toNat)
  (fun i=>∀ (j:Nat) (h:j<d.facts.length),FactOK d.relations d.facts[j]∧∀ m f,m+1=j→d.facts[m]?=some f→cmpF f d.facts[j]<0) (fun (r:Bool)=>r=false∧¬ DbOK d)
  (fun i ⟨n,hi,hn1,hI⟩=>by
   subst hi
   by_cases h:n<d.facts.length
   ·have hv:=hd.2.2.2 _ (List.getElem_mem h)
    rw [cond_T' (by simpa using h),getI_lt h,Option.bind_some]
    obtain ⟨b,h3,h4⟩:=spec_isFact_eq u d.relations d.facts[n] (by omega) hv
    rw [h3,Option.bind_some,w64_id (x:=(n:Int) - 1) (by omega)]
    have e:((getI d.facts ((n:Int) - 1)).bind fun v_14=>(msCompareFacts u v_14 d.facts[n]).bind fun r_19=>some (decide (0≤r_19)))=(getI d.facts ((n:Int) - 1)).bind fun v_15=>some (decide (0≤cmpF v_15 d.facts[n])):=by
     cases hg:getI d.facts ((n:Int) - 1) with
     | none=>rfl
     | some f =>
      obtain ⟨m,_,hm⟩:=getI_inv hg
      have hv2:=hd.2.2.2 f (List.mem_of_getElem? hm)
      rw [Option.bind_some,Option.bind_some,spec_CompareFacts_eq u f _ (by omega) hv2 hv];rfl
    rw [e]
    obtain ⟨t,h5,h6⟩:=round_eq d h b _ h4
    rw [h5,Option.bind_some]
    cases t with
    | false =>
     rw [cond_F' rfl,w64_id (by omega)]
     refine ⟨_,rfl,⟨n+1,by omega,h,fun j hj hjn=>?_⟩,by omega⟩
     by_cases e:j=n
     ·subst e;have:=h6.1 rfl;exact ⟨this.1.2,this.2⟩
     ·exact hI j hj (by omega)
    | true =>
     refine ⟨_,rfl,rfl,fun hok=>?_⟩
     have:=h6.2 ⟨⟨hok.rels,hok.fact n _ (List.getElem?_eq_getElem h)⟩,fun m f hm hf=>hok.sorted m f _ hf (by rw [hm];exact List.getElem?_eq_getElem h)⟩
     cases this
   ·rw [cond_F' (by simpa using h)]
    exact ⟨_,rfl,fun j hj=>hI j hj (by omega)⟩)
  u 0 (by simp;omega) ⟨0,rfl,by omega,fun j _ hj=>by omega⟩
 rw [h1,Option.bind_some]
 cases o with
 | inr r=>obtain ⟨rfl,h3⟩:=h2;exact ⟨false,rfl,by simp [h3]⟩
 | inl i =>
  simp only [onS,spec_validRelations]
  obtain ⟨bl,hbl⟩:=validRelations_tot d.relations
  rw [hbl,Option.bind_some]
  cases bl with
  | false=>exact ⟨false,rfl,by simp;intro h;have:=h.rels;rw [hbl] at this;cases this⟩
  | true =>
   refine ⟨_,rfl,?_⟩
   simp only [decide_eq_true_eq]
   refine ⟨fun hf=>⟨hbl,by omega,fun n f hn=>?_,fun n f g hn hg=>?_⟩,fun h=>by have:=h.few;omega⟩
   ·obtain ⟨hl,rfl⟩:=List.getElem?_eq_some_iff.1 hn;exact (h2 n hl).1
   ·obtain ⟨hl,rfl⟩:=List.getElem?_eq_some_iff.1 hg;exact (h2 (n+1) hl).2 n f rfl hn
end Go.Proofs.YtaadmoaanhdboaaGreatDoor
set_option linter.unusedVariables false
set_option linter.unusedSimpArgs false
namespace Go.Proofs.YtaadmoaanhdboaaGreatDoor
open Go Go.Proofs Go.Sep
theorem and_byte (x:Int):0≤bitI .and .i64 x 255∧bitI .and .i64 x 255≤255:=by
 have h:(BitVec.ofInt 64 x &&& BitVec.ofInt 64 255).toNat≤255:=by
  rw [BitVec.toNat_and]
  exact Nat.le_trans Nat.and_le_right (by decide)
 have e:bitI .and .i64 x 255=w64 (((BitVec.ofInt 64 x &&& BitVec.ofInt 64 255).toNat:Nat):Int):=rfl
 rw [e,w64_id (by omega)];omega
def CurOK (c:l1Cur):Prop:=0≤c.i∧c.i≤(c.b.length:Int)∧c.b.length≤1048576
theorem l1Byte_ok {c:l1Cur} (hc:CurOK c):Ok (msl1Byte c) fun r=>0≤r.1∧r.1≤255∧CurOK r.2:=by
 unfold msl1Byte
 obtain ⟨h0,h1,h2⟩:=hc
 refine .cond (fun h=>?_) fun h=>?_
 ·have hlt:c.i<(c.b.length:Int):=by simpa using h
  refine .get' h0 hlt fun n hn e=>.ret ?_
  have:=and_byte (w64 (bitI .and .i64 (bitI .xor .i64 (shrI .i64 (w64 (w64 (c.h*6364136223846793005)+1442695040888963407)) 33) (shrI .i64 (w64 (w64 (c.h*6364136223846793005)+1442695040888963407)) 45)) 255+w64 c.b[n]))
  exact ⟨this.1,this.2,by show 0≤w64 (c.i+1);rw [w64_id (by omega)];omega,by show w64 (c.i+1)≤_;rw [w64_id (by omega)];simp only;omega,h2⟩
 ·have:=and_byte (bitI .xor .i64 (shrI .i64 (w64 (w64 (c.h*6364136223846793005)+1442695040888963407)) 33) (shrI .i64 (w64 (w64 (c.h*6364136223846793005)+1442695040888963407)) 45))
  exact .ret ⟨this.1,this.2,h0,h1,h2⟩
theorem tmod_lt {a n:Int} (h0:0≤a) (hn:0<n):0≤a.tmod n∧a.tmod n<n:=⟨Int.tmod_nonneg _ h0,Int.tmod_lt_of_pos _ hn⟩
theorem l1Below_ok {c:l1Cur} (hc:CurOK c) (n:Int):Ok (msl1Below c n) fun r=>CurOK r.2∧0≤r.1∧(0<n→r.1<n)∧(n≤0→r.1=0):=by
 unfold msl1Below
 refine .cond (fun h=>.ret ⟨hc,by simp,fun h'=>absurd h' (by have h2:=of_decide_eq_true h;omega),fun _=>rfl⟩) fun h=>?_
 have hn:0<n:=by simpa using h
 refine .cond (fun h2=>?_) fun h2=>?_
 ·refine .bind (l1Byte_ok hc) fun r hr=>.gD (by omega) (.ret ⟨hr.2.2,(tmod_lt hr.1 hn).1,fun _=>(tmod_lt hr.1 hn).2,fun h=>by omega⟩)
 ·refine .bind (l1Byte_ok hc) fun a ha=>.bind (l1Byte_ok ha.2.2) fun b hb=>.bind (l1Byte_ok hb.2.2) fun d hd=>.bind (l1Byte_ok hd.2.2) fun e he=>.gD (by omega) (.ret ?_)
  have h0:0≤w64 (w64 (w64 (w64 (a.1*16777216)+w64 (b.1*65536))+w64 (d.1*256))+e.1):=by
   have:=ha.1;have:=ha.2.1;have:=hb.1;have:=hb.2.1;have:=hd.1;have:=hd.2.1;have:=he.1;have:=he.2.1
   rw [w64_id (x:=a.1*16777216) (by omega),w64_id (x:=b.1*65536) (by omega),w64_id (x:=d.1*256) (by omega),w64_id (x:=a.1*16777216+b.1*65536) (by omega),w64_id (x:=a.1*16777216+b.1*65536+d.1*256) (by omega),w64_id (by omega)]
   omega
  exact ⟨he.2.2,(tmod_lt h0 hn).1,fun _=>(tmod_lt h0 hn).2,fun h=>by omega⟩
theorem l1Once_ok {c:l1Cur} (hc:CurOK c) (n:Int):Ok (msl1Once c n) fun r=>CurOK r.2:=by
 unfold msl1Once
 exact .bind (l1Below_ok hc n) fun r hr=>.ret hr.1
theorem l1New_ok {u:Nat} {code:List Int} (hl:code.length≤1048576) (hu:1048577<u):Ok (msl1New u code) CurOK:=by
 unfold msl1New
 refine .while (fun (s:Int × Int)=>0≤s.2∧s.2≤(code.length:Int)) (fun (s:Int × Int)=>code.length - s.2.toNat) (fun _=>True) (fun _=>False) (by simp only;omega) ⟨by simp,by simp⟩ (fun ⟨h,i⟩ ⟨h0,h1⟩=>?_) (fun ⟨h,i⟩ _=>.ret ⟨by simp,by simp,hl⟩) (fun _ h=>h.elim)
 simp only at h0 h1 ⊢
 refine .cond (fun hc=>?_) fun _=>.brk trivial
 have hlt:i<(code.length:Int):=by simp only [Bool.and_eq_true,decide_eq_true_eq] at hc;exact hc.1
 refine .get' h0 hlt fun n hn e=>.next ⟨⟨?_,?_⟩,?_⟩<;>simp only<;>rw [w64_id (by omega)]<;>omega
end Go.Proofs.YtaadmoaanhdboaaGreatDoor
set_option linter.unusedVariables false
set_option linter.unusedSimpArgs false
namespace Go.Proofs.YtaadmoaanhdboaaGreatDoor
open Go Go.Proofs Go.Sep
theorem l1PickInt_ok {c:l1Cur} (hc:CurOK c) (l:List Int) (hl:l≠[]):Ok (msl1PickInt c l) fun r=>CurOK r.2∧r.1∈l:=by
 have h0:0<l.length:=List.length_pos_iff.2 hl
 unfold msl1PickInt
 refine .bind (l1Below_ok hc _) fun r hr=>.get' hr.2.1 (hr.2.2.1 (by omega)) fun n hn e=>.ret ⟨hr.1,List.getElem_mem hn⟩
def SigsOK (l:List Relation):Prop:=l.length=4∧∀ r∈l,r.name.size≤2∧1≤r.arity∧r.arity≤3
theorem l2Sigs_ok {c:l1Cur} (hc:CurOK c):Ok (msl2Sigs c) fun r=>CurOK r.2∧SigsOK r.1:=by
 unfold msl2Sigs
 refine .bind (l1PickInt_ok hc _ (by simp)) fun r hr=>.bind (l1Below_ok hr.1 2) fun s hs=>.ret ⟨hs.1,rfl,fun x hx=>?_⟩
 simp only [List.mem_cons,List.not_mem_nil,or_false] at hx
 rcases hx with rfl | rfl | rfl | rfl<;>refine ⟨?_,?_,?_⟩<;>first | (show ByteArray.size _≤2;exact Nat.le_of_ble_eq_true rfl) | (simp only;omega)
theorem l3Fact_ok {u:Nat} {c:l1Cur} (hc:CurOK c) {l:List Relation} (hl:l≠[]) (ha:∀ r∈l,r.arity≤3) (val:Int) (hu:1048577<u):Ok (msl3Fact u c l val) fun r=>CurOK r.2∧r.1.values.length≤3∧((∀ r∈l,1≤r.arity)→1≤r.1.values.length):=by
 have h0:0<l.length:=List.length_pos_iff.2 hl
 unfold msl3Fact
 refine .bind (l1Below_ok hc _) fun r hr=>?_
 have hi:=hr.2.2.1 (by omega)
 obtain ⟨n,hn⟩:∃ n:Nat,r.1=n:=⟨r.1.toNat,by have:=hr.2.1;omega⟩
 have hnl:n<l.length:=by omega
 have har:=ha _ (List.getElem_mem hnl)
 refine .while (fun (s:l1Cur × List Int)=>CurOK s.1∧s.2.length≤3) (fun (s:l1Cur × List Int)=>3 - s.2.length) (fun (s:l1Cur × List Int)=>CurOK s.1∧s.2.length≤3∧l[n].arity≤(s.2.length:Int)) (fun _=>False) (by simp only [List.length_nil];omega) ⟨hr.1,by simp⟩ (fun ⟨b,vs⟩ ⟨g1,g2⟩=>?_) (fun ⟨b,vs⟩ ⟨g1,g2,g3⟩=>.ret ⟨g1,g2,fun h1=>by have:=h1 _ (List.getElem_mem hnl);simp only at g3 ⊢;omega⟩) (fun _ h=>h.elim)
 simp only at g1 g2 ⊢
 refine .get hn hnl (.cond (fun hlt=>?_) fun hge=>.brk ⟨g1,g2,by simpa using hge⟩)
 have hlt':(vs.length:Int)<l[n].arity:=by simpa using hlt
 exact .bind (l1Below_ok g1 _) fun s hs=>.app (by simp;omega) (.next ⟨⟨hs.1,by simp;omega⟩,by simp;omega⟩)
def DbD (d:Database):Prop:=d.relations.length≤4∧d.facts.length≤14∧(∀ r∈d.relations,r.name.size≤2)∧∀ f∈d.facts,f.values.length≤4
theorem DbD.s {d:Database} (h:DbD d):DbS d:=⟨by have:=h.1;omega,by have:=h.2.1;omega,fun r hr=>by have:=h.2.2.1 r hr;omega,fun f hf=>by have:=h.2.2.2 f hf;omega⟩
theorem l4Copy_eq {u:Nat} {d:Database} (hd:DbS d) (hu:1048577<u):msl4Copy u d=some d:=by
 unfold msl4Copy
 refine Ok.to (.app (by have:=hd.1;simp;omega) ?_)
 refine .while (fun (s:Int × List Fact)=>∃ n:Nat,s.1=(n:Int)∧n≤d.facts.length∧s.2=d.facts.take n) (fun (s:Int × List Fact)=>d.facts.length - s.1.toNat) (fun (s:Int × List Fact)=>s.2=d.facts) (fun _=>False) (by have:=hd.2.1;simp only;omega) ⟨0,rfl,by omega,rfl⟩ (fun ⟨i,fs⟩ ⟨n,h1,h2,h3⟩=>?_) (fun ⟨i,fs⟩ h=>.ret (by simp only at h;subst h;simp)) (fun _ h=>h.elim)
 simp only at h1 h3
 subst h1 h3
 simp only
 have hf:=hd.2.1
 refine .cond (fun h=>?_) fun h=>.brk ?_
 ·have hlt:n<d.facts.length:=by simpa using h
  have hv:=hd.2.2.2 _ (List.getElem_mem hlt)
  refine .get rfl hlt (.app (by simp;omega) (.app (by simp;omega) (.next ⟨⟨n+1,by rw [w64_id (by omega)];simp,hlt,?_⟩,by simp only;rw [w64_id (by omega)];omega⟩)))
  simp only [List.nil_append]
  rw [List.take_add_one,List.getElem?_eq_getElem hlt];rfl
 ·have:¬ n<d.facts.length:=by simpa using h
  simp only
  rw [List.take_of_length_le (by omega)]
theorem FactIndex_tot {u:Nat} {d:Database} (hd:DbS d) {f:Fact} (hf:f.values.length≤1048576) (hu:1048577<u):Ok (msFactIndex u d f) fun _=>True:=by
 unfold msFactIndex
 refine .while (fun (i:Int)=>∃ n:Nat,i=(n:Int)∧n≤d.facts.length) (fun i=>d.facts.length - i.toNat) (fun _=>True) (fun _=>True) (by have:=hd.2.1;omega) ⟨0,rfl,by omega⟩ (fun i ⟨n,h1,h2⟩=>?_) (fun _ _=>.ret trivial) (fun _ _=>.ret trivial)
 subst h1
 have hfl:=hd.2.1
 refine .cond (fun h=>?_) fun h=>.brk trivial
 have hlt:n<d.facts.length:=by simpa using h
 have hv:=hd.2.2.2 _ (List.getElem_mem hlt)
 exact .get rfl hlt (.eq (spec_CompareFacts_eq u _ f (by omega) hv hf) (.cond (fun _=>.out trivial) fun _=>.next ⟨⟨n+1,by rw [w64_id (by omega)];simp,hlt⟩,by rw [w64_id (by omega)];omega⟩))
theorem ContainsFact_tot {u:Nat} {d:Database} (hd:DbS d) {f:Fact} (hf:f.values.length≤1048576) (hu:1048577<u):Ok (msContainsFact u d f) fun _=>True:=by
 unfold msContainsFact
 obtain ⟨b,h1,_⟩:=spec_IsValidDatabase_eq u d hd hu
 refine .bind (P:=fun _=>True) (.eq h1 (.cond (fun _=>.bind (FactIndex_tot hd hf hu) fun _ _=>.ret trivial) fun _=>.ret trivial)) fun _ _=>.ret trivial
theorem InsertFact_ok {u:Nat} {d:Database} (hd:DbS d) {f:Fact} (hf:f.values.length≤1048576) (hu:1048577<u):Ok (msInsertFact u d f) fun r=>r.1.relations=d.relations∧r.1.facts.length≤d.facts.length+1∧∀ x∈r.1.facts,x∈d.facts∨x=f:=by
 unfold msInsertFact
 have hfl:=hd.2.1
 refine .eq (l4Copy_eq hd hu) (.bind (P:=fun _=>True) ?_ fun t _=>?_)
 ·obtain ⟨b,h1,_⟩:=spec_IsValidDatabase_eq u d hd hu
  obtain ⟨b2,h2,_⟩:=spec_isFact_eq u d.relations f (by omega) hf
  exact .eq h1 (.cond (fun _=>.ret trivial) fun _=>.eq h2 (.cond (fun _=>.ret trivial) fun _=>.bind (ContainsFact_tot hd hf hu) fun _ _=>.cond (fun _=>.ret trivial) fun _=>.ret trivial))
 ·refine .cond (fun _=>.ret ⟨rfl,by simp,fun x hx=>.inl hx⟩) fun _=>?_
  refine .while (fun (i:Int)=>∃ n:Nat,i=(n:Int)∧n≤d.facts.length) (fun i=>d.facts.length - i.toNat) (fun (i:Int)=>∃ n:Nat,i=(n:Int)∧n≤d.facts.length) (fun _=>False) (by omega) ⟨0,rfl,by omega⟩ (fun i ⟨n,h1,h2⟩=>?_) (fun i ⟨n,h1,h2⟩=>?_) (fun _ h=>h.elim)
  ·subst h1
   refine .bind (P:=fun t=>t=true→n<d.facts.length) (.cond (fun h=>?_) fun _=>.ret (fun h=>by cases h)) fun t ht=>?_
   ·have hlt:n<d.facts.length:=by simpa using h
    have hv:=hd.2.2.2 _ (List.getElem_mem hlt)
    exact .get rfl hlt (.eq (spec_CompareFacts_eq u _ f (by omega) hv hf) (.ret fun _=>hlt))
   ·refine .cond (fun h=>.next ⟨⟨n+1,by rw [w64_id (by omega)];simp,ht h⟩,by have:=ht h;rw [w64_id (by omega)];omega⟩) fun _=>.brk ⟨n,rfl,h2⟩
  ·subst h1
   refine .app (by simp;omega) (.cut rfl rfl h2 (Nat.le_refl _) (.app (by simp;omega) (.cut (i:=0) rfl rfl (Nat.zero_le _) h2 (.app (by simp;omega) (.app (by simp;omega) (.ret ⟨rfl,by simp;omega,fun x hx=>?_⟩))))))
   simp only [List.take_length,List.drop_zero,List.nil_append,List.mem_append,List.mem_singleton,List.cons_append,List.mem_cons] at hx
   rcases hx with h | rfl | h
   ·exact .inl (List.mem_of_mem_take h)
   ·exact .inr rfl
   ·exact .inl (List.mem_of_mem_drop h)
def DbG (n:Nat) (d:Database):Prop:=SigsOK d.relations∧d.facts.length≤n∧∀ f∈d.facts,1≤f.values.length∧f.values.length≤3
theorem DbG.d {n:Nat} {d:Database} (h:DbG n d) (hn:n≤14):DbD d:=⟨by have:=h.1.1;omega,by have:=h.2.1;omega,fun r hr=>(h.1.2 r hr).1,fun f hf=>by have:=(h.2.2 f hf).2;omega⟩
theorem SigsOK.ne {l:List Relation} (h:SigsOK l):l≠[]:=fun e=>by rw [e] at h;have:=h.1;simp at this
theorem l4Db_ok {u:Nat} {c:l1Cur} (hc:CurOK c) (hu:1048577<u):Ok (msl4Db u c) fun r=>CurOK r.2∧DbG 12 r.1:=by
 unfold msl4Db
 refine .bind (l2Sigs_ok hc) fun r1 h1=>.bind (l1PickInt_ok h1.1 _ (by simp)) fun r3 h3=>.bind (l1Below_ok h3.1 11) fun r5 h5=>?_
 have hb:=h5.2.2.1 (by omega)
 have hb0:=h5.2.1
 refine .while (fun (s:Int × l1Cur × List Relation × List Fact)=>CurOK s.2.1∧0≤s.1∧s.1≤12∧DbG (12 - s.1.toNat) ⟨s.2.2.1,s.2.2.2⟩) (fun (s:Int × l1Cur × List Relation × List Fact)=>s.1.toNat) (fun (s:Int × l1Cur × List Relation × List Fact)=>CurOK s.2.1∧DbG 12 ⟨s.2.2.1,s.2.2.2⟩) (fun _=>False) (by simp only;rw [w64_id (by omega)];omega) ⟨h5.1,by simp only;rw [w64_id (by omega)];omega,by simp only;rw [w64_id (by omega)];omega,h1.2,by simp,by simp⟩ (fun ⟨n,b,rs,fs⟩ ⟨g1,g2,g3,g4⟩=>?_) (fun ⟨n,b,rs,fs⟩ h=>.ret ⟨h.1,h.2⟩) (fun _ h=>h.elim)
 simp only at g1 g2 g3 g4 ⊢
 refine .cond (fun h=>?_) fun h=>.brk ⟨g1,g4.1,Nat.le_trans g4.2.1 (by omega),g4.2.2⟩
 have hn:0<n:=by simpa using h
 refine .bind (l3Fact_ok g1 g4.1.ne (fun r hr=>(g4.1.2 r hr).2.2) _ hu) fun r9 h9=>.bind (InsertFact_ok (d:=⟨rs,fs⟩) (DbG.d g4 (by omega)).s (f:=r9.1) (by omega) hu) fun r11 h11=>.next ⟨⟨h9.1,?_,?_,?_⟩,?_⟩
 ·simp only;rw [w64_id (by omega)];omega
 ·simp only;rw [w64_id (by omega)];omega
 ·simp only
  rw [w64_id (by omega)]
  refine ⟨by rw [h11.1];exact g4.1,?_,fun f hf=>?_⟩
  ·have a1:=h11.2.1;have a2:=g4.2.1;simp only at a1 a2 ⊢;omega
  ·rcases h11.2.2 f hf with h | rfl
   ·exact g4.2.2 f h
   ·exact ⟨h9.2.2 fun r hr=>(g4.1.2 r hr).2.1,h9.2.1⟩
 ·simp only;rw [w64_id (by omega)];omega
theorem l3Any_ok {u:Nat} {c:l1Cur} (hc:CurOK c) {l:List Relation} (hl:SigsOK l) (hu:1048577<u):Ok (msl3Any u c l) fun r=>CurOK r.2∧r.1.values.length≤4:=by
 unfold msl3Any
 refine .bind (l3Fact_ok hc hl.ne (fun r hr=>(hl.2 r hr).2.2) 4 hu) fun r1 h1=>.bind (l1Below_ok h1.1 10) fun r3 h3=>?_
 have hl3:=h1.2.1
 have hl1:=h1.2.2 fun r hr=>(hl.2 r hr).2.1
 refine .cond (fun _=>.bind (l1Below_ok h3.1 6) fun r6 h6=>.ret ⟨h6.1,by simp only;omega⟩) fun _=>.cond (fun _=>.app (by simp;omega) (.ret ⟨h3.1,by simp;omega⟩)) fun _=>.cond (fun _=>.bind (l1PickInt_ok h3.1 _ (by simp)) fun r12 h12=>.get (n:=0) rfl (by omega) (.ret ⟨h12.1,by simp;omega⟩)) fun _=>.ret ⟨h3.1,by simp only;omega⟩
theorem l1Pick_ok {c:l1Cur} (hc:CurOK c) (l:List ByteArray) (hl:l≠[]):Ok (msl1Pick c l) fun r=>CurOK r.2∧r.1∈l:=by
 have h0:0<l.length:=List.length_pos_iff.2 hl
 unfold msl1Pick
 refine .bind (l1Below_ok hc _) fun r hr=>.get' hr.2.1 (hr.2.2.1 (by omega)) fun n hn e=>.ret ⟨hr.1,List.getElem_mem hn⟩
theorem l2Any_ok {c:l1Cur} (hc:CurOK c):Ok (msl2Any c) fun r=>CurOK r.2∧r.1.name.size≤2:=by
 unfold msl2Any
 refine .bind (l1Pick_ok hc _ (by simp)) fun r1 h1=>.bind (l1Below_ok h1.1 6) fun r3 h3=>.bind (l1Below_ok h3.1 5) fun r5 h5=>.ret ⟨h5.1,?_⟩
 have:=h1.2
 simp only [List.mem_cons,List.not_mem_nil,or_false] at this
 show r1.1.size≤2
 rcases this with h | h | h | h | h | h<;>rw [h]<;>decide
theorem l4Any_ok {u:Nat} {c:l1Cur} (hc:CurOK c) (hu:1048577<u):Ok (msl4Any u c) fun r=>CurOK r.2∧DbD r.1:=by
 unfold msl4Any
 refine .bind (l4Db_ok hc hu) fun r1 h1=>.bind (l1Below_ok h1.1 14) fun r3 h3=>?_
 have hg:=h1.2
 have hd:=hg.d (by omega)
 refine .cond (fun _=>.bind (l3Any_ok h3.1 hg.1 hu) fun r6 h6=>.app (by have:=hg.2.1;simp;omega) (.ret ⟨h6.1,hd.1,?_,hd.2.2.1,fun f hf=>?_⟩)) fun _=>.cond (fun _=>.bind (l1Below_ok h3.1 4) fun r11 h11=>?_) fun _=>.cond (fun _=>.bind (l1Below_ok h3.1 4) fun r23 h23=>.bind (l2Any_ok h23.1) fun r25 h25=>?_) fun _=>.ret ⟨h3.1,hd⟩
 ·have:=hg.2.1;simp;omega
 ·simp only [List.mem_append,List.mem_singleton] at hf
  rcases hf with hf | rfl
  ·exact hd.2.2.2 f hf
  ·exact h6.2
 ·have h4:=h11.2.2.1 (by omega)
  have h5:=hg.1.1
  obtain ⟨k,hk⟩:∃ k:Nat,r11.1=k:=⟨r11.1.toNat,by have:=h11.2.1;omega⟩
  refine .cut (i:=0) rfl hk (Nat.zero_le _) (by omega) (.ret ⟨h11.1,by simp;omega,hd.2.1,fun r hr=>hd.2.2.1 r ?_,hd.2.2.2⟩)
  simp only [List.drop_zero] at hr;exact List.mem_of_mem_take hr
 ·have h4:=h23.2.2.1 (by omega)
  have h5:=hg.1.1
  refine .get' h23.2.1 (by omega) fun n hn e=>.ret ⟨h25.1,by simp;exact hd.1,hd.2.1,fun r hr=>?_,hd.2.2.2⟩
  rcases List.mem_or_eq_of_mem_set hr with h | rfl
  ·exact hd.2.2.1 r h
  ·exact h25.2
end Go.Proofs.YtaadmoaanhdboaaGreatDoor
set_option linter.unusedVariables false
set_option linter.unusedSimpArgs false
namespace Go.Proofs.YtaadmoaanhdboaaGreatDoor
open Go Go.Proofs Go.Sep
end Go.Proofs.YtaadmoaanhdboaaGreatDoor
set_option linter.unusedVariables false
set_option linter.unusedSimpArgs false
namespace Go.Proofs.YtaadmoaanhdboaaGreatDoor
open Go Go.Proofs Go.Sep
def RelOK (r:Relation):Prop:=0≤r.keyLength∧r.keyLength≤r.arity∧1≤r.arity∧r.arity≤3
theorem validRelation_ok {r:Relation} (h:miIsValidRelation r=some true):RelOK r:=by
 unfold miIsValidRelation miwithin at h
 obtain ⟨t,h1,h2⟩:=bind_inv h
 have h2:t=true:=by simpa using h2
 subst h2
 by_cases hs:(r.name.size:Int)=1
 ·rw [cond_T' (by simpa using hs)] at h1
  obtain ⟨b1,_,h3⟩:=bind_inv h1
  cases hd:decide (97≤b1) with
  | false=>rw [hd] at h3;simp at h3
  | true =>
   rw [hd,cond_T' rfl] at h3
   obtain ⟨b2,_,h4⟩:=bind_inv h3
   cases hd2:decide (b2≤122) with
   | false=>rw [hd2] at h4;simp at h4
   | true =>
    rw [hd2,cond_T' rfl] at h4
    simp only [Option.bind_some] at h4
    by_cases ha:1≤r.arity∧r.arity≤3
    ·rw [cond_T' (by simp [ha])] at h4
     simp only [Option.some.injEq,Bool.and_eq_true,decide_eq_true_eq] at h4
     exact ⟨h4.1,h4.2,ha.1,ha.2⟩
    ·rw [cond_F' (by simp;omega)] at h4;simp at h4
 ·rw [cond_F' (by simpa using hs)] at h1;simp at h1
theorem validRelations_ok {l:List Relation} (h:miAreValidRelations l=some true):∀ r∈l,RelOK r:=by
 unfold miAreValidRelations at h
 obtain ⟨o,h1,h2⟩:=forL_ok (xs:=l) (s:=()) (f:=fun (t_1:Int) (x_t_1:Relation) (_:Unit)=>((miIsValidRelation x_t_1).bind fun r_5=>cond (!r_5) (some true) (cond (decide (0<(t_1:Int))) ((getI l ((t_1:Int) - 1)).bind fun v_9=>some (!ltS v_9.name x_t_1.name)) (some false))).bind fun (t29:Bool)=>cond t29 (some (.ret false)) (some (.next ())))
  (fun n _=>∀ (j:Nat) r,j<n→l[j]?=some r→RelOK r) (fun _=>False) (fun (r:Bool)=>r=false) (fun j r hj=>by omega) fun n x s hx hI=>by
   obtain ⟨b,hb⟩:=validRelation_tot x
   have hn:n<l.length:=(List.getElem?_eq_some_iff.1 hx).1
   rw [hb,Option.bind_some]
   cases b with
   | false=>exact ⟨_,rfl,rfl⟩
   | true =>
    have key:∃ t,(cond (decide (0<(n:Int))) ((getI l ((n:Int) - 1)).bind fun v_9=>some (!ltS v_9.name x.name)) (some false))=some t:=by
     by_cases h0:0<n
     ·have e:(n:Int) - 1=((n - 1:Nat):Int):=by omega
      rw [cond_T' (by simpa using h0),e,getI_lt (show n - 1<l.length by omega)];exact ⟨_,rfl⟩
     ·rw [cond_F' (by simpa using h0)];exact ⟨_,rfl⟩
    obtain ⟨t,ht⟩:=key
    rw [cond_nt,ht,Option.bind_some]
    cases t with
    | true=>exact ⟨_,rfl,rfl⟩
    | false =>
     refine ⟨_,rfl,fun j r hj hr=>?_⟩
     by_cases e:j=n
     ·subst e;rw [hx] at hr;cases hr;exact validRelation_ok hb
     ·exact hI j r (by omega) hr
 rw [h1,Option.bind_some] at h
 cases o with
 | inl s =>
  intro r hr
  obtain ⟨j,hj⟩:=List.getElem?_of_mem hr
  exact (h2.resolve_right id) j r (List.getElem?_eq_some_iff.1 hj).1 hj
 | inr r =>
  simp only [SumP] at h2
  subst h2;simp [onS] at h
def keyLen (l:List Relation) (f:Fact):Nat:=match l[f.relation.toNat]? with
 | some r=>r.keyLength.toNat
 | none=>0
def keyF (l:List Relation) (f:Fact):Int × List Int:=(f.relation,f.values.take (keyLen l f))
theorem cut_key {xs:List Int} {k:Int} (h0:0≤k) (h1:k≤(xs.length:Int)):cutI xs 0 k=some (xs.take k.toNat):=by
 unfold cutI
 rw [if_pos (by omega)];simp
theorem keyLen_eq {l:List Relation} {f:Fact} {n:Nat} {r:Relation} (h1:f.relation=n) (h2:l[n]?=some r):keyLen l f=r.keyLength.toNat:=by
 simp only [keyLen,h1,Int.toNat_natCast,h2]
theorem impl_sameKey_eq {l:List Relation} (hl:miAreValidRelations l=some true) {a b:Fact} (ha:FactOK l a) (hb:FactOK l b):misameKey l a b=some (decide (keyF l a=keyF l b)):=by
 unfold misameKey
 by_cases hr:a.relation=b.relation
 ·obtain ⟨n,r,h1,h2,h3,h4⟩:=ha
  obtain ⟨n',r',g1,g2,g3,g4⟩:=hb
  have:n'=n:=by omega
  subst this
  rw [h2] at g2;cases g2
  have hok:=validRelations_ok hl r (List.mem_of_getElem? h2)
  rw [cond_F' (by simp [hr]),h1,getI_nat,h2,Option.bind_some,cut_key hok.1 (by have:=hok.2.1;omega),Option.bind_some,cut_key hok.1 (by have:=hok.2.1;omega),Option.bind_some]
  have he:m_slices_Equal_Sint_int (a.values.take r.keyLength.toNat) (b.values.take r.keyLength.toNat)=some (decide (a.values.take r.keyLength.toNat=b.values.take r.keyLength.toNat)):=by
   unfold m_slices_Equal_Sint_int
   generalize a.values.take r.keyLength.toNat=x
   generalize b.values.take r.keyLength.toNat=y
   by_cases hl:x.length=y.length
   ·rw [cond_F' (by simp [hl])]
    obtain ⟨o,h1,h2⟩:=forL_all (f:=fun (i_2:Int) (x_i_2:Int) (_:Unit)=>(getI y (i_2:Int)).bind fun v_4=>cond (decide (x_i_2≠v_4)) (some (.ret false)) (some (.next ()))) (xs:=x) (r:=false) (fun n z=>decide (y[n]?=some z)) (fun n z hx=>by
     have hn:n<y.length:=by have:=(List.getElem?_eq_some_iff.1 hx).1;omega
     rw [getI_lt hn,Option.bind_some,List.getElem?_eq_getElem hn]
     by_cases e:z=y[n]
     ·simp [e]
     ·simp [e,Ne.symm e])
    rw [h1,Option.bind_some]
    rcases h2 with ⟨rfl,h⟩ | ⟨rfl,n,z,hx,hp⟩
    ·simp only [onS,Option.some.injEq]
     symm;simp only [decide_eq_true_eq]
     apply List.ext_getElem?
     intro n
     cases hx:x[n]? with
     | none=>rw [List.getElem?_eq_none_iff] at hx;rw [List.getElem?_eq_none (by omega)]
     | some z=>have:=h n z hx;simp at this;exact this.symm
    ·simp only [onS,Option.some.injEq]
     symm;simp only [decide_eq_false_iff_not]
     rintro rfl
     simp [hx] at hp
   ·rw [cond_T' (by simp;omega)]
    have:x≠y:=fun e=>hl (by rw [e])
    simp [this]
  rw [he,Option.bind_some]
  simp only [keyF,keyLen_eq h1 h2,keyLen_eq g1 h2,hr,Prod.mk.injEq,true_and]
 ·rw [cond_T' (by simp [hr])]
  have:keyF l a≠keyF l b:=fun e=>hr (congrArg Prod.fst e)
  simp [this]
end Go.Proofs.YtaadmoaanhdboaaGreatDoor
set_option linter.unusedVariables false
set_option linter.unusedSimpArgs false
namespace Go.Proofs.YtaadmoaanhdboaaGreatDoor
open Go Go.Proofs Go.Sep
theorem cmpL_zero:∀ (a b:List Int),cmpL a b=0↔a=b
 | [],[]=>by simp [cmpL]
 | [],y::b=>by simp [cmpL]
 | x::a,[]=>by simp [cmpL]
 | x::a,y::b=>by
  simp only [cmpL,List.cons.injEq]
  by_cases h1:x<y
  ·rw [if_pos h1];constructor
   ·intro h;omega
   ·intro h;omega
  ·by_cases h2:y<x
   ·rw [if_neg h1,if_pos h2];constructor
    ·intro h;omega
    ·intro h;omega
   ·rw [if_neg h1,if_neg h2,cmpL_zero a b]
    constructor
    ·intro h;exact ⟨by omega,h⟩
    ·intro h;exact h.2
theorem cmpL_between:∀ (m:Nat) (a b c:List Int),cmpL a b≤0→cmpL b c≤0→a.take m=c.take m→b.take m=a.take m
 | 0,a,b,c,_,_,_=>by simp
 | m+1,[],[],c,_,_,_=>rfl
 | m+1,[],y::b,c,h1,h2,h=>by
  cases c with
  | nil=>simp [cmpL] at h2
  | cons z c=>simp at h
 | m+1,x::a,[],c,h1,h2,h=>by simp [cmpL] at h1
 | m+1,x::a,y::b,[],h1,h2,h=>by simp at h
 | m+1,x::a,y::b,z::c,h1,h2,h=>by
  simp only [List.take_succ_cons,List.cons.injEq] at h ⊢
  obtain ⟨rfl,h⟩:=h
  simp only [cmpL] at h1 h2
  by_cases c1:y<x
  ·rw [if_neg (by omega),if_pos c1] at h1;omega
  ·by_cases c2:x<y
   ·rw [if_neg (by omega),if_pos c2] at h2;omega
   ·have:y=x:=by omega
    subst this
    rw [if_neg (by omega),if_neg (by omega)] at h1 h2
    exact ⟨rfl,cmpL_between m a b c h1 h2 h⟩
theorem cmpL_trans:∀ (a b c:List Int),cmpL a b≤0→cmpL b c≤0→cmpL a c≤0
 | [],b,c,h1,h2=>by rw [cmpL_nil_l];split<;>omega
 | x::a,[],c,h1,h2=>by simp [cmpL] at h1
 | x::a,y::b,[],h1,h2=>by simp [cmpL] at h2
 | x::a,y::b,z::c,h1,h2=>by
  simp only [cmpL] at h1 h2 ⊢
  by_cases c1:x<z
  ·rw [if_pos c1];omega
  ·rw [if_neg c1]
   by_cases c2:x<y
   ·have:z<y:=by omega
    rw [if_neg (by omega),if_pos this] at h2;omega
   ·rw [if_neg c2] at h1
    by_cases c3:y<x
    ·rw [if_pos c3] at h1;omega
    ·rw [if_neg c3] at h1
     have:y=x:=by omega
     subst this
     rw [if_neg c1] at h2
     by_cases c4:z<y
     ·rw [if_pos c4] at h2;omega
     ·rw [if_neg c4] at h2 ⊢
      exact cmpL_trans a b c h1 h2
theorem cmpF_trans {a b c:Fact} (h1:cmpF a b≤0) (h2:cmpF b c≤0):cmpF a c≤0:=by
 unfold cmpF at *
 by_cases c1:a.relation<c.relation
 ·rw [if_pos c1];omega
 ·rw [if_neg c1]
  by_cases c2:a.relation<b.relation
  ·rw [if_neg (by omega),if_pos (by omega)] at h2;omega
  ·rw [if_neg c2] at h1
   by_cases c3:b.relation<a.relation
   ·rw [if_pos c3] at h1;omega
   ·rw [if_neg c3] at h1
    rw [if_neg (by omega)] at h2
    by_cases c4:c.relation<b.relation
    ·rw [if_pos c4] at h2;omega
    ·rw [if_neg c4] at h2
     rw [if_neg (by omega)]
     exact cmpL_trans _ _ _ h1 h2
theorem keyF_between {l:List Relation} {a b c:Fact} (h1:cmpF a b≤0) (h2:cmpF b c≤0) (h:keyF l a=keyF l c):keyF l b=keyF l a:=by
 have hr:a.relation=c.relation:=congrArg Prod.fst h
 have hv:a.values.take (keyLen l a)=c.values.take (keyLen l c):=congrArg Prod.snd h
 unfold cmpF at h1 h2
 by_cases c2:a.relation<b.relation
 ·rw [if_neg (by omega),if_pos (by omega)] at h2;omega
 ·rw [if_neg c2] at h1
  by_cases c3:b.relation<a.relation
  ·rw [if_pos c3] at h1;omega
  ·rw [if_neg c3] at h1
   rw [if_neg (by omega),if_neg (by omega)] at h2
   have hb:b.relation=a.relation:=by omega
   have e1:keyLen l b=keyLen l a:=by simp only [keyLen,hb]
   have e2:keyLen l c=keyLen l a:=by simp only [keyLen,hr]
   rw [e2] at hv
   simp only [keyF,hb,e1,Prod.mk.injEq,true_and]
   exact cmpL_between _ _ _ _ h1 h2 hv
theorem sorted_le {d:Database} (hd:DbOK d):∀ (k i:Nat) f g,d.facts[i]?=some f→d.facts[i+k]?=some g→cmpF f g≤0
 | 0,i,f,g,h1,h2=>by
  rw [Nat.add_zero,h1] at h2;cases h2
  have:cmpL f.values f.values=0:=(cmpL_zero _ _).2 rfl
  simp [cmpF,this]
 | k+1,i,f,g,h1,h2=>by
  have hl:i+k<d.facts.length:=by have:=(List.getElem?_eq_some_iff.1 h2).1;omega
  have h3:d.facts[i+k]?=some d.facts[i+k]:=List.getElem?_eq_getElem hl
  have:=sorted_le hd k i f _ h1 h3
  exact cmpF_trans this (Int.le_of_lt (hd.sorted (i+k) _ _ h3 h2))
theorem spec_KeyOf_eq {u:Nat} {l:List Relation} (hl:miAreValidRelations l=some true) {f:Fact} (hf:FactOK l f) (hu:f.values.length<u) (hs:f.values.length≤1048576):msKeyOf u l f=some (f.values.take (keyLen l f)):=by
 unfold msKeyOf
 obtain ⟨b,h1,h2⟩:=spec_isFact_eq u l f hu hs
 have hb:b=true:=h2.2 ⟨hl,hf⟩
 subst hb
 obtain ⟨n,r,g1,g2,g3,g4⟩:=hf
 have hok:=validRelations_ok hl r (List.mem_of_getElem? g2)
 rw [h1,Option.bind_some,cond_nt,g1,getI_nat,g2,Option.bind_some,cut_key hok.1 (by have:=hok.2.1;omega),Option.bind_some,app_ok (by simp;omega),keyLen_eq g1 g2]
 simp
theorem spec_HaveSameKey_eq {u:Nat} {l:List Relation} (hl:miAreValidRelations l=some true) {a b:Fact} (ha:FactOK l a) (hb:FactOK l b) (hu:a.values.length<u∧b.values.length<u) (hs:a.values.length≤1048576∧b.values.length≤1048576):msHaveSameKey u l a b=some (decide (keyF l a=keyF l b)):=by
 unfold msHaveSameKey
 obtain ⟨b1,h1,h2⟩:=spec_isFact_eq u l a hu.1 hs.1
 obtain ⟨b2,h3,h4⟩:=spec_isFact_eq u l b hu.2 hs.2
 have e1:b1=true:=h2.2 ⟨hl,ha⟩
 have e2:b2=true:=h4.2 ⟨hl,hb⟩
 subst e1 e2
 rw [h1,Option.bind_some,cond_T' rfl,h3,Option.bind_some,cond_T' rfl]
 by_cases hr:a.relation=b.relation
 ·rw [cond_T' (by simp [hr]),spec_KeyOf_eq hl ha hu.1 hs.1,Option.bind_some,spec_KeyOf_eq hl hb hu.2 hs.2,Option.bind_some,l3Ints_cmp _ _ u (by simp;omega) (by simp;omega) (by simp;omega),Option.bind_some,Option.bind_some]
  simp only [cmpL_zero,keyF,hr,Prod.mk.injEq,true_and]
 ·rw [cond_F' (by simp [hr]),Option.bind_some]
  have:keyF l a≠keyF l b:=fun e=>hr (congrArg Prod.fst e)
  simp [this]
end Go.Proofs.YtaadmoaanhdboaaGreatDoor
set_option linter.unusedVariables false
set_option linter.unusedSimpArgs false
namespace Go.Sep
section
variable {κ:Type} [DecidableEq κ] (K:Nat→κ)
def blkN (n i:Nat):List Nat:=(List.range n).filter fun j=>decide (K j=K i)
def firstB (i:Nat):Bool:=decide (∀ j,j<i→K j≠K i)
def firsts (n:Nat):List Nat:=(List.range n).filter (firstB K)
def BlN (n:Nat):List (List Nat):=(firsts K n).map (blkN K n)
variable {K}
theorem firstB_iff {i:Nat}:firstB K i=true↔∀ j,j<i→K j≠K i:=by simp [firstB]
theorem blkN_succ (n i:Nat):blkN K (n+1) i=blkN K n i++if K n=K i then [n] else []:=by
 simp only [blkN,List.range_succ,List.filter_append,List.filter_cons,List.filter_nil,decide_eq_true_eq]
theorem firsts_succ (n:Nat):firsts K (n+1)=firsts K n++if firstB K n=true then [n] else []:=by
 simp only [firsts,List.range_succ,List.filter_append,List.filter_cons,List.filter_nil]
theorem mem_firsts {n i:Nat}:i∈firsts K n↔i<n∧firstB K i=true:=by simp [firsts]
theorem exists_first {i:Nat}:∃ j,j≤i∧K j=K i∧firstB K j=true:=by
 induction i using Nat.strongRecOn with
 | ind i ih =>
  by_cases h:firstB K i=true
  ·exact ⟨i,Nat.le_refl _,rfl,h⟩
  ·have:∃ j,j<i∧K j=K i:=by
    rw [firstB_iff] at h
    simp only [Classical.not_forall,ne_eq,Decidable.not_not] at h
    obtain ⟨j,h1,h2⟩:=h
    exact ⟨j,h1,h2⟩
   obtain ⟨j,h1,h2⟩:=this
   obtain ⟨k,h3,h4,h5⟩:=ih j h1
   exact ⟨k,by omega,h4.trans h2,h5⟩
theorem first_uniq {i j:Nat} (hi:firstB K i=true) (hj:firstB K j=true) (h:K i=K j):i=j:=by
 rw [firstB_iff] at hi hj
 rcases Nat.lt_trichotomy i j with h1 | h1 | h1
 ·exact (hj i h1 h).elim
 ·exact h1
 ·exact (hi j h1 h.symm).elim
theorem firsts_sorted (n:Nat):(firsts K n).Pairwise (·<·):=List.Pairwise.filter _ (List.pairwise_lt_range)
theorem blkN_head {n i:Nat} (hi:i<n) (hf:firstB K i=true):(blkN K n i)[0]?=some i:=by
 have hm:i∈blkN K n i:=by simp [blkN,hi]
 have hs:(blkN K n i).Pairwise (·<·):=List.Pairwise.filter _ (List.pairwise_lt_range)
 cases hb:blkN K n i with
 | nil=>rw [hb] at hm;cases hm
 | cons x xs =>
  have hx:x∈blkN K n i:=by rw [hb];exact List.mem_cons_self ..
  simp only [blkN,List.mem_filter,List.mem_range,decide_eq_true_eq] at hx
  rw [hb] at hs hm
  rcases List.mem_cons.1 hm with rfl | hm
  ·rfl
  ·have:=(List.pairwise_cons.1 hs).1 i hm
   exact ((firstB_iff.1 hf) x this hx.2).elim
theorem Bl_new {m:Nat} (hn:∀ i,i<m→K i≠K m):BlN K (m+1)=BlN K m++[[m]]:=by
 have hf:firstB K m=true:=firstB_iff.2 hn
 have hb:blkN K (m+1) m=[m]:=by
  rw [blkN_succ,if_pos rfl]
  have:blkN K m m=[]:=by
   simp only [blkN,List.filter_eq_nil_iff,List.mem_range,decide_eq_true_eq]
   exact hn
  rw [this];rfl
 simp only [BlN,firsts_succ,if_pos hf,List.map_append,List.map_cons,List.map_nil,hb]
 congr 1
 apply List.map_congr_left
 intro i hi
 have:=(mem_firsts.1 hi).1
 rw [blkN_succ,if_neg (fun e=>hn i this e.symm),List.append_nil]
theorem Bl_old {m h:Nat} {F':List Nat} (hF:firsts K m=F'++[h]) (hK:K h=K m):BlN K (m+1)=F'.map (blkN K m)++[blkN K m h++[m]]:=by
 have hm:h∈firsts K m:=by rw [hF];simp
 obtain ⟨h1,h2⟩:=mem_firsts.1 hm
 have hf:¬ firstB K m=true:=fun hf=>(firstB_iff.1 hf) h h1 hK
 simp only [BlN,firsts_succ,if_neg hf,List.append_nil,hF,List.map_append,List.map_cons,List.map_nil]
 rw [blkN_succ,if_pos hK.symm]
 congr 1
 apply List.map_congr_left
 intro i hi
 have hi':i∈firsts K m:=by rw [hF];simp [hi]
 have hif:=mem_firsts.1 hi'
 rw [blkN_succ,if_neg,List.append_nil]
 intro e
 have:i=h:=first_uniq hif.2 h2 (e.symm.trans hK.symm)
 subst this
 have hs:=firsts_sorted (K:=K) m
 rw [hF,List.pairwise_append] at hs
 have:=hs.2.2 i hi i (by simp)
 omega
theorem last_first {m h:Nat} {F':List Nat} (hC:∀ i j,i<j→j<m→K i=K m→K j=K i) (hF:firsts K m=F'++[h]):K h=K m↔∃ i,i<m∧K i=K m:=by
 have hm:h∈firsts K m:=by rw [hF];simp
 obtain ⟨h1,h2⟩:=mem_firsts.1 hm
 constructor
 ·intro hK;exact ⟨h,h1,hK⟩
 ·rintro ⟨i,hi,hK⟩
  obtain ⟨j,g1,g2,g3⟩:=exists_first (K:=K) (i:=i)
  have hj:j∈firsts K m:=mem_firsts.2 ⟨by omega,g3⟩
  rw [hF] at hj
  rcases List.mem_append.1 hj with hj | hj
  ·have hs:=firsts_sorted (K:=K) m
   rw [hF,List.pairwise_append] at hs
   have hlt:=hs.2.2 j hj h (by simp)
   have:=hC j h hlt h1 (g2.trans hK)
   exact ((firstB_iff.1 h2) j hlt this.symm).elim
  ·simp only [List.mem_singleton] at hj
   subst hj;exact g2.trans hK
end
end Go.Sep
set_option linter.unusedVariables false
set_option linter.unusedSimpArgs false
namespace Go.Proofs.YtaadmoaanhdboaaGreatDoor
open Go Go.Proofs Go.Sep
def castL (l:List Nat):List Int:=l.map fun (j:Nat)=>(j:Int)
def castB (b:List (List Nat)):List (List Int):=b.map castL
theorem castL_len (l:List Nat):(castL l).length=l.length:=by simp [castL]
theorem castB_len (b:List (List Nat)):(castB b).length=b.length:=by simp [castB]
def keyN (d:Database) (i:Nat):Int × List Int:=keyF d.relations (d.facts.getD i default)
theorem keyN_at {d:Database} {i:Nat} (h:i<d.facts.length):keyN d i=keyF d.relations d.facts[i]:=by
 simp [keyN,List.getD,h]
theorem keyN_C {d:Database} (hd:DbOK d) {m:Nat} (hm:m<d.facts.length):∀ i j,i<j→j<m→keyN d i=keyN d m→keyN d j=keyN d i:=fun i j hij hjm h=>by
 rw [keyN_at (show i<d.facts.length by omega),keyN_at hm] at h
 rw [keyN_at (show j<d.facts.length by omega),keyN_at (show i<d.facts.length by omega)]
 have h1:=sorted_le hd (j - i) i d.facts[i] d.facts[j] (List.getElem?_eq_getElem _) (by rw [show i+(j - i)=j by omega];exact List.getElem?_eq_getElem _)
 have h2:=sorted_le hd (m - j) j d.facts[j] d.facts[m] (List.getElem?_eq_getElem _) (by rw [show j+(m - j)=m by omega];exact List.getElem?_eq_getElem hm)
 exact keyF_between h1 h2 h
def blocksOf (d:Database):List (List Int):=castB (BlN (keyN d) d.facts.length)
theorem BlN_len_le (K:Nat→Int × List Int) (m:Nat):(BlN K m).length≤m:=by
 simp only [BlN,firsts,List.length_map]
 exact Nat.le_trans (List.length_filter_le ..) (by simp)
theorem impl_blocks_eq {d:Database} (hd:DbOK d):miblocks d=some (blocksOf d):=by
 unfold miblocks
 obtain ⟨s,h1,h2⟩:=forS_ok (xs:=d.facts) (s:=([]:List (List Int))) (f:=fun (t_1:Int) (x_t_1:Fact) (out3:(List (List Int)))=>(cond (decide (0≤((out3.length:Int) - 1))) ((getI out3 ((out3.length:Int) - 1)).bind fun v_7=>(getI v_7 0).bind fun v_12=>(getI d.facts v_12).bind fun v_17=>(misameKey d.relations v_17 x_t_1).bind fun r_22=>some r_22) (some false)).bind fun (t36:Bool)=>cond t36 ((getI out3 ((out3.length:Int) - 1)).bind fun v_25=>(app 8 v_25 ([(t_1:Int)]:(List Int))).bind fun us_30=>some (out3.set (((out3.length:Int) - 1)).toNat us_30)) ((app 24 out3 ([([(t_1:Int)]:(List Int))]:(List (List Int)))).bind fun us_32=>some us_32))
  (fun m out=>out=castB (BlN (keyN d) m)) rfl fun m x out hx hI=>by
   have hm:m<d.facts.length:=(List.getElem?_eq_some_iff.1 hx).1
   rw [List.getElem?_eq_getElem hm] at hx;cases hx
   have hfew:=hd.few
   have hlen:out.length≤m:=by rw [hI,castB_len];exact BlN_len_le _ _
   have hnew:(∀ i,i<m→keyN d i≠keyN d m)→∃ s',((app 24 out ([([(m:Int)]:(List Int))]:(List (List Int)))).bind fun us_32=>some us_32)=some s'∧s'=castB (BlN (keyN d) (m+1)):=fun hn=>by
    rw [app_ok (by simp;omega)]
    refine ⟨_,rfl,?_⟩
    rw [Bl_new hn,hI];simp [castB,castL]
   rcases List.eq_nil_or_concat (firsts (keyN d) m) with hF | ⟨F',h,hF⟩
   ·have ho:out=[]:=by rw [hI];simp [BlN,hF,castB]
    have hn:∀ i,i<m→keyN d i≠keyN d m:=fun i hi _=>by
     obtain ⟨j,g1,_,g3⟩:=exists_first (K:=keyN d) (i:=i)
     have:j∈firsts (keyN d) m:=mem_firsts.2 ⟨by omega,g3⟩
     rw [hF] at this;cases this
    rw [cond_F' (by simp [ho]),Option.bind_some,cond_F' rfl]
    exact hnew hn
   ·rw [List.concat_eq_append] at hF
    have hlf:=last_first (keyN_C hd hm) hF
    have hh:h∈firsts (keyN d) m:=by rw [hF];simp
    obtain ⟨hhm,hhf⟩:=mem_firsts.1 hh
    have ho:out=castB (F'.map (blkN (keyN d) m))++[castL (blkN (keyN d) m h)]:=by rw [hI];simp [BlN,hF,castB]
    have hol:(out.length:Int) - 1=((F'.length:Nat):Int):=by rw [ho];simp [castB]
    have hget:getI out ((F'.length:Nat):Int)=some (castL (blkN (keyN d) m h)):=by
     rw [getI_nat,ho,List.getElem?_append_right (by simp [castB])];simp [castB]
    have hhead:getI (castL (blkN (keyN d) m h)) 0=some (h:Int):=by
     have:=blkN_head hhm hhf
     rw [show (0:Int)=((0:Nat):Int) from rfl,getI_nat];simp [castL,this]
    have hhl:h<d.facts.length:=by omega
    have hsk:=impl_sameKey_eq hd.rels (hd.fact h _ (List.getElem?_eq_getElem hhl)) (hd.fact m _ (List.getElem?_eq_getElem hm))
    rw [← keyN_at hhl,← keyN_at hm] at hsk
    rw [hol,cond_T' (by simp),hget,Option.bind_some,hhead,Option.bind_some,getI_lt hhl,Option.bind_some,hsk,Option.bind_some,Option.bind_some]
    by_cases hK:keyN d h=keyN d m
    ·have hbl:(castL (blkN (keyN d) m h)).length≤m:=by rw [castL_len];exact Nat.le_trans (List.length_filter_le ..) (by simp)
     rw [cond_T' (by simpa using hK),Option.bind_some,app_ok (by simp;omega),Option.bind_some]
     refine ⟨_,rfl,?_⟩
     rw [Bl_old hF hK,ho,Int.toNat_natCast,List.set_append_right _ _ (by simp [castB])]
     simp [castB,castL]
    ·rw [cond_F' (by simpa using hK)]
     exact hnew fun i hi e=>hK (hlf.2 ⟨i,hi,e⟩)
 rw [h1,Option.bind_some,h2];rfl
end Go.Proofs.YtaadmoaanhdboaaGreatDoor
set_option linter.unusedVariables false
set_option linter.unusedSimpArgs false
namespace Go.Proofs.YtaadmoaanhdboaaGreatDoor
open Go Go.Proofs Go.Sep
theorem spec_valid {u:Nat} {d:Database} (hd:DbOK d) (hs:DbS d) (hu:1048577<u):msIsValidDatabase u d=some true:=by
 obtain ⟨b,h1,h2⟩:=spec_IsValidDatabase_eq u d hs hu
 rw [h1,h2.2 hd]
theorem spec_BlockOf_eq {u:Nat} {d:Database} (hd:DbOK d) (hs:DbS d) (hu:1048577<u) {i:Nat} (hi:i<d.facts.length):msBlockOf u d (i:Int)=some (castL (blkN (keyN d) d.facts.length i)):=by
 unfold msBlockOf msl1In
 have hfew:=hd.few
 obtain ⟨o,h1,h2⟩:=while_ok (f:=fun (⟨out5,k6⟩:(List Int) × Int)=>(cond (decide (k6<(d.facts.length:Int))) ((msIsValidDatabase u d).bind fun r_5=>cond r_5 ((some ((decide (0≤(i:Int))) && (decide ((i:Int)≤(d.facts.length:Int) - 1)))).bind fun r_9=>some r_9) (some false)) (some false)).bind fun (t24:Bool)=>cond t24 ((getI d.facts (i:Int)).bind fun v_12=>(getI d.facts k6).bind fun v_17=>(msHaveSameKey u d.relations v_12 v_17).bind fun r_22=>cond r_22 ((app 8 out5 ([k6]:(List Int))).bind fun us_25=>some (Ctl.next (R:=List Int) (us_25,(w64 (k6+1))))) (some (.next (out5,(w64 (k6+1)))))) (some (.brk (out5,k6))))
  (fun (s:List Int × Int)=>∃ m:Nat,s.2=(m:Int)∧m≤d.facts.length∧s.1=castL (blkN (keyN d) m i)) (fun (s:List Int × Int)=>d.facts.length - s.2.toNat) (fun (s:List Int × Int)=>s.1=castL (blkN (keyN d) d.facts.length i)) (fun (_:List Int)=>False)
  (fun ⟨out,k⟩ ⟨m,hk,hm,hI⟩=>by
   simp only at hk hI
   subst hk
   simp only [spec_valid hd hs hu,Option.bind_some,cond_true]
   by_cases h:m<d.facts.length
   ·have e:(decide (0≤(i:Int)) && decide ((i:Int)≤(d.facts.length:Int) - 1))=true:=by simp;omega
    have hk:=spec_HaveSameKey_eq (u:=u) hd.rels (hd.fact i _ (List.getElem?_eq_getElem hi)) (hd.fact m _ (List.getElem?_eq_getElem h)) ⟨by have:=hs.2.2.2 _ (List.getElem_mem hi);omega,by have:=hs.2.2.2 _ (List.getElem_mem h);omega⟩ ⟨hs.2.2.2 _ (List.getElem_mem hi),hs.2.2.2 _ (List.getElem_mem h)⟩
    rw [← keyN_at hi,← keyN_at h] at hk
    rw [cond_T' (by simpa using h),e,Option.bind_some,cond_T' rfl,getI_lt hi,Option.bind_some,getI_lt h,Option.bind_some,hk,Option.bind_some,w64_id (by omega)]
    have hl:out.length≤m:=by rw [hI,castL_len];exact Nat.le_trans (List.length_filter_le ..) (by simp)
    by_cases hK:keyN d i=keyN d m
    ·rw [cond_T' (by simpa using hK),app_ok (by simp;omega),Option.bind_some]
     refine ⟨_,rfl,⟨m+1,by simp,h,?_⟩,by simp only;omega⟩
     simp only
     rw [blkN_succ,if_pos hK.symm,hI];simp [castL]
    ·rw [cond_F' (by simpa using hK)]
     refine ⟨_,rfl,⟨m+1,by simp,h,?_⟩,by simp only;omega⟩
     simp only
     rw [blkN_succ,if_neg (fun e=>hK e.symm),hI,List.append_nil]
   ·rw [cond_F' (by simpa using h),Option.bind_some,cond_F' rfl]
    have e:m=d.facts.length:=by omega
    exact ⟨_,rfl,by simp only [CtlP];rw [hI,e]⟩)
  u (([]:List Int),0) (by show d.facts.length - (0:Int).toNat<u;omega) ⟨0,rfl,by omega,rfl⟩
 rw [h1,Option.bind_some]
 cases o with
 | inr r=>exact h2.elim
 | inl s=>obtain ⟨out,k⟩:=s;simp only [SumP] at h2;subst h2;rfl
end Go.Proofs.YtaadmoaanhdboaaGreatDoor
set_option linter.unusedVariables false
set_option linter.unusedSimpArgs false
namespace Go.Proofs.YtaadmoaanhdboaaGreatDoor
open Go Go.Proofs Go.Sep
theorem mem_blocksOf {d:Database} {b:List Int} (hb:b∈blocksOf d):∃ i,i<d.facts.length∧firstB (keyN d) i=true∧b=castL (blkN (keyN d) d.facts.length i):=by
 simp only [blocksOf,castB,BlN,List.map_map,List.mem_map] at hb
 obtain ⟨i,hi,rfl⟩:=hb
 obtain ⟨h1,h2⟩:=mem_firsts.1 hi
 exact ⟨i,h1,h2,rfl⟩
end Go.Proofs.YtaadmoaanhdboaaGreatDoor
set_option linter.unusedVariables false
set_option linter.unusedSimpArgs false
namespace Go.Proofs.YtaadmoaanhdboaaGreatDoor
open Go Go.Proofs Go.Sep
theorem cmpSc_rel (a b:Relation):cmpSc [.s a.name b.name,.i a.arity b.arity,.i a.keyLength b.keyLength]=decide (a=b):=by
 cases a;cases b
 simp [cmpSc,Sc2.eq,Bool.eq_iff_iff]
theorem cmpF_zero (a b:Fact):cmpF a b=0↔a=b:=by
 unfold cmpF
 cases a;cases b
 simp only [Fact.mk.injEq]
 constructor
 ·intro h
  split at h
  ·cases h
  ·split at h
   ·cases h
   ·exact ⟨by omega,(cmpL_zero _ _).1 h⟩
 ·rintro ⟨rfl,rfl⟩
  rw [if_neg (by omega),if_neg (by omega)]
  exact (cmpL_zero _ _).2 rfl
theorem spec_EqualDatabases_eq {u:Nat} {a b:Database} (ha:DbS a) (hb:DbS b) (hu:1048577<u):msEqualDatabases u a b=some (decide (a=b)):=by
 unfold msEqualDatabases
 refine Ok.to (.cond (fun h=>.ret ?_) fun h=>?_)
 ·have:a≠b:=fun e=>by subst e;simp at h
  simp [this]
 ·simp only [Bool.or_eq_false_iff,decide_eq_false_iff_not,ne_eq,Decidable.not_not] at h
  have hr:a.relations.length=b.relations.length:=by omega
  have hf:a.facts.length=b.facts.length:=by omega
  have h1:=ha.1
  have h2:=ha.2.1
  refine .while (fun (i:Int)=>∃ n:Nat,i=(n:Int)∧n≤a.relations.length∧∀ j,j<n→a.relations[j]?=b.relations[j]?) (fun i=>a.relations.length - i.toNat) (fun _=>a.relations=b.relations) (fun r=>r=false∧a≠b) (by omega) ⟨0,rfl,by omega,by omega⟩ (fun i ⟨n,e1,e2,e3⟩=>?_) (fun i hrel=>?_) (fun r hr=>.ret (by rw [hr.1];simp [hr.2]))
  ·subst e1
   refine .cond (fun hc=>?_) fun hc=>.brk ?_
   ·have hn:n<a.relations.length:=by simpa using hc
    refine .get rfl hn (.get rfl (by omega) ?_)
    rw [cmpSc_rel]
    refine .cond (fun hd=>.out ⟨rfl,fun e=>by subst e;simp at hd⟩) fun hd=>.next ⟨⟨n+1,by rw [w64_id (by omega)];simp,hn,fun j hj=>?_⟩,by rw [w64_id (by omega)];omega⟩
    have hd':a.relations[n]=b.relations[n]'(by omega):=by simpa using hd
    by_cases e:j=n
    ·subst e;rw [List.getElem?_eq_getElem hn,List.getElem?_eq_getElem (by omega),hd']
    ·exact e3 j (by omega)
   ·have:n=a.relations.length:=by have:=of_decide_eq_false hc;omega
    refine List.ext_getElem? fun j=>?_
    rcases Nat.lt_or_ge j a.relations.length with g | g
    ·exact e3 j (by omega)
    ·rw [List.getElem?_eq_none g,List.getElem?_eq_none (by omega)]
  ·refine .while (fun (i:Int)=>∃ n:Nat,i=(n:Int)∧n≤a.facts.length∧∀ j,j<n→a.facts[j]?=b.facts[j]?) (fun i=>a.facts.length - i.toNat) (fun _=>a.facts=b.facts) (fun r=>r=false∧a≠b) (by omega) ⟨0,rfl,by omega,by omega⟩ (fun i ⟨n,e1,e2,e3⟩=>?_) (fun i hfa=>.ret ?_) (fun r hr=>.ret (by rw [hr.1];simp [hr.2]))
   ·subst e1
    refine .cond (fun hc=>?_) fun hc=>.brk ?_
    ·have hn:n<a.facts.length:=by simpa using hc
     have hva:=ha.2.2.2 _ (List.getElem_mem hn)
     have hnb:n<b.facts.length:=by omega
     have hvb:=hb.2.2.2 _ (List.getElem_mem hnb)
     refine .get rfl hn (.get rfl hnb (.eq (spec_CompareFacts_eq u _ _ (by omega) hva hvb) (.cond (fun hd=>.out ⟨rfl,fun e=>?_⟩) fun hd=>.next ⟨⟨n+1,by rw [w64_id (by omega)];simp,hn,fun j hj=>?_⟩,by rw [w64_id (by omega)];omega⟩)))
     ·subst e;exact (of_decide_eq_true hd) ((cmpF_zero _ _).2 rfl)
     ·have hd':a.facts[n]=b.facts[n]:=(cmpF_zero _ _).1 (by simpa using hd)
      by_cases e:j=n
      ·subst e;rw [List.getElem?_eq_getElem hn,List.getElem?_eq_getElem hnb,hd']
      ·exact e3 j (by omega)
    ·have:n=a.facts.length:=by have:=of_decide_eq_false hc;omega
     refine List.ext_getElem? fun j=>?_
     rcases Nat.lt_or_ge j a.facts.length with g | g
     ·exact e3 j (by omega)
     ·rw [List.getElem?_eq_none g,List.getElem?_eq_none (by omega)]
   ·cases a;cases b;simp only at hrel hfa;subst hrel hfa;simp
end Go.Proofs.YtaadmoaanhdboaaGreatDoor
set_option linter.unusedVariables false
set_option linter.unusedSimpArgs false
namespace Go.Proofs.YtaadmoaanhdboaaGreatDoor
open Go Go.Proofs Go.Sep
theorem l4Set_eq (d:Database) (l:List Int) (hd:d.facts.length≤1048576):msl4Set d l=miareIndices l (d.facts.length:Int):=by
 unfold msl4Set miareIndices miwithin msl1In
 rw [w64_id (x:=(d.facts.length:Int) - 1) (by omega)]
end Go.Proofs.YtaadmoaanhdboaaGreatDoor
set_option linter.unusedVariables false
set_option linter.unusedSimpArgs false
namespace Go.Proofs.YtaadmoaanhdboaaGreatDoor
open Go Go.Proofs Go.Sep
def AscB (n:Int) (l:List Int):Prop:=(∀ x∈l,0≤x∧x≤n - 1)∧l.Pairwise (·<·)
theorem areIndices_iff (l:List Int) (n:Int) (h0:0≤n) (h1:n≤1048576):Ok (miareIndices l n) fun b=>(b=true↔AscB n l):=by
 unfold miareIndices miwithin
 have adj:∀ (l:List Int),(∀ (j:Nat) x y,l[j]?=some x→l[j+1]?=some y→x<y)→l.Pairwise (·<·):=by
  intro l
  induction l with
  | nil=>intro _;exact .nil
  | cons a l ih =>
   intro h
   have hl:=ih fun j x y hx hy=>h (j+1) x y (by simpa using hx) (by simpa using hy)
   refine .cons (fun y hy=>?_) hl
   cases l with
   | nil=>cases hy
   | cons b l =>
    have hab:=h 0 a b rfl rfl
    rcases List.mem_cons.1 hy with rfl | hy
    ·exact hab
    ·exact Int.lt_trans hab ((List.pairwise_cons.1 hl).1 y hy)
 refine Ok.forL (fun m _=>(∀ (j:Nat) x,j<m→l[j]?=some x→0≤x∧x≤n - 1)∧∀ (j:Nat) x y,j+1<m→l[j]?=some x→l[j+1]?=some y→x<y) (fun _=>False) (fun (r:Bool)=>r=false∧¬ AscB n l) ⟨fun j x hj=>by omega,fun j x y hj=>by omega⟩ (fun m x s hx ⟨hI,hJ⟩=>?_) (fun s hs=>.ret ⟨fun _=>?_,fun _=>rfl⟩) (fun r hr=>.ret ⟨fun h=>absurd h (by rw [hr.1];exact Bool.false_ne_true),fun h=>(hr.2 h).elim⟩)
 ·have hm:m<l.length:=(List.getElem?_eq_some_iff.1 hx).1
  rw [w64_id (x:=n - 1) (by omega)]
  refine .bind (P:=fun t=>(t=true→¬ AscB n l)∧(t=false→(0≤x∧x≤n - 1)∧∀ (j:Nat) y,j+1=m→l[j]?=some y→y<x)) ?_ fun t ht=>.cond (fun h=>.out ⟨rfl,ht.1 h⟩) fun h=>.next ⟨fun j y hj hy=>?_,fun j y z hj hy hz=>?_⟩
  ·refine .bind (Ok.of rfl) fun b hb=>?_
   subst hb
   refine .cond (fun h=>.ret ⟨fun _ ha=>?_,fun h=>by cases h⟩) fun h=>?_
   ·have:=ha.1 x (List.mem_of_getElem? hx)
    simp at h;omega
   ·have hr:0≤x∧x≤n - 1:=by simpa using h
    refine .cond (fun h0=>?_) fun h0=>.ret ⟨(fun h=>by cases h),fun _=>⟨hr,fun j y hj hy=>absurd (show (0:Int)<(m:Int) by omega) (of_decide_eq_false h0)⟩⟩
    have hm0:0<m:=by simpa using h0
    refine .get (n:=m - 1) (by omega) (by omega) (.ret ⟨fun h ha=>?_,fun h=>⟨hr,fun j y hj hy=>?_⟩⟩)
    ·have h1:x≤l[m - 1]:=by simpa using h
     have h2:=List.pairwise_iff_getElem.1 ha.2 (m - 1) m (by omega) hm (by omega)
     rw [List.getElem?_eq_getElem hm] at hx;cases hx
     omega
    ·have h1:¬ x≤l[m - 1]:=by simpa using h
     have e:j=m - 1:=by omega
     subst e
     rw [List.getElem?_eq_getElem (by omega)] at hy;cases hy
     omega
  ·by_cases e:j=m
   ·subst e;rw [hx] at hy;cases hy;exact (ht.2 h).1
   ·exact hI j y (by omega) hy
  ·by_cases e:j+1=m
   ·subst e;rw [hx] at hz;cases hz;exact (ht.2 h).2 j y rfl hy
   ·exact hJ j y z (by omega) hy hz
 ·have h:=hs.resolve_right id
  refine ⟨fun x hx=>?_,adj l fun j x y hx hy=>h.2 j x y (List.getElem?_eq_some_iff.1 hy).1 hx hy⟩
  obtain ⟨j,hj⟩:=List.getElem?_of_mem hx
  exact h.1 j x (List.getElem?_eq_some_iff.1 hj).1 hj
end Go.Proofs.YtaadmoaanhdboaaGreatDoor
set_option linter.unusedVariables false
set_option linter.unusedSimpArgs false
namespace Go.Proofs.YtaadmoaanhdboaaGreatDoor
open Go Go.Proofs Go.Sep
theorem contains_eq (l:List Int) (v:Int):m_slices_Contains_Sint_int l v=some (decide (v∈l)):=by
 unfold m_slices_Contains_Sint_int m_slices_Index_Sint_int
 refine (Ok.bind (P:=fun z=>decide (0≤z)=decide (v∈l)) (Ok.forL (fun n _=>∀ (j:Nat),j<n→l[j]?≠some v) (fun _=>False) (fun z=>0≤z∧v∈l) (fun j hj=>by omega) (fun n x s hx hI=>?_) (fun s hs=>.ret ?_) (fun z hz=>.ret ?_)) fun z hz=>⟨_,rfl,hz⟩).to
 ·refine .cond (fun h=>.out ⟨by omega,?_⟩) fun h=>.next fun j hj hjv=>?_
  ·rw [of_decide_eq_true h];exact List.mem_of_getElem? hx
  ·by_cases e:j=n
   ·subst e;rw [hx] at hjv;cases hjv;exact (of_decide_eq_false h) rfl
   ·exact hI j (by omega) hjv
 ·have h:=hs.resolve_right id
  have:v∉l:=fun hm=>by
   obtain ⟨j,hj⟩:=List.getElem?_of_mem hm
   exact h j (List.getElem?_eq_some_iff.1 hj).1 hj
  simp [this]
 ·simp [hz.1,hz.2]
theorem l7Has_eq (l:List Int) (v:Int):msl7Has l v=some (decide (v∈l)):=by
 unfold msl7Has
 refine Ok.to (.forL (fun n _=>∀ (j:Nat),j<n→l[j]?≠some v) (fun _=>False) (fun z=>z=true∧v∈l) (fun j hj=>by omega) (fun n x s hx hI=>?_) (fun s hs=>.ret ?_) (fun z hz=>.ret ?_))
 ·refine .cond (fun h=>.out ⟨rfl,?_⟩) fun h=>.next fun j hj hjv=>?_
  ·rw [← of_decide_eq_true h];exact List.mem_of_getElem? hx
  ·by_cases e:j=n
   ·subst e;rw [hx] at hjv;cases hjv;exact (of_decide_eq_false h) rfl
   ·exact hI j (by omega) hjv
 ·have h:=hs.resolve_right id
  have:v∉l:=fun hm=>by
   obtain ⟨j,hj⟩:=List.getElem?_of_mem hm
   exact h j (List.getElem?_eq_some_iff.1 hj).1 hj
  simp [this]
 ·simp [hz.1,hz.2]
theorem without_eq (a b:List Int) (ha:a.length≤1048576):miwithout a b=some (a.filter fun x=>!decide (x∈b)):=by
 unfold miwithout
 refine Ok.to (.forS (fun n s=>s=(a.take n).filter fun x=>!decide (x∈b)) (by simp) (fun n x s hx hI=>?_) (fun s hI=>.ret (by rw [hI,List.take_length])))
 have hn:=(List.getElem?_eq_some_iff.1 hx).1
 have e:a.take (n+1)=a.take n++[x]:=by rw [List.take_add_one,hx];rfl
 have hl:=List.length_filter_le (fun x=>!decide (x∈b)) (a.take n)
 rw [List.length_take] at hl
 subst hI
 refine .eq (contains_eq b x) (.cond (fun h=>.app (by simp only [List.length_cons,List.length_nil];omega) (.ret ?_)) fun h=>.ret ?_)
 ·rw [e,List.filter_append,List.filter_cons_of_pos (by simpa using h),List.filter_nil]
 ·rw [e,List.filter_append,List.filter_cons_of_neg (by simpa using h),List.filter_nil,List.append_nil]
end Go.Proofs.YtaadmoaanhdboaaGreatDoor
set_option linter.unusedVariables false
set_option linter.unusedSimpArgs false
namespace Go.Proofs.YtaadmoaanhdboaaGreatDoor
open Go Go.Proofs Go.Sep
theorem impl_copyDatabase_eq {d:Database} (hd:DbS d):micopyDatabase d=some d:=by
 unfold micopyDatabase
 have hf:=hd.2.1
 refine Ok.to (.app (by have:=hd.1;simp;omega) ?_)
 refine .forS (fun n s=>s=d.facts.take n) (by simp) (fun n x s hx hI=>?_) (fun s hI=>.ret ?_)
 ·have hn:=(List.getElem?_eq_some_iff.1 hx).1
  have hv:=hd.2.2.2 _ (List.mem_of_getElem? hx)
  subst hI
  refine .app (by simp;omega) (.app (by simp;omega) (.ret ?_))
  rw [List.take_add_one,hx];rfl
 ·rw [hI,List.take_length,List.nil_append]
def FirstAt (l:List Fact) (f:Fact) (k:Int):Prop:=(k=-1∧∀ (j:Nat),l[j]?≠some f)∨∃ n:Nat,k=n∧l[n]?=some f∧∀ (j:Nat),j<n→l[j]?≠some f
theorem FirstAt.uniq {l:List Fact} {f:Fact} {k k':Int} (h:FirstAt l f k) (h':FirstAt l f k'):k=k':=by
 rcases h with ⟨rfl,h⟩ | ⟨n,rfl,h1,h2⟩<;>rcases h' with ⟨rfl,h'⟩ | ⟨m,rfl,h3,h4⟩
 ·rfl
 ·exact (h m h3).elim
 ·exact (h' n h1).elim
 ·rcases Nat.lt_trichotomy n m with g | g | g
  ·exact (h4 n g h1).elim
  ·rw [g]
  ·exact (h2 m g h3).elim
theorem impl_FactIndex_ok (d:Database) (f:Fact):Ok (miFactIndex d f) (FirstAt d.facts f):=by
 unfold miFactIndex m_slices_IndexFunc_Simpl_Fact_impl_Fact miFactIndex_1
 refine .bind (P:=FirstAt d.facts f) (.forL (fun n _=>∀ (j:Nat),j<n→d.facts[j]?≠some f) (fun _=>False) (FirstAt d.facts f) (fun j hj=>by omega) (fun n x s hx hI=>?_) (fun s hs=>.ret (.inl ⟨rfl,fun j hj=>?_⟩)) (fun r hr=>.ret hr)) fun r hr=>.ret hr
 ·refine .bind (P:=fun b=>b=decide (cmpF x f=0)) (.eq (impl_CompareFacts_eq x f) (.ret rfl)) fun b hb=>?_
  subst hb
  refine .cond (fun h=>.out (.inr ⟨n,rfl,?_,hI⟩)) fun h=>.next fun j hj hjf=>?_
  ·rw [hx,(cmpF_zero x f).1 (of_decide_eq_true h)]
  ·by_cases e:j=n
   ·subst e;rw [hx] at hjf;cases hjf;exact (of_decide_eq_false h) ((cmpF_zero _ _).2 rfl)
   ·exact hI j (by omega) hjf
 ·exact (hs.resolve_right id) j (List.getElem?_eq_some_iff.1 hj).1 hj
theorem spec_FactIndex_ok {u:Nat} {d:Database} (hd:DbS d) {f:Fact} (hf:f.values.length≤1048576) (hu:1048577<u):Ok (msFactIndex u d f) (FirstAt d.facts f):=by
 unfold msFactIndex
 have hfl:=hd.2.1
 refine .while (fun (i:Int)=>∃ n:Nat,i=(n:Int)∧n≤d.facts.length∧∀ (j:Nat),j<n→d.facts[j]?≠some f) (fun i=>d.facts.length - i.toNat) (fun _=>∀ (j:Nat),d.facts[j]?≠some f) (FirstAt d.facts f) (by omega) ⟨0,rfl,by omega,by omega⟩ (fun i ⟨n,h1,h2,h3⟩=>?_) (fun _ h=>.ret (.inl ⟨rfl,h⟩)) (fun _ h=>.ret h)
 subst h1
 refine .cond (fun h=>?_) fun h=>.brk fun j hj=>?_
 ·have hlt:n<d.facts.length:=by simpa using h
  have hv:=hd.2.2.2 _ (List.getElem_mem hlt)
  refine .get rfl hlt (.eq (spec_CompareFacts_eq u _ f (by omega) hv hf) (.cond (fun h4=>.out (.inr ⟨n,rfl,?_,h3⟩)) fun h4=>.next ⟨⟨n+1,by rw [w64_id (by omega)];simp,hlt,fun j hj hjf=>?_⟩,by rw [w64_id (by omega)];omega⟩))
  ·rw [List.getElem?_eq_getElem hlt,(cmpF_zero _ f).1 (of_decide_eq_true h4)]
  ·by_cases e:j=n
   ·subst e;rw [List.getElem?_eq_getElem hlt] at hjf;cases hjf;exact (of_decide_eq_false h4) ((cmpF_zero _ _).2 rfl)
   ·exact h3 j (by omega) hjf
 ·have:¬ n<d.facts.length:=by simpa using h
  exact h3 j (by have:=(List.getElem?_eq_some_iff.1 hj).1;omega) hj
def selF (d:Database) (L:List Nat):List Fact:=L.map fun j=>d.facts.getD j default
theorem AscB_cast {n:Nat} {L:List Nat} (h1:∀ x∈L,x<n) (h2:L.Pairwise (·<·)):AscB (n:Int) (castL L):=by
 refine ⟨fun x hx=>?_,?_⟩
 ·simp only [castL,List.mem_map] at hx
  obtain ⟨j,hj,rfl⟩:=hx
  have:=h1 j hj;omega
 ·simp only [castL,List.pairwise_map]
  exact h2.imp fun h=>by omega
end Go.Proofs.YtaadmoaanhdboaaGreatDoor
set_option linter.unusedVariables false
set_option linter.unusedSimpArgs false
namespace Go.Proofs.YtaadmoaanhdboaaGreatDoor
open Go Go.Proofs Go.Sep
theorem cmpL_anti:∀ a b:List Int,cmpL b a=- cmpL a b
 | [],[]=>rfl
 | [],y::b=>by simp [cmpL]
 | x::a,[]=>by simp [cmpL]
 | x::a,y::b=>by
  simp only [cmpL]
  rw [cmpL_anti a b]
  by_cases h1:x<y
  ·rw [if_neg (by omega),if_pos h1,if_pos h1];rfl
  ·by_cases h2:y<x
   ·rw [if_pos h2,if_neg h1,if_pos h2]
   ·rw [if_neg h2,if_neg h1,if_neg h1,if_neg h2]
theorem cmpF_anti (a b:Fact):cmpF b a=- cmpF a b:=by
 unfold cmpF
 rw [cmpL_anti a.values b.values]
 by_cases h1:a.relation<b.relation
 ·rw [if_neg (by omega),if_pos h1,if_pos h1];rfl
 ·by_cases h2:b.relation<a.relation
  ·rw [if_pos h2,if_neg h1,if_pos h2]
  ·rw [if_neg h2,if_neg h1,if_neg h1,if_neg h2]
theorem cmpF_lt_le {a b c:Fact} (h1:cmpF a b<0) (h2:cmpF b c≤0):cmpF a c<0:=by
 have h3:=cmpF_trans (Int.le_of_lt h1) h2
 by_cases e:cmpF a c=0
 ·have:=(cmpF_zero a c).1 e
  subst this
  have:=cmpF_anti a b
  omega
 ·omega
theorem sorted_pw {d:Database} (hd:DbOK d):d.facts.Pairwise fun f g=>cmpF f g<0:=by
 rw [List.pairwise_iff_getElem]
 intro i j hi hj hij
 have h1:=hd.sorted i _ _ (List.getElem?_eq_getElem hi) (List.getElem?_eq_getElem (show i+1<d.facts.length by omega))
 refine cmpF_lt_le h1 (sorted_le hd (j - (i+1)) (i+1) _ _ (List.getElem?_eq_getElem (show i+1<d.facts.length by omega)) ?_)
 rw [show i+1+(j - (i+1))=j by omega]
 exact List.getElem?_eq_getElem hj
structure Red (d x:Database):Prop where
  rel:x.relations=d.relations
  sub:x.facts.Sublist d.facts
  keys:∀ f∈d.facts,∃ g∈x.facts,keyF d.relations g=keyF d.relations f
theorem Red.refl (d:Database):Red d d:=⟨rfl,List.Sublist.refl _,fun f hf=>⟨f,hf,rfl⟩⟩
theorem Red.trans {a b c:Database} (h:Red a b) (k:Red b c):Red a c:=by
 refine ⟨k.rel.trans h.rel,k.sub.trans h.sub,fun f hf=>?_⟩
 obtain ⟨g,g1,g2⟩:=h.keys f hf
 obtain ⟨x,x1,x2⟩:=k.keys g g1
 rw [h.rel] at x2
 exact ⟨x,x1,x2.trans g2⟩
theorem Red.s {d x:Database} (h:Red d x) (hs:DbS d):DbS x:=⟨by rw [h.rel];exact hs.1,Nat.le_trans h.sub.length_le hs.2.1,by rw [h.rel];exact hs.2.2.1,fun f hf=>hs.2.2.2 f (h.sub.mem hf)⟩
theorem Red.ok {d x:Database} (h:Red d x) (hd:DbOK d):DbOK x:=by
 have hp:=(sorted_pw hd).sublist h.sub
 refine ⟨by rw [h.rel];exact hd.rels,Nat.le_trans h.sub.length_le hd.few,fun n f hf=>?_,fun n f g hf hg=>?_⟩
 ·obtain ⟨j,hj⟩:=List.getElem?_of_mem (h.sub.mem (List.mem_of_getElem? hf))
  rw [h.rel];exact hd.fact j f hj
 ·rw [List.pairwise_iff_getElem] at hp
  obtain ⟨h1,rfl⟩:=List.getElem?_eq_some_iff.1 hf
  obtain ⟨h2,rfl⟩:=List.getElem?_eq_some_iff.1 hg
  exact hp n (n+1) h1 h2 (by omega)
theorem range_facts (l:List Fact):l=(List.range l.length).map fun j=>l.getD j default:=by
 apply List.ext_getElem
 ·simp
 ·intro i h1 h2;simp [h1]
end Go.Proofs.YtaadmoaanhdboaaGreatDoor
set_option linter.unusedVariables false
set_option linter.unusedSimpArgs false
namespace Go.Proofs.YtaadmoaanhdboaaGreatDoor
open Go Go.Proofs Go.Sep
theorem impl_Blocks_eq {d:Database} (hd:DbOK d):miBlocks d=some (blocksOf d):=by
 unfold miBlocks
 obtain ⟨b,h1,h2⟩:=impl_IsValidDatabase_eq d
 have hb:b=true:=h2.2 hd
 subst hb
 exact Ok.to (.eq h1 (.cf rfl (.eq (impl_blocks_eq hd) (.ret rfl))))
theorem mem_castL {L:List Nat} {k:Nat}:(k:Int)∈castL L↔k∈L:=by
 simp only [castL,List.mem_map]
 constructor
 ·rintro ⟨j,hj,e⟩
  have:j=k:=by omega
  subst this;exact hj
 ·intro h;exact ⟨k,h,rfl⟩
theorem impl_BlockOf_eq {d:Database} (hd:DbOK d) {k:Nat} (hk:k<d.facts.length):miBlockOf d (k:Int)=some (castL (blkN (keyN d) d.facts.length k)):=by
 unfold miBlockOf
 refine Ok.to (.eq (impl_Blocks_eq hd) (.forL (fun n _=>∀ (j:Nat) b,j<n→(blocksOf d)[j]?=some b→(k:Int)∉b) (fun _=>False) (fun r=>r=castL (blkN (keyN d) d.facts.length k)) (fun j b hj=>by omega) (fun n b s hb hI=>?_) (fun s hs=>?_) (fun r hr=>.ret hr)))
 ·refine .eq (contains_eq b _) (.cond (fun h=>.out ?_) fun h=>.next fun j b' hj hb'=>?_)
  ·have hm:=of_decide_eq_true h
   obtain ⟨i,h1,h2,rfl⟩:=mem_blocksOf (List.mem_of_getElem? hb)
   have hm':=mem_castL.1 hm
   simp only [blkN,List.mem_filter,List.mem_range,decide_eq_true_eq] at hm'
   simp only [blkN,hm'.2]
  ·by_cases e:j=n
   ·subst e;rw [hb] at hb';cases hb';exact of_decide_eq_false h
   ·exact hI j b' (by omega) hb'
 ·have h:=hs.resolve_right id
  obtain ⟨i,h1,h2,h3⟩:=exists_first (K:=keyN d) (i:=k)
  have hb:castL (blkN (keyN d) d.facts.length i)∈blocksOf d:=by
   simp only [blocksOf,castB,BlN,List.map_map,List.mem_map]
   exact ⟨i,mem_firsts.2 ⟨by omega,h3⟩,rfl⟩
  obtain ⟨j,hj⟩:=List.getElem?_of_mem hb
  refine (h j _ (List.getElem?_eq_some_iff.1 hj).1 hj ?_).elim
  refine mem_castL.2 ?_
  simp only [blkN,List.mem_filter,List.mem_range,decide_eq_true_eq]
  exact ⟨hk,h2.symm⟩
theorem selF_get {d:Database} {L:List Nat} {n:Nat} (h1:∀ x∈L,x<d.facts.length) {x:Int} (hx:(castL L)[n]?=some x):∃ (j:Nat) (hj:j<d.facts.length),x=(j:Int)∧selF d (L.take (n+1))=selF d (L.take n)++[d.facts[j]]:=by
 simp only [castL,List.getElem?_map,Option.map_eq_some_iff] at hx
 obtain ⟨j,hj,rfl⟩:=hx
 have hlt:=h1 j (List.mem_of_getElem? hj)
 refine ⟨j,hlt,rfl,?_⟩
 rw [List.take_add_one,hj]
 simp [selF,hlt]
theorem selF_len (d:Database) (L:List Nat):(selF d L).length=L.length:=by simp [selF]
theorem impl_SelectFacts_eq {d:Database} (hd:DbOK d) (hs:DbS d) {L:List Nat} (h1:∀ x∈L,x<d.facts.length) (h2:L.Pairwise (·<·)) (h3:L.length≤d.facts.length):miSelectFacts d (castL L)=some (⟨d.relations,selF d L⟩,true):=by
 unfold miSelectFacts
 obtain ⟨b,g1,g2⟩:=impl_IsValidDatabase_eq d
 have hb:b=true:=g2.2 hd
 subst hb
 have hf:=hs.2.1
 refine Ok.to (.bind (P:=fun t=>t=false) (.eq g1 (.cf rfl (.bind (areIndices_iff (castL L) _ (by omega) (by omega)) fun b hb=>.ret ?_))) fun t ht=>.cf ht (.eq (impl_copyDatabase_eq hs) (.forS (fun n s=>s=selF d (L.take n)) (by simp [selF]) (fun n x s hx hI=>?_) (fun s hI=>.ret ?_))))
 ·rw [hb.2 (AscB_cast h1 h2)];rfl
 ·obtain ⟨j,hj,rfl,e⟩:=selF_get h1 hx
  have hl:(selF d (L.take n)).length≤L.length:=by rw [selF_len,List.length_take];omega
  subst hI
  exact .get rfl hj (.app (by simp only [List.length_cons,List.length_nil];omega) (.ret e.symm))
 ·rw [hI,castL_len,List.take_length]
theorem spec_SelectFacts_eq {u:Nat} {d:Database} (hd:DbOK d) (hs:DbS d) (hu:1048577<u) {L:List Nat} (h1:∀ x∈L,x<d.facts.length) (h2:L.Pairwise (·<·)) (h3:L.length≤d.facts.length):msSelectFacts u d (castL L)=some (⟨d.relations,selF d L⟩,true):=by
 unfold msSelectFacts
 have hf:=hs.2.1
 refine Ok.to (.bind (P:=fun t=>t=false) (.eq (spec_valid hd hs hu) (.cf rfl (.bind (P:=fun b=>b=true) ?_ fun b hb=>.ret (by rw [hb];rfl)))) fun t ht=>.cf ht (.app (by have:=hs.1;simp;omega) (.forS (fun n s=>s=selF d (L.take n)) (by simp [selF]) (fun n x s hx hI=>?_) (fun s hI=>.ret ?_))))
 ·rw [l4Set_eq d (castL L) hf]
  exact (areIndices_iff (castL L) _ (by omega) (by omega)).mono fun b hb=>hb.2 (AscB_cast h1 h2)
 ·obtain ⟨j,hj,rfl,e⟩:=selF_get h1 hx
  have hl:(selF d (L.take n)).length≤L.length:=by rw [selF_len,List.length_take];omega
  have hv:=hs.2.2.2 _ (List.getElem_mem hj)
  subst hI
  exact .get rfl hj (.app (by simp;omega) (.app (by simp only [List.length_cons,List.length_nil];omega) (.ret e.symm)))
 ·rw [hI,castL_len,List.take_length,List.nil_append]
def keepN (d:Database) (k:Nat):List Nat:=(List.range d.facts.length).filter fun j=>decide (j=k∨keyN d j≠keyN d k)
theorem keepN_lt {d:Database} {k:Nat}:∀ x∈keepN d k,x<d.facts.length:=fun x hx=>by
 simp only [keepN,List.mem_filter,List.mem_range] at hx;exact hx.1
theorem keepN_asc {d:Database} {k:Nat}:(keepN d k).Pairwise (·<·):=List.Pairwise.filter _ List.pairwise_lt_range
theorem keepN_len {d:Database} {k:Nat}:(keepN d k).length≤d.facts.length:=by
 have:=List.length_filter_le (fun j=>decide (j=k∨keyN d j≠keyN d k)) (List.range d.facts.length)
 rwa [List.length_range] at this
theorem castL_filter (L:List Nat) (p:Int→Bool):(castL L).filter p=castL (L.filter fun j=>p (j:Int)):=by
 simp only [castL,List.filter_map];rfl
theorem red_keep {d:Database} {k:Nat} (hk:k<d.facts.length):Red d ⟨d.relations,selF d (keepN d k)⟩:=by
 refine ⟨rfl,?_,fun f hf=>?_⟩
 ·show (selF d (keepN d k)).Sublist d.facts
  conv=>rhs;rw [range_facts d.facts]
  exact List.Sublist.map _ List.filter_sublist
 ·obtain ⟨j,hj,rfl⟩:=List.getElem_of_mem hf
  have key:∀ i,i<d.facts.length→i∈keepN d k→keyN d i=keyN d j→∃ g∈selF d (keepN d k),keyF d.relations g=keyF d.relations d.facts[j]:=fun i hi h1 h2=>by
   refine ⟨d.facts.getD i default,List.mem_map.2 ⟨i,h1,rfl⟩,?_⟩
   rw [← keyN_at hj,← h2];rfl
  by_cases e:keyN d j=keyN d k
  ·exact key k hk (by simp [keepN,hk]) e.symm
  ·exact key j hj (by simp [keepN,hj,e]) rfl
theorem impl_withoutFacts_eq {d:Database} (hd:DbOK d) (hs:DbS d) {k:Nat} (hk:k<d.facts.length):miwithoutFacts d ((castL (blkN (keyN d) d.facts.length k)).filter fun x=>!decide (x∈[(k:Int)]))=some ⟨d.relations,selF d (keepN d k)⟩:=by
 unfold miwithoutFacts
 have hf:=hs.2.1
 refine Ok.to (.gN (by omega) (.forM (fun n s=>s=castL (List.range n)) rfl (fun n s hn hI=>?_) (fun s hI=>?_)))
 ·subst hI
  refine .app (by simp [castL];omega) (.ret ?_)
  simp [castL,List.range_succ]
 ·subst hI
  refine .eq (without_eq _ _ (by rw [castL_len,List.length_range];omega)) ?_
  have e:(castL (List.range d.facts.length)).filter (fun x=>!decide (x∈(castL (blkN (keyN d) d.facts.length k)).filter fun x=>!decide (x∈[(k:Int)])))=castL (keepN d k):=by
   rw [castL_filter]
   unfold keepN
   congr 1
   apply List.filter_congr
   intro j hj
   have hj':=List.mem_range.1 hj
   have h1:((j:Int)∈(castL (blkN (keyN d) d.facts.length k)).filter fun x=>!decide (x∈[(k:Int)]))↔¬ (j=k∨keyN d j≠keyN d k):=by
    rw [List.mem_filter,mem_castL]
    simp only [blkN,List.mem_filter,List.mem_range,decide_eq_true_eq,List.mem_singleton,Bool.not_eq_true',decide_eq_false_iff_not]
    constructor
    ·rintro ⟨⟨_,h⟩,h2⟩ (h3 | h3)
     ·exact h2 (by omega)
     ·exact h3 h
    ·intro h
     refine ⟨⟨hj',Classical.byContradiction fun h2=>h (.inr h2)⟩,fun h2=>h (.inl (by omega))⟩
   by_cases h2:j=k∨keyN d j≠keyN d k
   ·rw [decide_eq_true h2,decide_eq_false (fun h=>h1.1 h h2)];rfl
   ·rw [decide_eq_false h2,decide_eq_true (h1.2 h2)];rfl
  rw [e]
  exact .eq (impl_SelectFacts_eq hd hs keepN_lt keepN_asc keepN_len) (.ret rfl)
theorem resolve_ok {u:Nat} {d:Database} (hs:DbS d) {f:Fact} (hf:f.values.length≤1048576) (hu:1048577<u):∃ y b,miResolveConflict d f=some (y,b)∧msResolveConflict u d f=some (y,b)∧(b=false→y=d)∧DbS y∧(DbOK d→DbOK y∧Red d y):=by
 obtain ⟨k,hk1,hk⟩:=impl_FactIndex_ok d f
 obtain ⟨k',hk1',hk'⟩:=spec_FactIndex_ok hs hf hu
 have e:=hk'.uniq hk
 subst e
 obtain ⟨b,g1,g2⟩:=impl_IsValidDatabase_eq d
 obtain ⟨b',g3,g4⟩:=spec_IsValidDatabase_eq u d hs hu
 have hno:(miContainsFact d f=some false)→(msContainsFact u d f=some false)→∃ y b,miResolveConflict d f=some (y,b)∧msResolveConflict u d f=some (y,b)∧(b=false→y=d)∧DbS y∧(DbOK d→DbOK y∧Red d y):=fun h1 h2=>by
  refine ⟨d,false,?_,?_,fun _=>rfl,hs,fun h=>⟨h,Red.refl d⟩⟩
  ·unfold miResolveConflict
   exact Ok.to (.eq h1 (.ct rfl (.eq (impl_copyDatabase_eq hs) (.ret rfl))))
  ·unfold msResolveConflict
   exact Ok.to (.eq h2 (.ct rfl (.eq (l4Copy_eq hs hu) (.ret rfl))))
 by_cases hd:DbOK d
 ·have e1:b=true:=g2.2 hd
  have e2:b'=true:=g4.2 hd
  subst e1 e2
  have c1:miContainsFact d f=some (decide (0≤k')):=by
   unfold miContainsFact
   exact Ok.to (.bind (P:=fun t=>t=decide (0≤k')) (.eq g1 (.ct rfl (.eq hk1 (.ret rfl)))) fun t ht=>.ret ht)
  have c2:msContainsFact u d f=some (decide (0≤k')):=by
   unfold msContainsFact
   exact Ok.to (.bind (P:=fun t=>t=decide (0≤k')) (.eq g3 (.ct rfl (.eq hk1' (.ret rfl)))) fun t ht=>.ret ht)
  rcases hk with ⟨rfl,_⟩ | ⟨k,rfl,hkf,_⟩
  ·exact hno c1 c2
  ·have hlt:k<d.facts.length:=(List.getElem?_eq_some_iff.1 hkf).1
   have hfl:=hs.2.1
   have hR:=red_keep hlt
   refine ⟨⟨d.relations,selF d (keepN d k)⟩,true,?_,?_,fun h=>(by cases h),hR.s hs,fun h=>⟨hR.ok h,hR⟩⟩
   ·unfold miResolveConflict
    refine Ok.to (.eq c1 (.cf (by simp) (.eq hk1 (.eq (impl_BlockOf_eq hd hlt) (.eq (without_eq _ _ ?_) (.eq (impl_withoutFacts_eq hd hs hlt) (.ret rfl)))))))
    rw [castL_len]
    have:=List.length_filter_le (fun j=>decide (keyN d j=keyN d k)) (List.range d.facts.length)
    rw [List.length_range] at this
    exact Nat.le_trans this hfl
   ·unfold msResolveConflict
    refine Ok.to (.eq c2 (.cf (by simp) (.eq hk1' (.eq (spec_BlockOf_eq hd hs hu hlt) (.while (fun (s:List Int × Int)=>∃ n:Nat,s.2=(n:Int)∧n≤d.facts.length∧s.1=castL ((List.range n).filter fun j=>decide (j=k∨keyN d j≠keyN d k))) (fun (s:List Int × Int)=>d.facts.length - s.2.toNat) (fun (s:List Int × Int)=>s.1=castL (keepN d k)) (fun _=>False) (by simp only;omega) ⟨0,rfl,by omega,rfl⟩ (fun ⟨l,i⟩ ⟨n,h1,h2,h3⟩=>?_) (fun ⟨l,i⟩ h=>?_) (fun _ h=>h.elim))))))
    ·simp only at h1 h3
     subst h1 h3
     simp only
     refine .cond (fun h=>?_) fun h=>.brk ?_
     ·have hn:n<d.facts.length:=by simpa using h
      have hll:(castL ((List.range n).filter fun j=>decide (j=k∨keyN d j≠keyN d k))).length≤n:=by
       rw [castL_len]
       have:=List.length_filter_le (fun j=>decide (j=k∨keyN d j≠keyN d k)) (List.range n)
       rwa [List.length_range] at this
      refine .bind (P:=fun t=>t=decide (n=k∨keyN d n≠keyN d k)) (.cond (fun h4=>.ret ?_) fun h4=>.eq (l7Has_eq _ _) (.ret ?_)) fun t ht=>?_
      ·have:n=k:=by have:=of_decide_eq_true h4;omega
       simp [this]
      ·have h5:n≠k:=by have:=of_decide_eq_false h4;omega
       have h6:((n:Int)∈castL (blkN (keyN d) d.facts.length k))↔keyN d n=keyN d k:=by
        rw [mem_castL]
        simp [blkN,hn]
       by_cases h7:keyN d n=keyN d k
       ·rw [decide_eq_true (h6.2 h7)];simp [h5,h7]
       ·rw [decide_eq_false (fun h=>h7 (h6.1 h))];simp [h7]
      ·subst ht
       refine .cond (fun h8=>.app (by simp only [List.length_cons,List.length_nil];omega) (.next ⟨⟨n+1,by simp only;rw [w64_id (by omega)];simp,hn,?_⟩,by simp only;rw [w64_id (by omega)];omega⟩)) fun h8=>.next ⟨⟨n+1,by simp only;rw [w64_id (by omega)];simp,hn,?_⟩,by simp only;rw [w64_id (by omega)];omega⟩
       ·simp only
        rw [List.range_succ,List.filter_append,List.filter_cons_of_pos (by simpa using h8),List.filter_nil]
        simp [castL]
       ·simp only
        rw [List.range_succ,List.filter_append,List.filter_cons_of_neg (by rw [h8];decide),List.filter_nil,List.append_nil]
     ·have:n=d.facts.length:=by have:=of_decide_eq_false h;omega
      subst this;rfl
    ·simp only at h
     subst h
     exact .eq (spec_SelectFacts_eq hd hs hu keepN_lt keepN_asc keepN_len) (.ret rfl)
 ·have e1:b=false:=by cases b with | false=>rfl | true=>exact (hd (g2.1 rfl)).elim
  have e2:b'=false:=by cases b' with | false=>rfl | true=>exact (hd (g4.1 rfl)).elim
  subst e1 e2
  refine hno ?_ ?_
  ·unfold miContainsFact
   exact Ok.to (.bind (P:=fun t=>t=false) (.eq g1 (.cf rfl (.ret rfl))) fun t ht=>.ret ht)
  ·unfold msContainsFact
   exact Ok.to (.bind (P:=fun t=>t=false) (.eq g3 (.cf rfl (.ret rfl))) fun t ht=>.ret ht)
end Go.Proofs.YtaadmoaanhdboaaGreatDoor
set_option linter.unusedVariables false
set_option linter.unusedSimpArgs false
namespace Go.Proofs.YtaadmoaanhdboaaGreatDoor
open Go Go.Proofs Go.Sep
end Go.Proofs.YtaadmoaanhdboaaGreatDoor
set_option linter.unusedVariables false
set_option linter.unusedSimpArgs false
namespace Go.Proofs.YtaadmoaanhdboaaGreatDoor
open Go Go.Proofs Go.Sep
end Go.Proofs.YtaadmoaanhdboaaGreatDoor
set_option linter.unusedVariables false
set_option linter.unusedSimpArgs false
namespace Go.Proofs.YtaadmoaanhdboaaGreatDoor
open Go Go.Proofs Go.Sep
end Go.Proofs.YtaadmoaanhdboaaGreatDoor
set_option linter.unusedVariables false
set_option linter.unusedSimpArgs false
namespace Go.Proofs.YtaadmoaanhdboaaGreatDoor
open Go Go.Proofs Go.Sep
def PlaceAt (l:List Fact) (f:Fact) (n:Nat):Prop:=n≤l.length∧(∀ (j:Nat) x,j<n→l[j]?=some x→cmpF x f<0)∧∀ x,l[n]?=some x→¬ cmpF x f<0
theorem PlaceAt.uniq {l:List Fact} {f:Fact} {n n':Nat} (h:PlaceAt l f n) (h':PlaceAt l f n'):n=n':=by
 obtain ⟨a1,a2,a3⟩:=h
 obtain ⟨b1,b2,b3⟩:=h'
 rcases Nat.lt_trichotomy n n' with g | g | g
 ·exact absurd (b2 n _ g (List.getElem?_eq_getElem (by omega))) (a3 _ (List.getElem?_eq_getElem (by omega)))
 ·exact g
 ·exact absurd (a2 n' _ g (List.getElem?_eq_getElem (by omega))) (b3 _ (List.getElem?_eq_getElem (by omega)))
def insF (d:Database) (f:Fact) (n:Nat):Database:=⟨d.relations,d.facts.take n++f::d.facts.drop n⟩
theorem insF_small {d:Database} (hs:DbS d) {f:Fact} (hf:f.values.length≤1048576) {n:Nat} (h:d.facts.length<1048576):DbS (insF d f n):=by
 refine ⟨hs.1,?_,hs.2.2.1,fun g hg=>?_⟩
 ·simp only [insF,List.length_append,List.length_take,List.length_cons,List.length_drop];omega
 ·simp only [insF,List.mem_append,List.mem_cons] at hg
  rcases hg with h | rfl | h
  ·exact hs.2.2.2 g (List.mem_of_mem_take h)
  ·exact hf
  ·exact hs.2.2.2 g (List.mem_of_mem_drop h)
def Fresh (d:Database) (f:Fact):Prop:=DbOK d∧FactOK d.relations f∧(∀ (j:Nat),d.facts[j]?≠some f)∧d.facts.length≠14
theorem contains_both {u:Nat} {d:Database} (hs:DbS d) {f:Fact} (hf:f.values.length≤1048576) (hu:1048577<u) (hd:DbOK d):∃ k,FirstAt d.facts f k∧miFactIndex d f=some k∧msFactIndex u d f=some k∧miContainsFact d f=some (decide (0≤k))∧msContainsFact u d f=some (decide (0≤k)):=by
 obtain ⟨k,hk1,hk⟩:=impl_FactIndex_ok d f
 obtain ⟨k',hk1',hk'⟩:=spec_FactIndex_ok hs hf hu
 have e:=hk'.uniq hk
 subst e
 obtain ⟨b,g1,g2⟩:=impl_IsValidDatabase_eq d
 obtain ⟨b',g3,g4⟩:=spec_IsValidDatabase_eq u d hs hu
 have e1:b=true:=g2.2 hd
 have e2:b'=true:=g4.2 hd
 subst e1 e2
 refine ⟨k',hk,hk1,hk1',?_,?_⟩
 ·unfold miContainsFact
  exact Ok.to (.bind (P:=fun t=>t=decide (0≤k')) (.eq g1 (.ct rfl (.eq hk1 (.ret rfl)))) fun t ht=>.ret ht)
 ·unfold msContainsFact
  exact Ok.to (.bind (P:=fun t=>t=decide (0≤k')) (.eq g3 (.ct rfl (.eq hk1' (.ret rfl)))) fun t ht=>.ret ht)
theorem contains_none {u:Nat} {d:Database} (hs:DbS d) {f:Fact} (hu:1048577<u) (hd:¬ DbOK d):miContainsFact d f=some false∧msContainsFact u d f=some false:=by
 obtain ⟨b,g1,g2⟩:=impl_IsValidDatabase_eq d
 obtain ⟨b',g3,g4⟩:=spec_IsValidDatabase_eq u d hs hu
 have e1:b=false:=by cases b with | false=>rfl | true=>exact (hd (g2.1 rfl)).elim
 have e2:b'=false:=by cases b' with | false=>rfl | true=>exact (hd (g4.1 rfl)).elim
 subst e1 e2
 refine ⟨?_,?_⟩
 ·unfold miContainsFact
  exact Ok.to (.bind (P:=fun t=>t=false) (.eq g1 (.cf rfl (.ret rfl))) fun t ht=>.ret ht)
 ·unfold msContainsFact
  exact Ok.to (.bind (P:=fun t=>t=false) (.eq g3 (.cf rfl (.ret rfl))) fun t ht=>.ret ht)
theorem delete_ok {u:Nat} {d:Database} (hs:DbS d) {f:Fact} (hf:f.values.length≤1048576) (hu:1048577<u):(miDeleteFact d f=some (d,false)∧msDeleteFact u d f=some (d,false)∧(DbOK d→∀ (j:Nat),d.facts[j]?≠some f))∨∃ k,DbOK d∧d.facts[k]?=some f∧miDeleteFact d f=some (⟨d.relations,d.facts.take k++d.facts.drop (k+1)⟩,true)∧msDeleteFact u d f=some (⟨d.relations,d.facts.take k++d.facts.drop (k+1)⟩,true):=by
 have hno:miContainsFact d f=some false→msContainsFact u d f=some false→miDeleteFact d f=some (d,false)∧msDeleteFact u d f=some (d,false):=fun h1 h2=>by
  refine ⟨?_,?_⟩
  ·unfold miDeleteFact
   exact Ok.to (.eq (impl_copyDatabase_eq hs) (.eq h1 (.ct rfl (.ret rfl))))
  ·unfold msDeleteFact
   exact Ok.to (.eq (l4Copy_eq hs hu) (.eq h2 (.ct rfl (.ret rfl))))
 by_cases hd:DbOK d
 ·obtain ⟨k,hk,k1,k2,c1,c2⟩:=contains_both hs hf hu hd
  have hfl:=hs.2.1
  rcases hk with ⟨rfl,hn⟩ | ⟨n,rfl,hnf,_⟩
  ·exact .inl ⟨(hno c1 c2).1,(hno c1 c2).2,fun _=>hn⟩
  ·have hlt:n<d.facts.length:=(List.getElem?_eq_some_iff.1 hnf).1
   refine .inr ⟨n,hd,hnf,?_,?_⟩
   ·unfold miDeleteFact m_slices_Delete_Simpl_Fact_impl_Fact
    refine Ok.to (.eq (impl_copyDatabase_eq hs) (.eq c1 (.cf (by simp) (.eq k1 ?_))))
    rw [w64_id (by omega)]
    exact .eq (cutOut_ok (i:=n) (j:=n+1) (by omega) (by omega)) (.ret rfl)
   ·unfold msDeleteFact
    refine Ok.to (.eq (l4Copy_eq hs hu) (.eq c2 (.cf (by simp) (.eq k2 ?_))))
    rw [w64_id (by omega)]
    refine .cut (i:=0) (j:=n) rfl rfl (by omega) (by omega) (.app (by simp;omega) (.cut (i:=n+1) (j:=d.facts.length) rfl rfl (by omega) (Nat.le_refl _) (.app (by simp;omega) (.ret ?_))))
    simp
 ·obtain ⟨c1,c2⟩:=contains_none (f:=f) hs hu hd
  exact .inl ⟨(hno c1 c2).1,(hno c1 c2).2,fun h=>absurd h hd⟩
theorem insAt_ok {α:Type} {b:Nat} {xs vs:List α} {i:Nat} (h:i≤xs.length) (h0:0<vs.length) (h2:(xs.length+vs.length)*b≤140737488355328):insAt b xs (i:Int) vs=some (xs.take i++vs++xs.drop i):=by
 unfold insAt
 rw [if_pos ⟨by omega,by omega,h0,h2⟩]
 simp
theorem insert_ok {u:Nat} {d:Database} (hs:DbS d) {f:Fact} (hf:f.values.length≤1048576) (hu:1048577<u):(¬ Fresh d f∧miInsertFact u d f=some (d,false)∧msInsertFact u d f=some (d,false))∨∃ n,Fresh d f∧PlaceAt d.facts f n∧miInsertFact u d f=some (insF d f n,true)∧msInsertFact u d f=some (insF d f n,true):=by
 have hfl:=hs.2.1
 obtain ⟨b,g1,g2⟩:=impl_IsValidDatabase_eq d
 obtain ⟨b',g3,g4⟩:=spec_IsValidDatabase_eq u d hs hu
 obtain ⟨q,i1,i2⟩:=isFact_eq d.relations f
 obtain ⟨q',i3,i4⟩:=spec_isFact_eq u d.relations f (by omega) hf
 -- the guards
 have guards:∃ t,(t=false↔Fresh d f) ∧
   ((miIsValidDatabase d).bind fun r_5=>cond (!r_5) (some true) ((miisFact d.relations f).bind fun r_8=>cond (!r_8) (some true) ((miFactIndex d f).bind fun r_11=>cond (decide (0≤r_11)) (some true) (some (decide ((d.facts.length:Int)=14))))))=some t ∧
   ((msIsValidDatabase u d).bind fun r_5=>cond (!r_5) (some true) ((msIsValidFact u d.relations f).bind fun r_8=>cond (!r_8) (some true) ((msContainsFact u d f).bind fun r_11=>cond r_11 (some true) (some (decide ((d.facts.length:Int)=14))))))=some t:=by
  by_cases hd:DbOK d
  ·have e1:b=true:=g2.2 hd
   have e2:b'=true:=g4.2 hd
   subst e1 e2
   by_cases hfo:FactOK d.relations f
   ·have e3:q=true:=i2.2 hfo
    have e4:q'=true:=i4.2 ⟨hd.rels,hfo⟩
    subst e3 e4
    obtain ⟨k,hk,k1,k2,c1,c2⟩:=contains_both hs hf hu hd
    by_cases h0:0≤k
    ·refine ⟨true,⟨fun h=>by simp at h,fun h=>?_⟩,Ok.to (.eq g1 (.cf rfl (.eq i1 (.cf rfl (.eq k1 (.ct (decide_eq_true h0) (.ret rfl))))))),Ok.to (.eq g3 (.cf rfl (.eq i3 (.cf rfl (.eq c2 (.ct (decide_eq_true h0) (.ret rfl)))))))⟩
     rcases hk with ⟨rfl,_⟩ | ⟨n,rfl,hnf,_⟩
     ·omega
     ·exact absurd hnf (h.2.2.1 n)
    ·refine ⟨decide ((d.facts.length:Int)=14),⟨fun h=>?_,fun h=>?_⟩,Ok.to (.eq g1 (.cf rfl (.eq i1 (.cf rfl (.eq k1 (.cf (decide_eq_false h0) (.ret rfl))))))),Ok.to (.eq g3 (.cf rfl (.eq i3 (.cf rfl (.eq c2 (.cf (decide_eq_false h0) (.ret rfl)))))))⟩
     ·have h:=of_decide_eq_false h
      refine ⟨hd,hfo,?_,by omega⟩
      rcases hk with ⟨_,hn⟩ | ⟨n,rfl,_⟩
      ·exact hn
      ·omega
     ·exact decide_eq_false (by have:=h.2.2.2;omega)
   ·have e3:q=false:=by cases q with | false=>rfl | true=>exact (hfo (i2.1 rfl)).elim
    have e4:q'=false:=by cases q' with | false=>rfl | true=>exact (hfo (i4.1 rfl).2).elim
    subst e3 e4
    exact ⟨true,⟨fun h=>by simp at h,fun h=>(hfo h.2.1).elim⟩,Ok.to (.eq g1 (.cf rfl (.eq i1 (.ct rfl (.ret rfl))))),Ok.to (.eq g3 (.cf rfl (.eq i3 (.ct rfl (.ret rfl)))))⟩
  ·have e1:b=false:=by cases b with | false=>rfl | true=>exact (hd (g2.1 rfl)).elim
   have e2:b'=false:=by cases b' with | false=>rfl | true=>exact (hd (g4.1 rfl)).elim
   subst e1 e2
   exact ⟨true,⟨fun h=>by simp at h,fun h=>(hd h.1).elim⟩,Ok.to (.eq g1 (.ct rfl (.ret rfl))),Ok.to (.eq g3 (.ct rfl (.ret rfl)))⟩
 obtain ⟨t,ht,hi,hsp⟩:=guards
 cases t with
 | true =>
  refine .inl ⟨fun h=>by have:=ht.2 h;simp at this,?_,?_⟩
  ·unfold miInsertFact
   exact Ok.to (.eq (impl_copyDatabase_eq hs) (.eq hi (.ct rfl (.ret rfl))))
  ·unfold msInsertFact
   exact Ok.to (.eq (l4Copy_eq hs hu) (.eq hsp (.ct rfl (.ret rfl))))
 | false =>
  have hfr:Fresh d f:=ht.1 rfl
  have hfew:=hfr.1.few
  have him:Ok (miInsertFact u d f) fun r=>∃ n,PlaceAt d.facts f n∧r=(insF d f n,true):=by
   unfold miInsertFact m_slices_Insert_Simpl_Fact_impl_Fact
   refine .eq (impl_copyDatabase_eq hs) (.eq hi (.cf rfl ?_))
   refine .while (fun (i:Int)=>∃ n:Nat,i=(n:Int)∧n≤d.facts.length∧∀ (j:Nat) x,j<n→d.facts[j]?=some x→cmpF x f<0) (fun i=>d.facts.length - i.toNat) (fun (i:Int)=>∃ n:Nat,i=(n:Int)∧PlaceAt d.facts f n) (fun _=>False) (by omega) ⟨0,rfl,by omega,fun j x hj=>by omega⟩ (fun i ⟨n,h1,h2,h3⟩=>?_) (fun i ⟨n,h1,h2⟩=>?_) (fun _ h=>h.elim)
   ·subst h1
    by_cases hlt:n<d.facts.length
    ·by_cases hc:cmpF d.facts[n] f<0
     ·refine .bind (P:=fun t=>t=true) (.ct (decide_eq_true (by omega)) (.get rfl hlt (.eq (impl_CompareFacts_eq _ f) (.ret (decide_eq_true hc))))) fun t ht=>.ct ht (.next ⟨⟨n+1,by rw [w64_id (by omega)];simp,hlt,fun j x hj hx=>?_⟩,by rw [w64_id (by omega)];omega⟩)
      rcases Nat.lt_succ_iff_lt_or_eq.1 hj with h | rfl
      ·exact h3 j x h hx
      ·rw [List.getElem?_eq_getElem hlt] at hx;cases hx;exact hc
     ·refine .bind (P:=fun t=>t=false) (.ct (decide_eq_true (by omega)) (.get rfl hlt (.eq (impl_CompareFacts_eq _ f) (.ret (decide_eq_false hc))))) fun t ht=>.cf ht (.brk ⟨n,rfl,h2,h3,fun x hx=>?_⟩)
      rw [List.getElem?_eq_getElem hlt] at hx;cases hx;exact hc
    ·refine .bind (P:=fun t=>t=false) (.cf (decide_eq_false (by omega)) (.ret rfl)) fun t ht=>.cf ht (.brk ⟨n,rfl,h2,h3,fun x hx=>?_⟩)
     rw [List.getElem?_eq_none (by omega)] at hx;cases hx
   ·subst h1
    refine .app (by simp;omega) (.eq (insAt_ok h2.1 (by simp) (by simp;omega)) (.ret ⟨n,h2,?_⟩))
    simp [insF]
  have hsm:Ok (msInsertFact u d f) fun r=>∃ n,PlaceAt d.facts f n∧r=(insF d f n,true):=by
   unfold msInsertFact
   refine .eq (l4Copy_eq hs hu) (.eq hsp (.cf rfl ?_))
   refine .while (fun (i:Int)=>∃ n:Nat,i=(n:Int)∧n≤d.facts.length∧∀ (j:Nat) x,j<n→d.facts[j]?=some x→cmpF x f<0) (fun i=>d.facts.length - i.toNat) (fun (i:Int)=>∃ n:Nat,i=(n:Int)∧PlaceAt d.facts f n) (fun _=>False) (by omega) ⟨0,rfl,by omega,fun j x hj=>by omega⟩ (fun i ⟨n,h1,h2,h3⟩=>?_) (fun i ⟨n,h1,h2⟩=>?_) (fun _ h=>h.elim)
   ·subst h1
    by_cases hlt:n<d.facts.length
    ·have hv:=hs.2.2.2 _ (List.getElem_mem hlt)
     by_cases hc:cmpF d.facts[n] f<0
     ·refine .bind (P:=fun t=>t=true) (.ct (decide_eq_true (by omega)) (.get rfl hlt (.eq (spec_CompareFacts_eq u _ f (by omega) hv hf) (.ret (decide_eq_true hc))))) fun t ht=>.ct ht (.next ⟨⟨n+1,by rw [w64_id (by omega)];simp,hlt,fun j x hj hx=>?_⟩,by rw [w64_id (by omega)];omega⟩)
      rcases Nat.lt_succ_iff_lt_or_eq.1 hj with h | rfl
      ·exact h3 j x h hx
      ·rw [List.getElem?_eq_getElem hlt] at hx;cases hx;exact hc
     ·refine .bind (P:=fun t=>t=false) (.ct (decide_eq_true (by omega)) (.get rfl hlt (.eq (spec_CompareFacts_eq u _ f (by omega) hv hf) (.ret (decide_eq_false hc))))) fun t ht=>.cf ht (.brk ⟨n,rfl,h2,h3,fun x hx=>?_⟩)
      rw [List.getElem?_eq_getElem hlt] at hx;cases hx;exact hc
    ·refine .bind (P:=fun t=>t=false) (.cf (decide_eq_false (by omega)) (.ret rfl)) fun t ht=>.cf ht (.brk ⟨n,rfl,h2,h3,fun x hx=>?_⟩)
     rw [List.getElem?_eq_none (by omega)] at hx;cases hx
   ·subst h1
    have hnl:=h2.1
    refine .app (by simp;omega) (.cut (i:=n) (j:=d.facts.length) rfl rfl hnl (Nat.le_refl _) (.app (by simp;omega) (.cut (i:=0) (j:=n) rfl rfl (by omega) hnl (.app (by simp;omega) (.app (by simp;omega) (.ret ⟨n,h2,?_⟩))))))
    simp [insF]
  obtain ⟨r1,e1,n1,p1,rfl⟩:=him
  obtain ⟨r2,e2,n2,p2,rfl⟩:=hsm
  have e:=p1.uniq p2
  subst e
  exact .inr ⟨n1,hfr,p1,e1,e2⟩
theorem apply_ok {u:Nat} {d:Database} (hs:DbS d) {e:Edit} (hf:e.fact.values.length≤1048576) (hu:1048577<u):∃ y b,miApplyEdit u d e=some (y,b)∧msApplyEdit u d e=some (y,b)∧DbS y∧(b=false→y=d):=by
 unfold miApplyEdit msApplyEdit
 rw [l4Copy_eq hs hu,Option.bind_some]
 have fin:∀ (x x':Option (Database × Bool)) (y:Database) (b:Bool),x=some (y,b)→x'=some (y,b)→DbS y→(b=false→y=d)→∃ y b,(x.bind fun r=>some (r.1,r.2))=some (y,b)∧(x'.bind fun r=>some (r.1,r.2))=some (y,b)∧DbS y∧(b=false→y=d):=fun x x' y b h1 h2 h3 h4=>⟨y,b,by rw [h1];rfl,by rw [h2];rfl,h3,h4⟩
 by_cases k1:e.kind=1
 ·rw [decide_eq_true k1]
  rcases insert_ok hs hf hu with ⟨_,h1,h2⟩ | ⟨n,hfr,_,h1,h2⟩
  ·exact fin _ _ d false h1 h2 hs fun _=>rfl
  ·exact fin _ _ _ true h1 h2 (insF_small hs hf (by have:=hfr.1.few;omega)) fun h=>by simp at h
 ·rw [decide_eq_false k1]
  by_cases k2:e.kind=2
  ·rw [decide_eq_true k2]
   rcases delete_ok hs hf hu with ⟨h1,h2,_⟩ | ⟨k,_,_,h1,h2⟩
   ·exact fin _ _ d false h1 h2 hs fun _=>rfl
   ·refine fin _ _ _ true h1 h2 ⟨hs.1,?_,hs.2.2.1,fun g hg=>?_⟩ fun h=>by simp at h
    ·simp only [List.length_append,List.length_take,List.length_drop];have:=hs.2.1;omega
    ·rcases List.mem_append.1 hg with h | h
     ·exact hs.2.2.2 g (List.mem_of_mem_take h)
     ·exact hs.2.2.2 g (List.mem_of_mem_drop h)
  ·rw [decide_eq_false k2]
   by_cases k3:e.kind=3
   ·rw [decide_eq_true k3]
    obtain ⟨y,b,h1,h2,h3,h4,_⟩:=resolve_ok hs hf hu
    exact fin _ _ y b h1 h2 h4 h3
   ·rw [decide_eq_false k3]
    exact ⟨d,false,by show (micopyDatabase d).bind _=_;rw [impl_copyDatabase_eq hs];rfl,rfl,hs,fun _=>rfl⟩
end Go.Proofs.YtaadmoaanhdboaaGreatDoor
set_option linter.unusedVariables false
set_option linter.unusedSimpArgs false
namespace Go.Proofs.YtaadmoaanhdboaaGreatDoor
open Go Go.Proofs Go.Sep
end Go.Proofs.YtaadmoaanhdboaaGreatDoor
set_option linter.unusedVariables false
set_option linter.unusedSimpArgs false
namespace Go.Proofs.YtaadmoaanhdboaaGreatDoor
open Go Go.Proofs Go.Sep
def apE (u:Nat) (d:Database) (e:Edit):Database × Bool:=(miApplyEdit u d e).getD (d,false)
def runE (u:Nat):List Edit→Int × Database→Int × Database
 | [],s=>s
 | e::l,(c,x)=>runE u l (if (apE u x e).2=true then c+1 else c,(apE u x e).1)
theorem runE_app (u:Nat):∀ (l l':List Edit) (s:Int × Database),runE u (l++l') s=runE u l' (runE u l s)
 | [],_,_=>rfl
 | e::l,l',(c,x)=>runE_app u l l' _
end Go.Proofs.YtaadmoaanhdboaaGreatDoor
set_option linter.unusedVariables false
set_option linter.unusedSimpArgs false
namespace Go.Proofs.YtaadmoaanhdboaaGreatDoor
open Go Go.Proofs Go.Sep
end Go.Proofs.YtaadmoaanhdboaaGreatDoor
set_option linter.unusedVariables false
set_option linter.unusedSimpArgs false
namespace Go.Proofs.YtaadmoaanhdboaaGreatDoor
open Go Go.Proofs Go.Sep
theorem FirstAt.neg {l:List Fact} {f:Fact} {k:Int} (h:FirstAt l f k):k<0↔f∉l:=by
 rcases h with ⟨rfl,h⟩ | ⟨n,rfl,h,_⟩
 ·exact ⟨fun _ hm=>by obtain ⟨j,hj⟩:=List.getElem?_of_mem hm;exact h j hj,fun _=>by omega⟩
 ·exact ⟨fun h1=>by omega,fun h1=>absurd (List.mem_of_getElem? h) h1⟩
def efF (k:Int) (l l':List Fact):List Edit:=(l.filter fun f=>decide (f∉l')).map fun f=>⟨k,f⟩
theorem efF_len (k:Int) (l l':List Fact):(efF k l l').length≤l.length:=by
 simp only [efF,List.length_map];exact List.length_filter_le _ _
theorem efF_mem {k:Int} {l l':List Fact} {e:Edit} (h:e∈efF k l l'):e.fact∈l:=by
 obtain ⟨f,h1,rfl⟩:=List.mem_map.1 h
 exact (List.mem_filter.1 h1).1
theorem efF_in {k:Int} {l l':List Fact} {n:Nat} {x:Fact} (hx:l[n]?=some x) (h:x∈l'):efF k (l.take (n+1)) l'=efF k (l.take n) l':=by
 rw [List.take_add_one,hx]
 simp only [efF,Option.toList_some,List.filter_append]
 rw [List.filter_cons_of_neg (by simpa using h),List.filter_nil,List.append_nil]
theorem efF_out {k:Int} {l l':List Fact} {n:Nat} {x:Fact} (hx:l[n]?=some x) (h:x∉l'):efF k (l.take (n+1)) l'=efF k (l.take n) l'++[⟨k,x⟩]:=by
 rw [List.take_add_one,hx]
 simp only [efF,Option.toList_some,List.filter_append]
 rw [List.filter_cons_of_pos (by simpa using h),List.filter_nil,List.map_append];rfl
theorem efF_take (k:Int) (l l':List Fact) (n:Nat) (h:l.length≤1048576):(efF k (l.take n) l').length≤1048576:=by
 have:=efF_len k (l.take n) l'
 rw [List.length_take] at this;omega
theorem impl_editsFor_eq {a b:Database} {k:Int} (ha:DbS a):mieditsFor k a b=some (efF k a.facts b.facts):=by
 unfold mieditsFor
 refine Ok.to (.eq (impl_copyDatabase_eq ha) (.forS (fun n s=>s=efF k (a.facts.take n) b.facts) rfl (fun n x s hx hI=>?_) (fun s hI=>.ret (by rw [hI,List.take_length]))))
 obtain ⟨q,q1,q2⟩:=impl_FactIndex_ok b x
 have hl:=efF_take k a.facts b.facts n ha.2.1
 subst hI
 refine .eq q1 (.cond (fun h=>.app (by simp only [List.length_cons,List.length_nil];omega) (.ret ?_)) fun h=>.ret ?_)
 ·exact (efF_out hx (q2.neg.1 (of_decide_eq_true h))).symm
 ·exact (efF_in hx (Classical.byContradiction fun hn=>of_decide_eq_false h (q2.neg.2 hn))).symm
end Go.Proofs.YtaadmoaanhdboaaGreatDoor
set_option linter.unusedVariables false
set_option linter.unusedSimpArgs false
namespace Go.Proofs.YtaadmoaanhdboaaGreatDoor
open Go Go.Proofs Go.Sep
abbrev Asc (l:List Fact):Prop:=l.Pairwise fun f g=>cmpF f g<0
theorem cmpF_self (f:Fact):cmpF f f=0:=(cmpF_zero f f).2 rfl
theorem Asc.nodup {l:List Fact} (h:Asc l):l.Nodup:=h.imp fun {a b} h e=>by subst e;rw [cmpF_self] at h;omega
theorem asc_ext {a b:List Fact} (ha:Asc a) (hb:Asc b) (h:∀ f,f∈a↔f∈b):a=b :=
 List.Perm.eq_of_pairwise (le:=fun f g=>cmpF f g<0) (fun f g _ _ h1 h2=>by have:=cmpF_anti f g;omega) ha hb ((List.perm_ext_iff_of_nodup ha.nodup hb.nodup).2 h)
theorem DbOK.mk' {d:Database} (h1:miAreValidRelations d.relations=some true) (h2:d.facts.length≤14) (h3:∀ f∈d.facts,FactOK d.relations f) (h4:Asc d.facts):DbOK d :=
 ⟨h1,h2,fun n f hf=>h3 f (List.mem_of_getElem? hf),fun n f g hf hg=>by
  obtain ⟨a1,rfl⟩:=List.getElem?_eq_some_iff.1 hf
  obtain ⟨a2,rfl⟩:=List.getElem?_eq_some_iff.1 hg
  exact (List.pairwise_iff_getElem.1 h4) n (n+1) a1 a2 (by omega)⟩
theorem DbOK.mem {d:Database} (h:DbOK d) {f:Fact} (hf:f∈d.facts):FactOK d.relations f:=by
 obtain ⟨n,hn⟩:=List.getElem?_of_mem hf
 exact h.fact n f hn
theorem db_ext {a b:Database} (ha:DbOK a) (hb:DbOK b) (hr:a.relations=b.relations) (h:∀ f,f∈a.facts↔f∈b.facts):a=b:=by
 have:=asc_ext (sorted_pw ha) (sorted_pw hb) h
 cases a;cases b
 simp only at hr this
 subst hr this;rfl
theorem ins_sem {d:Database} {f:Fact} {n:Nat} (hF:Fresh d f) (hp:PlaceAt d.facts f n):DbOK (insF d f n)∧∀ g,g∈(insF d f n).facts↔g=f∨g∈d.facts:=by
 obtain ⟨hd,hf,hnew,hlen⟩:=hF
 obtain ⟨hn,hlow,hat⟩:=hp
 have hs:=sorted_pw hd
 have hmem:∀ g,g∈(insF d f n).facts↔g=f∨g∈d.facts:=fun g=>by
  show g∈d.facts.take n++f::d.facts.drop n↔_
  rw [List.mem_append,List.mem_cons]
  have e:g∈d.facts↔g∈d.facts.take n∨g∈d.facts.drop n:=by rw [← List.mem_append,List.take_append_drop]
  rw [e]
  constructor
  ·rintro (h | h | h)
   ·exact .inr (.inl h)
   ·exact .inl h
   ·exact .inr (.inr h)
  ·rintro (h | h | h)
   ·exact .inr (.inl h)
   ·exact .inl h
   ·exact .inr (.inr h)
 refine ⟨DbOK.mk' hd.rels ?_ (fun g hg=>?_) ?_,hmem⟩
 ·have h1:=hd.few
  show (d.facts.take n++f::d.facts.drop n).length≤14
  simp only [List.length_append,List.length_cons,List.length_take,List.length_drop];omega
 ·rcases (hmem g).1 hg with rfl | h
  ·exact hf
  ·exact hd.mem h
 ·show Asc (d.facts.take n++f::d.facts.drop n)
  have hs':=hs
  rw [← List.take_append_drop n d.facts,List.pairwise_append] at hs'
  have hup:∀ y∈d.facts.drop n,cmpF f y<0:=fun y hy=>by
   cases hd0:d.facts.drop n with
   | nil=>rw [hd0] at hy;cases hy
   | cons x r =>
    have hx:d.facts[n]?=some x:=by
     have:=List.getElem?_drop (xs:=d.facts) (i:=n) (j:=0)
     rw [hd0] at this;simpa using this.symm
    have h1:=hat x hx
    have h2:cmpF f x≠0:=fun e=>hnew n (by rw [(cmpF_zero f x).1 e];exact hx)
    have h3:=cmpF_anti x f
    have h4:cmpF f x<0:=by omega
    rw [hd0] at hy
    rcases List.mem_cons.1 hy with rfl | hy
    ·exact h4
    ·have h5:=hs'.2.1
     rw [hd0] at h5
     exact cmpF_lt_le h4 (Int.le_of_lt ((List.pairwise_cons.1 h5).1 y hy))
  have hlo:∀ y∈d.facts.take n,cmpF y f<0:=fun y hy=>by
   obtain ⟨j,hj⟩:=List.getElem?_of_mem hy
   have hjn:j<n:=by have:=(List.getElem?_eq_some_iff.1 hj).1;rw [List.length_take] at this;omega
   rw [List.getElem?_take_of_lt hjn] at hj
   exact hlow j y hjn hj
  rw [Asc,List.pairwise_append]
  refine ⟨hs'.1,List.pairwise_cons.2 ⟨hup,hs'.2.1⟩,fun a ha b hb=>?_⟩
  rcases List.mem_cons.1 hb with rfl | hb
  ·exact hlo a ha
  ·exact hs'.2.2 a ha b hb
theorem del_sem {d:Database} (hd:DbOK d) {f:Fact} {k:Nat} (hk:d.facts[k]?=some f):DbOK ⟨d.relations,d.facts.take k++d.facts.drop (k+1)⟩∧∀ g,g∈d.facts.take k++d.facts.drop (k+1)↔g∈d.facts∧g≠f:=by
 have hs:=sorted_pw hd
 have hlt:k<d.facts.length:=(List.getElem?_eq_some_iff.1 hk).1
 have e:d.facts=d.facts.take k++f::d.facts.drop (k+1):=by
  have h1:d.facts.drop k=f::d.facts.drop (k+1):=by
   rw [List.drop_eq_getElem_cons hlt];congr 1
   rw [List.getElem?_eq_getElem hlt] at hk;exact Option.some.inj hk
  rw [← h1,List.take_append_drop]
 have hs':=hs
 rw [e] at hs'
 have hn:=Asc.nodup hs'
 have hmem:∀ g,g∈d.facts.take k++d.facts.drop (k+1)↔g∈d.facts∧g≠f:=fun g=>by
  rw [List.nodup_append] at hn
  obtain ⟨n1,n2,n3⟩:=hn
  have n2':=List.nodup_cons.1 n2
  constructor
  ·intro hg
   rcases List.mem_append.1 hg with h | h
   ·exact ⟨List.mem_of_mem_take h,fun e2=>n3 g h f (List.mem_cons_self ..) e2⟩
   ·exact ⟨List.mem_of_mem_drop h,fun e2=>n2'.1 (e2▸h)⟩
  ·rintro ⟨hg,hne⟩
   rw [e] at hg
   rcases List.mem_append.1 hg with h | h
   ·exact List.mem_append_left _ h
   ·rcases List.mem_cons.1 h with h | h
    ·exact (hne h).elim
    ·exact List.mem_append_right _ h
 have hsub:(d.facts.take k++d.facts.drop (k+1)).Sublist d.facts:=by
  conv=>rhs;rw [e]
  exact List.Sublist.append_left (List.sublist_cons_self ..) _
 exact ⟨DbOK.mk' hd.rels (Nat.le_trans hsub.length_le hd.few) (fun g hg=>hd.mem (hsub.mem hg)) (hs.sublist hsub),hmem⟩
theorem apE_del {u:Nat} (hu:1048577<u) {d:Database} (hs:DbS d) (hd:DbOK d) {f:Fact} (hf:f∈d.facts):∃ y,apE u d ⟨2,f⟩=(y,true)∧y.relations=d.relations∧DbOK y∧DbS y∧∀ g,g∈y.facts↔g∈d.facts∧g≠f:=by
 rcases delete_ok hs (hs.2.2.2 f hf) hu with ⟨_,_,h⟩ | ⟨k,_,hk,h1,_⟩
 ·obtain ⟨j,hj⟩:=List.getElem?_of_mem hf
  exact (h hd j hj).elim
 ·obtain ⟨h2,h3⟩:=del_sem hd hk
  refine ⟨⟨d.relations,d.facts.take k++d.facts.drop (k+1)⟩,?_,rfl,h2,⟨hs.1,?_,hs.2.2.1,fun g hg=>hs.2.2.2 g ((h3 g).1 hg).1⟩,h3⟩
  ·unfold apE miApplyEdit
   simp only
   rw [h1];rfl
  ·have:=h2.few;simp only at this ⊢;omega
theorem apE_ins {u:Nat} (hu:1048577<u) {d:Database} (hs:DbS d) (hd:DbOK d) {f:Fact} (hf:f∉d.facts) (hl:f.values.length≤1048576) (hF:FactOK d.relations f) (h14:d.facts.length<14):∃ y,apE u d ⟨1,f⟩=(y,true)∧y.relations=d.relations∧DbOK y∧DbS y∧∀ g,g∈y.facts↔g=f∨g∈d.facts:=by
 have hfr:Fresh d f:=⟨hd,hF,fun j hj=>hf (List.mem_of_getElem? hj),by omega⟩
 rcases insert_ok hs hl hu with ⟨h,_⟩ | ⟨n,_,hp,h1,_⟩
 ·exact (h hfr).elim
 ·obtain ⟨h2,h3⟩:=ins_sem hfr hp
  refine ⟨insF d f n,?_,rfl,h2,insF_small hs hl (by omega),h3⟩
  unfold apE miApplyEdit
  simp only
  rw [h1];rfl
theorem apply_true {u:Nat} (hu:1048577<u) {d:Database} (hs:DbS d) {e:Edit} (hf:e.fact.values.length≤1048576) {x:Database} (h:miApplyEdit u d e=some (x,true)):DbOK d∧DbOK x∧x.relations=d.relations∧DbS x:=by
 unfold miApplyEdit at h
 by_cases k1:e.kind=1
 ·rw [cond_T' (decide_eq_true k1)] at h
  rcases insert_ok hs hf hu with ⟨_,h1,_⟩ | ⟨n,hF,hp,h1,_⟩
  ·rw [h1] at h;simp at h
  ·rw [h1] at h
   simp at h
   subst h
   exact ⟨hF.1,(ins_sem hF hp).1,rfl,insF_small hs hf (by have:=hF.1.few;have:=hF.2.2.2;omega)⟩
 ·rw [cond_F' (decide_eq_false k1)] at h
  by_cases k2:e.kind=2
  ·rw [cond_T' (decide_eq_true k2)] at h
   rcases delete_ok hs hf hu with ⟨h1,_⟩ | ⟨k,hd,hk,h1,_⟩
   ·rw [h1] at h;simp at h
   ·rw [h1] at h
    simp at h
    subst h
    obtain ⟨h2,h3⟩:=del_sem hd hk
    exact ⟨hd,h2,rfl,⟨hs.1,by have:=h2.few;simp only at this ⊢;omega,hs.2.2.1,fun g hg=>hs.2.2.2 g ((h3 g).1 hg).1⟩⟩
  ·rw [cond_F' (decide_eq_false k2)] at h
   by_cases k3:e.kind=3
   ·rw [cond_T' (decide_eq_true k3)] at h
    obtain ⟨y,b,h1,_,h2,h3,h4⟩:=resolve_ok hs hf hu
    rw [h1] at h
    simp at h
    obtain ⟨rfl,rfl⟩:=h
    by_cases hd:DbOK d
    ·obtain ⟨h5,h6⟩:=h4 hd
     exact ⟨hd,h5,h6.rel,h3⟩
    ·obtain ⟨c1,_⟩:=contains_none (f:=e.fact) hs hu hd
     unfold miResolveConflict at h1
     rw [c1,Option.bind_some] at h1
     simp only [Bool.not_false,cond_true] at h1
     rw [impl_copyDatabase_eq hs] at h1
     simp at h1
   ·rw [cond_F' (decide_eq_false k3),impl_copyDatabase_eq hs] at h
    simp at h
theorem nd_len {α:Type} [DecidableEq α]:∀ (l m:List α),l.Nodup→(∀ x∈l,x∈m)→l.length≤m.length
 | [],_,_,_=>Nat.zero_le _
 | x::l,m,hn,h=>by
  have hx:=h x (List.mem_cons_self ..)
  have hn':=List.nodup_cons.1 hn
  have ih:=nd_len l (m.erase x) hn'.2 fun y hy=>(List.mem_erase_of_ne (fun e:y=x=>hn'.1 (by rw [← e];exact hy))).2 (h y (List.mem_cons_of_mem _ hy))
  rw [List.length_erase_of_mem hx] at ih
  have:0<m.length:=List.length_pos_of_mem hx
  simp only [List.length_cons];omega
theorem run_dels {u:Nat} (hu:1048577<u):∀ (l:List Fact) (c:Int) (s:Database),DbS s→DbOK s→l.Nodup→(∀ f∈l,f∈s.facts)→∃ y,runE u (l.map fun f=>⟨2,f⟩) (c,s)=(c+(l.length:Int),y)∧y.relations=s.relations∧DbOK y∧DbS y∧∀ g,g∈y.facts↔g∈s.facts∧g∉l
 | [],c,s,hs,hd,_,_=>⟨s,by simp [runE],rfl,hd,hs,fun g=>by simp⟩
 | f::l,c,s,hs,hd,hn,hin=>by
  obtain ⟨y,h1,h2,h3,h4,h5⟩:=apE_del hu hs hd (hin f (List.mem_cons_self ..))
  have hn':=List.nodup_cons.1 hn
  obtain ⟨z,g1,g2,g3,g4,g5⟩:=run_dels hu l (c+1) y h4 h3 hn'.2 fun g hg=>(h5 g).2 ⟨hin g (List.mem_cons_of_mem _ hg),fun e=>hn'.1 (e▸hg)⟩
  refine ⟨z,?_,g2.trans h2,g3,g4,fun g=>?_⟩
  ·show runE u (l.map fun f=>⟨2,f⟩) (if (apE u s ⟨2,f⟩).2=true then c+1 else c,(apE u s ⟨2,f⟩).1)=_
   rw [h1]
   simp only [if_true]
   rw [g1]
   simp only [List.length_cons,Prod.mk.injEq,and_true];omega
  ·rw [g5,h5,List.mem_cons,not_or]
   exact ⟨fun ⟨⟨a,b⟩,c⟩=>⟨a,b,c⟩,fun ⟨a,b,c⟩=>⟨⟨a,b⟩,c⟩⟩
theorem run_inss {u:Nat} (hu:1048577<u) {d:Database} (hd0:DbOK d) (hs0:DbS d):∀ (l:List Fact) (c:Int) (s:Database),DbS s→DbOK s→s.relations=d.relations→l.Nodup→(∀ f∈l,f∈d.facts∧f∉s.facts)→(∀ f∈s.facts,f∈d.facts)→∃ y,runE u (l.map fun f=>⟨1,f⟩) (c,s)=(c+(l.length:Int),y)∧y.relations=d.relations∧DbOK y∧DbS y∧∀ g,g∈y.facts↔g∈s.facts∨g∈l
 | [],c,s,hs,hd,hr,_,_,_=>⟨s,by simp [runE],hr,hd,hs,fun g=>by simp⟩
 | f::l,c,s,hs,hd,hr,hn,hin,hsub=>by
  obtain ⟨f1,f2⟩:=hin f (List.mem_cons_self ..)
  have hn':=List.nodup_cons.1 hn
  have hlt:s.facts.length<14:=by
   have h1:(f::s.facts).Nodup:=List.nodup_cons.2 ⟨f2,Asc.nodup (sorted_pw hd)⟩
   have h2:(f::s.facts).length≤d.facts.length:=nd_len _ _ h1 fun g hg=>by
    rcases List.mem_cons.1 hg with rfl | hg
    ·exact f1
    ·exact hsub g hg
   have:=hd0.few
   simp only [List.length_cons] at h2;omega
  obtain ⟨y,h1,h2,h3,h4,h5⟩:=apE_ins hu hs hd f2 (hs0.2.2.2 f f1) (by rw [hr];exact hd0.mem f1) hlt
  obtain ⟨z,g1,g2,g3,g4,g5⟩:=run_inss hu hd0 hs0 l (c+1) y h4 h3 (h2.trans hr) hn'.2 (fun g hg=>⟨(hin g (List.mem_cons_of_mem _ hg)).1,fun h=>by
   rcases (h5 g).1 h with rfl | h
   ·exact hn'.1 hg
   ·exact (hin g (List.mem_cons_of_mem _ hg)).2 h⟩) (fun g hg=>by
   rcases (h5 g).1 hg with rfl | h
   ·exact f1
   ·exact hsub g h)
  refine ⟨z,?_,g2,g3,g4,fun g=>?_⟩
  ·show runE u (l.map fun f=>⟨1,f⟩) (if (apE u s ⟨1,f⟩).2=true then c+1 else c,(apE u s ⟨1,f⟩).1)=_
   rw [h1]
   simp only [if_true]
   rw [g1]
   simp only [List.length_cons,Prod.mk.injEq,and_true];omega
  ·rw [g5,h5,List.mem_cons]
   constructor
   ·rintro ((h | h) | h)
    ·exact .inr (.inl h)
    ·exact .inl h
    ·exact .inr (.inr h)
   ·rintro (h | h | h)
    ·exact .inl (.inr h)
    ·exact .inl (.inl h)
    ·exact .inr h
theorem restored {u:Nat} (hu:1048577<u) {d x:Database} (hd:DbOK d) (hs:DbS d) (hx:DbOK x) (hxs:DbS x) (hr:x.relations=d.relations):runE u (efF 2 x.facts d.facts++efF 1 d.facts x.facts) (0,x)=(((efF 2 x.facts d.facts++efF 1 d.facts x.facts).length:Int),d):=by
 have n1:(x.facts.filter fun f=>decide (f∉d.facts)).Nodup:=(Asc.nodup (sorted_pw hx)).filter _
 have n2:(d.facts.filter fun f=>decide (f∉x.facts)).Nodup:=(Asc.nodup (sorted_pw hd)).filter _
 obtain ⟨y,h1,h2,h3,h4,h5⟩:=run_dels hu (x.facts.filter fun f=>decide (f∉d.facts)) 0 x hxs hx n1 fun f hf=>(List.mem_filter.1 hf).1
 have hy:∀ g,g∈y.facts↔g∈x.facts∧g∈d.facts:=fun g=>by
  rw [h5,List.mem_filter,decide_eq_true_eq]
  exact ⟨fun ⟨a,b⟩=>⟨a,Classical.byContradiction fun h=>b ⟨a,h⟩⟩,fun ⟨a,b⟩=>⟨a,fun h=>h.2 b⟩⟩
 obtain ⟨z,g1,g2,g3,g4,g5⟩:=run_inss hu hd hs (d.facts.filter fun f=>decide (f∉x.facts)) (0+((x.facts.filter fun f=>decide (f∉d.facts)).length:Int)) y h4 h3 (h2.trans hr) n2 (fun f hf=>by
  have:=List.mem_filter.1 hf
  exact ⟨this.1,fun h=>(of_decide_eq_true this.2) ((hy f).1 h).1⟩) fun f hf=>((hy f).1 hf).2
 have hz:z=d:=db_ext g3 hd g2 fun g=>by
  rw [g5,hy,List.mem_filter,decide_eq_true_eq]
  exact ⟨fun h=>h.elim (fun h=>h.2) fun h=>h.1,fun h=>(Classical.em (g∈x.facts)).elim (fun h1=>.inl ⟨h1,h⟩) fun h1=>.inr ⟨h,h1⟩⟩
 rw [runE_app]
 unfold efF
 rw [h1,g1,hz]
 simp
end Go.Proofs.YtaadmoaanhdboaaGreatDoor
set_option linter.unusedVariables false
set_option linter.unusedSimpArgs false
namespace Go.Proofs.YtaadmoaanhdboaaGreatDoor
open Go Go.Proofs Go.Sep
theorem bytes_ext {x y:ByteArray} (h:x.data.toList=y.data.toList):x=y:=by
 cases x;cases y;simp at h;subst h;rfl
theorem bytes_app (x y:ByteArray):(x++y).data.toList=x.data.toList++y.data.toList:=by
 rw [ByteArray.data_append,Array.toList_append]
theorem str_one (z:Int) (h0:0≤z) (h1:z<256):strOf [IntKind.wrap .u8 z]=⟨#[UInt8.ofNat z.toNat]⟩:=by
 have:IntKind.wrap .u8 z=z:=by simp [IntKind.wrap,IntKind.bits,IntKind.signed];omega
 rw [this]
 rfl
theorem tmod10 (n:Int):n.tmod 10=if 0≤n then ((n.natAbs % 10:Nat):Int) else -((n.natAbs % 10:Nat):Int):=by
 obtain ⟨m,rfl | rfl⟩:=Int.eq_nat_or_neg n
 ·rw [if_pos (by omega),Int.natAbs_natCast];exact (Int.ofNat_tmod m 10).symm
 ·rw [Int.natAbs_neg,Int.natAbs_natCast,Int.neg_tmod]
  have:(m:Int).tmod 10=((m % 10:Nat):Int):=(Int.ofNat_tmod m 10).symm
  rw [this]
  split
  ·omega
  ·rfl
theorem digit_neg (n:Int) (hn:n.tmod 10<0):strOf ([(IntKind.wrap .u8 (w64 (48+(w64 (-(n.tmod 10))))))]:(List Int))=⟨#[UInt8.ofNat (48+n.natAbs % 10)]⟩:=by
 have h1:=tmod10 n
 have h3:n.tmod 10=-((n.natAbs % 10:Nat):Int):=by
  split at h1<;>omega
 have h2:n.natAbs % 10<10:=Nat.mod_lt _ (by decide)
 rw [h3,w64_eq (x:=- -((n.natAbs % 10:Nat):Int)) (by omega) (by omega),w64_eq (by omega) (by omega),str_one _ (by omega) (by omega),show (48+- -((n.natAbs % 10:Nat):Int)).toNat=48+n.natAbs % 10 by omega]
theorem digit_pos (n:Int) (hn:¬ n.tmod 10<0):strOf ([(IntKind.wrap .u8 (w64 (48+(n.tmod 10))))]:(List Int))=⟨#[UInt8.ofNat (48+n.natAbs % 10)]⟩:=by
 have h1:=tmod10 n
 have h3:n.tmod 10=((n.natAbs % 10:Nat):Int):=by
  split at h1<;>omega
 have h2:n.natAbs % 10<10:=Nat.mod_lt _ (by decide)
 rw [h3,w64_eq (by omega) (by omega),str_one _ (by omega) (by omega),show (48+((n.natAbs % 10:Nat):Int)).toNat=48+n.natAbs % 10 by omega]
def digs (m:Nat):List UInt8:=if m=0 then [] else Go.Lib.decDigits m
theorem digs_step (m:Nat) (h:m≠0):digs m=digs (m / 10)++[UInt8.ofNat (48+m % 10)]:=by
 unfold digs
 rw [if_neg h,Go.Lib.decDigits]
 by_cases h1:m<10
 ·rw [dif_pos h1,if_pos (by omega),Nat.mod_eq_of_lt h1];rfl
 ·rw [dif_neg h1,if_neg (by omega)]
theorem int_loop:∀ (j f:Nat) (n:Int) (acc:ByteArray),j<f→n.natAbs<10 ^ j→-9223372036854775808≤n→n≤9223372036854775807→acc.size+j≤1000 →
  whileF (R:=ByteArray) (fun (⟨n0z,out3⟩:Int × ByteArray)=>cond (decide (n0z≠0)) (cond (decide ((n0z.tmod 10)<0)) ((catS (strOf ([(IntKind.wrap .u8 (w64 (48+(w64 (-(n0z.tmod 10))))))]:(List Int))) out3).bind fun cat_5=>some (.next ((w64 (n0z.tdiv 10)),cat_5))) ((catS (strOf ([(IntKind.wrap .u8 (w64 (48+(n0z.tmod 10))))]:(List Int))) out3).bind fun cat_7=>some (.next ((w64 (n0z.tdiv 10)),cat_7)))) (some (.brk (n0z,out3)))) f (n,acc)=some (.inl (0,⟨(digs n.natAbs).toArray⟩++acc))
 | j,f+1,n,acc,hj,hm,h0,h1,ha=>by
  unfold whileF
  by_cases hn:n=0
  ·subst hn
   simp only [ne_eq,not_true_eq_false,decide_false,cond_false,Option.bind_some]
   have e:(⟨(digs (Int.natAbs 0)).toArray⟩:ByteArray)++acc=acc:=bytes_ext (by rw [bytes_app];rfl)
   rw [e]
  ·have hj0:0<j:=by
    rcases j with _ | j
    ·simp at hm;omega
    ·omega
   obtain ⟨j,rfl⟩:∃ i,j=i+1:=⟨j - 1,by omega⟩
   have hq:(n.tdiv 10).natAbs=n.natAbs / 10:=by rw [Int.natAbs_tdiv];rfl
   have hb0:-9223372036854775808≤n.tdiv 10∧n.tdiv 10≤9223372036854775807:=by omega
   have key:∀ s:ByteArray,s=⟨#[UInt8.ofNat (48+n.natAbs % 10)]⟩→(catS s acc).bind (fun c=>some (Ctl.next (R:=ByteArray) ((w64 (n.tdiv 10)),c)))=some (.next (n.tdiv 10,s++acc)):=fun s hs=>by
    have hz:s.size=1:=by subst hs;rfl
    rw [catS_ok (by rw [hz];omega),w64_eq hb0.1 hb0.2];rfl
   have end_:∀ s:ByteArray,s=⟨#[UInt8.ofNat (48+n.natAbs % 10)]⟩→(⟨(digs (n.tdiv 10).natAbs).toArray⟩:ByteArray)++(s++acc)=⟨(digs n.natAbs).toArray⟩++acc:=fun s hs=>by
    refine bytes_ext ?_
    rw [bytes_app,bytes_app,bytes_app,digs_step n.natAbs (by omega),hq,hs]
    simp
   have ih:=fun s (hs:s=(⟨#[UInt8.ofNat (48+n.natAbs % 10)]⟩:ByteArray))=>int_loop j f (n.tdiv 10) (s++acc) (by omega) (by rw [hq];rw [Nat.pow_succ] at hm;omega) hb0.1 hb0.2 (by
    rw [ByteArray.size_append,hs]
    show 1+acc.size+j≤1000
    omega)
   simp only [ne_eq,hn,not_false_eq_true,decide_true,cond_true]
   by_cases hd:n.tmod 10<0
   ·have e:=digit_neg n hd
    simp only [hd,decide_true,cond_true]
    rw [key _ e]
    simp only [Option.bind_some]
    rw [ih _ e,end_ _ e]
   ·have e:=digit_pos n hd
    simp only [hd,decide_false,cond_false]
    rw [key _ e]
    simp only [Option.bind_some]
    rw [ih _ e,end_ _ e]
def itoaB (n:Int):ByteArray:=⟨(Go.Lib.itoa n).toArray⟩
theorem impl_FormatInt_eq (n:Int) (h0:-9223372036854775808≤n) (h1:n≤9223372036854775807):miFormatInt n=some (itoaB n):=by
 unfold miFormatInt m_strconv_Itoa
 rw [if_pos ⟨h0,h1⟩];rfl
theorem spec_FormatInt_eq (n:Int) (h0:-9223372036854775808≤n) (h1:n≤9223372036854775807):msFormatInt 1048578 n=some (itoaB n):=by
 unfold msFormatInt itoaB Go.Lib.itoa
 by_cases hn:n=0
 ·subst hn
  simp only [decide_true,cond_true]
  rw [if_neg (by omega)]
  congr 2
  rw [show (0:Int).toNat=0 from rfl,Go.Lib.decDigits,dif_pos (by decide)]
  rfl
 ·simp only [hn,decide_false,cond_false]
  rw [int_loop 19 1048578 n _ (by omega) (by omega) h0 h1 (by decide)]
  simp only [Option.bind_some,onS]
  have hm:n.natAbs≠0:=by omega
  by_cases hs:n<0
  ·simp only [hs,decide_true,cond_true]
   have hd:(digs n.natAbs).length≤21:=by
    have:=Go.Lib.itoa_length_le n h0 h1
    unfold Go.Lib.itoa at this
    rw [if_pos hs] at this
    unfold digs;rw [if_neg hm]
    simp at this;omega
   rw [catS_ok (by
    rw [ByteArray.size_append]
    show 1+((digs n.natAbs).toArray.size+0)≤_
    simp;omega)]
   simp only [Option.bind_some,if_true]
   congr 1
   refine bytes_ext ?_
   rw [bytes_app,bytes_app]
   unfold digs;rw [if_neg hm]
   simp
  ·simp only [hs,decide_false,cond_false,if_false]
   congr 1
   refine bytes_ext ?_
   rw [bytes_app]
   unfold digs;rw [if_neg hm,show n.natAbs=n.toNat by omega]
   simp
end Go.Proofs.YtaadmoaanhdboaaGreatDoor
set_option linter.unusedVariables false
set_option linter.unusedSimpArgs false
namespace Go.Proofs.YtaadmoaanhdboaaGreatDoor
open Go Go.Proofs Go.Sep
def I64 (n:Int):Prop:=-9223372036854775808≤n∧n≤9223372036854775807
def bs (l:List UInt8):ByteArray:=⟨l.toArray⟩
theorem bs_size (l:List UInt8):(bs l).size=l.length:=by show l.toArray.size=_;simp
theorem bs_app (x y:List UInt8):bs x++bs y=bs (x++y):=bytes_ext (by rw [bytes_app];simp [bs])
theorem bs_eta (s:ByteArray):bs s.data.toList=s:=bytes_ext (by simp [bs])
theorem cat_bs (x y:List UInt8) (h:x.length+y.length≤9223372036854775807):catS (bs x) (bs y)=some (bs (x++y)):=by
 rw [catS_ok (by rw [bs_size,bs_size];exact h),bs_app]
theorem cat_c (x:List UInt8) (c:UInt8) (h:x.length+1≤9223372036854775807):catS (bs x) (⟨#[c]⟩:ByteArray)=some (bs (x++[c])):=cat_bs x [c] h
theorem itoa_len (n:Int) (h:I64 n):(Go.Lib.itoa n).length≤21:=Go.Lib.itoa_length_le n h.1 h.2
theorem app_map {α:Type} (f:α→Option ByteArray) (g:α→ByteArray):∀ (xs:List α) (i:Int) (acc:List ByteArray),(∀ x∈xs,f x=some (g x))→(acc.length+xs.length)*16≤140737488355328 →
  forS (fun (_:Int) (x:α) (out:List ByteArray)=>(f x).bind fun r=>(app 16 out ([r]:List ByteArray)).bind fun us=>some us) xs i acc=some (acc++xs.map g)
 | [],i,acc,_,_=>by simp [forS]
 | x::xs,i,acc,h,hb=>by
  unfold forS
  simp only [List.length_cons] at hb
  rw [h x (List.mem_cons_self ..),Option.bind_some,app_ok (by simp only [List.length_cons,List.length_nil];omega),Option.bind_some,Option.bind_some,app_map f g xs (i+1) _ (fun y hy=>h y (List.mem_cons_of_mem _ hy)) (by simp only [List.length_append,List.length_cons,List.length_nil];omega)]
  simp
theorem data_itoaB (r:List Int):(r.map itoaB).map (·.data.toList)=r.map Go.Lib.itoa:=by
 rw [List.map_map]
 refine List.map_congr_left fun n _=>?_
 simp [itoaB]
theorem bind_to {α β:Type} {x:Option α} {a:α} {f:α→Option β} {r:Option β} (h:x=some a) (k:f a=r):x.bind f=r:=by rw [h];exact k
end Go.Proofs.YtaadmoaanhdboaaGreatDoor
set_option linter.unusedVariables false
set_option linter.unusedSimpArgs false
namespace Go.Proofs.YtaadmoaanhdboaaGreatDoor
open Go Go.Proofs Go.Sep
def brs (k:Nat):Nat→List Int→List UInt8
 | _,[]=>[]
 | i,x::xs=>(if i=k then [124] else [])++Go.Lib.itoa x++brs k (i+1) xs
theorem brs_behind (k:Nat):∀ (xs:List Int) (i:Nat),k<i→brs k i xs=(xs.map Go.Lib.itoa).flatten
 | [],_,_=>rfl
 | x::xs,i,h=>by
  unfold brs
  rw [if_neg (by omega),brs_behind k xs (i+1) (by omega)]
  simp
theorem brs_at (k:Nat):∀ (xs:List Int) (i:Nat),i≤k→brs k i xs=((xs.take (k - i)).map Go.Lib.itoa).flatten++(if k - i<xs.length then [124]++((xs.drop (k - i)).map Go.Lib.itoa).flatten else [])
 | [],i,h=>by simp [brs]
 | x::xs,i,h=>by
  unfold brs
  by_cases e:i=k
  ·subst e
   rw [if_pos rfl,brs_behind i xs (i+1) (by omega)]
   simp
  ·rw [if_neg e,brs_at k xs (i+1) (by omega),show k - i=(k - (i+1))+1 by omega]
   simp only [List.take_succ_cons,List.drop_succ_cons,List.map_cons,List.flatten_cons,List.length_cons,List.nil_append,List.append_assoc,Nat.add_lt_add_iff_right]
theorem join_flat (xs:List (List UInt8)):Go.Lib.join xs []=xs.flatten:=by
 cases xs with
 | nil=>rfl
 | cons x xs =>
  rw [Go.Lib.join_cons]
  simp [Go.Lib.joinTail]
theorem cut_gen {α:Type} {xs:List α} {a b:Int} (h0:0≤a) (h1:a≤b) (h2:b≤(xs.length:Int)):cutI xs a b=some ((xs.drop a.toNat).take (b - a).toNat):=by
 unfold cutI
 rw [if_pos (by omega)]
 congr 1
 rw [List.drop_take,show b.toNat - a.toNat=(b - a).toNat by omega]
theorem brs_len (k:Nat):∀ (xs:List Int) (i:Nat),(∀ n∈xs,I64 n)→(brs k i xs).length≤xs.length*22
 | [],_,_=>by simp [brs]
 | x::xs,i,h=>by
  have ih:=brs_len k xs (i+1) fun y hy=>h y (List.mem_cons_of_mem _ hy)
  have h1:=itoa_len x (h x (List.mem_cons_self ..))
  unfold brs
  simp only [List.length_append,List.length_cons]
  rw [Nat.add_mul]
  split<;>simp<;>omega
theorem flat_len (xs:List Int) (h:∀ n∈xs,I64 n):((xs.map Go.Lib.itoa).flatten).length≤xs.length*21:=by
 induction xs with
 | nil=>simp
 | cons x xs ih =>
  have h1:=itoa_len x (h x (List.mem_cons_self ..))
  have:=ih fun y hy=>h y (List.mem_cons_of_mem _ hy)
  simp only [List.map_cons,List.flatten_cons,List.length_append,List.length_cons]
  omega
theorem join_itoa (s:List Int) (hs:s.length≤3) (hi:∀ n∈s,I64 n):m_strings_Join (s.map itoaB) (⟨#[]⟩:ByteArray)=some (bs ((s.map Go.Lib.itoa).flatten)):=by
 have hl:=flat_len s hi
 have e:Go.Lib.join ((s.map itoaB).map (·.data.toList)) (⟨#[]⟩:ByteArray).data.toList=(s.map Go.Lib.itoa).flatten:=by rw [data_itoaB];exact join_flat _
 unfold m_strings_Join
 rw [e,if_pos ⟨by rw [List.length_map];omega,by omega⟩]
 rfl
theorem barred_eq (vs:List Int) (hs:vs.length≤3) (hi:∀ n∈vs,I64 n) (k:Nat) (hk:k≤vs.length):mibarred (vs.map itoaB) (k:Int)=some (bs (brs k 0 vs)):=by
 have h1:((vs.map itoaB).drop (0:Int).toNat).take ((k:Int) - 0).toNat=(vs.take k).map itoaB:=by
  rw [show (0:Int).toNat=0 from rfl,List.drop_zero,show ((k:Int) - 0).toNat=k by omega,List.map_take]
 have t1:∀ n∈vs.take k,I64 n:=fun n h=>hi n (List.mem_of_mem_take h)
 have t2:∀ n∈vs.drop k,I64 n:=fun n h=>hi n (List.mem_of_mem_drop h)
 have l1:=flat_len _ t1
 have l2:=flat_len _ t2
 have s1:(vs.take k).length≤3:=by rw [List.length_take];omega
 have s2:(vs.drop k).length≤3:=by rw [List.length_drop];omega
 unfold mibarred
 rw [cut_gen (by omega) (by omega) (by rw [List.length_map];omega),Option.bind_some,h1,join_itoa _ s1 t1,Option.bind_some,brs_at k vs 0 (by omega),Nat.sub_zero,List.length_map]
 by_cases h:k<vs.length
 ·have h2:((vs.map itoaB).drop (k:Int).toNat).take ((vs.length:Int) - (k:Int)).toNat=(vs.drop k).map itoaB:=by
   rw [Int.toNat_natCast,← List.map_drop,List.take_of_length_le (by rw [List.length_map,List.length_drop];omega)]
  rw [cond_T' (by simpa using h),cut_gen (by omega) (by omega) (by rw [List.length_map];omega),Option.bind_some,h2,join_itoa _ s2 t2,Option.bind_some,if_pos h,show (⟨#[124]⟩:ByteArray)=bs [124] from rfl,cat_bs _ _ (by simp only [List.length_cons,List.length_nil];omega),Option.bind_some,cat_bs _ _ (by simp only [List.length_append,List.length_cons,List.length_nil];omega)]
  rfl
 ·rw [cond_F' (by simpa using h),if_neg h,List.append_nil]
theorem spec_bars (u:Nat) (hu:∀ n:Int,-9223372036854775808≤n→n≤9223372036854775807→msFormatInt u n=some (itoaB n)) (vs:List Int) (hs:vs.length≤3) (hi:∀ n∈vs,I64 n) (key:Nat):∀ (d f i:Nat) (s:List UInt8),d<f→i+d=vs.length→s.length+(brs key i (vs.drop i)).length≤9223372036854775807 →
  whileF (R:=ByteArray) (fun (⟨s5,i6⟩:ByteArray × Int)=>cond (decide (i6<(vs.length:Int))) (cond (decide (i6=(key:Int))) ((catS s5 (⟨#[124]⟩:ByteArray)).bind fun cat_12=>(getI vs i6).bind fun v_14=>(msFormatInt u v_14).bind fun r_19=>(catS cat_12 r_19).bind fun cat_21=>some (.next (cat_21,(w64 (i6+1))))) ((getI vs i6).bind fun v_23=>(msFormatInt u v_23).bind fun r_28=>(catS s5 r_28).bind fun cat_30=>some (.next (cat_30,(w64 (i6+1)))))) (some (.brk (s5,i6)))) f (bs s,(i:Int))=some (.inl (bs (s++brs key i (vs.drop i)),(vs.length:Int)))
 | 0,f+1,i,s,_,hk,hb=>by
  have hk:i=vs.length:=by omega
  subst hk
  unfold whileF
  simp only [Int.lt_irrefl,decide_false,cond_false,Option.bind_some,List.drop_length,brs,List.append_nil]
 | d+1,f+1,i,s,hf,hk,hb=>by
  have hkl:i<vs.length:=by omega
  have hc:vs.drop i=vs[i]::vs.drop (i+1):=List.drop_eq_getElem_cons hkl
  rw [hc] at hb ⊢
  unfold brs at hb ⊢
  have hn:=hi vs[i] (List.getElem_mem hkl)
  have hF:=hu vs[i] hn.1 hn.2
  have hw:w64 ((i:Int)+1)=((i+1:Nat):Int):=by rw [w64_eq (by omega) (by omega)];omega
  simp only [List.length_append] at hb
  unfold whileF
  simp only [show ((i:Int)<(vs.length:Int))=True from eq_true (by omega),decide_true,cond_true]
  by_cases h0:i=key
  ·simp only [if_pos h0,List.length_cons,List.length_nil] at hb ⊢
   rw [show decide ((i:Int)=(key:Int))=true from decide_eq_true (by omega),cond_true,cat_c _ _ (by omega),Option.bind_some,getI_lt hkl,Option.bind_some,hF,Option.bind_some,show itoaB vs[i]=bs (Go.Lib.itoa vs[i]) from rfl,cat_bs _ _ (by simp only [List.length_append,List.length_cons,List.length_nil];omega),Option.bind_some,Option.bind_some,hw]
   simp only
   rw [spec_bars u hu vs hs hi key d f (i+1) _ (by omega) (by omega) (by simp only [List.length_append,List.length_cons,List.length_nil];omega)]
   simp only [List.append_assoc]
  ·simp only [if_neg h0,List.length_nil,List.nil_append] at hb ⊢
   rw [show decide ((i:Int)=(key:Int))=false from decide_eq_false (by omega),cond_false,getI_lt hkl,Option.bind_some,hF,Option.bind_some,show itoaB vs[i]=bs (Go.Lib.itoa vs[i]) from rfl,cat_bs _ _ (by omega),Option.bind_some,Option.bind_some,hw]
   simp only
   rw [spec_bars u hu vs hs hi key d f (i+1) _ (by omega) (by omega) (by simp only [List.length_append];omega)]
   simp only [List.append_assoc]
theorem impl_isFact (l:List Relation) (f:Fact) (bl b:Bool) (h1:miAreValidRelations l=some bl) (h2:miisFact l f=some b):miIsValidFact l f=some (bl && b):=by
 unfold miIsValidFact
 rw [h1,Option.bind_some,h2]
 cases bl<;>rfl
theorem factFmt (u:Nat) (hu:∀ n:Int,-9223372036854775808≤n→n≤9223372036854775807→msFormatInt u n=some (itoaB n)) (hu2:1048576<u) (l:List Relation) (f:Fact) (hf:f.values.length≤1048576) (hl:∀ r∈l,r.name.size≤1048576) :
  ∃ s,miFormatFact l f=some s∧msFormatFact u l f=some s∧s.size≤2097152:=by
 obtain ⟨bl,hbl⟩:=validRelations_tot l
 obtain ⟨b,h1,h2⟩:=isFact_eq l f
 obtain ⟨b',h3,h4⟩:=spec_isFact_eq u l f (by omega) hf
 have hv:b'=(bl && b):=by
  rw [Bool.eq_iff_iff,h4,Bool.and_eq_true,h2]
  exact ⟨fun ⟨x,y⟩=>⟨Option.some.inj (hbl.symm.trans x),y⟩,fun ⟨x,y⟩=>⟨x▸hbl,y⟩⟩
 have hi:=impl_isFact l f bl b hbl h1
 unfold miFormatFact msFormatFact
 rw [hi,h3,hv,Option.bind_some,Option.bind_some]
 cases hb:(bl && b) with
 | false=>exact ⟨_,rfl,rfl,by decide⟩
 | true =>
  have hb1:bl=true∧b=true:=by simpa using hb
  obtain ⟨n,r,hr,hln,ha,hvs⟩:=h2.1 hb1.2
  have hR:=validRelations_ok (hb1.1▸hbl) r (List.mem_of_getElem? hln)
  obtain ⟨k0,k1,a0,a1⟩:=hR
  have hname:=hl r (List.mem_of_getElem? hln)
  have hlen:f.values.length≤3:=by omega
  have h64:∀ v∈f.values,I64 v:=fun v hv=>by have:=hvs v hv;unfold I64;omega
  obtain ⟨k,hk⟩:∃ k:Nat,r.keyLength=k:=⟨r.keyLength.toNat,by omega⟩
  have hkl:k≤f.values.length:=by omega
  have hbr:=brs_len k f.values 0 h64
  have hns:r.name=bs r.name.data.toList:=(bs_eta _).symm
  have hnl:r.name.data.toList.length≤1048576:=by rw [← bs_size,bs_eta];exact hname
  have hget:getI l f.relation=some r:=by rw [hr,getI_nat];exact hln
  refine ⟨bs (r.name.data.toList++brs k 0 f.values),?_,?_,?_⟩
  ·rw [cond_nt,app_map miFormatInt itoaB f.values 0 [] (fun n hn=>impl_FormatInt_eq n (h64 n hn).1 (h64 n hn).2) (by simp only [List.length_nil];omega),Option.bind_some,List.nil_append,hget,Option.bind_some,hk,barred_eq _ hlen h64 k hkl,Option.bind_some]
   rw [hns,cat_bs _ _ (by omega),bs_eta];rfl
  ·rw [cond_nt,hget,Option.bind_some,hk]
   have e:=spec_bars u hu f.values hlen h64 k f.values.length u 0 r.name.data.toList (by omega) (by omega) (by rw [List.drop_zero];omega)
   rw [List.drop_zero,bs_eta] at e
   exact bind_to e rfl
  ·rw [bs_size,List.length_append];omega
end Go.Proofs.YtaadmoaanhdboaaGreatDoor
set_option linter.unusedVariables false
set_option linter.unusedSimpArgs false
namespace Go.Proofs.YtaadmoaanhdboaaGreatDoor
open Go Go.Proofs Go.Sep
end Go.Proofs.YtaadmoaanhdboaaGreatDoor
set_option linter.unusedVariables false
set_option linter.unusedSimpArgs false
namespace Go.Proofs.YtaadmoaanhdboaaGreatDoor
open Go Go.Proofs Go.Sep
theorem impl_signs (k:Int) (hk:1≤k∧k≤3):∃ c:UInt8,cutB (⟨#[32,43,45,33]⟩:ByteArray) k (w64 (k+1))=some (⟨#[c]⟩:ByteArray)∧getI ([(⟨#[43]⟩:ByteArray),(⟨#[45]⟩:ByteArray),(⟨#[33]⟩:ByteArray)]:(List ByteArray)) (w64 (k - 1))=some (⟨#[c]⟩:ByteArray):=by
 have:k=1∨k=2∨k=3:=by omega
 rcases this with rfl | rfl | rfl
 ·exact ⟨43,by decide +kernel,by decide +kernel⟩
 ·exact ⟨45,by decide +kernel,by decide +kernel⟩
 ·exact ⟨33,by decide +kernel,by decide +kernel⟩
theorem editFmt (u:Nat) (hu:∀ n:Int,-9223372036854775808≤n→n≤9223372036854775807→msFormatInt u n=some (itoaB n)) (hu2:1048576<u) (d:Database) (e:Edit) (hf:e.fact.values.length≤1048576) (hl:∀ r∈d.relations,r.name.size≤1048576) :
  ∃ s,miFormatEdit d e=some s∧msFormatEdit u d e=some s:=by
 obtain ⟨s,h1,h2,h3⟩:=factFmt u hu hu2 d.relations e.fact hf hl
 unfold miFormatEdit msFormatEdit miwithin msl1In
 rw [h1,h2]
 simp only [Option.bind_some]
 by_cases hs:s=(⟨#[]⟩:ByteArray)
 ·rw [decide_eq_true hs]
  exact ⟨_,rfl,rfl⟩
 ·rw [decide_eq_false hs]
  simp only [cond_false,Option.bind_some]
  by_cases hk:1≤e.kind∧e.kind≤3
  ·obtain ⟨c,h4,h5⟩:=impl_signs e.kind hk
   have hz:((decide (1≤e.kind)) && (decide (e.kind≤3)))=true:=by simp [hk]
   have hcat:catS (⟨#[c]⟩:ByteArray) s=some (bs ([c]++s.data.toList)):=by
    have:s=bs s.data.toList:=(bs_eta s).symm
    conv=>lhs;rw [this]
    refine cat_bs [c] _ ?_
    rw [← bs_size s.data.toList,bs_eta]
    simp only [List.length_cons,List.length_nil];omega
   rw [hz,h4,h5]
   simp only [Bool.not_true,cond_false,Option.bind_some]
   exact ⟨bs ([c]++s.data.toList),bind_to hcat rfl,bind_to hcat rfl⟩
  ·have hz:((decide (1≤e.kind)) && (decide (e.kind≤3)))=false:=by
    rw [Bool.and_eq_false_iff,decide_eq_false_iff_not,decide_eq_false_iff_not];omega
   rw [hz]
   exact ⟨_,rfl,rfl⟩
end Go.Proofs.YtaadmoaanhdboaaGreatDoor
set_option linter.unusedVariables false
set_option linter.unusedSimpArgs false
namespace Go.Proofs.YtaadmoaanhdboaaGreatDoor
open Go Go.Proofs Go.Sep
theorem relIx_eq (l:List Relation) (n:ByteArray):miRelationIndex l n=msRelationIndex l n:=by
 unfold miRelationIndex msRelationIndex m_slices_IndexFunc_Simpl_Relation_impl_Relation miRelationIndex_1
 have h:∀ x:Option Int,x.bind (fun r=>some r)=x:=fun x=>by cases x<;>rfl
 rw [h]
 rfl
theorem relIx_tot (l:List Relation) (n:ByteArray):∃ i,msRelationIndex l n=some i:=by
 unfold msRelationIndex
 obtain ⟨o,h1,h2⟩:=forL_ok (xs:=l) (s:=()) (f:=fun (i_1:Int) (x_i_1:Relation) (_:Unit)=>cond (decide (x_i_1.name=n)) (some (.ret (i_1:Int))) (some (.next ())))
  (fun _ _=>True) (fun _=>False) (fun (_:Int)=>True) trivial fun k x s hx _=>by
   cases decide (x.name=n)
   ·exact ⟨_,rfl,trivial⟩
   ·exact ⟨_,rfl,trivial⟩
 rw [h1,Option.bind_some]
 rcases o with s | r
 ·exact ⟨_,rfl⟩
 ·exact ⟨_,rfl⟩
theorem getB_bs (L:List UInt8) (i:Nat) (h:i<L.length):getB (bs L) (i:Int)=some ((L[i].toNat:Int)):=by
 unfold getB
 rw [if_pos (by omega),Int.toNat_natCast]
 have:(bs L)[i]?=some L[i]:=by
  have hs:i<(bs L).size:=by rw [bs_size];exact h
  rw [getElem?_pos (bs L) i hs]
  congr 1
 rw [this];rfl
theorem cutB_bs (L:List UInt8) (a b:Nat) (h:a≤b) (hb:b≤L.length):cutB (bs L) (a:Int) (b:Int)=some (bs ((L.drop a).take (b - a))):=by
 unfold cutB
 rw [if_pos (by rw [bs_size];omega)]
 congr 1
 refine bytes_ext ?_
 rw [ByteArray.data_extract,Array.toList_extract]
 simp [bs,List.extract_eq_take_drop]
theorem parse_vals (L:List UInt8) (hL:L.length≤1048576):∀ (k i:Nat) (vs:List Int),i+k≤L.length→vs.length+k≤1048576 →
  ∃ vs',forM (fun (i_6:Int) (box1_values:(List Int))=>(getB (bs L) (i_6:Int)).bind fun b_9=>cond (decide (b_9≠124)) ((getB (bs L) (i_6:Int)).bind fun b_12=>(app 8 box1_values ([(w64 ((w64 b_12) - 48))]:(List Int))).bind fun us_14=>some us_14) (some box1_values)) k (i:Int) vs=some vs'∧vs'.length≤1048576
 | 0,i,vs,_,h=>⟨vs,rfl,by omega⟩
 | k+1,i,vs,hk,h=>by
  unfold Go.Sep.forM
  rw [getB_bs L i (by omega),Option.bind_some]
  have e:((i:Int)+1)=((i+1:Nat):Int):=by omega
  cases decide (((L[i]'(by omega)).toNat:Int)≠124) with
  | true =>
   rw [cond_true,Option.bind_some,app_ok (by simp only [List.length_cons,List.length_nil];omega),Option.bind_some,Option.bind_some,e]
   exact parse_vals L hL k (i+1) _ (by omega) (by simp only [List.length_append,List.length_cons,List.length_nil];omega)
  | false =>
   rw [cond_false,Option.bind_some,e]
   exact parse_vals L hL k (i+1) _ (by omega) (by omega)
def zeroF:Fact:={ relation:=0,values:=([]:(List Int)) }
theorem parseFact_both (u:Nat) (hu:∀ n:Int,-9223372036854775808≤n→n≤9223372036854775807→msFormatInt u n=some (itoaB n)) (hu2:1048576<u) (l:List Relation) (hl:∀ r∈l,r.name.size≤1048576) (L:List UInt8) (hL:L.length≤1048576) :
  ∃ P:Fact × Bool,miParseFact l (bs L)=some P∧msParseFact u l (bs L)=some P∧P.1.values.length≤1048576∧(P.2=false→P.1=zeroF)∧(P.2=true→L≠[]∧msFormatFact u l P.1=some (bs L)):=by
 unfold miParseFact msParseFact
 by_cases h0:bs L=(⟨#[]⟩:ByteArray)
 ·rw [decide_eq_true h0]
  exact ⟨_,rfl,rfl,by simp,fun _=>rfl,fun h=>by cases h⟩
 ·rw [decide_eq_false h0,cond_false,cond_false]
  have hne:L≠[]:=fun e=>h0 (by subst e;rfl)
  have hpos:0<L.length:=List.length_pos_iff.2 hne
  have hc:=cutB_bs L 0 1 (by omega) hpos
  obtain ⟨ri,hri⟩:=relIx_tot l (bs ((L.drop 0).take (1 - 0)))
  obtain ⟨vs,hvs,hvl⟩:=parse_vals L hL (L.length - 1) 1 [] (by omega) (by simp only [List.length_nil];omega)
  have hk:(((bs L).size:Int) - 1).toNat=L.length - 1:=by rw [bs_size];omega
  obtain ⟨s,f1,f2,_⟩:=factFmt u hu hu2 l { relation:=ri,values:=vs } hvl hl
  have hc':cutB (bs L) 0 1=some (bs ((L.drop 0).take (1 - 0))):=hc
  have hvs':forM (fun (i_6:Int) (box1_values:(List Int))=>(getB (bs L) (i_6:Int)).bind fun b_9=>cond (decide (b_9≠124)) ((getB (bs L) (i_6:Int)).bind fun b_12=>(app 8 box1_values ([(w64 ((w64 b_12) - 48))]:(List Int))).bind fun us_14=>some us_14) (some box1_values)) (((bs L).size:Int) - 1).toNat 1 []=some vs:=by rw [hk];exact hvs
  rw [hc',Option.bind_some,Option.bind_some,relIx_eq,hri,Option.bind_some,Option.bind_some,gN_ok (by rw [bs_size];omega),Option.bind_some,Option.bind_some,hvs',Option.bind_some,Option.bind_some,f1,f2,Option.bind_some]
  by_cases hs:s=bs L
  ·rw [decide_eq_false (fun h=>h hs)]
   exact ⟨_,rfl,rfl,hvl,fun h=>(by cases h),fun _=>⟨hne,by rw [← hs];exact f2⟩⟩
  ·rw [decide_eq_true hs]
   exact ⟨_,rfl,rfl,by simp,fun _=>rfl,fun h=>by cases h⟩
def zeroE:Edit:={ kind:=0,fact:=zeroF }
def resE (b:UInt8) (P:Fact × Bool):Edit × Bool :=
 if P.2=true then if b=43 then ({ kind:=1,fact:=P.1 },true) else if b=45 then ({ kind:=2,fact:=P.1 },true) else if b=33 then ({ kind:=3,fact:=P.1 },true) else (zeroE,false) else (zeroE,false)
theorem whileF_one {S R:Type} (body:S→Option (Ctl S R)) (k:Nat) (s:S):whileF body (k+1) s=(body s).bind fun c=>match c with
  | .next s'=>whileF body k s'
  | .brk s'=>some (.inl s')
  | .ret r=>some (.inr r):=rfl
theorem while_next {S R:Type} {body:S→Option (Ctl S R)} {k:Nat} {s s':S} (h:body s=some (.next s')):whileF body (k+1) s=whileF body k s':=by rw [whileF_one,h];rfl
theorem while_brk {S R:Type} {body:S→Option (Ctl S R)} {k:Nat} {s s':S} (h:body s=some (.brk s')):whileF body (k+1) s=some (.inl s'):=by rw [whileF_one,h];rfl
theorem while_ret {S R:Type} {body:S→Option (Ctl S R)} {k:Nat} {s:S} {r:R} (h:body s=some (.ret r)):whileF body (k+1) s=some (.inr r):=by rw [whileF_one,h];rfl
def ctl3 {R:Type} (c:Option R) (k:Int):Ctl Int R:=match c with
 | some r=>.ret r
 | none=>.next k
def pick3 {R:Type}:Option R→Option R→Option R→Int ⊕ R
 | some r,_,_=>.inr r
 | none,some r,_=>.inr r
 | none,none,some r=>.inr r
 | none,none,none=>.inl 4
theorem three {R:Type} (body:Int→Option (Ctl Int R)) (u:Nat) (hu:4≤u) (c1 c2 c3:Option R) (h1:body 1=some (ctl3 c1 2)) (h2:body 2=some (ctl3 c2 3)) (h3:body 3=some (ctl3 c3 4)) (h4:body 4=some (.brk 4)):whileF body u 1=some (pick3 c1 c2 c3):=by
 obtain ⟨k,rfl⟩:∃ k,u=k+1+1+1+1:=⟨u - 4,by omega⟩
 cases c1 with
 | some r=>exact while_ret h1
 | none =>
  rw [while_next h1]
  cases c2 with
  | some r=>exact while_ret h2
  | none =>
   rw [while_next h2]
   cases c3 with
   | some r=>exact while_ret h3
   | none =>
    rw [while_next h3]
    exact while_brk h4
theorem sign_i (k:Nat) (c:UInt8) (hk:(k=1∧c=43)∨(k=2∧c=45)∨(k=3∧c=33)):getB (⟨#[32,43,45,33]⟩:ByteArray) (k:Int)=some (c.toNat:Int):=by
 rcases hk with ⟨rfl,rfl⟩ | ⟨rfl,rfl⟩ | ⟨rfl,rfl⟩<;>decide +kernel
theorem sign_s (k:Nat) (c:UInt8) (hk:(k=1∧c=43)∨(k=2∧c=45)∨(k=3∧c=33)):getI ([(⟨#[43]⟩:ByteArray),(⟨#[45]⟩:ByteArray),(⟨#[33]⟩:ByteArray)]:(List ByteArray)) (w64 ((k:Int) - 1))=some (⟨#[c]⟩:ByteArray):=by
 rcases hk with ⟨rfl,rfl⟩ | ⟨rfl,rfl⟩ | ⟨rfl,rfl⟩<;>decide +kernel
theorem byte_ne (a b:UInt8):decide ((a.toNat:Int)≠(b.toNat:Int))=decide (a≠b):=by
 by_cases h:a=b
 ·subst h;simp
 ·rw [decide_eq_true h,decide_eq_true]
  intro e
  exact h (UInt8.toNat.inj (by omega))
theorem spec_FormatEdit_sign (u:Nat) (d:Database) (f:Fact) (T:List UInt8) (hT:T≠[]) (hTl:T.length≤1048576) (hF:msFormatFact u d.relations f=some (bs T)) (k:Nat) (c:UInt8) (hk:(k=1∧c=43)∨(k=2∧c=45)∨(k=3∧c=33)):msFormatEdit u d { kind:=(k:Int),fact:=f } = some (bs (c::T)):=by
 unfold msFormatEdit msl1In
 have h0:¬ bs T=(⟨#[]⟩:ByteArray):=fun e=>by
  have:=congrArg (fun x:ByteArray=>x.data.toList) e
  exact hT (by simpa [bs] using this)
 have hz:((decide (1≤(k:Int))) && (decide ((k:Int)≤3)))=true:=by
  rw [Bool.and_eq_true,decide_eq_true_eq,decide_eq_true_eq];omega
 have hc:catS (⟨#[c]⟩:ByteArray) (bs T)=some (bs (c::T)):=cat_bs [c] T (by simp only [List.length_cons,List.length_nil];omega)
 simp only [hF,Option.bind_some,decide_eq_false h0,cond_false,hz,Bool.not_true,sign_s k c hk]
 exact bind_to hc rfl
theorem bs_inj {x y:List UInt8} (h:bs x=bs y):x=y:=by
 have:=congrArg (fun x:ByteArray=>x.data.toList) h
 simpa [bs] using this
def specBody (u:Nat) (d:Database) (s:ByteArray):Int→Option (Ctl Int (Edit × Bool)):=fun (k6:Int)=>cond ((decide (k6≤3)) && (decide (s≠(⟨#[]⟩:ByteArray)))) ((cutB s 1 (s.size:Int)).bind fun ss_6=>(msParseFact u d.relations ss_6).bind fun r_8=>(cond r_8.2 ((msFormatEdit u d ({ kind:=k6,fact:=r_8.1 }:Edit)).bind fun r_13=>some (decide (r_13=s))) (some false)).bind fun (t36_10:Bool)=>cond t36_10 (some (Ctl.ret (S:=Int) (R:=Edit × Bool) (({ kind:=k6,fact:=r_8.1 }:Edit),true))) (some (.next (w64 (k6+1))))) (some (.brk k6))
theorem spec_ParseEdit_eq (u:Nat) (hu3:4≤u) (d:Database) (b:UInt8) (T:List UInt8) (hTl:T.length≤1048576) (P:Fact × Bool) (hP:msParseFact u d.relations (bs T)=some P) (hok:P.2=true→T≠[]∧msFormatFact u d.relations P.1=some (bs T)):msParseEdit u d (bs (b::T))=some (resE b P):=by
 have hne:¬ bs (b::T)=(⟨#[]⟩:ByteArray):=fun e=>by cases bs_inj (y:=[]) e
 have hcut:cutB (bs (b::T)) 1 ((bs (b::T)).size:Int)=some (bs T):=by
  have:=cutB_bs (b::T) 1 (b::T).length (by simp) (Nat.le_refl _)
  rw [bs_size]
  refine this.trans ?_
  simp
 have step:∀ (k:Nat) (c:UInt8),((k=1∧c=43)∨(k=2∧c=45)∨(k=3∧c=33)) →
   specBody u d (bs (b::T)) (k:Int)=some (ctl3 (if P.2=true∧b=c then some ((({ kind:=(k:Int),fact:=P.1 }:Edit),true):Edit × Bool) else none) ((k:Int)+1)):=fun k c hk=>by
  have hz:((decide ((k:Int)≤3)) && (decide (bs (b::T)≠(⟨#[]⟩:ByteArray))))=true:=by
   rw [Bool.and_eq_true,decide_eq_true_eq,decide_eq_true_eq];exact ⟨by omega,hne⟩
  have hw:w64 ((k:Int)+1)=(k:Int)+1:=w64_eq (by omega) (by omega)
  unfold specBody
  simp only [hz,cond_true,hcut,Option.bind_some,hP,hw]
  cases hp:P.2 with
  | false=>simp [ctl3]
  | true =>
   obtain ⟨hT,hF⟩:=hok hp
   rw [spec_FormatEdit_sign u d P.1 T hT hTl hF k c hk]
   simp only [cond_true,Option.bind_some,true_and]
   by_cases hbc:b=c
   ·subst hbc
    simp [ctl3]
   ·have:¬ bs (c::T)=bs (b::T):=fun e=>hbc (by have:=bs_inj e;simp at this;exact this.symm)
    simp [this,hbc,ctl3]
 have last:specBody u d (bs (b::T)) 4=some (.brk 4):=by
  simp [specBody]
 have h:=three (specBody u d (bs (b::T))) u hu3 (if P.2=true∧b=43 then some ((({ kind:=1,fact:=P.1 }:Edit),true):Edit × Bool) else none) (if P.2=true∧b=45 then some ((({ kind:=2,fact:=P.1 }:Edit),true):Edit × Bool) else none) (if P.2=true∧b=33 then some ((({ kind:=3,fact:=P.1 }:Edit),true):Edit × Bool) else none) (step 1 43 (by simp)) (step 2 45 (by simp)) (step 3 33 (by simp)) last
 unfold msParseEdit
 refine bind_to h ?_
 unfold resE
 cases hp:P.2 with
 | false=>simp [zeroE,zeroF,onS,pick3]
 | true =>
  simp only [true_and,if_true]
  by_cases h1:b=43
  ·subst h1;simp [onS,pick3]
  ·by_cases h2:b=45
   ·subst h2;simp [onS,pick3]
   ·by_cases h3:b=33
    ·subst h3;simp [onS,pick3]
    ·simp [h1,h2,h3,zeroE,zeroF,onS,pick3]
def implBody (d:Database) (s:ByteArray):Int→Option (Ctl Int (Edit × Bool)):=fun (kind6:Int)=>cond ((decide (kind6≤3)) && (decide (s≠(⟨#[]⟩:ByteArray)))) ((getB s 0).bind fun b_6=>(getB (⟨#[32,43,45,33]⟩:ByteArray) kind6).bind fun b_8=>cond (decide (b_6≠b_8)) (some (Ctl.next (S:=Int) (R:=Edit × Bool) (w64 (kind6+1)))) ((cutB s 1 (s.size:Int)).bind fun ss_11=>(miParseFact d.relations ss_11).bind fun r_13=>cond (!r_13.2) (some (.ret (({ kind:=0,fact:=({ relation:=0,values:=([]:(List Int)) }:Fact) }:Edit),false))) (some (.ret (({ kind:=kind6,fact:=r_13.1 }:Edit),true))))) (some (.brk kind6))
theorem impl_ParseEdit_eq (u:Nat) (hu3:4≤u) (d:Database) (b:UInt8) (T:List UInt8) (hTl:T.length≤1048576) (P:Fact × Bool) (hP:miParseFact d.relations (bs T)=some P):miParseEdit u d (bs (b::T))=some (resE b P):=by
 have hne:¬ bs (b::T)=(⟨#[]⟩:ByteArray):=fun e=>by cases bs_inj (y:=[]) e
 have hcut:cutB (bs (b::T)) 1 ((bs (b::T)).size:Int)=some (bs T):=by
  have:=cutB_bs (b::T) 1 (b::T).length (by simp) (Nat.le_refl _)
  rw [bs_size]
  refine this.trans ?_
  simp
 have hb0:getB (bs (b::T)) 0=some (b.toNat:Int):=getB_bs (b::T) 0 (by simp)
 have step:∀ (k:Nat) (c:UInt8),((k=1∧c=43)∨(k=2∧c=45)∨(k=3∧c=33)) →
   implBody d (bs (b::T)) (k:Int)=some (ctl3 (if b=c then some (if P.2=true then ((({ kind:=(k:Int),fact:=P.1 }:Edit),true):Edit × Bool) else (zeroE,false)) else none) ((k:Int)+1)):=fun k c hk=>by
  have hz:((decide ((k:Int)≤3)) && (decide (bs (b::T)≠(⟨#[]⟩:ByteArray))))=true:=by
   rw [Bool.and_eq_true,decide_eq_true_eq,decide_eq_true_eq];exact ⟨by omega,hne⟩
  have hw:w64 ((k:Int)+1)=(k:Int)+1:=w64_eq (by omega) (by omega)
  unfold implBody
  simp only [hz,cond_true,hb0,Option.bind_some,sign_i k c hk,byte_ne,hcut,hP,hw]
  by_cases hbc:b=c
  ·subst hbc
   cases hp:P.2<;>simp [zeroE,zeroF,ctl3]
  ·simp [hbc,ctl3]
 have last:implBody d (bs (b::T)) 4=some (.brk 4):=by
  simp [implBody]
 have h:=three (implBody d (bs (b::T))) u hu3 (if b=43 then some (if P.2=true then ((({ kind:=1,fact:=P.1 }:Edit),true):Edit × Bool) else (zeroE,false)) else none) (if b=45 then some (if P.2=true then ((({ kind:=2,fact:=P.1 }:Edit),true):Edit × Bool) else (zeroE,false)) else none) (if b=33 then some (if P.2=true then ((({ kind:=3,fact:=P.1 }:Edit),true):Edit × Bool) else (zeroE,false)) else none) (step 1 43 (by simp)) (step 2 45 (by simp)) (step 3 33 (by simp)) last
 unfold miParseEdit
 refine bind_to h ?_
 unfold resE
 by_cases h1:b=43
 ·subst h1;cases P.2<;>simp [onS,pick3]
 ·by_cases h2:b=45
  ·subst h2;cases P.2<;>simp [onS,pick3]
  ·by_cases h3:b=33
   ·subst h3;cases P.2<;>simp [onS,pick3]
   ·cases P.2<;>simp [h1,h2,h3,zeroE,zeroF,onS,pick3]
theorem impl_ParseEdit_nil (u:Nat) (hu:1≤u) (d:Database):miParseEdit u d (⟨#[]⟩:ByteArray)=some (zeroE,false):=by
 obtain ⟨k,rfl⟩:∃ k,u=k+1:=⟨u - 1,by omega⟩
 unfold miParseEdit
 exact bind_to (while_brk (s':=1) (by simp)) rfl
theorem spec_ParseEdit_nil (u:Nat) (hu:1≤u) (d:Database):msParseEdit u d (⟨#[]⟩:ByteArray)=some (zeroE,false):=by
 obtain ⟨k,rfl⟩:∃ k,u=k+1:=⟨u - 1,by omega⟩
 unfold msParseEdit
 exact bind_to (while_brk (s':=1) (by simp)) rfl
end Go.Proofs.YtaadmoaanhdboaaGreatDoor
set_option linter.unusedVariables false
set_option linter.unusedSimpArgs false
namespace Go.Proofs.YtaadmoaanhdboaaGreatDoor
open Go Go.Proofs Go.Sep
theorem validRelation_size {r:Relation} (h:miIsValidRelation r=some true):r.name.size=1:=by
 unfold miIsValidRelation at h
 obtain ⟨t,h1,h2⟩:=bind_inv h
 have h2:t=true:=by simpa using h2
 subst h2
 by_cases hs:(r.name.size:Int)=1
 ·omega
 ·rw [cond_F' (by simpa using hs)] at h1;simp at h1
theorem validRelations_asc {l:List Relation} (h:miAreValidRelations l=some true):∀ (j:Nat) r,l[j]?=some r→r.name.size=1∧(0<j→∀ v,l[j - 1]?=some v→ltS v.name r.name=true):=by
 unfold miAreValidRelations at h
 obtain ⟨o,h1,h2⟩:=forL_ok (xs:=l) (s:=()) (f:=fun (t_1:Int) (x_t_1:Relation) (_:Unit)=>((miIsValidRelation x_t_1).bind fun r_5=>cond (!r_5) (some true) (cond (decide (0<(t_1:Int))) ((getI l ((t_1:Int) - 1)).bind fun v_9=>some (!ltS v_9.name x_t_1.name)) (some false))).bind fun (t29_3:Bool)=>cond t29_3 (some (.ret false)) (some (.next ())))
  (fun n _=>∀ (j:Nat) r,j<n→l[j]?=some r→r.name.size=1∧(0<j→∀ v,l[j - 1]?=some v→ltS v.name r.name=true)) (fun _=>False) (fun (r:Bool)=>r=false) (fun j r hj=>by omega) fun n x s hx hI=>by
   obtain ⟨b,hb⟩:=validRelation_tot x
   have hn:n<l.length:=(List.getElem?_eq_some_iff.1 hx).1
   rw [hb,Option.bind_some]
   cases b with
   | false=>exact ⟨_,rfl,rfl⟩
   | true =>
    by_cases h0:0<n
    ·have e:(n:Int) - 1=((n - 1:Nat):Int):=by omega
     have hg:l[n - 1]?=some l[n - 1]:=List.getElem?_eq_getElem (by omega)
     rw [cond_nt,cond_T' (by simpa using h0),e,getI_nat,hg,Option.bind_some,Option.bind_some]
     cases ht:ltS l[n - 1].name x.name with
     | false=>exact ⟨_,rfl,rfl⟩
     | true =>
      refine ⟨_,rfl,fun j r hj hr=>?_⟩
      by_cases e:j=n
      ·subst e;rw [hx] at hr;cases hr
       exact ⟨validRelation_size hb,fun _ v hv=>by rw [hg] at hv;cases hv;exact ht⟩
      ·exact hI j r (by omega) hr
    ·rw [cond_nt,cond_F' (by simpa using h0),Option.bind_some]
     refine ⟨_,rfl,fun j r hj hr=>?_⟩
     by_cases e:j=n
     ·subst e;rw [hx] at hr;cases hr
      exact ⟨validRelation_size hb,fun h=>absurd h h0⟩
     ·exact hI j r (by omega) hr
 rw [h1,Option.bind_some] at h
 cases o with
 | inl s=>exact fun j r hr=>(h2.resolve_right id) j r (List.getElem?_eq_some_iff.1 hr).1 hr
 | inr r =>
  simp only [SumP] at h2
  subst h2;simp [onS] at h
theorem name_one {s:ByteArray} (h:s.size=1):∃ c,s=bs [c]:=by
 have e:s=bs s.data.toList:=(bs_eta s).symm
 have hl:s.data.toList.length=1:=by rw [← bs_size,bs_eta];exact h
 match hd:s.data.toList,hl with
 | [c],_=>exact ⟨c,by rw [e,hd]⟩
theorem ltS_one (a b:UInt8) (h:ltS (bs [a]) (bs [b])=true):a<b:=by
 unfold ltS at h
 have e:∀ c:UInt8,(bs [c]).toList=[c]:=fun c=>by
  show ByteArray.toList _=_
  simp [ByteArray.toList,ByteArray.toList.loop,bs,ByteArray.size,ByteArray.get!]
 rw [e,e] at h
 by_cases hab:a<b
 ·exact hab
 ·simp [Op.bytesLess,hab] at h
theorem name_lt {l:List Relation} (h:miAreValidRelations l=some true):∀ (d i:Nat) a b r v,l[i]?=some r→l[i+d+1]?=some v→r.name=bs [a]→v.name=bs [b]→a<b
 | 0,i,a,b,r,v,h1,h2,h3,h4=>by
  have:=(validRelations_asc h (i+1) v h2).2 (by omega) r (by simpa using h1)
  rw [h3,h4] at this
  exact ltS_one a b this
 | d+1,i,a,b,r,v,h1,h2,h3,h4=>by
  have hlt:i+1<l.length:=by have:=(List.getElem?_eq_some_iff.1 h2).1;omega
  have hg:l[i+1]?=some l[i+1]:=List.getElem?_eq_getElem hlt
  obtain ⟨c,hc⟩:=name_one (validRelations_asc h (i+1) _ hg).1
  have h5:=name_lt h 0 i a c r _ h1 hg h3 hc
  have h6:=name_lt h d (i+1) c b _ v hg (by rw [show i+1+d+1=i+(d+1)+1 by omega];exact h2) hc h4
  exact UInt8.lt_trans h5 h6
theorem relIx_val {l:List Relation} (h:miAreValidRelations l=some true) {n:Nat} {r:Relation} (hr:l[n]?=some r):msRelationIndex l r.name=some (n:Int):=by
 unfold msRelationIndex
 obtain ⟨o,h1,h2⟩:=forL_ok (xs:=l) (s:=()) (f:=fun (i_1:Int) (x_i_1:Relation) (_:Unit)=>cond (decide (x_i_1.name=r.name)) (some (.ret (i_1:Int))) (some (.next ())))
  (fun k _=>k≤n) (fun _=>False) (fun (z:Int)=>z=n) (Nat.zero_le _) fun k x s hx hk=>by
   by_cases e:k=n
   ·subst e;rw [hr] at hx;cases hx
    rw [decide_eq_true rfl]
    exact ⟨_,rfl,rfl⟩
   ·have hlt:k<n:=by omega
    obtain ⟨a,ha⟩:=name_one (validRelations_asc h k x hx).1
    obtain ⟨b,hb⟩:=name_one (validRelations_asc h n r hr).1
    have hab:=name_lt h (n - k - 1) k a b x r hx (by rw [show k+(n - k - 1)+1=n by omega];exact hr) ha hb
    have hne:¬ x.name=r.name:=fun e=>by
     rw [ha,hb] at e
     have:=bs_inj e
     simp at this
     subst this
     exact absurd hab (UInt8.lt_irrefl a)
    rw [decide_eq_false hne]
    exact ⟨_,rfl,hlt⟩
 rw [h1,Option.bind_some]
 cases o with
 | inl s =>
  have:=h2.resolve_right id
  have:=(List.getElem?_eq_some_iff.1 hr).1
  omega
 | inr z =>
  simp only [SumP] at h2
  subst h2;rfl
def pv (L:List UInt8):List Int:=(L.filter fun c=>decide (c≠124)).map fun c=>(c.toNat:Int) - 48
theorem parse_pv (L:List UInt8) (hL:L.length≤1048576):∀ (k i:Nat) (vs:List Int),i+k=L.length→vs.length+k≤1048576 →
  forM (fun (i_6:Int) (box1_values:(List Int))=>(getB (bs L) (i_6:Int)).bind fun b_9=>cond (decide (b_9≠124)) ((getB (bs L) (i_6:Int)).bind fun b_12=>(app 8 box1_values ([(w64 ((w64 b_12) - 48))]:(List Int))).bind fun us_14=>some us_14) (some box1_values)) k (i:Int) vs=some (vs++pv (L.drop i))
 | 0,i,vs,hk,h=>by
  have:i=L.length:=by omega
  subst this
  simp [Go.Sep.forM,pv]
 | k+1,i,vs,hk,h=>by
  have hi:i<L.length:=by omega
  unfold Go.Sep.forM
  have hlt:(L[i]).toNat<256:=(L[i]).toNat_lt
  rw [getB_bs L i hi,Option.bind_some]
  have e:((i:Int)+1)=((i+1:Nat):Int):=by omega
  have hd:L.drop i=L[i]::L.drop (i+1):=List.drop_eq_getElem_cons hi
  have hdec:decide ((((L[i]).toNat:Int))≠124)=decide (L[i]≠124):=byte_ne L[i] 124
  rw [hd,hdec]
  by_cases hc:L[i]=124
  ·rw [decide_eq_false (fun h=>h hc),cond_false,Option.bind_some,e,parse_pv L hL k (i+1) _ (by omega) (by omega)]
   have e2:pv (L[i]::L.drop (i+1))=pv (L.drop (i+1)):=by
    unfold pv
    rw [List.filter_cons_of_neg (by simpa using hc)]
   rw [e2]
  ·rw [decide_eq_true hc,cond_true,Option.bind_some,w64_id (x:=((L[i]).toNat:Int)) (by omega),w64_id (by omega),app_ok (by simp only [List.length_cons,List.length_nil];omega),Option.bind_some,Option.bind_some,e,parse_pv L hL k (i+1) _ (by omega) (by simp only [List.length_append,List.length_cons,List.length_nil];omega)]
   have e2:pv (L[i]::L.drop (i+1))=(((L[i]).toNat:Int) - 48)::pv (L.drop (i+1)):=by
    unfold pv
    rw [List.filter_cons_of_pos (by simpa using hc)];rfl
   rw [e2,List.append_assoc];rfl
theorem itoa_digit (v:Int) (h:0≤v∧v≤9):Go.Lib.itoa v=[UInt8.ofNat (48+v.toNat)]:=by
 unfold Go.Lib.itoa
 rw [if_neg (by omega),Go.Lib.decDigits,dif_pos (by omega)]
theorem pv_app (x y:List UInt8):pv (x++y)=pv x++pv y:=by simp [pv]
theorem pv_itoa (v:Int) (h:0≤v∧v≤9):pv (Go.Lib.itoa v)=[v]:=by
 rw [itoa_digit v h]
 obtain ⟨m,rfl⟩:=Int.eq_ofNat_of_zero_le h.1
 have hm:m≤9:=by omega
 rw [Int.toNat_natCast]
 have e:(UInt8.ofNat (48+m)).toNat=48+m:=by rw [UInt8.toNat_ofNat'];omega
 have hne:UInt8.ofNat (48+m)≠124:=fun h=>by
  have:=congrArg UInt8.toNat h
  rw [e] at this
  have h2:(124:UInt8).toNat=124:=rfl
  omega
 simp only [pv,List.filter_cons,List.filter_nil,hne,ne_eq,not_false_eq_true,decide_true,if_true,List.map_cons,List.map_nil,e]
 congr 1
 omega
theorem pv_brs (k:Nat):∀ (vs:List Int) (i:Nat),(∀ v∈vs,0≤v∧v≤9)→pv (brs k i vs)=vs
 | [],_,_=>rfl
 | v::vs,i,h=>by
  unfold brs
  rw [pv_app,pv_app,pv_itoa v (h v (List.mem_cons_self ..)),pv_brs k vs (i+1) fun x hx=>h x (List.mem_cons_of_mem _ hx)]
  split<;>simp [pv]
theorem fmt_val (u:Nat) (hu:∀ n:Int,-9223372036854775808≤n→n≤9223372036854775807→msFormatInt u n=some (itoaB n)) (hu2:1048576<u) {l:List Relation} {f:Fact} (hbl:miAreValidRelations l=some true) {n:Nat} {r:Relation} (hr:f.relation=n) (hln:l[n]?=some r) (ha:(f.values.length:Int)=r.arity) (hvs:∀ v∈f.values,0≤v∧v≤9) (hname:r.name.size≤1048576) :
  ∃ k:Nat,msFormatFact u l f=some (bs (r.name.data.toList++brs k 0 f.values))∧f.values.length≤3:=by
 have hF:FactOK l f:=⟨n,r,hr,hln,ha,hvs⟩
 obtain ⟨k0,k1,a0,a1⟩:=validRelations_ok hbl r (List.mem_of_getElem? hln)
 have hlen:f.values.length≤3:=by omega
 obtain ⟨b',h3,h4⟩:=spec_isFact_eq u l f (by omega) (by omega)
 have hb:b'=true:=h4.2 ⟨hbl,hF⟩
 have h64:∀ v∈f.values,I64 v:=fun v hv=>by have:=hvs v hv;unfold I64;omega
 obtain ⟨k,hk⟩:∃ k:Nat,r.keyLength=k:=⟨r.keyLength.toNat,by omega⟩
 have hbr:=brs_len k f.values 0 h64
 have hnl:r.name.data.toList.length≤1048576:=by rw [← bs_size,bs_eta];exact hname
 have hget:getI l f.relation=some r:=by rw [hr,getI_nat];exact hln
 refine ⟨k,?_,hlen⟩
 unfold msFormatFact
 rw [h3,hb,Option.bind_some,cond_nt,hget,Option.bind_some,hk]
 have e:=spec_bars u hu f.values hlen h64 k f.values.length u 0 r.name.data.toList (by omega) (by omega) (by rw [List.drop_zero];omega)
 rw [List.drop_zero,bs_eta] at e
 exact bind_to e rfl
theorem fmt_not (u:Nat) {l:List Relation} {f:Fact} (hu2:1048576<u) (hf:f.values.length≤1048576) (h:¬ (miAreValidRelations l=some true∧FactOK l f)):msFormatFact u l f=some (⟨#[]⟩:ByteArray):=by
 obtain ⟨b',h3,h4⟩:=spec_isFact_eq u l f (by omega) hf
 have hb:b'=false:=by
  cases b' with
  | false=>rfl
  | true=>exact (h (h4.1 rfl)).elim
 unfold msFormatFact
 rw [h3,hb];rfl
theorem parse_fmt (u:Nat) (hu:∀ n:Int,-9223372036854775808≤n→n≤9223372036854775807→msFormatInt u n=some (itoaB n)) (hu2:1048576<u) {l:List Relation} {f:Fact} (hl:∀ r∈l,r.name.size≤1048576) (h:miAreValidRelations l=some true∧FactOK l f) :
  ∃ L:List UInt8,L≠[]∧L.length≤100∧msFormatFact u l f=some (bs L)∧miParseFact l (bs L)=some (f,true):=by
 obtain ⟨hbl,n,r,hr,hln,ha,hvs⟩:=h
 obtain ⟨k,hF,hlen⟩:=fmt_val u hu hu2 hbl hr hln ha hvs (hl r (List.mem_of_getElem? hln))
 obtain ⟨c,hc⟩:=name_one (validRelations_asc hbl n r hln).1
 have h64:∀ v∈f.values,I64 v:=fun v hv=>by have:=hvs v hv;unfold I64;omega
 have hbr:=brs_len k f.values 0 h64
 have hcl:r.name.data.toList=[c]:=by rw [hc];simp [bs]
 rw [hcl] at hF
 have hL:([c]++brs k 0 f.values).length≤100:=by simp only [List.length_append,List.length_cons,List.length_nil];omega
 refine ⟨[c]++brs k 0 f.values,by simp,hL,hF,?_⟩
 obtain ⟨s,f1,f2,_⟩:=factFmt u hu hu2 l f (by omega) hl
 rw [hF] at f2
 have hs:bs ([c]++brs k 0 f.values)=s:=Option.some.inj f2
 have h0:¬ bs ([c]++brs k 0 f.values)=(⟨#[]⟩:ByteArray):=fun e=>by have:=bs_inj (y:=[]) e;simp at this
 have hcut:cutB (bs ([c]++brs k 0 f.values)) 0 1=some r.name:=by
  have:=cutB_bs ([c]++brs k 0 f.values) 0 1 (by omega) (by simp)
  refine this.trans ?_
  rw [hc];simp
 have hv:=parse_pv ([c]++brs k 0 f.values) (by omega) (([c]++brs k 0 f.values).length - 1) 1 [] (by simp only [List.length_append,List.length_cons,List.length_nil];omega) (by simp only [List.length_nil];omega)
 have hk:(((bs ([c]++brs k 0 f.values)).size:Int) - 1).toNat=([c]++brs k 0 f.values).length - 1:=by rw [bs_size];omega
 have hpv:pv (([c]++brs k 0 f.values).drop 1)=f.values:=by
  show pv (brs k 0 f.values)=_
  exact pv_brs k f.values 0 hvs
 rw [hpv,List.nil_append] at hv
 unfold miParseFact
 rw [decide_eq_false h0,cond_false,hcut,Option.bind_some,relIx_eq,relIx_val hbl hln,Option.bind_some,gN_ok (by rw [bs_size];omega),Option.bind_some,hk]
 refine bind_to hv ?_
 have hfe:({ relation:=(n:Int),values:=f.values }:Fact)=f:=by rw [← hr]
 rw [hfe,f1,Option.bind_some,decide_eq_false (fun h=>h hs.symm)]
 rfl
end Go.Proofs.YtaadmoaanhdboaaGreatDoor
set_option linter.unusedVariables false
set_option linter.unusedSimpArgs false
namespace Go.Proofs.YtaadmoaanhdboaaGreatDoor
open Go Go.Proofs Go.Sep
theorem strOf_size (zs:List Int):(strOf zs).size=zs.length:=by
 have key:∀ (zs:List Int) (r:ByteArray),(zs.foldl (fun r n=>r.push (UInt8.ofNat n.toNat)) r).size=r.size+zs.length:=by
  intro zs
  induction zs with
  | nil=>intro r;rfl
  | cons z zs ih =>
   intro r
   rw [List.foldl_cons,ih,ByteArray.size_push,List.length_cons];omega
 unfold strOf
 rw [key]
 show 0+_=_
 omega
theorem cutB_ok {s:ByteArray} {lo hi:Int} (h0:0≤lo) (h1:lo≤hi) (h2:hi≤(s.size:Int)):Ok (cutB s lo hi) fun t=>t.size≤s.size:=by
 unfold cutB
 rw [if_pos ⟨h0,h1,h2⟩]
 refine .ret ?_
 rw [ByteArray.size_extract]
 omega
theorem catS_Ok {x y:ByteArray} (h:x.size+y.size≤9223372036854775807):Ok (catS x y) fun t=>t.size=x.size+y.size:=⟨x++y,catS_ok h,ByteArray.size_append ..⟩
theorem getB_ok {s:ByteArray} {i:Int} (h0:0≤i) (h1:i<(s.size:Int)):Ok (getB s i) fun _=>True:=by
 unfold getB
 rw [if_pos h0,getElem?_pos s i.toNat (by omega)]
 exact ⟨_,rfl,trivial⟩
theorem l1Text_ok {u:Nat} (hu:1048577<u) {c:l1Cur} (hc:CurOK c):Ok (msl1Text u c 3) fun r=>CurOK r.2∧r.1.size≤1000:=by
 unfold msl1Text
 refine .bind (l1Below_ok hc 4) fun r1 h1=>.bind (l1Below_ok h1.1 _) fun r3 h3=>?_
 have hn:r3.1≤4:=by
  have e:w64 (3+1)=4:=by rw [w64_id (by omega)];rfl
  rw [e] at h3
  have:=h3.2.2.1 (by omega)
  omega
 refine .while (fun (s:List Int × Int × l1Cur)=>CurOK s.2.2∧0≤s.2.1∧(s.1.length:Int)+s.2.1≤4) (fun (s:List Int × Int × l1Cur)=>s.2.1.toNat) (fun (s:List Int × Int × l1Cur)=>CurOK s.2.2∧s.1.length≤4) (fun _=>False) (by simp only;omega) ⟨h3.1,h3.2.1,by simp only [List.length_nil];omega⟩ (fun ⟨out,n,c2⟩ ⟨g1,g2,g3⟩=>?_) (fun ⟨out,n,c2⟩ h=>?_) (fun _ h=>h.elim)
 ·simp only at g1 g2 g3 ⊢
  refine .cond (fun h=>?_) fun h=>.brk ⟨g1,by simp only;omega⟩
  have hn:0<n:=by simpa using h
  have key:∀ (z:Int) (b:l1Cur),CurOK b→Ok ((app 1 out ([z]:(List Int))).bind fun us=>some (Ctl.next (R:=ByteArray) (us,(w64 (n - 1)),b))) (CtlP (fun (s:List Int × Int × l1Cur)=>(CurOK s.2.2∧0≤s.2.1∧(s.1.length:Int)+s.2.1≤4)∧s.2.1.toNat<n.toNat) (fun (s:List Int × Int × l1Cur)=>CurOK s.2.2∧s.1.length≤4) (fun _=>False)):=fun z b hb=>by
   refine .app (by simp only [List.length_cons,List.length_nil];omega) (.next ⟨⟨hb,?_,?_⟩,?_⟩)
   ·simp only;rw [w64_id (by omega)];omega
   ·simp only;rw [w64_id (by omega),List.length_append];simp only [List.length_cons,List.length_nil];omega
   ·simp only;rw [w64_id (by omega)];omega
  refine .bind (l1Byte_ok g1) fun r7 h7=>.cond (fun _=>.cond (fun _=>key _ _ h7.2.2) fun _=>key _ _ h7.2.2) fun _=>.cond (fun _=>key _ _ h7.2.2) fun _=>key _ _ h7.2.2
 ·simp only at h ⊢
  exact .ret ⟨h.1,by simp only;rw [strOf_size];omega⟩
theorem l1Spoil_ok {u:Nat} (hu:1048577<u) {c:l1Cur} (hc:CurOK c) {s:ByteArray} (hs:s.size≤1000):Ok (msl1Spoil u c s) fun r=>CurOK r.2∧r.1.size≤3000:=by
 unfold msl1Spoil
 refine .cond (fun h=>.bind (l1Text_ok hu hc) fun r hr=>.ret ⟨hr.1,by simp only;omega⟩) fun h=>?_
 have h0:(s.size:Int)≠0:=of_decide_eq_false h
 refine .bind (l1Below_ok hc _) fun r4 h4=>.bind (l1Below_ok h4.1 4) fun r6 h6=>?_
 have hp:=h4.2.2.1 (by omega)
 have hw:w64 (r4.1+1)=r4.1+1:=w64_id (by omega)
 rw [hw]
 refine .cond (fun _=>.bind (cutB_ok (by omega) h4.2.1 (by omega)) fun a ha=>.bind (cutB_ok (by omega) (by omega) (by omega)) fun b hb=>.bind (catS_Ok (by omega)) fun t ht=>.ret ⟨h6.1,by simp only;omega⟩) fun _=>.cond (fun _=>?_) fun _=>.cond (fun _=>.bind (cutB_ok (by omega) h4.2.1 (by omega)) fun a ha=>.ret ⟨h6.1,by simp only;omega⟩) fun _=>?_
 ·refine .bind (cutB_ok (by omega) h4.2.1 (by omega)) fun a ha=>.bind (l1Byte_ok h6.1) fun r18 h18=>.bind (catS_Ok (by rw [strOf_size];simp only [List.length_cons,List.length_nil];omega)) fun t ht=>.bind (cutB_ok (by omega) (by omega) (by omega)) fun b hb=>?_
  rw [strOf_size] at ht
  simp only [List.length_cons,List.length_nil] at ht
  exact .bind (catS_Ok (by omega)) fun t2 ht2=>.ret ⟨h18.2.2,by simp only;omega⟩
 ·refine .bind (cutB_ok (by omega) h4.2.1 (by omega)) fun a ha=>.bind (getB_ok h4.2.1 (by omega)) fun z _=>.bind (l1Below_ok h6.1 255) fun r33 h33=>.bind (catS_Ok (by rw [strOf_size];simp only [List.length_cons,List.length_nil];omega)) fun t ht=>.bind (cutB_ok (by omega) (by omega) (by omega)) fun b hb=>?_
  rw [strOf_size] at ht
  simp only [List.length_cons,List.length_nil] at ht
  exact .bind (catS_Ok (by omega)) fun t2 ht2=>.ret ⟨h33.1,by simp only;omega⟩
end Go.Proofs.YtaadmoaanhdboaaGreatDoor
set_option linter.unusedVariables false
set_option linter.unusedSimpArgs false
namespace Go.Proofs.YtaadmoaanhdboaaGreatDoor
open Go Go.Proofs Go.Sep
theorem l4Fact_ok {u:Nat} {c:l1Cur} (hc:CurOK c) {d:Database} (hd:DbD d) (hu:1048577<u):Ok (msl4Fact u c d) fun r=>CurOK r.2∧r.1.values.length≤4:=by
 unfold msl4Fact
 refine .bind (P:=fun r=>CurOK r.2∧(r.1=true→0<d.facts.length)) (.cond (fun h=>.bind (l1Once_ok hc 2) fun r hr=>.ret ⟨hr,fun _=>by simpa using h⟩) fun h=>.ret ⟨hc,fun h=>by cases h⟩) fun r hr=>?_
 obtain ⟨t,c'⟩:=r
 simp only at hr ⊢
 refine .cond (fun h=>?_) fun h=>?_
 ·have hp:=hr.2 h
  refine .bind (l1Below_ok hr.1 _) fun r7 h7=>.get' h7.2.1 (h7.2.2.1 (by omega)) fun n hn e=>.ret ⟨h7.1,hd.2.2.2 _ (List.getElem_mem hn)⟩
 ·refine .bind (l3Any_ok hr.1 ⟨rfl,fun x hx=>?_⟩ hu) fun r14 h14=>.ret h14
  simp only [List.mem_cons,List.not_mem_nil,or_false] at hx
  rcases hx with rfl | rfl | rfl | rfl<;>refine ⟨?_,?_,?_⟩<;>first | (show ByteArray.size _≤2;exact Nat.le_of_ble_eq_true rfl) | (simp only;omega)
end Go.Proofs.YtaadmoaanhdboaaGreatDoor
set_option linter.unusedVariables false
set_option linter.unusedSimpArgs false
namespace Go.Proofs.YtaadmoaanhdboaaGreatDoor
open Go Go.Proofs Go.Sep
theorem impl_run {u:Nat} (hu:1048577<u):∀ (l:List Edit) (i c:Int) (x:Database),DbS x→(∀ e∈l,e.fact.values.length≤1048576)→0≤c→c+(l.length:Int)≤1048576 →
  forS (fun (t_3:Int) (x_t_3:Edit) (⟨count7,box2⟩:Int × Database)=>(miApplyEdit u box2 x_t_3).bind fun r_5=>cond r_5.2 (some ((w64 (count7+1)),r_5.1)) (some (count7,box2))) l i (c,x)=some (runE u l (c,x))
 | [],i,c,x,hs,_,_,_=>rfl
 | e::l,i,c,x,hs,hl,h0,h1=>by
  obtain ⟨y,b,a1,a2,a3,a4⟩:=apply_ok hs (hl e (List.mem_cons_self ..)) hu
  simp only [List.length_cons] at h1
  have hap:apE u x e=(y,b):=by unfold apE;rw [a1];rfl
  have hstep:runE u (e::l) (c,x)=runE u l (if b=true then c+1 else c,y):=by
   show runE u l (if (apE u x e).2=true then c+1 else c,(apE u x e).1)=_
   rw [hap]
  have hc:c≤(if b=true then c+1 else c)∧(if b=true then c+1 else c)≤c+1:=by split<;>omega
  have b1:=impl_run hu l (i+1) (if b=true then c+1 else c) y a3 (fun g hg=>hl g (List.mem_cons_of_mem _ hg)) (by omega) (by omega)
  rw [hstep]
  simp only [forS]
  rw [a1,Option.bind_some]
  cases b with
  | true=>simp only [if_true] at b1;simp only [cond_true];rw [w64_id (by omega)];exact b1
  | false=>have e2:=a4 rfl;subst e2;exact b1
theorem impl_applyAll {u:Nat} (hu:1048577<u) {d:Database} (hs:DbS d) {l:List Edit} (hl:∀ e∈l,e.fact.values.length≤1048576) (hn:l.length≤1048576):miApplyEdits u d l=some ((runE u l (0,d)).2,(runE u l (0,d)).1):=by
 have h1:=impl_run hu l 0 0 d hs hl (by omega) (by omega)
 unfold miApplyEdits
 rw [impl_copyDatabase_eq hs,Option.bind_some,h1];rfl
theorem fmt_cases (u:Nat) (hu:∀ n:Int,-9223372036854775808≤n→n≤9223372036854775807→msFormatInt u n=some (itoaB n)) (hu2:1048577<u) {d:Database} (hs:DbS d) {e:Edit} (he:e.fact.values.length≤1048576) :
  msFormatEdit u d e=some (⟨#[]⟩:ByteArray)∨∃ (c:UInt8) (L:List UInt8),L.length≤100∧msFormatEdit u d e=some (bs (c::L))∧miParseEdit u d (bs (c::L))=some (e,true):=by
 by_cases h:miAreValidRelations d.relations=some true∧FactOK d.relations e.fact
 ·obtain ⟨L,h1,h2,h3,h4⟩:=parse_fmt u hu (by omega) hs.2.2.1 h
  have h0:¬ bs L=(⟨#[]⟩:ByteArray):=fun e=>h1 (bs_inj (y:=[]) e)
  by_cases hk:1≤e.kind∧e.kind≤3
  ·right
   have key:∀ (k:Nat) (c:UInt8),((k=1∧c=43)∨(k=2∧c=45)∨(k=3∧c=33))→e.kind=(k:Int)→∃ (c:UInt8) (L:List UInt8),L.length≤100∧msFormatEdit u d e=some (bs (c::L))∧miParseEdit u d (bs (c::L))=some (e,true):=fun k c hkc hek=>by
    have hee:({ kind:=(k:Int),fact:=e.fact }:Edit)=e:=by rw [← hek]
    have g1:=spec_FormatEdit_sign u d e.fact L h1 (by omega) h3 k c hkc
    rw [hee] at g1
    refine ⟨c,L,h2,g1,?_⟩
    rw [impl_ParseEdit_eq u (by omega) d c L (by omega) (e.fact,true) h4]
    unfold resE
    rcases hkc with ⟨rfl,rfl⟩ | ⟨rfl,rfl⟩ | ⟨rfl,rfl⟩
    ·rw [if_pos rfl,if_pos rfl];exact congrArg (fun z=>some (z,true)) hee
    ·rw [if_pos rfl,if_neg (by decide),if_pos rfl];exact congrArg (fun z=>some (z,true)) hee
    ·rw [if_pos rfl,if_neg (by decide),if_neg (by decide),if_pos rfl];exact congrArg (fun z=>some (z,true)) hee
   have:e.kind=1∨e.kind=2∨e.kind=3:=by omega
   rcases this with h | h | h
   ·exact key 1 43 (by simp) h
   ·exact key 2 45 (by simp) h
   ·exact key 3 33 (by simp) h
  ·left
   have hz:((decide (1≤e.kind)) && (decide (e.kind≤3)))=false:=by
    rw [Bool.and_eq_false_iff,decide_eq_false_iff_not,decide_eq_false_iff_not];omega
   unfold msFormatEdit msl1In
   simp only [h3,Option.bind_some,decide_eq_false h0,cond_false,hz,Bool.not_false,cond_true]
 ·left
  have h3:=fmt_not u (f:=e.fact) (by omega) he h
  unfold msFormatEdit
  rw [h3,Option.bind_some,decide_eq_true rfl]
  rfl
theorem parse_both2 (u:Nat) (hu:∀ n:Int,-9223372036854775808≤n→n≤9223372036854775807→msFormatInt u n=some (itoaB n)) (hu2:1048577<u) (d:Database) (hd:DbS d) (s:ByteArray) (hs:s.size≤1048576):∃ r,miParseEdit u d s=some r∧msParseEdit u d s=some r∧(r.2=true→miFormatEdit d r.1=some s):=by
 have e:s=bs s.data.toList:=(bs_eta s).symm
 have hl:s.data.toList.length≤1048576:=by rw [← bs_size,bs_eta];exact hs
 rw [e]
 cases hL:s.data.toList with
 | nil=>exact ⟨_,impl_ParseEdit_nil u (by omega) d,spec_ParseEdit_nil u (by omega) d,fun h=>by cases h⟩
 | cons b T =>
  rw [hL] at hl
  simp only [List.length_cons] at hl
  obtain ⟨P,h1,h2,h3,h4,h5⟩:=parseFact_both u hu (by omega) d.relations hd.2.2.1 T (by omega)
  refine ⟨resE b P,impl_ParseEdit_eq u (by omega) d b T (by omega) P h1,spec_ParseEdit_eq u (by omega) d b T (by omega) P h2 h5,fun h=>?_⟩
  have key:∀ (k:Nat),((k=1∧b=43)∨(k=2∧b=45)∨(k=3∧b=33))→P.2=true→miFormatEdit d { kind:=(k:Int),fact:=P.1 } = some (bs (b::T)):=fun k hk hp=>by
   obtain ⟨hT,hF⟩:=h5 hp
   have g1:=spec_FormatEdit_sign u d P.1 T hT (by omega) hF k b hk
   obtain ⟨s2,g2,g3⟩:=editFmt u hu (by omega) d { kind:=(k:Int),fact:=P.1 } h3 hd.2.2.1
   rw [g1] at g3
   rw [g2,g3]
  unfold resE at h ⊢
  by_cases hp:P.2=true
  ·rw [if_pos hp] at h ⊢
   by_cases b1:b=43
   ·rw [if_pos b1];exact key 1 (.inl ⟨rfl,b1⟩) hp
   ·rw [if_neg b1] at h ⊢
    by_cases b2:b=45
    ·rw [if_pos b2];exact key 2 (.inr (.inl ⟨rfl,b2⟩)) hp
    ·rw [if_neg b2] at h ⊢
     by_cases b3:b=33
     ·rw [if_pos b3];exact key 3 (.inr (.inr ⟨rfl,b3⟩)) hp
     ·rw [if_neg b3] at h;cases h
  ·rw [if_neg hp] at h;cases h
theorem l30Edit_ok {u:Nat} {c:l1Cur} (hc:CurOK c) {d:Database} (hd:DbD d) (hu:1048577<u):Ok (msl30Edit u c d) fun r=>CurOK r.2∧r.1.fact.values.length≤4:=by
 unfold msl30Edit
 exact .bind (l1PickInt_ok hc _ (by simp)) fun r1 h1=>.bind (l4Fact_ok h1.1 hd hu) fun r3 h3=>.ret ⟨h3.1,h3.2⟩
theorem law_InverseEditsD (code:List Int) (hc:∀ x∈code,0≤x∧x≤255):mlFnInverseEdits 1048578 code=some true:=by
 have hF:=spec_FormatInt_eq
 have hu:(1048577:Nat)<1048578:=by omega
 generalize (1048578:Nat)=u at hF hu ⊢
 unfold mlFnInverseEdits mlbig
 refine Ok.to (.bind (Ok.of rfl) fun b hb=>?_)
 subst hb
 refine .cond (fun _=>.ret rfl) fun hbig=>?_
 have hl:code.length≤1048576:=by have:=of_decide_eq_false hbig;omega
 have d1:Ok (msDrawInverseEdits u code) fun r=>DbD r.1∧r.2.fact.values.length≤4:=by
  unfold msDrawInverseEdits msDrawApplyEdit
  exact .bind (P:=fun r:Database × Edit=>DbD r.1∧r.2.fact.values.length≤4) (.bind (l1New_ok hl hu) fun c hc=>.bind (l4Any_ok hc hu) fun r3 h3=>.bind (l30Edit_ok h3.1 h3.2 hu) fun r5 h5=>.ret ⟨h3.2,h5.2⟩) fun r hr=>.ret hr
 have d2:Ok (msDrawParseEdit u code) fun r=>DbD r.1∧r.2.size≤1048576:=by
  unfold msDrawParseEdit
  refine .bind (l1New_ok hl hu) fun c hc=>.bind (l4Any_ok hc hu) fun r3 h3=>.bind (l30Edit_ok h3.1 h3.2 hu) fun r5 h5=>?_
  have hfs:Ok (msFormatEdit u r3.1 r5.1) fun s=>s.size≤1000:=by
   rcases fmt_cases u hF hu h3.2.s (e:=r5.1) (by omega) with h | ⟨c,L,h1,h2,_⟩
   ·exact ⟨_,h,by decide⟩
   ·exact ⟨_,h2,by show (bs (c::L)).size≤1000;rw [bs_size,List.length_cons];omega⟩
  refine .bind hfs fun r7 h7=>.bind (l1Once_ok h5.1 3) fun r9 h9=>.cond (fun _=>.bind (l1Spoil_ok hu h9 h7) fun r12 h12=>.bind (l1Pick_ok h12.1 _ (by simp)) fun r14 h14=>.ret ⟨h3.2,?_⟩) fun _=>.ret ⟨h3.2,by simp only;omega⟩
  have hm:=h14.2
  have hsz:=h12.2
  simp only [List.mem_cons,List.not_mem_nil,or_false] at hm
  have h15:r14.1.size≤3000:=by
   rcases hm with h | h | h | h | h | h | h | h | h
   all_goals rw [h]
   all_goals first
    | decide
    | omega
  simp only;omega
 refine .bind d1 fun r4 h4=>?_
 obtain ⟨d,e⟩:=r4
 simp only at h4 ⊢
 have hs:=h4.1.s
 have he:e.fact.values.length≤1048576:=by omega
 obtain ⟨x,is,a1,a2,a3,a4⟩:=apply_ok hs he hu
 -- the inverse edits
 have hinv:∃ l,miInverseEdits u d e=some (l,is)∧(is=false→l=[])∧(is=true→runE u l (0,x)=((l.length:Int),d)∧l.length≤28∧∀ e∈l,e.fact.values.length≤1048576):=by
  cases is with
  | false=>exact ⟨[],by unfold miInverseEdits;rw [a1];rfl,fun _=>rfl,fun h=>by cases h⟩
  | true =>
   obtain ⟨b1,b2,b3,b4⟩:=apply_true hu hs he a1
   have n1:=efF_len 2 x.facts d.facts
   have n2:=efF_len 1 d.facts x.facts
   have:=b1.few
   have:=b2.few
   refine ⟨efF 2 x.facts d.facts++efF 1 d.facts x.facts,?_,fun h=>(by cases h),fun _=>⟨restored hu b1 hs b2 b4 b3,by rw [List.length_append];omega,fun g hg=>?_⟩⟩
   ·unfold miInverseEdits
    rw [a1,Option.bind_some]
    simp only [Bool.not_true,cond_false]
    rw [impl_editsFor_eq b4,Option.bind_some,impl_editsFor_eq hs,Option.bind_some,app_ok (by omega)];rfl
   ·rcases List.mem_append.1 hg with h | h
    ·exact b4.2.2.2 _ (efF_mem h)
    ·exact hs.2.2.2 _ (efF_mem h)
 obtain ⟨l,i1,i2,i3⟩:=hinv
 have hxx:=spec_EqualDatabases_eq (u:=u) a3 a3 hu
 refine .eq a1 (.eq a2 (.eq i1 (.bind (P:=fun t=>t=false) (.cf (by simp) (.cf (by simp) (.eq hxx (.ret (by simp))))) fun t ht=>.cf ht ?_)))
 -- texts
 obtain ⟨s,f1,f2⟩:=editFmt u hF (by omega) d e he hs.2.2.1
 have hp:∃ r,miParseEdit u d s=some r∧((decide (s≠(⟨#[]⟩:ByteArray))) != r.2)=false∧(r.2=true→r.1=e):=by
  rcases fmt_cases u hF hu hs he with h | ⟨c,L,h1,h2,h3⟩
  ·rw [f2] at h
   cases h
   exact ⟨_,impl_ParseEdit_nil u (by omega) d,by rw [decide_eq_false (fun h=>h rfl)];rfl,fun h=>by cases h⟩
  ·rw [f2] at h2
   cases h2
   exact ⟨_,h3,by rw [decide_eq_true (fun h=>by cases bs_inj (y:=[]) h)];rfl,fun _=>rfl⟩
 obtain ⟨r,p1,p2,p3⟩:=hp
 refine .eq f1 (.eq p1 (.bind d2 fun r23 h23=>?_))
 obtain ⟨d',s'⟩:=r23
 simp only at h23 ⊢
 obtain ⟨g,q1,q2,q3⟩:=parse_both2 u hF hu d' h23.1.s s' h23.2
 have tail:Ok (cond (g.2 != g.2) (some true) (cond g.2 ((miFormatEdit d' g.1).bind fun r_46=>some (decide (r_46≠s'))) (some false))) fun t=>t=false:=by
  refine .cf (by simp) (.cond (fun h=>.eq (q3 h) (.ret (by simp))) fun _=>.ret rfl)
 refine .eq q1 (.eq q2 (.bind (P:=fun t=>t=false) (.eq f2 (.cf (by simp) (.cf p2 (.cond (fun h=>?_) fun _=>tail)))) fun t ht=>.cf ht ?_))
 ·rw [p3 h]
  refine .cf (by simp) (.eq (impl_CompareFacts_eq _ _) (.cf (by rw [cmpF_self];rfl) tail))
 -- the database is restored
 cases is with
 | false =>
  have e1:=a4 rfl
  have e2:=i2 rfl
  subst e1 e2
  exact .ct rfl (.bind (P:=fun t=>t=true) (.eq hxx (.ct (by simp) (.ret (by simp)))) fun t ht=>.ret ht)
 | true =>
  obtain ⟨h1,h2,h3⟩:=i3 rfl
  have hap:=impl_applyAll hu a3 h3 (by omega)
  rw [h1] at hap
  refine .cf rfl (.eq hap (.bind (P:=fun t=>t=true) (.eq (spec_EqualDatabases_eq (u:=u) hs hs hu) (.ct (by simp) (.ret (by simp)))) fun t ht=>.ret ht))
end Go.Proofs.YtaadmoaanhdboaaGreatDoor


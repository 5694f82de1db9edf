import Derived.Test.YtaadmoaanhdboaaGreatDoorCRC
import Derived.Laws.BytesString
import Derived.Sort.Grow
import Derived.Lib.Overlaps
import Derived.Lib.AppendZerosOnto
import Derived.Laws.Externs
import Derived.Laws.CopyRow
import Derived.Lib.SlicesCompact
import Derived.Lib.ItoaNum
import Derived.Lib.Join
set_option linter.unusedVariables false
set_option linter.unusedSimpArgs false
namespace Go.Sep
open Go
theorem end_pickX {P:Program} {E:Env} {σ:Store} {rs as} {m:Nat} {r0:A} {σ0:Store} (h:ResA P E σ rs as) {r} (hr:resA as=r) (ls:List Nat) (hnd:ls.Nodup) (hml:m≤ls.length) (hid:(List.range m).all (fun i=>ls[i]? == some i)=true) (hm:m≤σ.length) (hb:boxesE σ.length σ=false)
  (hn:r.names (fun L=>decide (σ.length≤L.headD 0))=false) (hp:subS σ ls=σ0) (hsn:subNames σ ls=false) (hnm:r.names (fun L=>!inL ls L)=false) (hren:r.ren (ixOf ls)=r0):EndK P rs m (PickX m r0 σ0) .ret E σ :=
 end_own h hr σ.length hm (List.take_length ..).symm hb hn hb ⟨ls,hnd,hml,fun i hi=>by have:=List.all_eq_true.1 hid i (List.mem_range.2 hi);simpa using this,hp,hsn,hnm,hren⟩
theorem fnS_of_T {P f} {fn:Func} {c:Code} {as:List A} {r0:A} {σ σ0:Store} {rs:List ResultVar} (hf:P.funcs[f]?=some fn) (hb:fn.body=some c) (hr:fn.results=rs.toArray) (hn:as.length≤fn.ntmps)
  (h:T P fn.ntmps σ.length c (EndK P rs σ.length (PickX σ.length r0 σ0)) (entry 0 as) σ):FnS P f as σ r0 σ0:=Fn.pickX (fn_of_T hf hb hr hn h)
theorem fzN {l:Nat} {xs:List A}:FzLs l xs [] []:=trivial
theorem fzC {l:Nat} {xs:List A} {a b:A} {as bs:List A} (h:Fz1 l xs a b) (hs:FzLs l xs as bs):FzLs l xs (a::as) (b::bs):=⟨h,hs⟩
theorem Fz1.o_inv {l:Nat} {xs:List A} {a:A} {k:Nat} {ys:List A} (h:Fz1 l xs a (.o k ys)):a=.o k ys:=by
 generalize hb:A.o k ys=b at h
 cases h with
 | keep=>rfl
 | m h1 h2=>rw [← hb] at h2;simp [fzR] at h2
 | g=>cases hb
theorem fzK {l:Nat} {xs:List A}:∀ {as:List A},namesL (hd l) as=false→FzLs l xs as as
 | [],_=>trivial
 | a::as,h=>by simp only [namesL,Bool.or_eq_false_iff] at h;exact ⟨.keep h.1,fzK h.2⟩
def FzRt (l:Nat) (xs:List A):Root→Root→Prop
 | .box as,.box bs=>FzLs l xs as bs
 | .row as,.row bs=>as=bs
 | .dead,.dead=>True
 | _,_=>False
def FzS (l:Nat) (xs:List A):Store→Store→Prop
 | [],[]=>True
 | r::σ,r'::σ'=>FzRt l xs r r'∧FzS l xs σ σ'
 | _,_=>False
theorem FzS.get {l:Nat} {xs:List A}:∀ {σ σ':Store},FzS l xs σ σ'→σ'.length=σ.length∧∀ (j:Nat) r',σ'[j]?=some r'→∃ r,σ[j]?=some r∧FzRt l xs r r'
 | [],[],_=>⟨rfl,by simp⟩
 | [],_::_,h=>h.elim
 | _::_,[],h=>h.elim
 | r::σ,r1::σ',⟨h,hs⟩=>by
  obtain ⟨h1,h2⟩:=FzS.get hs
  refine ⟨by simp [h1],fun j r' hj=>?_⟩
  cases j with
  | zero=>simp at hj;subst hj;exact ⟨r,rfl,h⟩
  | succ j=>simpa using h2 j r' (by simpa using hj)
theorem sub_fz {l:Nat} {xs as bs:List A} (h:FzLs l xs as bs) {j:Nat} {p:List Nat} {zs:List A} (hz:sub bs (j::p)=some zs):sub as (j::p)=some zs:=by
 obtain ⟨h1,h2⟩:=h.get
 simp only [sub] at hz ⊢
 cases hj:bs[j]? with
 | none=>rw [hj] at hz;cases hz
 | some b =>
  have hjl:j<as.length:=by have:=(List.getElem?_eq_some_iff.1 hj).1;omega
  have h3:=h2 j _ b (List.getElem?_eq_getElem hjl) hj
  rw [hj] at hz
  cases b with
  | o k us=>rw [List.getElem?_eq_getElem hjl,h3.o_inv];exact hz
  | _=>cases hz
section
variable {F:Nat→Prop} {Λ:Lbl} {σ σ':Store} {w:World} {l:Nat} {xs:List A}
theorem rowAt_fz (hS:FzS l xs (σ.set l .dead) σ') {h0:Nat} {p:List Nat} {zs:List A} (hz:rowAt σ' (h0::p)=some zs):hd l (h0::p)=false∧isBox σ' (h0::p)=isBox σ (h0::p)∧((isBox σ (h0::p)=false∧rowAt σ (h0::p)=some zs)∨(p=[]∧∃ as,σ[h0]?=some (.box as)∧FzLs l xs as zs)):=by
 obtain ⟨_,hg⟩:=hS.get
 simp only [rowAt] at hz
 cases hr:σ'[h0]? with
 | none=>rw [hr] at hz;cases hz
 | some r' =>
  rw [hr] at hz
  obtain ⟨r,h1,h2⟩:=hg h0 r' hr
  have hne:h0≠l:=by
   rintro rfl
   have hl:h0<σ.length:=by have:=(List.getElem?_eq_some_iff.1 h1).1;simpa using this
   rw [List.getElem?_set_self hl] at h1;cases h1
   cases r'<;>first | (simp [Root.cells] at hz;done) | exact h2.elim
  rw [List.getElem?_set_ne (Ne.symm hne)] at h1
  refine ⟨by simpa [hd] using hne,?_,?_⟩
  ·cases p with
   | cons j p=>rfl
   | nil=>simp only [isBox,hr,h1];cases r<;>cases r'<;>first | rfl | exact h2.elim
  ·cases r with
   | dead=>cases r'<;>first | (simp [Root.cells] at hz;done) | exact h2.elim
   | row as =>
    cases r' with
    | row bs=>cases h2;exact .inl ⟨by cases p<;>simp [isBox,h1],by simp only [rowAt,h1];exact hz⟩
    | _=>exact h2.elim
   | box as =>
    cases r' with
    | box bs =>
     cases p with
     | nil=>simp only [Root.cells,sub,Option.some.injEq] at hz;subst hz;exact .inr ⟨rfl,as,h1,h2⟩
     | cons j p=>exact .inl ⟨rfl,by simp only [rowAt,h1,Root.cells];exact sub_fz h2 hz⟩
    | _=>exact h2.elim
theorem Cell.frzB (hs:St F Λ σ w) (hr:σ[l]?=some (.row xs)) {L:List Nat} {c:Value} {a b:A} (hL:hd l L=false) (hz:Fz1 l xs a b) (hc:Cell F Λ w true L c a):Cell (F1 F Λ l xs) (dropL l Λ) w true L c b:=by
 have hz0:=hz
 cases hz with
 | keep hn=>exact (hc.mono F1_mono (Sizes.refl w)).relabel (hd l) dropL_ok hL (fun _=>hn)
 | @m n k a0 a h1 h2 =>
  have h3:=OK.fz1 hs hr hz0 hc.2
  rw [← h2] at h3 ⊢
  exact ⟨rfl,h3⟩
 | g h1 h2=>have:=hc.1;simp [A.inBox] at this
theorem St.frzB (hs:St F Λ σ w) (hr:σ[l]?=some (.row xs)) (hS:FzS l xs (σ.set l .dead) σ'):St (F1 F Λ l xs) (dropL l Λ) σ' w where
 row L ys h:=by
  cases L with
  | nil=>simp [rowAt] at h
  | cons h0 p =>
   obtain ⟨hn,hbx,hcase⟩:=rowAt_fz hS h
   have e:dropL l Λ (h0::p)=Λ (h0::p):=by simp [dropL,hn]
   have hn':∀ j,hd l ((h0::p)++[j])=false:=fun j=>hn
   rw [e,hbx]
   rcases hcase with ⟨hb,h1⟩ | ⟨rfl,as,h1,h2⟩
   ·rcases hs.row _ _ h1 with h2 | ⟨b,o,cs,t,h2,h3,h4,h5⟩
    ·exact .inl h2
    ·refine .inr ⟨b,o,cs,t,h2,not_F1 hs hr h1 h2 hn h3,h4,fun j x hx=>?_⟩
     obtain ⟨c,h6,h7⟩:=h5 j x hx
     rw [hb] at h7 ⊢
     exact ⟨c,h6,(h7.mono F1_mono (Sizes.refl w)).relabel (hd l) dropL_ok (hn' j) (fun h=>by cases h)⟩
   ·have hb:isBox σ [h0]=true:=by simp [isBox,h1]
    have h1':rowAt σ [h0]=some as:=by simp [rowAt,h1,Root.cells,Sep.sub]
    obtain ⟨g1,g2⟩:=h2.get
    rcases hs.row _ _ h1' with ⟨h3,rfl⟩ | ⟨b,o,cs,t,h3,h4,h5,h6⟩
    ·exact .inl ⟨h3,List.eq_nil_of_length_eq_zero (by simpa using g1.symm)⟩
    ·refine .inr ⟨b,o,cs,t,h3,not_F1 hs hr h1' h3 hn h4,h5,fun j x hx=>?_⟩
     have hjl:j<as.length:=by have:=(List.getElem?_eq_some_iff.1 hx).1;omega
     obtain ⟨c,h7,h8⟩:=h6 j _ (List.getElem?_eq_getElem hjl)
     rw [hb] at h8 ⊢
     exact ⟨c,h7,Cell.frzB hs hr (hn' j) (g2 j _ x (List.getElem?_eq_getElem hjl) hx) h8⟩
 apart L ys L' ys' b o o' h1 h2 h3 h4:=by
  have key:∀ L ys,rowAt σ' L=some ys→hd l L=false∧∃ zs,rowAt σ L=some zs:=fun L ys h=>by
   cases L with
   | nil=>simp [rowAt] at h
   | cons h0 p =>
    obtain ⟨hn,_,hcase⟩:=rowAt_fz hS h
    rcases hcase with ⟨_,h1⟩ | ⟨rfl,as,h1,_⟩
    ·exact ⟨hn,_,h1⟩
    ·exact ⟨hn,as,by simp [rowAt,h1,Root.cells,Sep.sub]⟩
  obtain ⟨g1,_,g2⟩:=key _ _ h1
  obtain ⟨g3,_,g4⟩:=key _ _ h2
  simp only [dropL,g1,g3] at h3 h4
  exact hs.apart _ _ _ _ _ _ _ g2 g4 h3 h4
 old b h:=h.elim (hs.old b) fun h=>hs.owns (Own.one hs hr h)
 tab:=hs.tab.mono fun b h=>⟨.inl h,rfl⟩
 lab L h:=by
  have:=hS.get.1
  rw [this,List.length_set] at h
  simp only [dropL];split
  ·rfl
  ·exact hs.lab L h
theorem Step.frzB {m:Nat} (hs:St F Λ σ w) (hr:σ[l]?=some (.row xs)) (hm:m≤l) (hS:FzS l xs (σ.set l .dead) σ'):Step m F Λ σ w (F1 F Λ l xs) (dropL l Λ) σ' w where
 os:=⟨rfl,fun _=>by first | exact Nat.le_refl _ | exact Nat.le_succ _⟩
 tape:=rfl
 output:=rfl
 size:=Nat.le_refl _
 sizes:=Sizes.refl _
 keep _ _ _:=rfl
 mono b h:=.inl h
 new b h:=h.elim .inl fun h=>.inr (.inl (Own.one hs hr h))
 own b h:=by
  obtain ⟨L,ys,o,h1,h2⟩:=h
  cases L with
  | nil=>simp [rowAt] at h1
  | cons h0 p =>
   obtain ⟨hn,_,hcase⟩:=rowAt_fz hS h1
   simp only [dropL,hn] at h2
   rcases hcase with ⟨_,h1⟩ | ⟨rfl,as,h1,_⟩
   ·exact .inl ⟨_,_,o,h1,h2⟩
   ·exact .inl ⟨_,as,o,by simp [rowAt,h1,Root.cells,Sep.sub],h2⟩
 len:=by rw [hS.get.1,List.length_set];exact Nat.min_le_right _ _
 boxes l' ys h1 h2:=by
  have hne:l≠l':=fun e=>by omega
  refine ⟨by simp [dropL,hd];omega,?_⟩
  have hlt:l'<σ'.length:=by rw [hS.get.1,List.length_set];exact (List.getElem?_eq_some_iff.1 h2).1
  obtain ⟨r,k1,k2⟩:=hS.get.2 l' _ (List.getElem?_eq_getElem hlt)
  rw [List.getElem?_set_ne hne,h2] at k1;cases k1
  cases hc:σ'[l'] with
  | box us=>exact ⟨us,by rw [List.getElem?_eq_getElem hlt,hc]⟩
  | _=>rw [hc] at k2;exact k2.elim
 kept L b o h1 h2:=by
  cases L with
  | nil=>simp [dropL,hd,h2]
  | cons h p=>simp only [List.headD_cons] at h1;simp [dropL,hd,h2];omega
end
section
variable {P:Program} {n m:Nat} {K:Exit→Env→Store→Prop} {N:Env→Store→Prop} {E:Env} {σ σ' κ:Store} {ops:Array Oper} {os:List Oper} {fuel:Nat} {listed:Array Bool}
theorem T_frzB (l:Nat) {c:Code} {xs:List A} {E':Env} (hr:σ[l]?=some (.row xs)) (hm:m≤l) (hE:FzE l xs E E') (hS:FzS l xs (σ.set l .dead) σ') (h:T P n m c K E' σ'):T P n m c K E σ:=fun F Λ w tmps Q hn hs hf hq =>
 h _ _ w tmps Q hn (hs.frzB hr hS) (hE.fr hs hr hf) fun e F' Λ' σ' w' tmps' E' hn' hs' hf' hst hN=>hq e F' Λ' σ' w' tmps' E' hn' hs' hf' ((Step.frzB hs hr hm hS).trans hst) hN
theorem TA_frzB (l:Nat) {xs:List A} {E':Env} (hr:σ[l]?=some (.row xs)) (hm:m≤l) (hE:FzE l xs E E') (hS:FzS l xs (σ.set l .dead) σ') (h:TA P n m κ ops fuel listed N E' σ'):TA P n m κ ops fuel listed N E σ :=
 TA_ghost (fun F Λ w tmps hs hf=>⟨_,_,hs.frzB hr hS,hE.fr hs hr hf,Step.frzB hs hr hm hS⟩) h
end
theorem fz1C {α:Type} {T:Ty α} {l:Nat} {xs ys:List α} {i j:Nat} (hij:i≤j) (hj:j≤xs.length) (hy:ys=(xs.take j).drop i):Fz1 l (flat T.enc xs) (.m [l] (i*T.k) (j - i) T.k) (sl T ys):=by
 subst hy
 have hlen:=flat_len T.len xs
 have e:((flat T.enc xs).drop (i*T.k)).take ((j - i)*T.k)=flat T.enc ((xs.take j).drop i):=by
  rw [flat_drop T.len,flat_take T.len,List.drop_take,Nat.sub_mul]
 have hr:rowAt [.row (flat T.enc xs)] [0]=some (flat T.enc xs):=rfl
 refine .m ⟨T.pos,_,hr,?_,?_⟩ ?_
 ·rw [hlen,← Nat.add_mul,Nat.add_sub_of_le hij];exact Nat.mul_le_mul_right _ hj
 ·rw [e];exact flat_firm T _
 ·simp only [fzR,hr,Option.getD_some]
  rw [e,flat_fz T.fz]
def bitI (op:BinOp) (k:IntKind) (a b:Int):Int:=match op with
 | .and=>k.wrap ((BitVec.ofInt k.bits a &&& BitVec.ofInt k.bits b).toNat:Int)
 | .or=>k.wrap ((BitVec.ofInt k.bits a ||| BitVec.ofInt k.bits b).toNat:Int)
 | .xor=>k.wrap ((BitVec.ofInt k.bits a ^^^ BitVec.ofInt k.bits b).toNat:Int)
 | _=>0
def shrI (k:IntKind) (a b:Int):Int:=a.fdiv (2 ^ (min b.toNat k.bits))
section
variable {P:Program} {o:Oper} {E:Env} {σ:Store}
theorem pur_and {t x y t' k} {a b:Int} (h:o.op=.binOp .and t x y t') (hx:val E x=.v (.int k a)) (hy:val E y=.v (.int k b)):Pur P o E σ (.v (.int k (bitI .and k a b))) :=
 pur_bin h hx hy fun w=>by simp [eqGuard_int,binOp,Op.intBits,bitI]
theorem pur_xor {t x y t' k} {a b:Int} (h:o.op=.binOp .xor t x y t') (hx:val E x=.v (.int k a)) (hy:val E y=.v (.int k b)):Pur P o E σ (.v (.int k (bitI .xor k a b))) :=
 pur_bin h hx hy fun w=>by simp [eqGuard_int,binOp,Op.intBits,bitI]
theorem pur_shr {t x y t' k k'} {a b:Int} (h:o.op=.binOp .shr t x y t') (hx:val E x=.v (.int k a)) (hy:val E y=.v (.int k' b)) (h0:0≤b):Pur P o E σ (.v (.int k (shrI k a b))) :=
 pur_bin h hx hy fun w=>by simp [eqGuard_int,binOp,Op.shift,shrI,Int.not_lt.2 h0]
theorem pur_nil_b {x:Operand} {l a:Nat} (hx:val E x=.b l a) (h:o.op=.nilCheck x):Pur P o E σ (.b l a):=fun F Λ w tmps _ hf=>by
 have e1:=val_ok (ds:=[]) hf x
 rw [hx] at e1
 obtain ⟨b,o',hL,h2⟩:=e1.b_inv
 exact ⟨_,.b hL,fun w' _=>by simp only [execOp,h,h2];rfl⟩
end
theorem LeA.o_inv {x:A} {k:Nat} {ys:List A} (h:LeA x (.o k ys)):x=.o k ys:=by
 cases x with
 | n=>rcases h with h | ⟨k,h⟩ | ⟨L,a,k,h⟩<;>cases h
 | g xs=>obtain ⟨ys,h,_⟩:=h;cases h
 | t xs=>obtain ⟨ys,h,_⟩:=h;cases h
 | _=>first | (cases h;rfl) | cases h
theorem Cell.le {F:Nat→Prop} {Λ:Lbl} {w:World} {L:List Nat} {c:Value} {x y:A} (h:LeA x y) (hc:Cell F Λ w true L c x):Cell F Λ w true L c y:=by
 rcases hc.box with rfl | ⟨k,ys,rfl⟩ | ⟨h1,h2⟩
 ·cases h;exact hc
 ·cases h;exact hc
 ·have h3:=h2.le h
  cases x with
  | n=>rcases h with rfl | ⟨k,rfl⟩ | ⟨L,a,k,rfl⟩<;>exact ⟨rfl,h3⟩
  | j=>simp [A.inBox] at h1
  | o k ys=>simp [A.inBox] at h1
  | g xs=>simp [A.inBox] at h1
  | t xs=>simp [A.inBox] at h1
  | _=>cases h;exact hc
theorem rowAt_boxle {σ:Store} {l:Nat} {xs ys:List A} (hr:σ[l]?=some (.box xs)) (hl:LeL xs ys) {h0:Nat} {p:List Nat} {zs:List A} (hz:rowAt (σ.set l (.box ys)) (h0::p)=some zs):(h0=l∧p=[]∧zs=ys)∨(¬ (h0=l∧p=[])∧rowAt σ (h0::p)=some zs):=by
 have hll:l<σ.length:=(List.getElem?_eq_some_iff.1 hr).1
 simp only [rowAt] at hz ⊢
 by_cases e:h0=l
 ·subst e
  rw [List.getElem?_set_self hll] at hz
  simp only [Root.cells] at hz
  cases p with
  | nil=>simp only [Sep.sub,Option.some.injEq] at hz;exact .inl ⟨rfl,rfl,hz.symm⟩
  | cons j p =>
   refine .inr ⟨by simp,?_⟩
   simp only [hr,Root.cells,Sep.sub] at hz ⊢
   obtain ⟨h1,h2⟩:=hl.get
   cases hj:ys[j]? with
   | none=>rw [hj] at hz;cases hz
   | some y =>
    have hjl:j<xs.length:=by have:=(List.getElem?_eq_some_iff.1 hj).1;omega
    have h3:=h2 j _ y (List.getElem?_eq_getElem hjl) hj
    rw [hj] at hz
    cases y with
    | o k us =>
     have h4:=h3.o_inv
     rw [List.getElem?_eq_getElem hjl,h4];exact hz
    | _=>cases hz
 ·rw [List.getElem?_set_ne (Ne.symm e)] at hz
  exact .inr ⟨fun h=>e h.1,hz⟩
theorem isBox_boxle {σ:Store} {l:Nat} {xs ys:List A} (hr:σ[l]?=some (.box xs)) (L:List Nat):isBox (σ.set l (.box ys)) L=isBox σ L:=by
 have hll:l<σ.length:=(List.getElem?_eq_some_iff.1 hr).1
 cases L with
 | nil=>rfl
 | cons h p =>
  cases p with
  | cons j p=>rfl
  | nil =>
   simp only [isBox]
   by_cases e:h=l
   ·subst e;rw [List.getElem?_set_self hll,hr]
   ·rw [List.getElem?_set_ne (Ne.symm e)]
theorem St.boxle {F Λ σ w} (hs:St F Λ σ w) {l:Nat} {xs ys:List A} (hr:σ[l]?=some (.box xs)) (hl:LeL xs ys):St F Λ (σ.set l (.box ys)) w where
 row L zs hz:=by
  cases L with
  | nil=>simp [rowAt] at hz
  | cons h0 p =>
   rw [isBox_boxle hr]
   rcases rowAt_boxle hr hl hz with ⟨rfl,rfl,rfl⟩ | ⟨_,h1⟩
   ·have h1:rowAt σ [h0]=some xs:=by simp [rowAt,hr,Root.cells,Sep.sub]
    have hb:isBox σ [h0]=true:=by simp [isBox,hr]
    obtain ⟨h2,h3⟩:=hl.get
    rcases hs.row _ _ h1 with ⟨g1,rfl⟩ | ⟨b,o,cs,t,g1,g2,g3,g4⟩
    ·exact .inl ⟨g1,List.eq_nil_of_length_eq_zero (by simpa using h2.symm)⟩
    ·refine .inr ⟨b,o,cs,t,g1,g2,g3,fun j y hj=>?_⟩
     have hjl:j<xs.length:=by have:=(List.getElem?_eq_some_iff.1 hj).1;omega
     obtain ⟨c,g5,g6⟩:=g4 j _ (List.getElem?_eq_getElem hjl)
     rw [hb] at g6 ⊢
     exact ⟨c,g5,g6.le (h3 j _ y (List.getElem?_eq_getElem hjl) hj)⟩
   ·exact hs.row _ _ h1
 apart L zs L' zs' b o o' h1 h2:=by
  have key:∀ L zs,rowAt (σ.set l (.box ys)) L=some zs→∃ zs',rowAt σ L=some zs':=fun L zs h=>by
   cases L with
   | nil=>simp [rowAt] at h
   | cons h0 p =>
    rcases rowAt_boxle hr hl h with ⟨rfl,rfl,rfl⟩ | ⟨_,h1⟩
    ·exact ⟨xs,by simp [rowAt,hr,Root.cells,Sep.sub]⟩
    ·exact ⟨_,h1⟩
  obtain ⟨_,k1⟩:=key _ _ h1
  obtain ⟨_,k2⟩:=key _ _ h2
  exact hs.apart _ _ _ _ _ _ _ k1 k2
 old:=hs.old
 tab:=hs.tab
 lab L h:=hs.lab L (by simpa using h)
theorem Step.boxle {m F Λ σ w} {l:Nat} {xs ys:List A} (hr:σ[l]?=some (.box xs)) (hl:LeL xs ys):Step m F Λ σ w F Λ (σ.set l (.box ys)) w :=
  { os:=⟨rfl,fun _=>by first | exact Nat.le_refl _ | exact Nat.le_succ _⟩,tape:=rfl,output:=rfl,size:=Nat.le_refl _,sizes:=Sizes.refl _,keep:=fun _ _ _=>rfl,mono:=fun _ h=>h,new:=fun _ h=>.inl h
    own:=fun b ⟨L,zs,o,g1,g2⟩=>by
      cases L with
      | nil=>simp [rowAt] at g1
      | cons h0 p =>
        rcases rowAt_boxle hr hl g1 with ⟨rfl,rfl,rfl⟩ | ⟨_,h1⟩
        · exact .inl ⟨_,xs,o,by simp [rowAt,hr,Root.cells,Sep.sub],g2⟩
        · exact .inl ⟨_,_,o,h1,g2⟩
    len:=by rw [List.length_set];exact Nat.min_le_right _ _
    boxes:=fun a us _ ha=>by
      have hll:l<σ.length:=(List.getElem?_eq_some_iff.1 hr).1
      by_cases e:a=l
      · subst e;exact ⟨rfl,ys,List.getElem?_set_self hll⟩
      · exact ⟨rfl,us,by rw [List.getElem?_set_ne (Ne.symm e)];exact ha⟩
    kept:=fun _ _ _ _ h=>h }
section
variable {P:Program} {n m:Nat} {K:Exit→Env→Store→Prop} {N:Env→Store→Prop} {E:Env} {σ:Store} {ops:Array Oper} {os:List Oper}
theorem T_boxle (l:Nat) {c:Code} {xs ys:List A} (hr:σ[l]?=some (.box xs)) (hl:LeL xs ys) (h:T P n m c K E (σ.set l (.box ys))):T P n m c K E σ:=fun F Λ w tmps Q hn hs hf hq =>
 h F Λ w tmps Q hn (hs.boxle hr hl) hf fun e F' Λ' σ' w' tmps' E' hn' hs' hf' hst hN=>hq e F' Λ' σ' w' tmps' E' hn' hs' hf' ((Step.boxle hr hl).trans hst) hN
end
inductive Sc2 where
  | s (a b:ByteArray)
  | i (a b:Int)
def Sc2.x:Sc2→A
 | .s a _=>strA a
 | .i a _=>intA a
def Sc2.y:Sc2→A
 | .s _ b=>strA b
 | .i _ b=>intA b
def Sc2.vx:Sc2→Value
 | .s a _=>.string a
 | .i a _=>.int .i64 a
def Sc2.vy:Sc2→Value
 | .s _ b=>.string b
 | .i _ b=>.int .i64 b
def Sc2.eq:Sc2→Bool
 | .s a b=>decide (a=b)
 | .i a b=>decide (a=b)
def Sc2.str:Sc2→Bool
 | .s _ _=>true
 | .i _ _=>false
def cmpSc:List Sc2→Bool
 | []=>true
 | p::ps=>p.eq && cmpSc ps
structure EqS (P:Program) (t:Nat) (ks:List Bool):Prop where
  g:P.eqGuardType P.depth t=false
  e:∀ (ps:List Sc2) w,ps.map Sc2.str=ks→Sem.run P (Op.equalIn 10000 t (.agg (ps.map Sc2.vx).toArray) (.agg (ps.map Sc2.vy).toArray)) w=.ok (cmpSc ps) w
theorem EqS.of {P:Program} {t:Nat} {ks:List Bool} {ts:List Nat} (g:P.eqGuardType P.depth t=false) (hS:P.underlying t=some (.struct (P.fieldsOf t))) (hp:P.stoodInHeld t=false)
  (hf:((P.fieldsOf t).toList.map fun f=>(decide (f.name = "_"),f.offset,f.type))=(List.range ts.length).map fun i=>(false,i,ts.getD i 0))
  (hk:ts.length=ks.length) (hu:∀ i,i<ts.length→P.underlying (ts.getD i 0)=some (if ks.getD i false=true then .string else .int .i64)):EqS P t ks:=by
 refine ⟨g,fun ps w hps=>?_⟩
 have hlen:ps.length=ks.length:=by have:=congrArg List.length hps;simpa using this
 rw [show (10000:Nat)=9999+1 from rfl,run_equalIn_agg w 9999 t _ _ hS hp]
 have key:∀ (fs:List Field) (k:Nat),k+fs.length=ps.length→(fs.map fun f=>(decide (f.name = "_"),f.offset,f.type))=((List.range fs.length).map fun i=>(false,k+i,ts.getD (k+i) 0))→Sem.run P (Op.eqFields 9999 (ps.map Sc2.vx).toArray (ps.map Sc2.vy).toArray fs) w=.ok (cmpSc (ps.drop k)) w:=by
  intro fs
  induction fs with
  | nil=>intro k hk _;simp only [List.length_nil] at hk;rw [List.drop_eq_nil_of_le (by omega)];simp [Op.eqFields,cmpSc]
  | cons f fs ih =>
   intro k hk hfs
   simp only [List.length_cons] at hk
   rw [List.length_cons,List.range_succ_eq_map,List.map_cons,List.map_cons,List.map_map] at hfs
   simp only [List.cons.injEq,Prod.mk.injEq,decide_eq_false_iff_not] at hfs
   obtain ⟨⟨h1,h2,h3⟩,h4⟩:=hfs
   have hkl:k<ps.length:=by omega
   have ih':=ih (k+1) (by omega) (by rw [h4];refine List.map_congr_left fun i _=>?_;simp only [Function.comp,Nat.succ_eq_add_one];rw [Nat.add_assoc,Nat.add_comm 1 i])
   have hu':=hu k (by omega)
   have hks:ks.getD k false=ps[k].str:=by
    rw [← hps,List.getD_eq_getElem?_getD,List.getElem?_map,List.getElem?_eq_getElem hkl];rfl
   rw [hks] at hu'
   rw [Nat.add_zero] at h2 h3
   rw [← h3] at hu'
   have hx:(ps.map Sc2.vx).toArray[k]?=some ps[k].vx:=by simp [hkl]
   have hy:(ps.map Sc2.vy).toArray[k]?=some ps[k].vy:=by simp [hkl]
   have hag:∀ w,(isAgg f.type).run P w=.ok false w:=fun w=>by
    cases hc:ps[k].str with
    | true=>rw [hc,if_pos rfl] at hu';simp [isAgg,run_underlying hu']
    | false=>rw [hc,if_neg (by decide)] at hu';simp [isAgg,run_underlying hu']
   have he:∀ w,(Op.equalIn 9999 f.type ps[k].vx ps[k].vy).run P w=.ok ps[k].eq w:=fun w=>by
    cases hc:ps[k] with
    | s a b =>
     rw [hc] at hu'
     simp only [Sc2.str,if_true] at hu'
     simp only [Sc2.vx,Sc2.vy,Sc2.eq]
     rw [show (9999:Nat)=9998+1 from rfl,run_equalIn_string w 9998 _ a b hu',beq_bytes]
    | i a b =>
     rw [hc] at hu'
     simp only [Sc2.str,Bool.false_eq_true,if_false] at hu'
     simp only [Sc2.vx,Sc2.vy,Sc2.eq]
     rw [show (9999:Nat)=9998+1 from rfl,run_equalIn_int w 9998 _ .i64 .i64 a b hu']
     exact congrArg (fun z=>Result.ok z w) (Bool.eq_iff_iff.2 (by simp))
   rw [List.drop_eq_getElem_cons hkl]
   simp only [Op.eqFields,h2,cmpSc]
   have hpx:∀ w,(part f.type (ps.map Sc2.vx).toArray k).run P w=.ok ps[k].vx w:=fun w=>by simp [part,hag,hkl]
   have hpy:∀ w,(part f.type (ps.map Sc2.vy).toArray k).run P w=.ok ps[k].vy w:=fun w=>by simp [part,hag,hkl]
   cases hq:ps[k].eq<;>simp [hpx,hpy,he,hq,h1,ih']
 have:=key (P.fieldsOf t).toList 0 (by have:=congrArg List.length hf;simp only [List.length_map,List.length_range] at this;omega) (by
  rw [hf]
  have hl:=congrArg List.length hf
  simp only [List.length_map,List.length_range] at hl
  rw [hl]
  refine List.map_congr_left fun i _=>?_
  rw [Nat.zero_add])
 rw [List.drop_zero] at this
 exact this
theorem plain_inv {F Λ w}:∀ {ps:List Sc2} {vs:List Value} {f:Sc2→A} {g:Sc2→Value},(∀ p,f p=.v (g p))→vs.length=(ps.map f).length→(∀ (j:Nat) x y,(ps.map f)[j]?=some x→vs[j]?=some y→OK F Λ w y x)→vs=ps.map g
 | [],vs,f,g,_,hl,_=>by simpa using List.eq_nil_of_length_eq_zero (by simpa using hl)
 | p::ps,[],f,g,_,hl,_=>by simp at hl
 | p::ps,v::vs,f,g,hfg,hl,h=>by
  have h0:=h 0 _ v rfl rfl
  rw [hfg] at h0
  have e:=h0.v_inv
  subst e
  have:=plain_inv (ps:=ps) (vs:=vs) (f:=f) (g:=g) hfg (by simpa using hl) fun j x y hx hy=>h (j+1) x y (by simpa using hx) (by simpa using hy)
  rw [this];rfl
theorem Sc2.hx (p:Sc2):p.x=.v p.vx:=by cases p<;>rfl
theorem Sc2.hy (p:Sc2):p.y=.v p.vy:=by cases p<;>rfl
theorem pur_neqT {P:Program} {E:Env} {σ:Store} {o:Oper} {t x y t'} {ks:List Bool} (ps:List Sc2) (hT:EqS P t ks) (hk:ps.map Sc2.str=ks) (h:o.op=.binOp .neq t x y t') (hx:val E x=.g (ps.map Sc2.x)) (hy:val E y=.g (ps.map Sc2.y)):Pur P o E σ (.v (.bool (!cmpSc ps))):=fun F Λ w tmps hs hf=>by
 have h1:=val_ok (ds:=[]) hf x
 have h2:=val_ok (ds:=[]) hf y
 rw [hx] at h1
 rw [hy] at h2
 obtain ⟨vs,e1,l1,i1⟩:=h1.g_inv
 obtain ⟨us,e2,l2,i2⟩:=h2.g_inv
 rw [plain_inv Sc2.hx l1 i1] at e1
 rw [plain_inv Sc2.hy l2 i2] at e2
 refine ⟨_,.imm (.v _),fun w' _=>?_⟩
 simp only [execOp,h,e1,e2,Sem.run_bind,run_eqGuard_agg w' _ t x y _ _ hT.g,Result.andThen_ok,run_neq_struct,hT.e ps w' hk,Sem.run_pure]
theorem rd_u8 {P:Program} {t:Nat} (ht:P.underlying t=some (.int .u8)) (hs:P.cellsOf t=1):RdT P t 1 (fun z=>[.v (.int .u8 z)]) (fun z=>0≤z∧z≤255) :=
 ⟨hs,fun enc w base spare held fuel cs x hx=>by
  obtain ⟨n,rfl,_,hw⟩:=DataW.trod_int ht hx
  refine ⟨n,?_,rfl,rfl,one_cell (.v _)⟩
  have h1:IntKind.u8.max=255:=rfl
  have h2:IntKind.u8.min=0:=rfl
  simp only [Lit.wf,Bool.and_eq_true,decide_eq_true_eq] at hw
  omega⟩
section
variable {P:Program} {n m:Nat} {N:Env→Store→Prop} {E:Env} {σ κ:Store} {ops:Array Oper} {fuel:Nat} {listed:Array Bool}
theorem TA_have (fuel2:Nat) (listed2:Array Bool) (E2:Env) (σ2:Store) (h:TA P n m κ ops fuel2 listed2 N E2 σ2) (k:TA P n m κ ops fuel2 listed2 N E2 σ2→TA P n m κ ops fuel listed N E σ):TA P n m κ ops fuel listed N E σ:=k h
end
def strOf (zs:List Int):ByteArray:=zs.foldl (fun r n=>r.push (UInt8.ofNat n.toNat)) ByteArray.empty
theorem flat_u8:∀ zs:List Int,flat (tI .u8).enc zs=zs.map fun z=>A.v (.int .u8 z)
 | []=>rfl
 | z::zs=>by
  have:=flat_u8 zs
  show A.v (.int .u8 z)::flat (tI .u8).enc zs=_
  rw [this];rfl
section
variable {P:Program} {o:Oper} {E:Env} {σ:Store}
theorem run_strOf {s d e:Nat} (hs':P.underlying s=some (.slice e)) (he:P.underlying e=some (.int .u8)) (hd:P.underlying d=some .string) (w:World) (b o' cap:Nat) (zs:List Int) (hc:∀ j z,zs[j]?=some z→w.cell? ⟨b,o'+j,none⟩=some (.int .u8 z)):(convert s d (.slice (some ⟨b,o',none⟩) zs.length cap)).run P w=.ok (.string (strOf zs)) w:=by
 rw [run_convert_bytes_string w s d e _ _ _ hs' he hd]
 refine run_bytesToString w _ _ _ zs ?_
 have:=run_loadCells_list (P:=P) w ⟨b,o',none⟩ (zs.map (Value.int .u8)) (fun j v hj=>by
  rw [addr_add]
  rw [List.getElem?_map,Option.map_eq_some_iff] at hj
  obtain ⟨z,hz,rfl⟩:=hj
  exact hc j z hz)
 simpa using this
theorem run_strNil {s d e:Nat} (hs':P.underlying s=some (.slice e)) (he:P.underlying e=some (.int .u8)) (hd:P.underlying d=some .string) (w:World) (ad:Option Addr) (cap:Nat):(convert s d (.slice ad 0 cap)).run P w=.ok (.string (strOf [])) w:=by
 rw [run_convert_bytes_string w s d e _ _ _ hs' he hd]
 cases ad with
 | none=>rfl
 | some a=>exact run_bytesToString w a 0 cap [] (run_loadCells_list (P:=P) w a [] (fun j v hj=>by simp at hj))
theorem pur_strM {s d e:Nat} {x:Operand} {L:List Nat} {zs:List Int} (hs':P.underlying s=some (.slice e)) (he:P.underlying e=some (.int .u8)) (hd:P.underlying d=some .string) (hx:val E x=.m L 0 zs.length 1) (hr:rowAt σ L=some (flat (tI .u8).enc zs)) (h:o.op=.convert s d x):Pur P o E σ (.v (.string (strOf zs))):=fun F Λ w tmps hs hf=>by
 have e1:=val_ok (ds:=[]) hf x
 rw [hx] at e1
 refine ⟨_,.imm (.v _),fun w' ha=>?_⟩
 rcases e1.m_inv with ⟨h0,ad,h4⟩ | ⟨b,o',cap,hL,h5,h6,h7,cs,t',h8,h9⟩
 ·have:zs=[]:=List.length_eq_zero_iff.1 h0
  subst this
  simp only [execOp,h,h4]
  simp [run_strNil hs' he hd]
 ·rw [Nat.add_zero] at h5
  simp only [execOp,h,h5]
  have:=run_strOf hs' he hd w' b o' cap zs fun j z hz=>by
   have hy:(flat (tI .u8).enc zs)[j]?=some (.v (.int .u8 z)):=by rw [flat_u8,List.getElem?_map,hz];rfl
   obtain ⟨c,g3,g4⟩:=hs.cellAt hr hL hy
   rw [← ha.cell (.inr ⟨L,_,o',hr,hL⟩)] at g3
   have:=g4.val.v_inv
   rw [g3,this]
  simp [this]
end
section
variable {P:Program} {n m:Nat} {N:Env→Store→Prop} {E:Env} {σ κ:Store} {ops:Array Oper} {fuel:Nat} {listed:Array Bool} {o:Oper}
theorem TA_kill (l:Nat) (hm:m≤l) (h:TA P n m κ ops fuel listed N E (σ.set l .dead)):TA P n m κ ops fuel listed N E σ:=TA_ghost (fun F Λ w tmps hs hf=>⟨F,Λ,hs.kill l,hf,Step.kill hm⟩) h
theorem TA_rowify (l:Nat) {xs:List A} (hr:σ[l]?=some (.box xs)) (hb:rowB xs=true) (hm:m≤l) (h:TA P n m κ ops fuel listed N E (σ.set l (.row xs))):TA P n m κ ops fuel listed N E σ :=
 TA_ghost (fun F Λ w tmps hs hf=>⟨F,Λ,hs.rekind (r':=.row xs) hr rfl rfl fun c x hx L hc=>hc.rowed (by simp only [rowB,List.all_eq_true] at hb;exact hb x hx),hf,Step.rekind hr rfl rfl hm⟩) h
theorem TA_absorbA (s off l:Nat) {nn k:Nat} {pr cs ys:List A} (hs:σ[s]?=some (.box (pr++cs))) (hl:σ[l]?=some (.row ys)) (hx:cs[off]?=some (.m [l] 0 nn k)) (hne:s≠l) (hk:0<k) (hn:ys.length=nn*k) (hms:m≤s) (hml:m≤l)
  (hE:nmE (pre s (pr.length+off)) E=false) (hb:nmS (pre s (pr.length+off)) σ=false) (h:TA P n m κ ops fuel listed N E ((σ.set l .dead).set s (.box (pr++cs.set off (.o k ys))))):TA P n m κ ops fuel listed N E σ:=by
 have hx':(pr++cs)[pr.length+off]?=some (.m [l] 0 nn k):=by rw [List.getElem?_append_right (by omega)];simpa using hx
 refine TA_ghost (σ':=abS σ s (pr.length+off) l k (pr++cs) ys) (fun F Λ w tmps hs' hf=>⟨F,_,hs'.absorb hs hl hx' hne hk hn hb,fun t=>(hf t).relabel (pre s (pr.length+off)) abL_ok (nmE_lk hE t),Step.absorb hs' hs hl hx' hne hms hml⟩) ?_
 unfold abS;rw [set_right];exact h
theorem TA_rowifyT {α:Type} {T:Ty α} (s:Nat) {xs us:List α} {v:α} {cs:List A} {by_:Nat} (hs:σ[s]?=some (.box (flat T.own xs++cs))) (hv:cs=T.own v) (ha:app by_ xs [v]=some us) (hm:m≤s) (h:TA P n m κ ops fuel listed N E (σ.set s (.row (flat T.own us)))):TA P n m κ ops fuel listed N E σ:=by
 obtain ⟨rfl,_⟩:=app_inv ha
 subst hv
 have e:flat T.own xs++T.own v=flat T.own (xs++[v]):=flat_one _ _ _
 rw [e] at hs
 exact TA_rowify s hs (rowB_own (flat_ownR T _)) hm h
theorem TA_move (l l':Nat) {zs:List A} (hne:l≠l') (hl:l<σ.length) (hr:σ[l']?=some (.row zs)) (hb:noBox σ l=true) (hm:m≤l) (h:TA P n m κ ops fuel listed N (mvE l l' E) (mvS l l' σ)):TA P n m κ ops fuel listed N E σ :=
 TA_ghost (fun F Λ w tmps hs hf=>⟨F,_,hs.move hne hl hr,fun t=>by rw [lk_mvE];exact mvA_ok hne (hf t),Step.move hs hne hl hr hb hm⟩) h
theorem TOp_ghost {E':Env} {σ':Store} (hg:Ghost m E σ E' σ') (h:TOp P n m o N E' σ'):TOp P n m o N E σ:=fun F Λ w tmps K Q hn hs hf hk=>by
 obtain ⟨F1,Λ1,h1,h2,h3⟩:=hg F Λ w tmps hs hf
 exact h F1 Λ1 w tmps K Q hn h1 h2 fun F2 Λ2 σ2 w2 tmps2 E2 hn2 hs2 hf2 hst2 hN2=>hk F2 Λ2 σ2 w2 tmps2 E2 hn2 hs2 hf2 (h3.trans hst2) hN2
theorem TOp_boxify (l:Nat) {xs:List A} (hr:σ[l]?=some (.row xs)) (hm:m≤l) (h:TOp P n m o N E (σ.set l (.box xs))):TOp P n m o N E σ :=
 TOp_ghost (fun F Λ w tmps hs hf=>⟨F,Λ,hs.rekind (r':=.box xs) hr rfl rfl fun c x _ L hc=>hc.boxed,hf,Step.rekind hr rfl rfl hm⟩) h
end
end Go.Sep
set_option linter.unusedVariables false
set_option linter.unusedSimpArgs false
namespace Go.Sep
open Go
theorem lb {n m:Nat} (h:Nat.ble n m=true):n≤m:=Nat.le_of_ble_eq_true h
def pkE (E:Env):Env→Env
 | []=>[]
 | (t,_)::E'=>(t,lk E t)::pkE E E'
theorem pkE.of {E:Env}:∀ {E':Env},pkE E E'=E'→Pk E E'
 | [],_=>trivial
 | (t,a)::E',h=>by
  simp only [pkE,List.cons.injEq,Prod.mk.injEq,true_and] at h
  exact ⟨h.1,pkE.of h.2⟩
mutual
theorem ren_id {f:Nat→Nat} {p:List Nat→Bool} (hp:∀ L,p L=false→rh f L=L):∀ x:A,x.names p=false→x.ren f=x
 | .m L a n k,h=>by simp only [A.names] at h;simp only [A.ren,hp L h]
 | .e L a,h=>by simp only [A.names] at h;simp only [A.ren,hp L h]
 | .b l a,h=>by
  simp only [A.names] at h
  have:=hp [l] h
  simp only [rh,List.cons.injEq,and_true] at this
  simp only [A.ren,this]
 | .g xs,h=>by simp only [A.names] at h;simp only [A.ren,renL_id hp xs h]
 | .t xs,h=>by simp only [A.names] at h;simp only [A.ren,renL_id hp xs h]
 | .f g xs,h=>by simp only [A.names] at h;simp only [A.ren,renL_id hp xs h]
 | .o k xs,_=>rfl
 | .v x,_=>rfl
 | .n,_=>rfl
 | .i k xs,_=>rfl
 | .q xs d,_=>rfl
 | .j,_=>rfl
theorem renL_id {f:Nat→Nat} {p:List Nat→Bool} (hp:∀ L,p L=false→rh f L=L):∀ xs:List A,namesL p xs=false→renL f xs=xs
 | [],_=>rfl
 | x::xs,h=>by
  simp only [namesL,Bool.or_eq_false_iff] at h
  simp only [renL,ren_id hp x h.1,renL_id hp xs h.2]
end
mutual
theorem names_mono {p q:List Nat→Bool} (hq:∀ L,p L=true→q L=true):∀ x:A,x.names p=true→x.names q=true
 | .m L a n k,h=>hq L h
 | .e L a,h=>hq L h
 | .b l a,h=>hq [l] h
 | .g xs,h=>namesL_mono hq xs h
 | .t xs,h=>namesL_mono hq xs h
 | .f g xs,h=>namesL_mono hq xs h
 | .o k xs,h=>by cases h
 | .v x,h=>by cases h
 | .n,h=>by cases h
 | .i k xs,h=>by cases h
 | .q xs d,h=>by cases h
 | .j,h=>by cases h
theorem namesL_mono {p q:List Nat→Bool} (hq:∀ L,p L=true→q L=true):∀ xs:List A,namesL p xs=true→namesL q xs=true
 | [],h=>by cases h
 | x::xs,h=>by
  simp only [namesL,Bool.or_eq_true] at h ⊢
  exact h.imp (names_mono hq x) (namesL_mono hq xs)
end
def noNm (l l':Nat) (σ:Store):Bool:=σ.all fun r=>match r with
 | .box xs=>!namesL (fun L=>L.headD 0 == l || L.headD 0 == l') xs
 | _=>true
theorem mvS_noNm {l l':Nat} {σ:Store} {zs:List A} (h:noNm l l' σ=true) (hr:σ[l']?=some (.row zs)):mvS l l' σ=(σ.set l (.row zs)).set l' .dead:=by
 have key:σ.map (mvR l l')=σ:=by
  rw [List.map_congr_left (g:=id),List.map_id]
  intro r hr
  simp only [noNm,List.all_eq_true] at h
  have h1:=h r hr
  cases r with
  | dead=>rfl
  | row=>rfl
  | box xs =>
   simp only [Bool.not_eq_true'] at h1
   have:xs.map (mvA l l')=xs:=by
    rw [List.map_congr_left (g:=id),List.map_id]
    intro x hx
    have h2:=namesL_false h1 x hx
    have h3:x.names (fun L=>L.headD 0 == l)=false:=by
     cases h3:x.names (fun L=>L.headD 0 == l) with
     | false=>rfl
     | true =>
      exfalso
      have:=names_mono (q:=fun L=>L.headD 0 == l || L.headD 0 == l') (fun L hL=>by rw [hL];rfl) x h3
      rw [h2] at this;cases this
    simp only [mvA,h3,id]
    exact ren_id (p:=fun L=>L.headD 0 == l || L.headD 0 == l') (fun L hL=>by
     cases L with
     | nil=>rfl
     | cons h0 p0 =>
      simp only [List.headD_cons,Bool.or_eq_false_iff,beq_eq_false_iff_ne] at hL
      simp only [rh,mvH,if_neg hL.2]) x h2
   simp only [mvR,this,id]
 simp only [mvS,key,hr,Option.getD_some]
section
variable {P:Program} {n m:Nat} {K:Exit→Env→Store→Prop} {N:Env→Store→Prop} {E:Env} {σ κ:Store} {ops:Array Oper} {os:List Oper} {o:Oper} {fuel:Nat} {listed:Array Bool}
theorem Tp {os':List Oper} {o:Oper} {r:A} (ho:os=o::os') (hg:o.guard=none) (hp:Pur P o E σ r) (hd:dstOK n o.dst=true) (h:TO P n m ops os' N (put E o.dst r) σ):TO P n m ops os N E σ:=by
 subst ho;exact TO_cons hg (TOp_pure hp hd h)
theorem te {c:Code} (E':Env) (hE:pkE E E'=E') (h:T P n m c K E' σ):T P n m c K E σ:=T_env (pkE.of hE) h
theorem toe (E':Env) (hE:pkE E E'=E') (h:TO P n m ops os N E' σ):TO P n m ops os N E σ:=TO_env (pkE.of hE) h
theorem tqe (E':Env) (hE:pkE E E'=E') (h:TQ P n m ops os N E' σ):TQ P n m ops os N E σ:=TQ_env (pkE.of hE) h
theorem tae (E':Env) (hE:pkE E E'=E') (h:TA P n m κ ops fuel listed N E' σ):TA P n m κ ops fuel listed N E σ:=TA_env (pkE.of hE) h
theorem sr {id:Nat} {l:List Oper} {b:Code} (h:TO P n m l.toArray l ((thenK (T P n m b K) K) .normal) E σ):T P n m (.seq (.region id l.toArray false) b) K E σ:=T_seq (T_region h)
theorem tf (i:Nat) {o:Oper} {r:A} (hi:ops[i]?=some o) (hp:Pur P o E (pads κ σ.length) r) (hg:o.guard=none) (hd:dstOK n o.dst=true) (hc:(Region.noSelect ops && (Region.ready .any ops listed).contains i && Region.free .any ops listed i)=true) (h:TA P n m κ ops fuel (listed.setIfInBounds i true) N (put E o.dst r) σ):TA P n m κ ops (fuel+1) listed N E σ:=by
 simp only [Bool.and_eq_true] at hc
 exact TA_first i _ hi hp (fun F Λ w tmps _ _=>by simp [Region.wanted,hg]) hd rfl hc.1.1 hc.1.2 hc.2 h
theorem t1 (i:Nat) {o:Oper} (hr:Region.ready .any ops listed=[i]) (hi:ops[i]?=some o) (hg:o.guard=none) (h:TOp P n m o (TA P n m κ ops fuel (listed.setIfInBounds i true) N) E σ):TA P n m κ ops (fuel+1) listed N E σ :=
 TA_all [i] hr (by simp) ⟨⟨o,hi,hg,h⟩,trivial⟩
theorem tmv (l l':Nat) {zs:List A} (hne:l≠l') (hl:l<σ.length) (hr:σ[l']?=some (.row zs)) (hb:noBox σ l=true) (hm:m≤l) (h:TA P n m κ ops fuel listed N (mvE l l' E) (mvS l l' σ)):TA P n m κ ops fuel listed N E σ :=
 TA_ghost (fun F Λ w tmps hs hf=>⟨F,_,hs.move hne hl hr,fun t=>by rw [lk_mvE];exact mvA_ok hne (hf t),Step.move hs hne hl hr hb hm⟩) h
theorem tmw (l l':Nat) {zs:List A} (hne:l≠l') (hl:l<σ.length) (hr:σ[l']?=some (.row zs)) (hb:noBox σ l=true) (hm:m≤l) (hx:noNm l l' σ=true) (h:TA P n m κ ops fuel listed N (mvE l l' E) ((σ.set l (.row zs)).set l' .dead)):TA P n m κ ops fuel listed N E σ :=
 tmv l l' hne hl hr hb hm (mvS_noNm hx hr▸h)
theorem PkL.of:∀ {E':Env},Pk E E'→PkL E E'
 | [],_=>trivial
 | (_,_)::_,h=>⟨leR h.1,PkL.of h.2⟩
theorem w0 {σ':Store} {E':Env} (k:Nat) (hm:m≤k:=by exact lb rfl) (ha:ascE E'=true:=by rfl) (hσ:σ'=σ.take k:=by rfl) (h1:namesE k E'=false:=by rfl) (h2:boxesE k σ'=false:=by rfl) (hE:pkE E E'=E':=by rfl):WeakL m E σ E' σ':=WeakL.to k hm ha hσ h1 h2 (PkL.of (pkE.of hE))
theorem wp {σ':Store} {E':Env} (k:Nat) (hm:m≤k) (ha:ascE E'=true) (hσ:σ'=σ.take k) (h1:namesE k E'=false) (h2:boxesE k σ'=false) (hE:pkE E E'=E'):WeakL m E σ E' σ':=WeakL.to k hm ha hσ h1 h2 (PkL.of (pkE.of hE))
theorem tj {listed2:Array Bool} {E2:Env} {σ2:Store} (h:TA P n m κ ops fuel listed2 N E2 σ2) (hl:listed=listed2) (hw:WeakL m E σ E2 σ2):TA P n m κ ops fuel listed N E σ:=TA_listed _ hl (TA_ghost (Ghost.weak hw) h)
end
end Go.Sep
set_option linter.unusedVariables false
set_option linter.unusedSimpArgs false
namespace Go.Sep
open Go
section
variable {P:Program} {n m:Nat} {E:Env} {σ:Store} {ops:Array Oper} {fuel:Nat} {listed:Array Bool} {F:Nat→Prop} {Λ:Lbl} {w:World} {tmps:Array Value} {Q:Act→World→Prop}
theorem raw_first (i:Nat) {o:Oper} {r:A} (hi:ops[i]?=some o) (hp:PurI P o E r) (hg:o.guard=none) {dd:Option Nat} (hD:o.dst=dd) (hd:dstOK n dd=true) (hc:(Region.noSelect ops && (Region.ready .any ops listed).contains i && Region.free .any ops listed i)=true) (hn:tmps.size=n) (hf:FrOK F Λ w tmps E)
  (h:∀ tmps',tmps'.size=n→FrOK F Λ w tmps' (put E dd r)→wpAny P .any ops (onlyN Q) fuel (listed.setIfInBounds i true) ⟨tmps',[]⟩ w):wpAny P .any ops (onlyN Q) (fuel+1) listed ⟨tmps,[]⟩ w:=by
 subst hD
 simp only [Bool.and_eq_true] at hc
 obtain ⟨v,hv,hrun⟩:=hp F Λ w tmps hf
 obtain ⟨tmps',e,hn',hf'⟩:=hf.putO (ds:=[]) hn hd hv
 refine wpAny_first hi (Region.noSelect_spec hc.1.1) (fun c a w h=>h) fuel listed _ w (Region.free_spec hi hc.2) (by simpa using hc.1.2) (.inl ⟨by simp [Region.wanted,hg],hrun⟩) ?_
 rw [e]
 exact h tmps' hn' hf'
theorem raw_one (i:Nat) {o:Oper} {v:Value} {r:A} {w':World} (hr:Region.ready .any ops listed=[i]) (hi:ops[i]?=some o) (hg:o.guard=none) {dd:Option Nat} (hD:o.dst=dd) (hd:dstOK n dd=true) (hn:tmps.size=n)
  (hrun:(execOp (Act.eval ⟨tmps,[]⟩) o).run P w=.ok (.value v) w') (hf:FrOK F Λ w' tmps E) (hv:OK F Λ w' v r)
  (h:∀ tmps',tmps'.size=n→FrOK F Λ w' tmps' (put E dd r)→wpAny P .any ops (onlyN Q) fuel (listed.setIfInBounds i true) ⟨tmps',[]⟩ w'):wpAny P .any ops (onlyN Q) (fuel+1) listed ⟨tmps,[]⟩ w:=by
 subst hD
 obtain ⟨tmps',e,hn',hf'⟩:=hf.putO (ds:=[]) hn hd hv
 refine ⟨fun h0=>(by rw [hr] at h0;cases h0),fun j hj=>?_⟩
 rw [hr] at hj
 simp only [List.mem_singleton] at hj
 subst hj
 unfold wpOp
 rw [hi]
 simp only
 rw [if_pos (by simp [Region.wanted,hg])]
 refine .inl ?_
 unfold Oper.wp
 rw [hrun]
 show wpAny P .any ops (onlyN Q) fuel (listed.setIfInBounds j true) (Act.put ⟨tmps,[]⟩ o.dst v) w'
 rw [e]
 exact h tmps' hn' hf'
theorem raw_nil (hr:Region.ready .any ops listed=[]) (h:Q ⟨tmps,[]⟩ w):wpAny P .any ops (onlyN Q) fuel listed ⟨tmps,[]⟩ w:=by
 cases fuel with
 | zero=>exact ⟨hr,h⟩
 | succ fuel=>exact ⟨fun _=>h,fun i hi=>by rw [hr] at hi;cases hi⟩
end
section
variable {P:Program} {E:Env} {o:Oper} {n m:Nat} {σ:Store} {F:Nat→Prop} {Λ:Lbl} {w:World}
theorem run_cutC {F Λ w tmps} (hf:FrOK F Λ w tmps E) {t e k:Nat} {x y:Operand} {lo:Option Operand} {a:Option Addr} {n cap i j:Nat} (hT:SlT P t e k) (h:o.op=.slice t x lo (some y) none) (hx:Act.eval ⟨tmps,[]⟩ x=.slice a n cap) (hlo:bnd E 0 lo (i:Int)) (hhi:bnd E n (some y) (j:Int)) (hij:i≤j) (hj:j≤cap) (w':World) :
  (execOp (Act.eval ⟨tmps,[]⟩) o).run P w'=.ok (.value (.slice (if cap=i then a else a.map (·.add (i*k))) (j - i) (cap - i))) w':=by
 have hb:(Instr.sliceBounds true n cap (lo.map (Act.eval ⟨tmps,[]⟩)) ((some y).map (Act.eval ⟨tmps,[]⟩)) none).run P w'=.ok (i,j,cap) w':=by
  rcases bnd_run hf hlo with ⟨rfl,h1⟩ | ⟨k1,h1,_⟩<;>rcases bnd_run hf hhi with ⟨h0,h2⟩ | ⟨k2,h2,_⟩
  ·cases h0
  ·have e1:i=0:=by omega
   subst e1
   rw [h2]
   simp [Instr.sliceBounds,run_sliceBound,show (j:Int)≤cap by omega]
  ·cases h0
  ·rw [h1,h2]
   simp [Instr.sliceBounds,run_sliceBound,show (j:Int)≤cap by omega,show (i:Int)≤j by omega]
 simp only [Option.map_some] at hb
 simp only [execOp,h,hx,Option.map_none,Option.map_some]
 simp [Instr.sliceAt,run_underlying hT.u,Instr.slice,hb,run_sizeOf' hT.i]
theorem purI_cutX {t e k:Nat} {x y:Operand} {lo:Option Operand} {a:Option Addr} {q cap i j:Nat} (hT:SlT P t e k) (hx:val E x=.v (.slice a q cap)) (hlo:bnd E 0 lo (i:Int)) (hhi:bnd E q (some y) (j:Int)) (hij:i≤j) (hj:j≤cap) (h:o.op=.slice t x lo (some y) none):PurI P o E (.v (.slice (if cap=i then a else a.map (·.add (i*k))) (j - i) (cap - i))):=fun F Λ w tmps hf=>by
 have e1:=val_ok (ds:=[]) hf x
 rw [hx] at e1
 exact ⟨_,.imm (.v _),fun w'=>run_cutC hf hT h e1.v_inv hlo hhi hij hj w'⟩
theorem purI_cutX1 {t e k:Nat} {x:Operand} {lo:Option Operand} {a:Option Addr} {q cap i:Nat} (hT:SlT P t e k) (hx:val E x=.v (.slice a q cap)) (hlo:bnd E 0 lo (i:Int)) (hij:i≤q) (hj:q≤cap) (h:o.op=.slice t x lo none none):PurI P o E (.v (.slice (if cap=i then a else a.map (·.add (i*k))) (q - i) (cap - i))):=fun F Λ w tmps hf=>by
 have e1:=val_ok (ds:=[]) hf x
 rw [hx] at e1
 exact ⟨_,.imm (.v _),fun w'=>run_cut hf hT h e1.v_inv hlo (hi:=none) rfl hij (Nat.le_refl _) hj w'⟩
theorem purI_lenX {t e k:Nat} {x:Operand} {a:Option Addr} {q cap:Nat} (hT:SlT P t e k) (hx:val E x=.v (.slice a q cap)) (h:o.op=.call { callee:=.builtin .len,args:=#[x],argTypes:=#[t] }):PurI P o E (.v (.int .i64 q)):=fun F Λ w tmps hf=>by
 have e1:=val_ok (ds:=[]) hf x
 rw [hx] at e1
 refine ⟨_,.imm (.v _),fun w'=>?_⟩
 simp only [execOp,h,resolve,Sem.run_bind,Sem.run_pure,invoke,builtin]
 simp [e1.v_inv,Builtin.len_,run_underlying hT.u,goInt]
end
section
variable {P:Program} {n m:Nat} {E:Env} {ops:Array Oper} {os:List Oper} {F:Nat→Prop} {Λ:Lbl} {w:World} {tmps:Array Value} {Q:Exit→Act→World→Prop} {o:Oper}
theorem rawL_cons {r:A} (hg:o.guard=none) (hp:PurI P o E r) {dd:Option Nat} (hD:o.dst=dd) (hd:dstOK n dd=true) (hn:tmps.size=n) (hf:FrOK F Λ w tmps E) (h:∀ tmps',tmps'.size=n→FrOK F Λ w tmps' (put E dd r)→wpList P ops Q os ⟨tmps',[]⟩ w):wpList P ops Q (o::os) ⟨tmps,[]⟩ w:=by
 subst hD
 obtain ⟨v,hv,hrun⟩:=hp F Λ w tmps hf
 obtain ⟨tmps',e,hn',hf'⟩:=hf.putO (ds:=[]) hn hd hv
 unfold wpList
 rw [if_pos (by simp [Region.wanted,hg])]
 refine .inl ?_
 unfold Oper.wp
 rw [hrun]
 show wpList P ops Q os (Act.put ⟨tmps,[]⟩ o.dst v) w
 rw [e]
 exact h tmps' hn' hf'
theorem rawL_run {v:Value} {r:A} {w':World} (hg:o.guard=none) (hrun:(execOp (Act.eval ⟨tmps,[]⟩) o).run P w=.ok (.value v) w') {dd:Option Nat} (hD:o.dst=dd) (hd:dstOK n dd=true) (hn:tmps.size=n) (hf:FrOK F Λ w' tmps E) (hv:OK F Λ w' v r) (h:∀ tmps',tmps'.size=n→FrOK F Λ w' tmps' (put E dd r)→wpList P ops Q os ⟨tmps',[]⟩ w'):wpList P ops Q (o::os) ⟨tmps,[]⟩ w:=by
 subst hD
 obtain ⟨tmps',e,hn',hf'⟩:=hf.putO (ds:=[]) hn hd hv
 unfold wpList
 rw [if_pos (by simp [Region.wanted,hg])]
 refine .inl ?_
 unfold Oper.wp
 rw [hrun]
 show wpList P ops Q os (Act.put ⟨tmps,[]⟩ o.dst v) w'
 rw [e]
 exact h tmps' hn' hf'
end
section
variable {P:Program} {o:Oper} {w:World} {tmps:Array Value}
theorem run_appX {t e:Nat} {inf:TypeInfo} {x y:Operand} (ht:P.underlying t=some (.slice e)) (hi:P.info? e=some inf) (h:o.op=.call { callee:=.builtin .append,args:=#[x,y],argTypes:=#[t,t] }) {b oo i cap:Nat} (hx:Act.eval ⟨tmps,[]⟩ x=.slice (some ⟨b,oo,none⟩) i cap) {ay:Option Addr} {q cy:Nat} (hy:Act.eval ⟨tmps,[]⟩ y=.slice ay q cy) {news:List Value}
  (hnews:(Builtin.firstCells inf.size q (.slice ay q cy)).run P w=.ok news.toArray w) (h1:∀ u∈news,u.oneCell'=true) {cur:Array Value} {te:TypeId} (hb:w.heap[b]?=some (.cells cur te (0,0))) (hroom:i+q≤cap) (hfit:oo+i*inf.size+news.length≤cur.size) :
  (execOp (Act.eval ⟨tmps,[]⟩) o).run P w=.ok (.value (.slice (some ⟨b,oo,none⟩) (i+q) cap)) (w.setRow b (cur.toList.take (oo+i*inf.size)++news++cur.toList.drop (oo+i*inf.size+news.length)).toArray):=by
 unfold execOp
 simp only [h,resolve,invoke,builtin,Sem.run_bind,Sem.run_pure,Result.andThen_ok,List.map_toArray,List.map_cons,List.map_nil,hx,hy]
 rw [run_append_in w t o.type e inf ht hi b oo i cap cur te hb ay q cy news hnews h1 hroom hfit]
 rfl
theorem run_clearX {t e:Nat} {inf:TypeInfo} {z:Value} {x:Operand} (ht:P.underlying t=some (.slice e)) (hi:P.info? e=some inf) (hz:inf.zero=some z) (h:o.op=.call { callee:=.builtin .clear,args:=#[x],argTypes:=#[t] }) {b oo q cap:Nat} (hx:Act.eval ⟨tmps,[]⟩ x=.slice (some ⟨b,oo,none⟩) q cap) (hq:0<q) (h1:∀ u∈(Builtin.zeroCells z.cells q).toList,u.oneCell'=true) {cur:Array Value} {te:TypeId} (hb:w.heap[b]?=some (.cells cur te (0,0))) (hfit:oo+(Builtin.zeroCells z.cells q).toList.length≤cur.size) :
  (execOp (Act.eval ⟨tmps,[]⟩) o).run P w=.ok (.value (.tuple #[])) (w.setRow b (cur.toList.take oo++(Builtin.zeroCells z.cells q).toList++cur.toList.drop (oo+(Builtin.zeroCells z.cells q).toList.length)).toArray):=by
 have hst:=run_storeCells_at P b oo te (Builtin.zeroCells z.cells q).toList 0 cur w hb (by simpa using hfit) h1
 simp only [Nat.add_zero] at hst
 unfold execOp
 simp only [h,resolve,invoke,builtin,Sem.run_bind,Sem.run_pure,Result.andThen_ok,List.map_toArray,List.map_cons,List.map_nil,hx]
 obtain ⟨q',rfl⟩:∃ q',q=q'+1:=⟨q - 1,by omega⟩
 simp [Builtin.clear_,run_underlying ht,zeroValue,typeInfo,hi,hz,hst]
end
theorem rowAt_turn {σ:Store} {l:Nat} {ys:List A} {L:List Nat} {zs:List A} (hl:l<σ.length) (hp:∀ y∈ys,y.plain=true) (h:rowAt (σ.set l (.row ys)) L=some zs):(L=[l]∧zs=ys)∨(L.headD 0≠l∧rowAt σ L=some zs):=by
 cases L with
 | nil=>simp [rowAt] at h
 | cons a p =>
  by_cases e:a=l
  ·subst e
   simp only [rowAt,List.getElem?_set_self hl,Root.cells] at h
   obtain ⟨rfl,rfl⟩:=sub_plain hp h
   exact .inl ⟨rfl,rfl⟩
  ·refine .inr ⟨by simpa using e,?_⟩
   simpa only [rowAt,List.getElem?_set_ne (Ne.symm e)] using h
theorem isBox_turn {σ:Store} {l:Nat} {xs ys:List A} (hr:σ[l]?=some (.row xs)) (L:List Nat):isBox (σ.set l (.row ys)) L=isBox σ L:=by
 have hl:l<σ.length:=(List.getElem?_eq_some_iff.1 hr).1
 cases L with
 | nil=>rfl
 | cons a p =>
  cases p with
  | nil =>
   by_cases e:a=l
   ·subst e
    simp only [isBox,List.getElem?_set_self hl,hr]
   ·simp only [isBox,List.getElem?_set_ne (Ne.symm e)]
  | cons _ _=>rfl
theorem St.turn {m:Nat} {F:Nat→Prop} {Λ:Lbl} {σ:Store} {w w':World} (hs:St F Λ σ w) {l:Nat} {xs ys:List A} {b o':Nat} {cs cs':Array Value} {t:TypeId} (hr:σ[l]?=some (.row xs)) (hp:∀ y∈ys,y.plain=true)
    (hL:Λ [l]=some (b,o')) (hb:w.heap[b]?=some (.cells cs t (0,0))) (hb':w'.heap[b]?=some (.cells cs' t (0,0))) (hsz:cs'.size=cs.size) (hoth:∀ b',b'≠b→w'.heap[b']?=w.heap[b']?)
    (hsize:w'.heap.size=w.heap.size) (hos:OsLe w w') (htape:w'.tape=w.tape) (hout:w'.output=w.output)
    (hc:∀ (j:Nat) y,ys[j]?=some y→∃ c,cs'[o'+j]?=some c∧Cell F Λ w false [l,j] c y) :
    St F Λ (σ.set l (.row ys)) w'∧Step m F Λ σ w F Λ (σ.set l (.row ys)) w':=by
  have hl:l<σ.length:=(List.getElem?_eq_some_iff.1 hr).1
  have hrow:rowAt σ [l]=some xs:=by simp only [rowAt,hr,Root.cells,Go.Sep.sub]
  have hO:¬ F b:=fun hf=>hs.notOwn hf ⟨[l],xs,o',hrow,hL⟩
  have hF:∀ b',F b'→F b'∧w'.heap[b']?=w.heap[b']?:=fun b' hb'=>⟨hb',hoth b' fun e=>hO (e▸hb')⟩
  have hS:Sizes w w':=fun b' cs1 t1 h1=>by
    by_cases e:b'=b
    · subst e;rw [hb] at h1;cases h1;exact ⟨cs',hb',hsz⟩
    · exact ⟨cs1,by rw [hoth b' e];exact h1,rfl⟩
  have hbx:isBox σ [l]=false:=by simp only [isBox,hr]
  refine ⟨⟨fun L zs h1=>?_,fun L1 x1 L2 x2 b1 o1 o2 h1 h2 h3 h4=>?_,fun b' hb'=>by rw [hsize];exact hs.old b' hb',hs.tab.mono hF,fun L hL'=>hs.lab L (by simpa using hL')⟩,?_⟩
  · rw [isBox_turn hr]
    rcases rowAt_turn hl hp h1 with ⟨rfl,rfl⟩ | ⟨hne,h2⟩
    · refine .inr ⟨b,o',cs',t,hL,hO,hb',fun j y hy=>?_⟩
      obtain ⟨c,g1,g2⟩:=hc j y hy
      exact ⟨c,g1,by rw [hbx];exact g2.mono hF hS⟩
    · rcases hs.row L zs h2 with h6 | ⟨b2,o2,cs2,t2,h6,h7,h8,h9⟩
      · exact .inl h6
      · have hnb:b2≠b:=fun e2=>by
          subst e2
          have:=hs.apart L zs [l] xs b2 o2 o' h2 hrow h6 hL
          subst this
          exact hne rfl
        refine .inr ⟨b2,o2,cs2,t2,h6,h7,by rw [hoth b2 hnb];exact h8,fun j x hx=>?_⟩
        obtain ⟨c,g1,g2⟩:=h9 j x hx
        exact ⟨c,g1,g2.mono hF hS⟩
  · have key:∀ L zs,rowAt (σ.set l (.row ys)) L=some zs→∃ zs',rowAt σ L=some zs':=fun L zs h=>by
      rcases rowAt_turn hl hp h with ⟨rfl,rfl⟩ | ⟨_,h2⟩
      · exact ⟨xs,hrow⟩
      · exact ⟨zs,h2⟩
    obtain ⟨z1,g1⟩:=key L1 x1 h1
    obtain ⟨z2,g2⟩:=key L2 x2 h2
    exact hs.apart L1 z1 L2 z2 b1 o1 o2 g1 g2 h3 h4
  · exact { os:=hos,tape:=htape,output:=hout,size:=by omega,sizes:=hS
            keep:=fun b' _ hno=>hoth b' fun e=>hno (e▸⟨[l],xs,o',hrow,hL⟩)
            mono:=fun _ h=>h,new:=fun _ h=>.inl h
            own:=fun b' ⟨L,zs,o2,g1,g2⟩=>by
              rcases rowAt_turn hl hp g1 with ⟨rfl,rfl⟩ | ⟨_,h2⟩
              · exact .inl ⟨[l],xs,o2,hrow,g2⟩
              · exact .inl ⟨L,zs,o2,h2,g2⟩
            len:=by rw [List.length_set];exact Nat.min_le_right _ _
            boxes:=fun a us ha hu=>by
              have hne:a≠l:=fun e=>by subst e;rw [hr] at hu;cases hu
              exact ⟨rfl,us,by rw [List.getElem?_set_ne (Ne.symm hne)];exact hu⟩
            kept:=fun _ _ _ _ h=>h }
end Go.Sep
set_option linter.unusedVariables false
set_option linter.unusedSimpArgs false
namespace Go.Sep
open Go
structure IsOp (o:Oper) (d:Option Nat) (p:Op):Prop where
  op:o.op=p
  dst:o.dst=d
  g:o.guard=none
section
variable {P:Program} {n:Nat} {F:Nat→Prop} {Λ:Lbl} {w:World} {tmps:Array Value} {Q:Act→World→Prop}
theorem del5 {t e:Nat} {inf:TypeInfo} {k:Nat} (hT:SlT P t e k) (hi:P.info? e=some inf) (hk:inf.size=k) {a0 a1 a2 a3 a4 a5 a6 a7:Oper}
  (s0:IsOp a0 (some 20) (.move (.tmp 0))) (s1:IsOp a1 (some 21) (.move (.tmp 1))) (s2:IsOp a2 (some 22) (.slice t (.tmp 20) none (some (.tmp 21)) none)) (s3:IsOp a3 (some 23) (.move (.tmp 0))) (s4:IsOp a4 (some 24) (.move (.tmp 2))) (s5:IsOp a5 (some 25) (.slice t (.tmp 23) (some (.tmp 24)) none none)) (s6:IsOp a6 (some 26) (.call { callee:=.builtin .append,args:=#[.tmp 22,.tmp 25],argTypes:=#[t,t] })) (s7:IsOp a7 (some 0) (.assign (.tmp 26)))
  {c:Nat→Array Bool} (hc0:c 0=#[false,false,false,false,false,false,false,false]) (hcs:∀ q,q<8→(c q).setIfInBounds q true=c (q+1))
  (hc:∀ q,q<8→q≠6→(Region.noSelect #[a0,a1,a2,a3,a4,a5,a6,a7] && (Region.ready .any #[a0,a1,a2,a3,a4,a5,a6,a7] (c q)).contains q && Region.free .any #[a0,a1,a2,a3,a4,a5,a6,a7] (c q) q)=true)
  (h6:Region.ready .any #[a0,a1,a2,a3,a4,a5,a6,a7] (c 6)=[6]) (h8:Region.ready .any #[a0,a1,a2,a3,a4,a5,a6,a7] (c 8)=[])
  (hn:tmps.size=n) (hn33:33≤n) {b o' N cap i j:Nat} {cur:Array Value} {te:TypeId} (hb:w.heap[b]?=some (.cells cur te (0,0))) (hij:i<j) (hj:j≤N) (hN:N≤cap) (hfit:o'+cap*k≤cur.size)
  (hf:FrOK F Λ w tmps [(0,.v (.slice (some ⟨b,o',none⟩) N cap)),(1,intA i),(2,intA j),(7,intA N)]) (hO:¬ F b)
  {news:List Value} (hnl:news.length=(N - j)*k) (hnews:∀ (q:Nat) v,news[q]?=some v→w.cell? ⟨b,o'+j*k+q,none⟩=some v) (h1:∀ u∈news,u.oneCell'=true)
  (h:∀ tmps',tmps'.size=n→FrOK F Λ (w.setRow b (cur.toList.take (o'+i*k)++news++cur.toList.drop (o'+i*k+news.length)).toArray) tmps' [(0,.v (.slice (some ⟨b,o',none⟩) (i+(N - j)) cap)),(7,intA N)]→Q ⟨tmps',[]⟩ (w.setRow b (cur.toList.take (o'+i*k)++news++cur.toList.drop (o'+i*k+news.length)).toArray)) :
  wpAny P .any #[a0,a1,a2,a3,a4,a5,a6,a7] (onlyN Q) 8 #[false,false,false,false,false,false,false,false] ⟨tmps,[]⟩ w:=by
 subst hk
 have hk0:=hT.pos
 rw [← hc0]
 have dk:∀ (d:Nat),d<33→dstOK n (some d)=true:=fun d hd=>by show decide (d<n)=true;exact decide_eq_true (by omega)
 refine raw_first (n:=n) 0 rfl (purI_move s0.op) s0.g s0.dst (dk 20 (by omega)) (hc 0 (by omega) (by omega)) hn hf fun t1 n1 f1=>?_
 rw [hcs 0 (by omega)]
 refine raw_first (n:=n) 1 rfl (purI_move s1.op) s1.g s1.dst (dk 21 (by omega)) (hc 1 (by omega) (by omega)) n1 f1 fun t2 n2 f2=>?_
 rw [hcs 1 (by omega)]
 refine raw_first (n:=n) 2 rfl (purI_cutX (lo:=none) (y:=.tmp 21) (a:=some ⟨b,o',none⟩) (q:=N) (cap:=cap) (i:=0) (j:=i) hT rfl rfl ⟨_,rfl⟩ (by omega) (by omega) s2.op) s2.g s2.dst (dk 22 (by omega)) (hc 2 (by omega) (by omega)) n2 f2 fun t3 n3 f3=>?_
 rw [hcs 2 (by omega)]
 refine raw_first (n:=n) 3 rfl (purI_move s3.op) s3.g s3.dst (dk 23 (by omega)) (hc 3 (by omega) (by omega)) n3 f3 fun t4 n4 f4=>?_
 rw [hcs 3 (by omega)]
 refine raw_first (n:=n) 4 rfl (purI_move s4.op) s4.g s4.dst (dk 24 (by omega)) (hc 4 (by omega) (by omega)) n4 f4 fun t5 n5 f5=>?_
 rw [hcs 4 (by omega)]
 refine raw_first (n:=n) 5 rfl (purI_cutX1 (lo:=some (.tmp 24)) (a:=some ⟨b,o',none⟩) (q:=N) (cap:=cap) (i:=j) hT rfl ⟨_,rfl⟩ hj hN s5.op) s5.g s5.dst (dk 25 (by omega)) (hc 5 (by omega) (by omega)) n5 f5 fun t6 n6 f6=>?_
 rw [hcs 5 (by omega)]
 have hcap:0<cap:=by omega
 have v22:Act.eval ⟨t6,[]⟩ (.tmp 22)=.slice (some ⟨b,o',none⟩) i cap:=by
  have e1:=(val_ok (ds:=[]) f6 (.tmp 22)).v_inv (x:=.slice (if cap=0 then some ⟨b,o',none⟩ else (some (⟨b,o',none⟩:Addr)).map (·.add (0*inf.size))) (i - 0) (cap - 0))
  rw [if_neg (by omega)] at e1
  simpa [addr_add] using e1
 have v25:Act.eval ⟨t6,[]⟩ (.tmp 25)=.slice (if cap=j then some ⟨b,o',none⟩ else (some (⟨b,o',none⟩:Addr)).map (·.add (j*inf.size))) (N - j) (cap - j):=(val_ok (ds:=[]) f6 (.tmp 25)).v_inv
 have hfc:(Builtin.firstCells inf.size (N - j) (.slice (if cap=j then some ⟨b,o',none⟩ else (some (⟨b,o',none⟩:Addr)).map (·.add (j*inf.size))) (N - j) (cap - j))).run P w=.ok news.toArray w:=by
  by_cases e1:cap=j
  ·have e2:N - j=0:=by omega
   rw [e2,Nat.zero_mul] at hnl
   have e3:news=[]:=List.eq_nil_of_length_eq_zero hnl
   subst e3
   rw [if_pos e1,e2]
   exact firstCells_zero w inf.size _ _
  ·rw [if_neg e1]
   simp only [Option.map_some,addr_add,Builtin.firstCells]
   have:=run_loadCells_list (P:=P) w ⟨b,o'+j*inf.size,none⟩ news fun q v hq=>by rw [addr_add];exact hnews q v hq
   rwa [hnl] at this
 have hfit2:o'+i*inf.size+news.length≤cur.size:=by
  have h2:(i+(N - j))*inf.size≤cap*inf.size:=Nat.mul_le_mul_right _ (by omega)
  rw [Nat.add_mul] at h2
  omega
 have hrun:=run_appX (P:=P) (o:=a6) (w:=w) (tmps:=t6) hT.u hi s6.op v22 v25 hfc h1 hb (by omega) hfit2
 have hF:∀ b',F b'→F b'∧(w.setRow b (cur.toList.take (o'+i*inf.size)++news++cur.toList.drop (o'+i*inf.size+news.length)).toArray).heap[b']?=w.heap[b']?:=fun b' hb'=>⟨hb',setRow_other w b b' _ fun e=>hO (e▸hb')⟩
 have hS:Sizes w (w.setRow b (cur.toList.take (o'+i*inf.size)++news++cur.toList.drop (o'+i*inf.size+news.length)).toArray):=fun b' cs1 t1 h1=>by
  by_cases e:b'=b
  ·subst e
   rw [hb] at h1
   cases h1
   refine ⟨_,setRow_heap w b' cur _ te (0,0) hb,?_⟩
   simp only [List.size_toArray,List.length_append,List.length_take,List.length_drop,Array.length_toList]
   omega
  ·exact ⟨cs1,by rw [setRow_other w b b' _ e];exact h1,rfl⟩
 refine raw_one (n:=n) 6 h6 rfl s6.g s6.dst (dk 26 (by omega)) n6 hrun (f6.mono hF hS) (.imm (.v _)) fun t7 n7 f7=>?_
 rw [hcs 6 (by omega)]
 refine raw_first (n:=n) 7 rfl (purI_assign s7.op) s7.g s7.dst (dk 0 (by omega)) (hc 7 (by omega) (by omega)) n7 f7 fun t8 n8 f8=>?_
 rw [hcs 7 (by omega)]
 exact raw_nil h8 (h t8 n8 (f8.weak (Pk.all (E':=[(0,.v (.slice (some ⟨b,o',none⟩) (i+(N - j)) cap)),(7,intA N)]) ⟨rfl,rfl,trivial⟩)))
end
section
variable {P:Program} {n:Nat} {F:Nat→Prop} {Λ:Lbl} {w:World} {tmps:Array Value} {Q:Exit→Act→World→Prop} {ops:Array Oper}
theorem del6 {t e:Nat} {inf:TypeInfo} {z:Value} {k:Nat} (hT:SlT P t e k) (hi:P.info? e=some inf) (hk:inf.size=k) (hz:inf.zero=some z) {a0 a1 a2 a3 a4 a5:Oper}
  (s0:IsOp a0 (some 27) (.move (.tmp 0))) (s1:IsOp a1 (some 28) (.move (.tmp 0))) (s2:IsOp a2 (some 29) (.call { callee:=.builtin .len,args:=#[.tmp 28],argTypes:=#[t] })) (s3:IsOp a3 (some 30) (.move (.tmp 7))) (s4:IsOp a4 (some 31) (.slice t (.tmp 27) (some (.tmp 29)) (some (.tmp 30)) none)) (s5:IsOp a5 none (.call { callee:=.builtin .clear,args:=#[.tmp 31],argTypes:=#[t] }))
  (hn:tmps.size=n) (hn33:33≤n) {b o' N M cap:Nat} {cur:Array Value} {te:TypeId} (hb:w.heap[b]?=some (.cells cur te (0,0))) (hM:M<N) (hN:N≤cap) (hfit:o'+cap*k≤cur.size)
  (hf:FrOK F Λ w tmps [(0,.v (.slice (some ⟨b,o',none⟩) M cap)),(7,intA N)]) (hO:¬ F b) {zc:List Value} (hzc:(Builtin.zeroCells z.cells (N - M)).toList=zc) (hzl:zc.length=(N - M)*k) (h1:∀ u∈zc,u.oneCell'=true)
  (h:∀ tmps',tmps'.size=n→FrOK F Λ (w.setRow b (cur.toList.take (o'+M*k)++zc++cur.toList.drop (o'+M*k+zc.length)).toArray) tmps' [(0,.v (.slice (some ⟨b,o',none⟩) M cap))]→Q .normal ⟨tmps',[]⟩ (w.setRow b (cur.toList.take (o'+M*k)++zc++cur.toList.drop (o'+M*k+zc.length)).toArray)) :
  wpList P ops Q [a0,a1,a2,a3,a4,a5] ⟨tmps,[]⟩ w:=by
 subst hk hzc
 have dk:∀ (d:Nat),d<33→dstOK n (some d)=true:=fun d hd=>by show decide (d<n)=true;exact decide_eq_true (by omega)
 refine rawL_cons (n:=n) s0.g (purI_move s0.op) s0.dst (dk 27 (by omega)) hn hf fun t1 n1 f1=>?_
 refine rawL_cons (n:=n) s1.g (purI_move s1.op) s1.dst (dk 28 (by omega)) n1 f1 fun t2 n2 f2=>?_
 refine rawL_cons (n:=n) s2.g (purI_lenX (a:=some ⟨b,o',none⟩) (q:=M) (cap:=cap) hT rfl s2.op) s2.dst (dk 29 (by omega)) n2 f2 fun t3 n3 f3=>?_
 refine rawL_cons (n:=n) s3.g (purI_move s3.op) s3.dst (dk 30 (by omega)) n3 f3 fun t4 n4 f4=>?_
 refine rawL_cons (n:=n) s4.g (purI_cutX (lo:=some (.tmp 29)) (y:=.tmp 30) (a:=some ⟨b,o',none⟩) (q:=M) (cap:=cap) (i:=M) (j:=N) hT rfl ⟨_,rfl⟩ ⟨_,rfl⟩ (by omega) hN s4.op) s4.dst (dk 31 (by omega)) n4 f4 fun t5 n5 f5=>?_
 have v31:Act.eval ⟨t5,[]⟩ (.tmp 31)=.slice (some ⟨b,o'+M*inf.size,none⟩) (N - M) (cap - M):=by
  have e1:=(val_ok (ds:=[]) f5 (.tmp 31)).v_inv (x:=.slice (if cap=M then some ⟨b,o',none⟩ else (some (⟨b,o',none⟩:Addr)).map (·.add (M*inf.size))) (N - M) (cap - M))
  rw [if_neg (by omega)] at e1
  simpa [addr_add] using e1
 have hfit2:o'+M*inf.size+(Builtin.zeroCells z.cells (N - M)).toList.length≤cur.size:=by
  have h2:(M+(N - M))*inf.size≤cap*inf.size:=Nat.mul_le_mul_right _ (by omega)
  rw [Nat.add_mul] at h2
  omega
 have hrun:=run_clearX (P:=P) (o:=a5) (w:=w) (tmps:=t5) hT.u hi hz s5.op v31 (by omega) h1 hb hfit2
 have hF:∀ b',F b'→F b'∧(w.setRow b (cur.toList.take (o'+M*inf.size)++(Builtin.zeroCells z.cells (N - M)).toList++cur.toList.drop (o'+M*inf.size+(Builtin.zeroCells z.cells (N - M)).toList.length)).toArray).heap[b']?=w.heap[b']?:=fun b' hb'=>⟨hb',setRow_other w b b' _ fun e=>hO (e▸hb')⟩
 have hS:Sizes w (w.setRow b (cur.toList.take (o'+M*inf.size)++(Builtin.zeroCells z.cells (N - M)).toList++cur.toList.drop (o'+M*inf.size+(Builtin.zeroCells z.cells (N - M)).toList.length)).toArray):=fun b' cs1 t1 h1=>by
  by_cases e:b'=b
  ·subst e
   rw [hb] at h1
   cases h1
   refine ⟨_,setRow_heap w b' cur _ te (0,0) hb,?_⟩
   have hfit3:=hfit2
   simp only [Array.length_toList] at hfit3
   simp only [List.size_toArray,List.length_append,List.length_take,List.length_drop,Array.length_toList]
   omega
  ·exact ⟨cs1,by rw [setRow_other w b b' _ e];exact h1,rfl⟩
 refine rawL_run (n:=n) s5.g hrun s5.dst rfl n5 (f5.mono hF hS) (r:=.j) (.j _) fun t6 n6 f6=>?_
 unfold wpList
 exact h t6 n6 (f6.weak (Pk.all (E':=[(0,.v (.slice (some ⟨b,o',none⟩) M cap))]) ⟨rfl,trivial⟩))
end
theorem Cell.okC {F:Nat→Prop} {Λ:Lbl} {w:World} {bx:Bool} {L:List Nat} {c:Value} {x:A} (hb:x.inCell=true) (h:Cell F Λ w bx L c x):OK F Λ w c x:=by
 cases x<;>first | exact h.2 | (simp [A.inCell] at hb)
section
variable {P:Program} {n m:Nat} {K:Exit→Env→Store→Prop} {E:Env} {σ:Store}
theorem T_del {α:Type} {Y:Ty α} {t e:Nat} {zs:List Value} (hT:SlT P t e Y.k) (hz:ZeroT P e zs) (hzk:zs.length=Y.k) (hm:P.follows .mixedOrders=true) {a0 a1 a2 a3 a4 a5 a6 a7 b0 b1 b2 b3 b4 b5:Oper} {id5 id6:Nat} {rest:Code}
  (s0:IsOp a0 (some 20) (.move (.tmp 0))) (s1:IsOp a1 (some 21) (.move (.tmp 1))) (s2:IsOp a2 (some 22) (.slice t (.tmp 20) none (some (.tmp 21)) none)) (s3:IsOp a3 (some 23) (.move (.tmp 0))) (s4:IsOp a4 (some 24) (.move (.tmp 2))) (s5:IsOp a5 (some 25) (.slice t (.tmp 23) (some (.tmp 24)) none none)) (s6:IsOp a6 (some 26) (.call { callee:=.builtin .append,args:=#[.tmp 22,.tmp 25],argTypes:=#[t,t] })) (s7:IsOp a7 (some 0) (.assign (.tmp 26)))
  {c:Nat→Array Bool} (hc0:c 0=#[false,false,false,false,false,false,false,false]) (hcs:∀ q,q<8→(c q).setIfInBounds q true=c (q+1))
  (hc:∀ q,q<8→q≠6→(Region.noSelect #[a0,a1,a2,a3,a4,a5,a6,a7] && (Region.ready .any #[a0,a1,a2,a3,a4,a5,a6,a7] (c q)).contains q && Region.free .any #[a0,a1,a2,a3,a4,a5,a6,a7] (c q) q)=true)
  (h6:Region.ready .any #[a0,a1,a2,a3,a4,a5,a6,a7] (c 6)=[6]) (h8:Region.ready .any #[a0,a1,a2,a3,a4,a5,a6,a7] (c 8)=[])
  (r0:IsOp b0 (some 27) (.move (.tmp 0))) (r1:IsOp b1 (some 28) (.move (.tmp 0))) (r2:IsOp b2 (some 29) (.call { callee:=.builtin .len,args:=#[.tmp 28],argTypes:=#[t] })) (r3:IsOp b3 (some 30) (.move (.tmp 7))) (r4:IsOp b4 (some 31) (.slice t (.tmp 27) (some (.tmp 29)) (some (.tmp 30)) none)) (r5:IsOp b5 none (.call { callee:=.builtin .clear,args:=#[.tmp 31],argTypes:=#[t] }))
  (hn33:33≤n) {xs:List α} {i j l:Nat} (hij:i<j) (hj:j≤xs.length) (hσ:σ[l]?=some (.row (flat Y.enc xs))) (e0:lk E 0=.m [l] 0 xs.length Y.k) (e1:lk E 1=intA i) (e2:lk E 2=intA j) (e7:lk E 7=intA xs.length)
  (h:T P n m rest K [(0,.m [l] 0 (xs.take i++xs.drop j).length Y.k)] (σ.set l (.row (flat Y.enc (xs.take i++xs.drop j))))) :
  T P n m (.seq (.region id5 #[a0,a1,a2,a3,a4,a5,a6,a7] true) (.seq (.region id6 #[b0,b1,b2,b3,b4,b5] false) rest)) K E σ:=fun F Λ w tmps Q hn hs hf hq=>by
 obtain ⟨⟨inf,z,z1,z2,z3⟩,z4⟩:=hz
 have hk:inf.size=Y.k:=by obtain ⟨i2,g1,g2⟩:=hT.i;rw [z1] at g1;cases g1;exact g2
 have hk0:=hT.pos
 have hrow:rowAt σ [l]=some (flat Y.enc xs):=by simp only [rowAt,hσ,Root.cells,sub]
 have hv0:=hf 0
 rw [e0] at hv0
 rcases hv0.m_inv with ⟨h0,_⟩ | ⟨b,o',cap,hL,g2,hN,hcap,cs,te,g5,g6⟩
 ·omega
 simp only [Nat.add_zero] at g2 g6
 have hO:¬ F b:=fun hb=>hs.notOwn hb ⟨[l],_,o',hrow,hL⟩
 have hfl:(flat Y.enc xs).length=xs.length*Y.k:=flat_len Y.len xs
 have hcell:∀ (d:Nat) y,(flat Y.enc xs)[d]?=some y→∃ c,cs[o'+d]?=some c∧OK F Λ w c y:=fun d y hy=>by
  obtain ⟨c,k1,k2⟩:=hs.cellAt hrow hL hy
  refine ⟨c,?_,k2.okC (cellAll (flat_cell Y xs) y (List.mem_of_getElem? hy))⟩
  simpa [World.cell?,g5] using k1
 have hNk:xs.length*Y.k≤cap*Y.k:=Nat.mul_le_mul_right _ hN
 have hjk:j*Y.k≤xs.length*Y.k:=Nat.mul_le_mul_right _ hj
 have hik:i*Y.k≤j*Y.k:=Nat.mul_le_mul_right _ (by omega)
 have hsub:(xs.length - j)*Y.k=xs.length*Y.k - j*Y.k:=Nat.sub_mul ..
 -- the cells that move
 obtain ⟨news,hnews⟩:∃ news,news=(cs.toList.drop (o'+j*Y.k)).take ((xs.length - j)*Y.k):=⟨_,rfl⟩
 have hnl:news.length=(xs.length - j)*Y.k:=by rw [hnews];simp only [List.length_take,List.length_drop,Array.length_toList];omega
 have hng:∀ q,q<(xs.length - j)*Y.k→news[q]?=cs[o'+j*Y.k+q]?:=fun q hq=>by
  rw [hnews,List.getElem?_take_of_lt hq,List.getElem?_drop,Array.getElem?_toList]
 have hone:∀ u∈news,u.oneCell'=true:=fun u hu=>by
  obtain ⟨q,hq⟩:=List.getElem?_of_mem hu
  have hql:q<(xs.length - j)*Y.k:=by have:=(List.getElem?_eq_some_iff.1 hq).1;omega
  rw [hng q hql] at hq
  have hd:j*Y.k+q<(flat Y.enc xs).length:=by omega
  obtain ⟨u',k1,k2⟩:=hcell _ _ (List.getElem?_eq_getElem hd)
  rw [← Nat.add_assoc,hq] at k1
  cases k1
  exact oneCell_sc (k2.cells1 (inCell_inBox (cellAll (flat_cell Y xs) _ (List.getElem_mem hd)))).2
 have hzc:z.cells.size=Y.k:=by rw [← hzk,← z3];simp
 obtain ⟨M,hM⟩:∃ M,M=i+(xs.length - j):=⟨_,rfl⟩
 obtain ⟨zc,hzcl⟩:∃ zc,zc=(Builtin.zeroCells z.cells (xs.length - M)).toList:=⟨_,rfl⟩
 have hzl:zc.length=(xs.length - M)*Y.k:=by rw [hzcl,Array.length_toList,size_zeroCells,hzc]
 have hzone:∀ u∈zc,u.oneCell'=true:=fun u hu=>by
  rw [hzcl] at hu
  simp only [Builtin.zeroCells,Array.toList_map,List.mem_map] at hu
  obtain ⟨q,_,rfl⟩:=hu
  have hq:q % z.cells.size<z.cells.size:=Nat.mod_lt _ (by omega)
  refine oneCell_sc (z4 _ ?_)
  rw [← z3,getElem!_pos z.cells _ hq]
  simp
 obtain ⟨cs1,hcs1⟩:∃ cs1,cs1=(cs.toList.take (o'+i*Y.k)++news++cs.toList.drop (o'+i*Y.k+news.length)).toArray:=⟨_,rfl⟩
 obtain ⟨cs2,hcs2⟩:∃ cs2,cs2=(cs1.toList.take (o'+M*Y.k)++zc++cs1.toList.drop (o'+M*Y.k+zc.length)).toArray:=⟨_,rfl⟩
 have hMk:M*Y.k=i*Y.k+(xs.length - j)*Y.k:=by rw [hM,Nat.add_mul]
 have hNM:(xs.length - M)*Y.k=xs.length*Y.k - M*Y.k:=Nat.sub_mul ..
 have hsz1:cs1.size=cs.size:=by
  rw [hcs1]
  simp only [List.size_toArray,List.length_append,List.length_take,List.length_drop,Array.length_toList]
  omega
 have hsz2:cs2.size=cs.size:=by
  rw [hcs2]
  simp only [List.size_toArray,List.length_append,List.length_take,List.length_drop,Array.length_toList]
  omega
 have hf0:FrOK F Λ { w with drawn:=w.drawn+1 } tmps [(0,.v (.slice (some ⟨b,o',none⟩) xs.length cap)),(1,intA i),(2,intA j),(7,intA xs.length)]:=by
  have hfm:FrOK F Λ { w with drawn:=w.drawn+1 } tmps E:=FrOK.mono (w:=w) (w':={ w with drawn:=w.drawn+1 }) (fun b hb=>⟨hb,rfl⟩) (fun b cs t h=>⟨cs,h,rfl⟩) hf
  have hfe:FrOK F Λ { w with drawn:=w.drawn+1 } tmps ((0,.v (.slice (some ⟨b,o',none⟩) xs.length cap))::E):=fun u=>by
   simp only [lk]
   split
   ·rename_i eq
    have eq:0=u:=by simpa using eq
    subst eq
    rw [g2]
    exact .imm (.v _)
   ·exact hfm u
  exact hfe.weak (Pk.all ⟨rfl,by simp [lk,e1],by simp [lk,e2],by simp [lk,e7],trivial⟩)
 refine wp_seq (wp_mono (wp_region_any hm (Q:=onlyN fun a w=>(Code.seq (.region id6 #[b0,b1,b2,b3,b4,b5] false) rest).wp P Q a w) ?_) fun e a w h=>by cases e<;>first | exact h | exact h.elim)
 refine del5 (n:=n) (w:={ w with drawn:=w.drawn+1 }) hT z1 hk s0 s1 s2 s3 s4 s5 s6 s7 hc0 hcs hc h6 h8 hn hn33 (b:=b) (o':=o') (N:=xs.length) (cap:=cap) (i:=i) (j:=j) (cur:=cs) (te:=te) g5 hij hj hN (by omega) hf0 hO hnl (fun q v hq=>?_) hone fun tmps5 n5 f5=>?_
 ·have hql:q<(xs.length - j)*Y.k:=by have:=(List.getElem?_eq_some_iff.1 hq).1;omega
  rw [hng q hql] at hq
  simpa [World.cell?,g5] using hq
 ·rw [← hcs1] at f5 ⊢
  rw [← hM] at f5
  have hb1:(World.setRow { w with drawn:=w.drawn+1 } b cs1).heap[b]?=some (.cells cs1 te (0,0)):=setRow_heap _ b cs cs1 te (0,0) g5
  refine wp_seq (wp_region_list ?_)
  refine del6 (n:=n) hT z1 hk z2 r0 r1 r2 r3 r4 r5 n5 hn33 (b:=b) (o':=o') (N:=xs.length) (M:=M) (cap:=cap) (cur:=cs1) (te:=te) hb1 (by omega) hN (by omega) f5 hO hzcl.symm hzl hzone fun tmps6 n6 f6=>?_
  rw [← hcs2] at f6 ⊢
  have hlen:(xs.take i++xs.drop j).length=M:=by simp only [List.length_append,List.length_take,List.length_drop];omega
  have hflat:flat Y.enc (xs.take i++xs.drop j)=(flat Y.enc xs).take (i*Y.k)++(flat Y.enc xs).drop (j*Y.k):=by rw [← flat_app,flat_take Y.len,flat_drop Y.len]
  have hb2:(World.setRow (World.setRow { w with drawn:=w.drawn+1 } b cs1) b cs2).heap[b]?=some (.cells cs2 te (0,0)):=setRow_heap _ b cs1 cs2 te (0,0) hb1
  have hg2:∀ d,d<M*Y.k→cs2[o'+d]?=cs1[o'+d]?:=fun d hd=>by
   rw [hcs2,List.getElem?_toArray,List.append_assoc,List.getElem?_append_left (by simp only [List.length_take,Array.length_toList];omega),List.getElem?_take_of_lt (by omega),Array.getElem?_toList]
  have hg1a:∀ d,d<i*Y.k→cs1[o'+d]?=cs[o'+d]?:=fun d hd=>by
   rw [hcs1,List.getElem?_toArray,List.append_assoc,List.getElem?_append_left (by simp only [List.length_take,Array.length_toList];omega),List.getElem?_take_of_lt (by omega),Array.getElem?_toList]
  have hg1b:∀ q,q<(xs.length - j)*Y.k→cs1[o'+(i*Y.k+q)]?=cs[o'+(j*Y.k+q)]?:=fun q hq=>by
   rw [hcs1,List.getElem?_toArray,List.append_assoc,List.getElem?_append_right (by simp only [List.length_take,Array.length_toList];omega)]
   have e:o'+(i*Y.k+q) - (cs.toList.take (o'+i*Y.k)).length=q:=by simp only [List.length_take,Array.length_toList];omega
   rw [e,List.getElem?_append_left (by omega),hng q hq,Nat.add_assoc]
  have hturn:=St.turn (m:=m) (w':=World.setRow (World.setRow { w with drawn:=w.drawn+1 } b cs1) b cs2) hs hσ (ys:=flat Y.enc (xs.take i++xs.drop j)) (fun y hy=>inCell_plain (cellAll (flat_cell Y _) y hy)) hL g5 hb2 hsz2 (fun b' hb'=>(setRow_other _ b b' _ hb').trans (setRow_other _ b b' _ hb')) (by simp [World.setRow]) ⟨rfl,fun _=>by first | exact Nat.le_refl _ | exact Nat.le_succ _⟩ rfl rfl fun d y hy=>by
   have hin:=cellAll (flat_cell Y _) y (List.mem_of_getElem? hy)
   have hd:d<M*Y.k:=by have:=(List.getElem?_eq_some_iff.1 hy).1;rwa [flat_len Y.len,hlen] at this
   rw [hflat] at hy
   rw [hg2 d hd]
   by_cases hdi:d<i*Y.k
   ·rw [List.getElem?_append_left (by rw [List.length_take];omega),List.getElem?_take_of_lt hdi] at hy
    obtain ⟨c,k1,k2⟩:=hcell d y hy
    exact ⟨c,by rw [hg1a d hdi];exact k1,.ofCell hin k2⟩
   ·rw [List.getElem?_append_right (by rw [List.length_take];omega),List.getElem?_drop] at hy
    have e:j*Y.k+(d - ((flat Y.enc xs).take (i*Y.k)).length)=j*Y.k+(d - i*Y.k):=by rw [List.length_take];omega
    rw [e] at hy
    obtain ⟨c,k1,k2⟩:=hcell _ y hy
    refine ⟨c,?_,.ofCell hin k2⟩
    have:=hg1b (d - i*Y.k) (by omega)
    rw [show i*Y.k+(d - i*Y.k)=d by omega] at this
    rw [this];exact k1
  have hfE:FrOK F Λ (World.setRow (World.setRow { w with drawn:=w.drawn+1 } b cs1) b cs2) tmps6 [(0,.m [l] 0 (xs.take i++xs.drop j).length Y.k)]:=fun u=>by
   simp only [lk]
   split
   ·rename_i eq
    have eq:0=u:=by simpa using eq
    subst eq
    have:=(f6 0).v_inv (x:=.slice (some ⟨b,o',none⟩) M cap)
    rw [this,hlen]
    exact .m (.inr ⟨b,o',cap,hL,rfl,by omega,hcap,cs2,te,hb2,by omega⟩)
   ·exact .j _
  exact h F Λ _ tmps6 Q n6 hturn.1 hfE fun e F2 Λ2 σ2 w2 tmps2 E2 hn2 hs2 hf2 hst2 hK2=>hq e F2 Λ2 σ2 w2 tmps2 E2 hn2 hs2 hf2 (hturn.2.trans hst2) hK2
end
end Go.Sep
namespace Go.Sep
open Go
def cutOut {α:Type} (xs:List α) (i j:Int):Option (List α):=if 0≤i∧i≤j∧j≤xs.length then some (xs.take i.toNat++xs.drop j.toNat) else none
theorem cutOut_ok {α:Type} {xs:List α} {i j:Nat} (h1:i≤j) (h2:j≤xs.length):cutOut xs (i:Int) (j:Int)=some (xs.take i++xs.drop j):=by
 unfold cutOut;rw [if_pos (by omega)];simp
theorem cutOut_inv {α:Type} {xs r:List α} {a b:Int} (h:cutOut xs a b=some r):∃ i j:Nat,a=i∧b=j∧i≤j∧j≤xs.length∧r=xs.take i++xs.drop j:=by
 unfold cutOut at h
 split at h
 case isFalse=>cases h
 rename_i h0
 cases h
 exact ⟨a.toNat,b.toNat,by omega,by omega,by omega,by omega,rfl⟩
section
variable {P:Program} {E:Env} {σ:Store} {o:Oper}
theorem pur_cut3J {t e k:Nat} {x lo hi mx:Operand} {L:List Nat} {a nn i j q:Nat} (hT:SlT P t e k) (hx:val E x=.m L a nn k) (hlo:val E lo=intA i) (hhi:val E hi=intA j) (hmx:val E mx=intA q) (h1:i≤j) (h2:j≤q) (h3:q≤nn) (h:o.op=.slice t x (some lo) (some hi) (some mx)):Pur P o E σ .j:=fun F Λ w tmps hs hf=>by
 have e1:=val_ok (ds:=[]) hf x
 rw [hx] at e1
 obtain ⟨ad,cap,hv,hc⟩:∃ ad cap,Act.eval ⟨tmps,[]⟩ x=.slice ad nn cap∧nn≤cap:=by
  rcases e1.m_inv with ⟨h0,ad,h4⟩ | ⟨b,o',cap,hL,h5,h6,h7⟩
  ·exact ⟨ad,0,by rw [h4,h0],by omega⟩
  ·exact ⟨_,cap,h5,h6⟩
 have e2:=val_ok (ds:=[]) hf lo
 rw [hlo] at e2
 have e2:=e2.v_inv
 have e3:=val_ok (ds:=[]) hf hi
 rw [hhi] at e3
 have e3:=e3.v_inv
 have e4:=val_ok (ds:=[]) hf mx
 rw [hmx] at e4
 have e4:=e4.v_inv
 refine ⟨.slice (if q=i then ad else ad.map (·.add (i*k))) (j - i) (q - i),.j _,fun w' ha=>?_⟩
 simp only [execOp,h,hv,Option.map_some,e2,e3,e4]
 simp [Instr.sliceAt,run_underlying hT.u,Instr.slice,Instr.sliceBounds,run_sliceBound,run_sizeOf' hT.i,show (q:Int)≤cap by omega,show (j:Int)≤q by omega,show (i:Int)≤j by omega]
end
end Go.Sep
set_option linter.unusedVariables false
set_option linter.unusedSimpArgs false
namespace Go.Sep
open Go
structure Tab where
  fld:List (Nat × Nat × Nat × Nat)
  one:List Nat
  agg:List (Nat × Nat)
def TabOK (P:Program) (T:Tab):Prop:=(∀ p∈T.fld,FldT P p.1 p.2.1 p.2.2.1 p.2.2.2)∧(∀ t∈T.one,OneT P t)∧∀ p∈T.agg,AggT P p.1 p.2
def fldAt:List (Nat × Nat × Nat × Nat)→Nat→Nat→Option (Nat × Nat)
 | [],_,_=>none
 | (t,x,o,ft)::l,t',x'=>if t=t'∧x=x' then some (o,ft) else fldAt l t' x'
def aggAt:List (Nat × Nat)→Nat→Option Nat
 | [],_=>none
 | (t,k)::l,t'=>if t=t' then some k else aggAt l t'
theorem tbN {α:Type} {Q:α→Prop}:∀ p∈([]:List α),Q p:=fun _ h=>nomatch h
theorem tbC {α:Type} {Q:α→Prop} {a:α} {l:List α} (h:Q a) (hl:∀ p∈l,Q p):∀ p∈a::l,Q p:=List.forall_mem_cons.2 ⟨h,hl⟩
theorem fldAt_mem:∀ {l:List (Nat × Nat × Nat × Nat)} {t x o ft},fldAt l t x=some (o,ft)→(t,x,o,ft)∈l
 | (t,x,o,ft)::l,t',x',o',ft',h=>by
  simp only [fldAt] at h
  split at h
  ·rename_i e
   obtain ⟨rfl,rfl⟩:=e
   cases h;exact List.mem_cons_self ..
  ·exact List.mem_cons_of_mem _ (fldAt_mem h)
theorem aggAt_mem:∀ {l:List (Nat × Nat)} {t k},aggAt l t=some k→(t,k)∈l
 | (t,k)::l,t',k',h=>by
  simp only [aggAt] at h
  split at h
  ·rename_i e
   subst e
   cases h;exact List.mem_cons_self ..
  ·exact List.mem_cons_of_mem _ (aggAt_mem h)
def asB:A→Option Bool
 | .v (.bool b)=>some b
 | _=>none
def asI:A→Option (IntKind × Int)
 | .v (.int k z)=>some (k,z)
 | _=>none
def asT:A→Option (List A)
 | .t xs=>some xs
 | _=>none
def asG:A→Option (List A)
 | .g xs=>some xs
 | _=>none
theorem asB_of {x:A} {b} (h:asB x=some b):x=.v (.bool b):=by
 unfold asB at h;split at h<;>cases h;rfl
theorem asI_of {x:A} {b} (h:asI x=some b):x=.v (.int b.1 b.2):=by
 unfold asI at h;split at h<;>cases h;rfl
theorem asT_of {x:A} {b} (h:asT x=some b):x=.t b:=by
 unfold asT at h;split at h<;>cases h;rfl
theorem asG_of {x:A} {b} (h:asG x=some b):x=.g b:=by
 unfold asG at h;split at h<;>cases h;rfl
def arith (op:BinOp) (k:IntKind) (a b:Int):Option A:=match op with
 | .add=>some (.v (.int k (k.wrap (a+b))))
 | .sub=>some (.v (.int k (k.wrap (a - b))))
 | .mul=>some (.v (.int k (k.wrap (a*b))))
 | .lss=>some (.v (.bool (decide (a<b))))
 | .leq=>some (.v (.bool (decide (a≤b))))
 | .gtr=>some (.v (.bool (decide (b<a))))
 | .geq=>some (.v (.bool (decide (b≤a))))
 | .eql=>some (.v (.bool (decide (a=b))))
 | .neq=>some (.v (.bool (decide (a≠b))))
 | _=>none
def addrA (off:Nat):A→Option A
 | .b l a=>some (.b l (a+off))
 | .q xs d=>some (.q xs (d+off))
 | .e L a=>some (.e L (a+off))
 | _=>none
def loadA (T:Tab) (σ:Store) (t:Nat):A→Option A
 | .b l d=>match rowAt σ [l] with
  | some xs=>if T.one.contains t=true then (xs[d]?).map (cellVal [l,d]) else (aggAt T.agg t).bind fun k=>if d+k≤xs.length then some (.g (cellVals [l] d ((xs.drop d).take k))) else none
  | none=>none
 | .q xs d=>if T.one.contains t=true then xs[d]? else (aggAt T.agg t).bind fun k=>if d+k≤xs.length then some (.g ((xs.drop d).take k)) else none
 | _=>none
def pv1 (T:Tab) (E:Env) (σ:Store):Op→Option A
 | .move x=>some (val E x)
 | .assign x=>some (val E x)
 | .extract x i=>(asT (val E x)).bind fun xs=>xs[i]?
 | .pick c a b=>(asB (val E c)).bind fun t=>some (if t then val E a else val E b)
 | .unOp .not _ x=>(asB (val E x)).bind fun b=>some (.v (.bool (!b)))
 | .binOp op _ x y _=>(asI (val E x)).bind fun p=>(asI (val E y)).bind fun q=>if p.1=q.1 then arith op p.1 p.2 q.2 else none
 | .makeFunc (.func fn) f cs=>match f.toList with
  | []=>some (.f fn (cs.toList.map (val E)))
  | _=>none
 | .fieldAddr t x f=>(fldAt T.fld t f).bind fun p=>addrA p.1 (val E x)
 | .field t x f=>(fldAt T.fld t f).bind fun p=>if T.one.contains p.2=true then (asG (val E x)).bind fun xs=>xs[p.1]? else none
 | .load t x=>loadA T σ t (val E x)
 | _=>none
theorem pv1_ok {P:Program} {T:Tab} (hT:TabOK P T) {E:Env} {σ:Store} {o:Oper} {op:Op} (ho:o.op=op) {r:A} (h:pv1 T E σ op=some r):Pur P o E σ r:=by
 obtain ⟨hF,hO,hG⟩:=hT
 unfold pv1 at h
 split at h
 ·cases h;exact pur_move ho
 ·cases h;exact pur_assign ho
 ·simp only [Option.bind_eq_some_iff] at h
  obtain ⟨xs,h1,h2⟩:=h
  exact pur_extract (asT_of h1) h2 ho
 ·simp only [Option.bind_eq_some_iff] at h
  obtain ⟨t,h1,h2⟩:=h
  exact pur_pick ho (asB_of h1) (Option.some.inj h2)
 ·simp only [Option.bind_eq_some_iff] at h
  obtain ⟨t,h1,h2⟩:=h
  cases h2
  exact pur_not ho (asB_of h1)
 ·simp only [Option.bind_eq_some_iff] at h
  obtain ⟨p,h1,q,h2,h3⟩:=h
  obtain ⟨k,a⟩:=p
  obtain ⟨k',b⟩:=q
  split at h3
  ·rename_i e
   simp only at e
   subst e
   have h1:=asI_of h1
   have h2:=asI_of h2
   unfold arith at h3
   split at h3<;>cases h3
   ·exact pur_wadd ho h1 h2
   ·exact pur_wsub ho h1 h2
   ·exact pur_wmul ho h1 h2
   ·exact pur_lss ho h1 h2
   ·exact pur_leq ho h1 h2
   ·exact pur_gtr ho h1 h2
   ·exact pur_geq ho h1 h2
   ·exact pur_eql ho h1 h2
   ·exact pur_neq ho h1 h2
  ·cases h3
 ·rename_i fn f cs
  split at h
  ·rename_i hf
   cases h
   have:f=#[]:=by cases f;simpa using hf
   subst this
   exact pur_makeFunc (cs:=cs.toList) (by rw [ho])
  ·cases h
 ·simp only [Option.bind_eq_some_iff] at h
  obtain ⟨p,h1,h2⟩:=h
  have h1:=hF _ (fldAt_mem h1)
  unfold addrA at h2
  split at h2<;>cases h2
  ·exact pur_fa_b h1 ‹_› ho
  ·exact pur_fa_q h1 ‹_› ho
  ·exact pur_fa_e h1 ‹_› ho
 ·simp only [Option.bind_eq_some_iff] at h
  obtain ⟨p,h1,h2⟩:=h
  split at h2
  ·rename_i h3
   simp only [Option.bind_eq_some_iff] at h2
   obtain ⟨xs,h4,h5⟩:=h2
   exact pur_field1 (hF _ (fldAt_mem h1)) (hO _ (by simpa using h3)) (asG_of h4) h5 ho
  ·cases h2
 ·unfold loadA at h
  split at h
  ·split at h
   ·rename_i xs hr
    split at h
    ·rename_i h3
     simp only [Option.map_eq_some_iff] at h
     obtain ⟨y,h4,rfl⟩:=h
     exact pur_ld_b (hO _ (by simpa using h3)) ‹_› hr h4 ho
    ·simp only [Option.bind_eq_some_iff] at h
     obtain ⟨k,h4,h5⟩:=h
     split at h5
     ·rename_i h6
      cases h5
      exact pur_ldK_b (hG _ (aggAt_mem h4)) ‹_› hr h6 ho
     ·cases h5
   ·cases h
  ·split at h
   ·rename_i h3
    exact pur_ld_q (hO _ (by simpa using h3)) ‹_› h ho
   ·simp only [Option.bind_eq_some_iff] at h
    obtain ⟨k,h4,h5⟩:=h
    split at h5
    ·rename_i h6
     cases h5
     exact pur_ldK_q (hG _ (aggAt_mem h4)) ‹_› h6 ho
    ·cases h5
  ·cases h
 ·cases h
def pvG (T:Tab) (n:Nat) (ops:Array Oper) (E:Env) (σ:Store) (o:Oper):Option A:=match o.guard with
 | none=>pv1 T E σ o.op
 | some (j,want)=>((ops[j]?).bind (·.dst)).bind fun d=>if d<n then (match lk E d with
  | .v (.bool b)=>if b=want then pv1 T E σ o.op else some (.v undef)
  | .v x=>if offB want x=true then some (.v undef) else none
  | _=>none) else none
inductive PvG (P:Program) (n:Nat) (ops:Array Oper) (E:Env) (σ:Store) (o:Oper):A→Prop
  | free {r}:o.guard=none→Pur P o E σ r→PvG P n ops E σ o r
  | on {j d want r}:o.guard=some (j,want)→(ops[j]?).bind (·.dst)=some d→d<n→lk E d=.v (.bool want)→Pur P o E σ r→PvG P n ops E σ o r
  | off {j d want v0}:o.guard=some (j,want)→(ops[j]?).bind (·.dst)=some d→d<n→lk E d=.v v0→offB want v0=true→PvG P n ops E σ o (.v undef)
theorem pvG_ok {P:Program} {T:Tab} (hT:TabOK P T) {n:Nat} {ops:Array Oper} {E:Env} {σ:Store} {o:Oper} {r:A} (h:pvG T n ops E σ o=some r):PvG P n ops E σ o r:=by
 unfold pvG at h
 split at h
 ·rename_i hg;exact .free hg (pv1_ok hT rfl h)
 ·rename_i j want hg
  simp only [Option.bind_eq_some_iff] at h
  obtain ⟨d,hd,h⟩:=h
  split at h
  ·rename_i hdn
   split at h
   ·rename_i b hl
    split at h
    ·rename_i e;subst e;exact .on hg (by simpa [Option.bind_eq_some_iff] using hd) hdn hl (pv1_ok hT rfl h)
    ·rename_i e;cases h
     exact .off hg (by simpa [Option.bind_eq_some_iff] using hd) hdn hl (by simpa [offB] using e)
   ·rename_i x _ hl
    split at h
    ·rename_i ho;cases h;exact .off hg (by simpa [Option.bind_eq_some_iff] using hd) hdn hl ho
    ·cases h
   ·cases h
  ·cases h
def pvs (T:Tab) (n:Nat) (ops:Array Oper) (σ:Store):Nat→List Oper→Env→Option (List Oper × Env)
 | 0,os,E=>some (os,E)
 | k+1,o::os,E=>(pvG T n ops E σ o).bind fun r=>if dstOK n o.dst=true then pvs T n ops σ k os (put E o.dst r) else none
 | _+1,[],_=>none
section
variable {P:Program} {T:Tab} {n m:Nat} {N:Env→Store→Prop} {E:Env} {σ κ:Store} {ops:Array Oper} {os:List Oper} {o:Oper} {fuel:Nat} {listed:Array Bool}
theorem pv (hT:TabOK P T):∀ (k:Nat) {os:List Oper} {E:Env} {os':List Oper} {E':Env},pvs T n ops σ k os E=some (os',E')→TO P n m ops os' N E' σ→TO P n m ops os N E σ
 | 0,_,_,_,_,h,H=>by cases h;exact H
 | k+1,o::os,E,os',E',h,H=>by
  simp only [pvs,Option.bind_eq_some_iff] at h
  obtain ⟨r,h1,h2⟩:=h
  split at h2
  ·rename_i hd
   have H:=pv hT k h2 H
   cases pvG_ok hT h1 with
   | free hg hp=>exact TO_cons hg (TOp_pure hp hd H)
   | on hg hj hdn hl hp=>exact TO_on hg hj hdn hl hd (TOp_pure hp hd H)
   | off hg hj hdn hl ho=>exact TO_off hg hj hdn hl ho hd H
  ·cases h2
 | _+1,[],_,_,_,h,_=>by cases h
theorem pq (hT:TabOK P T):∀ (k:Nat) {os:List Oper} {E:Env} {os':List Oper} {E':Env},pvs T n ops σ k os E=some (os',E')→TQ P n m ops os' N E' σ→TQ P n m ops os N E σ
 | 0,_,_,_,_,h,H=>by cases h;exact H
 | k+1,o::os,E,os',E',h,H=>by
  simp only [pvs,Option.bind_eq_some_iff] at h
  obtain ⟨r,h1,h2⟩:=h
  split at h2
  ·rename_i hd
   have H:=pq hT k h2 H
   cases pvG_ok hT h1 with
   | free hg hp=>exact TQ_pure hg hp hd H
   | on hg hj hdn hl hp=>exact TQ_on hg hj hdn hl hp hd H
   | off hg hj hdn hl ho=>exact TQ_off hg hj hdn hl ho hd H
  ·cases h2
 | _+1,[],_,_,_,h,_=>by cases h
def pvA (T:Tab) (n:Nat) (ops:Array Oper) (σ:Store):List Nat→Env→Option Env
 | [],E=>some E
 | i::is,E=>(ops[i]?).bind fun o=>(pvG T n ops E σ o).bind fun r=>if dstOK n o.dst=true then pvA T n ops σ is (put E o.dst r) else none
def pvOK (ops:Array Oper):List Nat→Array Bool→Bool
 | [],_=>true
 | i::is,l=>Region.noSelect ops && (Region.ready .any ops l).contains i && Region.free .any ops l i && pvOK ops is (l.setIfInBounds i true)
def pvL:List Nat→Array Bool→Array Bool
 | [],l=>l
 | i::is,l=>pvL is (l.setIfInBounds i true)
theorem pa (hT:TabOK P T):∀ (is:List Nat) (f:Nat) {fuel:Nat} {listed:Array Bool} {E:Env} {E':Env},fuel=f+is.length→pvOK ops is listed=true→pvA T n ops (pads κ σ.length) is E=some E'→TA P n m κ ops f (pvL is listed) N E' σ→TA P n m κ ops fuel listed N E σ
 | [],f,fuel,l,E,E',hf,hc,h,H=>by cases h;subst hf;exact H
 | i::is,f,fuel,l,E,E',hf,hc,h,H=>by
  simp only [pvA,Option.bind_eq_some_iff] at h
  obtain ⟨o,hi,r,h1,h2⟩:=h
  simp only [pvOK,Bool.and_eq_true] at hc
  obtain ⟨⟨⟨c1,c2⟩,c3⟩,c4⟩:=hc
  split at h2
  ·rename_i hd
   have H:=pa hT is f (fuel:=f+is.length) rfl c4 h2 H
   have hf:fuel=f+is.length+1:=by rw [hf];simp;omega
   subst hf
   cases pvG_ok hT h1 with
   | free hg hp=>exact TA_first i _ hi hp (fun F Λ w tmps _ _=>by simp [Region.wanted,hg]) hd rfl c1 c2 c3 H
   | on hg hj hdn hl hp=>exact TA_first i _ hi hp (fun F Λ w tmps hn hf=>by simp [Region.wanted,hg,yielded_of hf hn hj hdn hl]) hd rfl c1 c2 c3 H
   | off hg hj hdn hl ho=>exact TA_off i _ hi hg hj hdn hl ho hd rfl c1 c2 c3 H
  ·cases h2
end
end Go.Sep
set_option linter.unusedVariables false
set_option linter.unusedSimpArgs false
namespace Go.Sep
open Go
def regL (Λ:Lbl) (s l:Nat) (lab:Nat × Nat) (π:Nat→Option Nat):Lbl:=fun L=>match L with
 | []=>Λ []
 | h::p=>if h=s then (match p with
  | []=>some lab
  | d::q=>match π d with
   | some e=>Λ (l::e::q)
   | none=>none) else Λ (h::p)
theorem isBox_long {σ:Store} {a b:Nat} {q:List Nat}:isBox σ (a::b::q)=false:=rfl
section
variable {F:Nat→Prop} {Λ:Lbl} {σ:Store} {w w':World} {l:Nat} {xs ys:List A} {π:Nat→Option Nat}
theorem regL_ext (hs:St F Λ σ w) {lab}:∀ L b o,Λ L=some (b,o)→regL Λ σ.length l lab π L=some (b,o):=fun L b o h=>by
 cases L with
 | nil=>exact h
 | cons a p =>
  simp only [regL]
  rw [if_neg]
  ·exact h
  ·rintro rfl
   rw [hs.lab (σ.length::p) (Nat.le_refl _)] at h;cases h
theorem rowAt_regroup (hr:σ[l]?=some (.row xs)) (hπ:∀ d y,ys[d]?=some y→(∃ e,π d=some e∧xs[e]?=some y)∨y.inCell=true) {L:List Nat} {zs:List A} (h:rowAt (σ.set l .dead++[Root.row ys]) L=some zs) :
  (L=[σ.length]∧zs=ys)∨(∃ d e q,L=σ.length::d::q∧d<ys.length∧π d=some e∧rowAt σ (l::e::q)=some zs)∨(∃ a p,L=a::p∧a<σ.length∧a≠l∧rowAt σ L=some zs):=by
 have hl:l<σ.length:=(List.getElem?_eq_some_iff.1 hr).1
 cases L with
 | nil=>cases h
 | cons a p =>
  rcases Nat.lt_or_ge a σ.length with ha | ha
  ·refine .inr (.inr ⟨a,p,rfl,ha,?_⟩)
   by_cases e:a=l
   ·subst e
    simp only [rowAt,List.getElem?_append_left (show a<(σ.set a .dead).length by simpa using ha),List.getElem?_set_self ha,Root.cells] at h
    cases h
   ·refine ⟨e,?_⟩
    simpa only [rowAt,List.getElem?_append_left (show a<(σ.set l .dead).length by simpa using ha),List.getElem?_set_ne (Ne.symm e)] using h
  ·have hlen:a<(σ.set l .dead++[Root.row ys]).length:=by
    rcases Nat.lt_or_ge a (σ.set l .dead++[Root.row ys]).length with g | g
    ·exact g
    ·simp only [rowAt,List.getElem?_eq_none g] at h;cases h
   have e:a=σ.length:=by simp at hlen;omega
   subst e
   have hg:(σ.set l .dead++[Root.row ys])[σ.length]?=some (.row ys):=by
    rw [List.getElem?_append_right (by simp)];simp
   simp only [rowAt,hg,Root.cells] at h
   cases p with
   | nil=>simp only [sub,Option.some.injEq] at h;exact .inl ⟨rfl,h.symm⟩
   | cons d q =>
    simp only [sub] at h
    split at h
    ·rename_i k us hd
     rcases hπ d _ hd with ⟨e,h1,h2⟩ | h1
     ·exact .inr (.inl ⟨d,e,q,rfl,(List.getElem?_eq_some_iff.1 hd).1,h1,by simp only [rowAt,hr,Root.cells,sub,h2];exact h⟩)
     ·simp [A.inCell] at h1
    ·cases h
theorem St.regroup {m:Nat} (hs:St F Λ σ w) {b o' b2 o2:Nat} {cs2:Array Value} {t2:TypeId} (hr:σ[l]?=some (.row xs)) (hL:Λ [l]=some (b,o'))
    (hb2:b2=b∨w.heap.size≤b2) (hc2:w'.heap[b2]?=some (.cells cs2 t2 (0,0))) (hoth:∀ b',b'<w.heap.size→b'≠b→w'.heap[b']?=w.heap[b']?) (hS:Sizes w w')
    (hsize:w.heap.size≤w'.heap.size) (hos:OsLe w w') (htape:w'.tape=w.tape) (hout:w'.output=w.output)
    (hinj:∀ d d' e,d<ys.length→d'<ys.length→π d=some e→π d'=some e→d=d')
    (hy:∀ (d:Nat) y,ys[d]?=some y→∃ c,cs2[o2+d]?=some c∧((∃ e,π d=some e∧xs[e]?=some y∧Cell F Λ w false [l,e] c y)∨(y.inCell=true∧OK F Λ w c y))) :
    St F (regL Λ σ.length l (b2,o2) π) (σ.set l .dead++[Root.row ys]) w'∧Step m F Λ σ w F (regL Λ σ.length l (b2,o2) π) (σ.set l .dead++[Root.row ys]) w':=by
  have hl:l<σ.length:=(List.getElem?_eq_some_iff.1 hr).1
  have hrow:rowAt σ [l]=some xs:=by simp only [rowAt,hr,Root.cells,Go.Sep.sub]
  have hO:¬ F b:=fun hf=>hs.notOwn hf ⟨[l],xs,o',hrow,hL⟩
  have hF:∀ b',F b'→F b'∧w'.heap[b']?=w.heap[b']?:=fun b' hb'=>⟨hb',hoth b' (hs.old b' hb') fun e=>hO (e▸hb')⟩
  have hext:=regL_ext (l:=l) (π:=π) hs (lab:=(b2,o2))
  have hπ:∀ d y,ys[d]?=some y→(∃ e,π d=some e∧xs[e]?=some y)∨y.inCell=true:=fun d y hd=>by
    obtain ⟨c,_,h1⟩:=hy d y hd
    rcases h1 with ⟨e,h1,h2,_⟩ | ⟨h1,_⟩
    · exact .inl ⟨e,h1,h2⟩
    · exact .inr h1
  have lab1:∀ d e q,π d=some e→regL Λ σ.length l (b2,o2) π (σ.length::d::q)=Λ (l::e::q):=fun d e q h=>by
    simp only [regL,h,if_true]
  have lab2:∀ a p,a<σ.length→regL Λ σ.length l (b2,o2) π (a::p)=Λ (a::p):=fun a p h=>by
    simp only [regL];rw [if_neg (by omega)]
  have lab0:regL Λ σ.length l (b2,o2) π [σ.length]=some (b2,o2):=by simp only [regL,if_true]
  have nb:∀ L zs b1 o1,L≠[l]→rowAt σ L=some zs→Λ L=some (b1,o1)→b1≠b∧b1≠b2∧b1<w.heap.size:=fun L zs b1 o1 hne h1 h2=>by
    have hlt:=hs.owns ⟨L,zs,o1,h1,h2⟩
    have hb:b1≠b:=fun e=>by subst e;exact hne (hs.apart _ _ _ _ _ _ _ h1 hrow h2 hL)
    refine ⟨hb,?_,hlt⟩
    rcases hb2 with rfl | h3
    · exact hb
    · omega
  refine ⟨⟨fun L zs h1=>?_,fun L1 x1 L2 x2 b1 o1 o2' h1 h2 h3 h4=>?_,fun b' hb'=>Nat.lt_of_lt_of_le (hs.old b' hb') hsize,hs.tab.mono hF,fun L hL'=>?_⟩,?_⟩
  · rcases rowAt_regroup hr hπ h1 with ⟨rfl,hz⟩ | ⟨d,e,q,rfl,hd,hp,h2⟩ | ⟨a,p,rfl,ha,hal,h2⟩
    · rw [hz]
      refine .inr ⟨b2,o2,cs2,t2,lab0,?_,hc2,fun j y hj=>?_⟩
      · rcases hb2 with rfl | h3
        · exact hO
        · intro hf;have:=hs.old b2 hf;omega
      · obtain ⟨c,g1,g2⟩:=hy j y hj
        refine ⟨c,g1,?_⟩
        have hbx:isBox (σ.set l .dead++[Root.row ys]) [σ.length]=false:=by
          simp only [isBox]
          rw [List.getElem?_append_right (by simp)];simp
        rw [hbx]
        rcases g2 with ⟨e,g3,g4,g5⟩ | ⟨g3,g4⟩
        · refine Cell.path (L:=[l,e]) (fun a n k v hsl=>?_) hext (g5.mono hF hS)
          rcases hsl with h | ⟨bb,oo,cap,h5,h6⟩
          · exact .inl h
          · exact .inr ⟨bb,oo,cap,by show regL Λ σ.length l (b2,o2) π (σ.length::j::[])=_;rw [lab1 j e [] g3];exact h5,h6⟩
        · exact .ofCell g3 ((g4.mono hF hS).ext hext)
    · rcases hs.row _ zs h2 with ⟨h3,h4⟩ | ⟨b1,o1,cs1,t1,h3,h4,h5,h6⟩
      · exact .inl ⟨(lab1 d e q hp).trans h3,h4⟩
      · obtain ⟨n1,n2,n3⟩:=nb _ _ _ _ (by simp) h2 h3
        refine .inr ⟨b1,o1,cs1,t1,(lab1 d e q hp).trans h3,h4,by rw [hoth b1 n3 n1];exact h5,fun j y hj=>?_⟩
        obtain ⟨c,g1,g2⟩:=h6 j y hj
        refine ⟨c,g1,?_⟩
        rw [isBox_long] at g2 ⊢
        refine Cell.path (fun a n k v hsl=>?_) hext (g2.mono hF hS)
        rcases hsl with h | ⟨bb,oo,cap,h7,h8⟩
        · exact .inl h
        · exact .inr ⟨bb,oo,cap,by show regL Λ σ.length l (b2,o2) π (σ.length::d::(q++[j]))=_;rw [lab1 d e _ hp];exact h7,h8⟩
    · rcases hs.row _ zs h2 with ⟨h3,h4⟩ | ⟨b1,o1,cs1,t1,h3,h4,h5,h6⟩
      · exact .inl ⟨(lab2 a p ha).trans h3,h4⟩
      · obtain ⟨n1,n2,n3⟩:=nb _ _ _ _ (by simp;intro e;exact absurd e hal) h2 h3
        refine .inr ⟨b1,o1,cs1,t1,(lab2 a p ha).trans h3,h4,by rw [hoth b1 n3 n1];exact h5,fun j y hj=>?_⟩
        obtain ⟨c,g1,g2⟩:=h6 j y hj
        refine ⟨c,g1,?_⟩
        have hbx:isBox (σ.set l .dead++[Root.row ys]) (a::p)=isBox σ (a::p):=by
          cases p with
          | nil=>simp only [isBox,List.getElem?_append_left (show a<(σ.set l .dead).length by simpa using ha),List.getElem?_set_ne (Ne.symm hal)]
          | cons _ _=>rfl
        rw [hbx]
        exact (g2.mono hF hS).ext hext
  · have old:∀ L zs b1 o1,rowAt (σ.set l .dead++[Root.row ys]) L=some zs→regL Λ σ.length l (b2,o2) π L=some (b1,o1)→(L=[σ.length]∧b1=b2)∨∃ Lo zo,rowAt σ Lo=some zo∧Λ Lo=some (b1,o1)∧Lo≠[l]∧((∃ d e q,L=σ.length::d::q∧d<ys.length∧π d=some e∧Lo=l::e::q)∨(∃ a p,L=a::p∧a≠l∧a<σ.length∧Lo=L)):=fun L zs b1 o1 g1 g2=>by
      rcases rowAt_regroup hr hπ g1 with ⟨rfl,rfl⟩ | ⟨d,e,q,rfl,hd,hp,g3⟩ | ⟨a,p,rfl,ha,hal,g3⟩
      · rw [lab0] at g2;cases g2;exact .inl ⟨rfl,rfl⟩
      · rw [lab1 d e q hp] at g2
        exact .inr ⟨_,_,g3,g2,by simp,.inl ⟨d,e,q,rfl,hd,hp,rfl⟩⟩
      · rw [lab2 a p ha] at g2
        exact .inr ⟨_,_,g3,g2,by simp;intro e;exact absurd e hal,.inr ⟨a,p,rfl,hal,ha,rfl⟩⟩
    rcases old L1 x1 b1 o1 h1 h3 with ⟨rfl,e1⟩ | ⟨M1,z1,g1,g2,g3,g4⟩<;>rcases old L2 x2 b1 o2' h2 h4 with ⟨rfl,e2⟩ | ⟨M2,z2,k1,k2,k3,k4⟩
    · rfl
    · exact absurd e1 (nb _ _ _ _ k3 k1 k2).2.1
    · exact absurd e2 (nb _ _ _ _ g3 g1 g2).2.1
    · have e:=hs.apart _ _ _ _ _ _ _ g1 k1 g2 k2
      subst e
      rcases g4 with ⟨d,e,q,rfl,hd,hp,rfl⟩ | ⟨a,p,rfl,ha,ha',rfl⟩<;>rcases k4 with ⟨d',e',q',rfl,hd',hp',h5⟩ | ⟨a',p',rfl,ha2,ha2',h5⟩
      · simp only [List.cons.injEq,true_and] at h5
        obtain ⟨rfl,rfl⟩:=h5
        rw [hinj d d' e hd hd' hp hp']
      · simp only [List.cons.injEq] at h5;exact absurd h5.1.symm ha2
      · simp only [List.cons.injEq] at h5;exact absurd h5.1 ha
      · exact h5
  · have:(σ.set l .dead++[Root.row ys]).length=σ.length+1:=by simp
    rw [this] at hL'
    cases L with
    | nil=>simp at hL'
    | cons a p =>
      simp only [List.headD_cons] at hL'
      simp only [regL]
      rw [if_neg (by omega)]
      exact hs.lab (a::p) (by simp only [List.headD_cons];omega)
  · exact { os:=hos,tape:=htape,output:=hout,size:=hsize,sizes:=hS
            keep:=fun b' hlt hno=>hoth b' hlt fun e=>hno (e▸⟨[l],xs,o',hrow,hL⟩)
            mono:=fun _ h=>h,new:=fun _ h=>.inl h
            own:=fun b1 ⟨L,zs,o1,g1,g2⟩=>by
              rcases rowAt_regroup hr hπ g1 with ⟨rfl,rfl⟩ | ⟨d,e,q,rfl,hd,hp,g3⟩ | ⟨a,p,rfl,ha,hal,g3⟩
              · rw [lab0] at g2;cases g2
                rcases hb2 with rfl | h3
                · exact .inl ⟨[l],xs,o',hrow,hL⟩
                · exact .inr h3
              · rw [lab1 d e q hp] at g2;exact .inl ⟨_,_,_,g3,g2⟩
              · rw [lab2 a p ha] at g2;exact .inl ⟨_,_,_,g3,g2⟩
            len:=by simp;omega
            boxes:=fun a us ha hu=>by
              have hal:a<σ.length:=(List.getElem?_eq_some_iff.1 hu).1
              have hne:a≠l:=fun e=>by subst e;rw [hr] at hu;cases hu
              exact ⟨lab2 a [] hal,us,by rw [List.getElem?_append_left (by simpa using hal),List.getElem?_set_ne (Ne.symm hne)];exact hu⟩
            kept:=fun L b o _ h=>hext L b o h }
end
theorem Cell.oneO {F:Nat→Prop} {Λ:Lbl} {w:World} {L:List Nat} {c:Value} {x:A} (h:Cell F Λ w false L c x) (hx:Go.Sep.ownR x=true):c.oneCell'=true:=by
 refine oneCell_sc ?_
 cases x with
 | v x =>
  have h1:=(h.2:OK F Λ w c (.v x)).v_inv
  subst h1;simpa [Go.Sep.ownR] using hx
 | n =>
  obtain ⟨ad,h1⟩:=(h.2:OK F Λ w c .n).n_inv
  subst h1;rfl
 | o k ys =>
  obtain ⟨_,_,n,_,h1⟩:=h
  rcases h1 with ⟨_,ad,h1⟩ | ⟨b,o,cap,_,h1,_⟩<;>subst h1<;>rfl
 | _=>simp [Go.Sep.ownR] at hx
section
variable {P:Program} {n m:Nat} {K:Exit→Env→Store→Prop} {E:Env} {σ:Store}
theorem T_delO {α:Type} {Y:Ty α} {t e:Nat} {zs:List Value} (hT:SlT P t e Y.k) (hz:ZeroT P e zs) (hzk:zs.length=Y.k) (hm:P.follows .mixedOrders=true) {a0 a1 a2 a3 a4 a5 a6 a7 b0 b1 b2 b3 b4 b5:Oper} {id5 id6:Nat} {rest:Code}
  (s0:IsOp a0 (some 20) (.move (.tmp 0))) (s1:IsOp a1 (some 21) (.move (.tmp 1))) (s2:IsOp a2 (some 22) (.slice t (.tmp 20) none (some (.tmp 21)) none)) (s3:IsOp a3 (some 23) (.move (.tmp 0))) (s4:IsOp a4 (some 24) (.move (.tmp 2))) (s5:IsOp a5 (some 25) (.slice t (.tmp 23) (some (.tmp 24)) none none)) (s6:IsOp a6 (some 26) (.call { callee:=.builtin .append,args:=#[.tmp 22,.tmp 25],argTypes:=#[t,t] })) (s7:IsOp a7 (some 0) (.assign (.tmp 26)))
  {c:Nat→Array Bool} (hc0:c 0=#[false,false,false,false,false,false,false,false]) (hcs:∀ q,q<8→(c q).setIfInBounds q true=c (q+1))
  (hc:∀ q,q<8→q≠6→(Region.noSelect #[a0,a1,a2,a3,a4,a5,a6,a7] && (Region.ready .any #[a0,a1,a2,a3,a4,a5,a6,a7] (c q)).contains q && Region.free .any #[a0,a1,a2,a3,a4,a5,a6,a7] (c q) q)=true)
  (h6:Region.ready .any #[a0,a1,a2,a3,a4,a5,a6,a7] (c 6)=[6]) (h8:Region.ready .any #[a0,a1,a2,a3,a4,a5,a6,a7] (c 8)=[])
  (r0:IsOp b0 (some 27) (.move (.tmp 0))) (r1:IsOp b1 (some 28) (.move (.tmp 0))) (r2:IsOp b2 (some 29) (.call { callee:=.builtin .len,args:=#[.tmp 28],argTypes:=#[t] })) (r3:IsOp b3 (some 30) (.move (.tmp 7))) (r4:IsOp b4 (some 31) (.slice t (.tmp 27) (some (.tmp 29)) (some (.tmp 30)) none)) (r5:IsOp b5 none (.call { callee:=.builtin .clear,args:=#[.tmp 31],argTypes:=#[t] }))
  (hn33:33≤n) {xs:List α} {i j l:Nat} (hij:i<j) (hj:j≤xs.length) (hσ:σ[l]?=some (.row (flat Y.own xs))) (e0:lk E 0=.m [l] 0 xs.length Y.k) (e1:lk E 1=intA i) (e2:lk E 2=intA j) (e7:lk E 7=intA xs.length)
  (h:T P n m rest K [(0,.m [σ.length] 0 (xs.take i++xs.drop j).length Y.k)] (σ.set l .dead++[Root.row (flat Y.own (xs.take i++xs.drop j))])) :
  T P n m (.seq (.region id5 #[a0,a1,a2,a3,a4,a5,a6,a7] true) (.seq (.region id6 #[b0,b1,b2,b3,b4,b5] false) rest)) K E σ:=fun F Λ w tmps Q hn hs hf hq=>by
 obtain ⟨⟨inf,z,z1,z2,z3⟩,z4⟩:=hz
 have hk:inf.size=Y.k:=by obtain ⟨i2,g1,g2⟩:=hT.i;rw [z1] at g1;cases g1;exact g2
 have hk0:=hT.pos
 have hrow:rowAt σ [l]=some (flat Y.own xs):=by simp only [rowAt,hσ,Root.cells,sub]
 have hv0:=hf 0
 rw [e0] at hv0
 rcases hv0.m_inv with ⟨h0,_⟩ | ⟨b,o',cap,hL,g2,hN,hcap,cs,te,g5,g6⟩
 ·omega
 simp only [Nat.add_zero] at g2 g6
 have hO:¬ F b:=fun hb=>hs.notOwn hb ⟨[l],_,o',hrow,hL⟩
 have hfl:(flat Y.own xs).length=xs.length*Y.k:=flat_len Y.lenO xs
 have hbx0:isBox σ [l]=false:=by simp only [isBox,hσ]
 have hcell:∀ (d:Nat) y,(flat Y.own xs)[d]?=some y→∃ c,cs[o'+d]?=some c∧Cell F Λ w false [l,d] c y:=fun d y hy=>by
  obtain ⟨c,k1,k2⟩:=hs.cellAt hrow hL hy
  rw [hbx0] at k2
  refine ⟨c,?_,k2⟩
  simpa [World.cell?,g5] using k1
 have hNk:xs.length*Y.k≤cap*Y.k:=Nat.mul_le_mul_right _ hN
 have hjk:j*Y.k≤xs.length*Y.k:=Nat.mul_le_mul_right _ hj
 have hik:i*Y.k≤j*Y.k:=Nat.mul_le_mul_right _ (by omega)
 have hsub:(xs.length - j)*Y.k=xs.length*Y.k - j*Y.k:=Nat.sub_mul ..
 -- the cells that move
 obtain ⟨news,hnews⟩:∃ news,news=(cs.toList.drop (o'+j*Y.k)).take ((xs.length - j)*Y.k):=⟨_,rfl⟩
 have hnl:news.length=(xs.length - j)*Y.k:=by rw [hnews];simp only [List.length_take,List.length_drop,Array.length_toList];omega
 have hng:∀ q,q<(xs.length - j)*Y.k→news[q]?=cs[o'+j*Y.k+q]?:=fun q hq=>by
  rw [hnews,List.getElem?_take_of_lt hq,List.getElem?_drop,Array.getElem?_toList]
 have hone:∀ u∈news,u.oneCell'=true:=fun u hu=>by
  obtain ⟨q,hq⟩:=List.getElem?_of_mem hu
  have hql:q<(xs.length - j)*Y.k:=by have:=(List.getElem?_eq_some_iff.1 hq).1;omega
  rw [hng q hql] at hq
  have hd:j*Y.k+q<(flat Y.own xs).length:=by omega
  obtain ⟨u',k1,k2⟩:=hcell _ _ (List.getElem?_eq_getElem hd)
  rw [← Nat.add_assoc,hq] at k1
  cases k1
  exact k2.oneO (ownRL_mem (flat_ownR Y xs) _ (List.getElem_mem hd))
 have hzc:z.cells.size=Y.k:=by rw [← hzk,← z3];simp
 obtain ⟨M,hM⟩:∃ M,M=i+(xs.length - j):=⟨_,rfl⟩
 obtain ⟨zc,hzcl⟩:∃ zc,zc=(Builtin.zeroCells z.cells (xs.length - M)).toList:=⟨_,rfl⟩
 have hzl:zc.length=(xs.length - M)*Y.k:=by rw [hzcl,Array.length_toList,size_zeroCells,hzc]
 have hzone:∀ u∈zc,u.oneCell'=true:=fun u hu=>by
  rw [hzcl] at hu
  simp only [Builtin.zeroCells,Array.toList_map,List.mem_map] at hu
  obtain ⟨q,_,rfl⟩:=hu
  have hq:q % z.cells.size<z.cells.size:=Nat.mod_lt _ (by omega)
  refine oneCell_sc (z4 _ ?_)
  rw [← z3,getElem!_pos z.cells _ hq]
  simp
 obtain ⟨cs1,hcs1⟩:∃ cs1,cs1=(cs.toList.take (o'+i*Y.k)++news++cs.toList.drop (o'+i*Y.k+news.length)).toArray:=⟨_,rfl⟩
 obtain ⟨cs2,hcs2⟩:∃ cs2,cs2=(cs1.toList.take (o'+M*Y.k)++zc++cs1.toList.drop (o'+M*Y.k+zc.length)).toArray:=⟨_,rfl⟩
 have hMk:M*Y.k=i*Y.k+(xs.length - j)*Y.k:=by rw [hM,Nat.add_mul]
 have hNM:(xs.length - M)*Y.k=xs.length*Y.k - M*Y.k:=Nat.sub_mul ..
 have hsz1:cs1.size=cs.size:=by
  rw [hcs1]
  simp only [List.size_toArray,List.length_append,List.length_take,List.length_drop,Array.length_toList]
  omega
 have hsz2:cs2.size=cs.size:=by
  rw [hcs2]
  simp only [List.size_toArray,List.length_append,List.length_take,List.length_drop,Array.length_toList]
  omega
 have hf0:FrOK F Λ { w with drawn:=w.drawn+1 } tmps [(0,.v (.slice (some ⟨b,o',none⟩) xs.length cap)),(1,intA i),(2,intA j),(7,intA xs.length)]:=by
  have hfm:FrOK F Λ { w with drawn:=w.drawn+1 } tmps E:=FrOK.mono (w:=w) (w':={ w with drawn:=w.drawn+1 }) (fun b hb=>⟨hb,rfl⟩) (fun b cs t h=>⟨cs,h,rfl⟩) hf
  have hfe:FrOK F Λ { w with drawn:=w.drawn+1 } tmps ((0,.v (.slice (some ⟨b,o',none⟩) xs.length cap))::E):=fun u=>by
   simp only [lk]
   split
   ·rename_i eq
    have eq:0=u:=by simpa using eq
    subst eq
    rw [g2]
    exact .imm (.v _)
   ·exact hfm u
  exact hfe.weak (Pk.all ⟨rfl,by simp [lk,e1],by simp [lk,e2],by simp [lk,e7],trivial⟩)
 refine wp_seq (wp_mono (wp_region_any hm (Q:=onlyN fun a w=>(Code.seq (.region id6 #[b0,b1,b2,b3,b4,b5] false) rest).wp P Q a w) ?_) fun e a w h=>by cases e<;>first | exact h | exact h.elim)
 refine del5 (n:=n) (w:={ w with drawn:=w.drawn+1 }) hT z1 hk s0 s1 s2 s3 s4 s5 s6 s7 hc0 hcs hc h6 h8 hn hn33 (b:=b) (o':=o') (N:=xs.length) (cap:=cap) (i:=i) (j:=j) (cur:=cs) (te:=te) g5 hij hj hN (by omega) hf0 hO hnl (fun q v hq=>?_) hone fun tmps5 n5 f5=>?_
 ·have hql:q<(xs.length - j)*Y.k:=by have:=(List.getElem?_eq_some_iff.1 hq).1;omega
  rw [hng q hql] at hq
  simpa [World.cell?,g5] using hq
 ·rw [← hcs1] at f5 ⊢
  rw [← hM] at f5
  have hb1:(World.setRow { w with drawn:=w.drawn+1 } b cs1).heap[b]?=some (.cells cs1 te (0,0)):=setRow_heap _ b cs cs1 te (0,0) g5
  refine wp_seq (wp_region_list ?_)
  refine del6 (n:=n) hT z1 hk z2 r0 r1 r2 r3 r4 r5 n5 hn33 (b:=b) (o':=o') (N:=xs.length) (M:=M) (cap:=cap) (cur:=cs1) (te:=te) hb1 (by omega) hN (by omega) f5 hO hzcl.symm hzl hzone fun tmps6 n6 f6=>?_
  rw [← hcs2] at f6 ⊢
  have hlen:(xs.take i++xs.drop j).length=M:=by simp only [List.length_append,List.length_take,List.length_drop];omega
  have hflat:flat Y.own (xs.take i++xs.drop j)=(flat Y.own xs).take (i*Y.k)++(flat Y.own xs).drop (j*Y.k):=by rw [← flat_app,flat_take Y.lenO,flat_drop Y.lenO]
  have hb2:(World.setRow (World.setRow { w with drawn:=w.drawn+1 } b cs1) b cs2).heap[b]?=some (.cells cs2 te (0,0)):=setRow_heap _ b cs1 cs2 te (0,0) hb1
  have hg2:∀ d,d<M*Y.k→cs2[o'+d]?=cs1[o'+d]?:=fun d hd=>by
   rw [hcs2,List.getElem?_toArray,List.append_assoc,List.getElem?_append_left (by simp only [List.length_take,Array.length_toList];omega),List.getElem?_take_of_lt (by omega),Array.getElem?_toList]
  have hg1a:∀ d,d<i*Y.k→cs1[o'+d]?=cs[o'+d]?:=fun d hd=>by
   rw [hcs1,List.getElem?_toArray,List.append_assoc,List.getElem?_append_left (by simp only [List.length_take,Array.length_toList];omega),List.getElem?_take_of_lt (by omega),Array.getElem?_toList]
  have hg1b:∀ q,q<(xs.length - j)*Y.k→cs1[o'+(i*Y.k+q)]?=cs[o'+(j*Y.k+q)]?:=fun q hq=>by
   rw [hcs1,List.getElem?_toArray,List.append_assoc,List.getElem?_append_right (by simp only [List.length_take,Array.length_toList];omega)]
   have e:o'+(i*Y.k+q) - (cs.toList.take (o'+i*Y.k)).length=q:=by simp only [List.length_take,Array.length_toList];omega
   rw [e,List.getElem?_append_left (by omega),hng q hq,Nat.add_assoc]
  have hS:Sizes w (World.setRow (World.setRow { w with drawn:=w.drawn+1 } b cs1) b cs2):=fun b' c1 t1 h1=>by
   by_cases e:b'=b
   ·subst e;rw [g5] at h1;cases h1;exact ⟨cs2,hb2,hsz2⟩
   ·exact ⟨c1,by rw [(setRow_other _ b b' _ e).trans (setRow_other _ b b' _ e)];exact h1,rfl⟩
  have hturn:=St.regroup (m:=m) (w':=World.setRow (World.setRow { w with drawn:=w.drawn+1 } b cs1) b cs2) (ys:=flat Y.own (xs.take i++xs.drop j)) (π:=fun d=>if d<i*Y.k then some d else some (j*Y.k+(d - i*Y.k))) hs hσ hL (b2:=b) (o2:=o') (.inl rfl) hb2 (fun b' _ hb'=>(setRow_other _ b b' _ hb').trans (setRow_other _ b b' _ hb')) hS (by simp [World.setRow]) ⟨rfl,fun _=>by first | exact Nat.le_refl _ | exact Nat.le_succ _⟩ rfl rfl (fun d d' e _ _ h1 h2=>by
    split at h1<;>split at h2<;>(simp only [Option.some.injEq] at h1 h2;omega)) fun d y hy=>by
   have hd:d<M*Y.k:=by have:=(List.getElem?_eq_some_iff.1 hy).1;rwa [flat_len Y.lenO,hlen] at this
   rw [hflat] at hy
   rw [hg2 d hd]
   by_cases hdi:d<i*Y.k
   ·rw [List.getElem?_append_left (by rw [List.length_take];omega),List.getElem?_take_of_lt hdi] at hy
    obtain ⟨c,k1,k2⟩:=hcell d y hy
    exact ⟨c,by rw [hg1a d hdi];exact k1,.inl ⟨d,by simp only [if_pos hdi],hy,k2⟩⟩
   ·rw [List.getElem?_append_right (by rw [List.length_take];omega),List.getElem?_drop] at hy
    have e:j*Y.k+(d - ((flat Y.own xs).take (i*Y.k)).length)=j*Y.k+(d - i*Y.k):=by rw [List.length_take];omega
    rw [e] at hy
    obtain ⟨c,k1,k2⟩:=hcell _ y hy
    refine ⟨c,?_,.inl ⟨_,by simp only [if_neg hdi],hy,k2⟩⟩
    have:=hg1b (d - i*Y.k) (by omega)
    rw [show i*Y.k+(d - i*Y.k)=d by omega] at this
    rw [this];exact k1
  have hfE:FrOK F (regL Λ σ.length l (b,o') (fun d=>if d<i*Y.k then some d else some (j*Y.k+(d - i*Y.k)))) (World.setRow (World.setRow { w with drawn:=w.drawn+1 } b cs1) b cs2) tmps6 [(0,.m [σ.length] 0 (xs.take i++xs.drop j).length Y.k)]:=fun u=>by
   simp only [lk]
   split
   ·rename_i eq
    have eq:0=u:=by simpa using eq
    subst eq
    have:=(f6 0).v_inv (x:=.slice (some ⟨b,o',none⟩) M cap)
    rw [this,hlen]
    exact .m (.inr ⟨b,o',cap,by simp only [regL,if_true],by rw [Nat.add_zero],by omega,hcap,cs2,te,hb2,by omega⟩)
   ·exact .j _
  exact h F _ _ tmps6 Q n6 hturn.1 hfE fun e F2 Λ2 σ2 w2 tmps2 E2 hn2 hs2 hf2 hst2 hK2=>hq e F2 Λ2 σ2 w2 tmps2 E2 hn2 hs2 hf2 (hturn.2.trans hst2) hK2
end
end Go.Sep
set_option linter.unusedVariables false
set_option linter.unusedSimpArgs false
namespace Go.Sep
open Go
section
variable {F:Nat→Prop} {Λ:Lbl} {σ:Store} {w:World} {s j:Nat} {xs:List A} {x:A}
end
section
variable {P:Program} {n m:Nat} {K:Exit→Env→Store→Prop} {E:Env} {σ:Store}
theorem T_gh {c:Code} {E':Env} {σ':Store} (hg:Ghost m E σ E' σ') (h:T P n m c K E' σ'):T P n m c K E σ:=fun F Λ w tmps Q hn hs hf hq=>by
 obtain ⟨F1,Λ1,h1,h2,h3⟩:=hg F Λ w tmps hs hf
 exact h F1 Λ1 w tmps Q hn h1 h2 fun e F2 Λ2 σ2 w2 tmps2 E2 hn2 hs2 hf2 hst2 hK=>hq e F2 Λ2 σ2 w2 tmps2 E2 hn2 hs2 hf2 (h3.trans hst2) hK
end
end Go.Sep
namespace Go.Sep
open Go
end Go.Sep
set_option linter.unusedVariables false
set_option linter.unusedSimpArgs false
namespace Go.Sep
open Go
end Go.Sep
set_option linter.unusedVariables false
set_option linter.unusedSimpArgs false
namespace Go.Sep
open Go
def regL2 (Λ:Lbl) (s:Nat) (lab:Nat × Nat) (π:Nat→Option (Nat × Nat)):Lbl:=fun L=>match L with
 | []=>Λ []
 | h::p=>if h=s then (match p with
  | []=>some lab
  | d::q=>match π d with
   | some e=>Λ (e.1::e.2::q)
   | none=>none) else Λ (h::p)
section
variable {F:Nat→Prop} {Λ:Lbl} {σ:Store} {w w':World} {l r:Nat} {xs zs ys:List A} {π:Nat→Option (Nat × Nat)}
theorem regL2_ext (hs:St F Λ σ w) {lab}:∀ L b o,Λ L=some (b,o)→regL2 Λ σ.length lab π L=some (b,o):=fun L b o h=>by
 cases L with
 | nil=>exact h
 | cons a p =>
  simp only [regL2]
  rw [if_neg]
  ·exact h
  ·rintro rfl
   rw [hs.lab (σ.length::p) (Nat.le_refl _)] at h;cases h
theorem rowAt_regroup2 (hl:σ[l]?=some (.row xs)) (hr:σ[r]?=some (.row zs)) (hπ:∀ d y,ys[d]?=some y→(∃ s e us,π d=some (s,e)∧(s=l∨s=r)∧σ[s]?=some (.row us)∧us[e]?=some y)∨y.inCell=true) {L:List Nat} {vs:List A} (h:rowAt ((σ.set l .dead).set r .dead++[Root.row ys]) L=some vs) :
  (L=[σ.length]∧vs=ys)∨(∃ d s e q,L=σ.length::d::q∧d<ys.length∧π d=some (s,e)∧(s=l∨s=r)∧rowAt σ (s::e::q)=some vs)∨(∃ a p,L=a::p∧a<σ.length∧a≠l∧a≠r∧rowAt σ L=some vs):=by
 have hll:l<σ.length:=(List.getElem?_eq_some_iff.1 hl).1
 have hrl:r<σ.length:=(List.getElem?_eq_some_iff.1 hr).1
 cases L with
 | nil=>cases h
 | cons a p =>
  rcases Nat.lt_or_ge a σ.length with ha | ha
  ·refine .inr (.inr ⟨a,p,rfl,ha,?_⟩)
   simp only [rowAt,List.getElem?_append_left (show a<((σ.set l .dead).set r .dead).length by simpa using ha)] at h
   by_cases e:a=r
   ·subst e
    rw [List.getElem?_set_self (by simpa using ha)] at h
    simp only [Root.cells] at h
    cases h
   ·rw [List.getElem?_set_ne (Ne.symm e)] at h
    by_cases e2:a=l
    ·subst e2
     rw [List.getElem?_set_self ha] at h
     simp only [Root.cells] at h
     cases h
    ·rw [List.getElem?_set_ne (Ne.symm e2)] at h
     exact ⟨e2,e,by simpa only [rowAt] using h⟩
  ·have hlen:a<((σ.set l .dead).set r .dead++[Root.row ys]).length:=by
    rcases Nat.lt_or_ge a ((σ.set l .dead).set r .dead++[Root.row ys]).length with g | g
    ·exact g
    ·simp only [rowAt,List.getElem?_eq_none g] at h;cases h
   have e:a=σ.length:=by simp at hlen;omega
   subst e
   have hg:((σ.set l .dead).set r .dead++[Root.row ys])[σ.length]?=some (.row ys):=by
    rw [List.getElem?_append_right (by simp)];simp
   simp only [rowAt,hg,Root.cells] at h
   cases p with
   | nil=>simp only [sub,Option.some.injEq] at h;exact .inl ⟨rfl,h.symm⟩
   | cons d q =>
    simp only [sub] at h
    split at h
    ·rename_i k us hd
     rcases hπ d _ hd with ⟨s,e,vs',h1,h2,h3,h4⟩ | h1
     ·exact .inr (.inl ⟨d,s,e,q,rfl,(List.getElem?_eq_some_iff.1 hd).1,h1,h2,by simp only [rowAt,h3,Root.cells,sub,h4];exact h⟩)
     ·simp [A.inCell] at h1
    ·cases h
theorem St.regroup2 {m:Nat} (hs:St F Λ σ w) {b2 o2:Nat} {cs2:Array Value} {t2:TypeId} (hl:σ[l]?=some (.row xs)) (hr:σ[r]?=some (.row zs))
    (hb2:(∃ o',Λ [l]=some (b2,o'))∨w.heap.size≤b2) (hc2:w'.heap[b2]?=some (.cells cs2 t2 (0,0))) (hoth:∀ b',b'<w.heap.size→(∀ o',Λ [l]≠some (b',o'))→w'.heap[b']?=w.heap[b']?) (hS:Sizes w w')
    (hsize:w.heap.size≤w'.heap.size) (hos:OsLe w w') (htape:w'.tape=w.tape) (hout:w'.output=w.output)
    (hinj:∀ d d' e,d<ys.length→d'<ys.length→π d=some e→π d'=some e→d=d')
    (hy:∀ (d:Nat) y,ys[d]?=some y→∃ c,cs2[o2+d]?=some c∧((∃ s e us,π d=some (s,e)∧(s=l∨s=r)∧σ[s]?=some (.row us)∧us[e]?=some y∧Cell F Λ w false [s,e] c y)∨(y.inCell=true∧OK F Λ w c y))) :
    St F (regL2 Λ σ.length (b2,o2) π) ((σ.set l .dead).set r .dead++[Root.row ys]) w'∧Step m F Λ σ w F (regL2 Λ σ.length (b2,o2) π) ((σ.set l .dead).set r .dead++[Root.row ys]) w':=by
  have hll:l<σ.length:=(List.getElem?_eq_some_iff.1 hl).1
  have hrl:r<σ.length:=(List.getElem?_eq_some_iff.1 hr).1
  have hrow:rowAt σ [l]=some xs:=by simp only [rowAt,hl,Root.cells,Go.Sep.sub]
  have hO:∀ b o',Λ [l]=some (b,o')→¬ F b:=fun b o' hL hf=>hs.notOwn hf ⟨[l],xs,o',hrow,hL⟩
  have hF:∀ b',F b'→F b'∧w'.heap[b']?=w.heap[b']?:=fun b' hb'=>⟨hb',hoth b' (hs.old b' hb') fun o' e=>hO b' o' e hb'⟩
  have hext:=regL2_ext (π:=π) hs (lab:=(b2,o2))
  have hπ:∀ d y,ys[d]?=some y→(∃ s e us,π d=some (s,e)∧(s=l∨s=r)∧σ[s]?=some (.row us)∧us[e]?=some y)∨y.inCell=true:=fun d y hd=>by
    obtain ⟨c,_,h1⟩:=hy d y hd
    rcases h1 with ⟨s,e,us,h1,h2,h3,h4,_⟩ | ⟨h1,_⟩
    · exact .inl ⟨s,e,us,h1,h2,h3,h4⟩
    · exact .inr h1
  have lab1:∀ d s e q,π d=some (s,e)→regL2 Λ σ.length (b2,o2) π (σ.length::d::q)=Λ (s::e::q):=fun d s e q h=>by
    simp only [regL2,h,if_true]
  have lab2:∀ a p,a<σ.length→regL2 Λ σ.length (b2,o2) π (a::p)=Λ (a::p):=fun a p h=>by
    simp only [regL2];rw [if_neg (by omega)]
  have lab0:regL2 Λ σ.length (b2,o2) π [σ.length]=some (b2,o2):=by simp only [regL2,if_true]
  have hFb:¬ F b2:=fun hf=>by
    rcases hb2 with ⟨o',h⟩ | h
    · exact hO _ _ h hf
    · have:=hs.old b2 hf;omega
  have nb:∀ L zs b1 o1,L≠[l]→rowAt σ L=some zs→Λ L=some (b1,o1)→(∀ o',Λ [l]≠some (b1,o'))∧b1≠b2∧b1<w.heap.size:=fun L zs b1 o1 hne h1 h2=>by
    have hlt:=hs.owns ⟨L,zs,o1,h1,h2⟩
    have hb:∀ o',Λ [l]≠some (b1,o'):=fun o' e=>hne (hs.apart _ _ _ _ _ _ _ h1 hrow h2 e)
    refine ⟨hb,?_,hlt⟩
    rcases hb2 with ⟨o',h⟩ | h3
    · intro e;subst e;exact hb o' h
    · omega
  have hbxO:∀ a p,a<σ.length→a≠l→a≠r→isBox ((σ.set l .dead).set r .dead++[Root.row ys]) (a::p)=isBox σ (a::p):=fun a p ha hal har=>by
    cases p with
    | nil=>simp only [isBox,List.getElem?_append_left (show a<((σ.set l .dead).set r .dead).length by simpa using ha),List.getElem?_set_ne (Ne.symm hal),List.getElem?_set_ne (Ne.symm har)]
    | cons _ _=>rfl
  refine ⟨⟨fun L vs h1=>?_,fun L1 x1 L2 x2 b1 o1 o2' h1 h2 h3 h4=>?_,fun b' hb'=>Nat.lt_of_lt_of_le (hs.old b' hb') hsize,hs.tab.mono hF,fun L hL'=>?_⟩,?_⟩
  · rcases rowAt_regroup2 hl hr hπ h1 with ⟨rfl,hz⟩ | ⟨d,s,e,q,rfl,hd,hp,hsr,h2⟩ | ⟨a,p,rfl,ha,hal,har,h2⟩
    · rw [hz]
      refine .inr ⟨b2,o2,cs2,t2,lab0,hFb,hc2,fun j y hj=>?_⟩
      obtain ⟨c,g1,g2⟩:=hy j y hj
      refine ⟨c,g1,?_⟩
      have hbx:isBox ((σ.set l .dead).set r .dead++[Root.row ys]) [σ.length]=false:=by
        simp only [isBox]
        rw [List.getElem?_append_right (by simp)];simp
      rw [hbx]
      rcases g2 with ⟨s,e,us,g3,_,_,g4,g5⟩ | ⟨g3,g4⟩
      · refine Cell.path (L:=[s,e]) (fun a n k v hsl=>?_) hext (g5.mono hF hS)
        rcases hsl with h | ⟨bb,oo,cap,h5,h6⟩
        · exact .inl h
        · exact .inr ⟨bb,oo,cap,by show regL2 Λ σ.length (b2,o2) π (σ.length::j::[])=_;rw [lab1 j s e [] g3];exact h5,h6⟩
      · exact .ofCell g3 ((g4.mono hF hS).ext hext)
    · have hne:(s::e::q)≠[l]:=by simp
      rcases hs.row _ vs h2 with ⟨h3,h4⟩ | ⟨b1,o1,cs1,t1,h3,h4,h5,h6⟩
      · exact .inl ⟨(lab1 d s e q hp).trans h3,h4⟩
      · obtain ⟨n1,n2,n3⟩:=nb _ _ _ _ hne h2 h3
        refine .inr ⟨b1,o1,cs1,t1,(lab1 d s e q hp).trans h3,h4,by rw [hoth b1 n3 n1];exact h5,fun j y hj=>?_⟩
        obtain ⟨c,g1,g2⟩:=h6 j y hj
        refine ⟨c,g1,?_⟩
        rw [isBox_long] at g2 ⊢
        refine Cell.path (fun a n k v hsl=>?_) hext (g2.mono hF hS)
        rcases hsl with h | ⟨bb,oo,cap,h7,h8⟩
        · exact .inl h
        · exact .inr ⟨bb,oo,cap,by show regL2 Λ σ.length (b2,o2) π (σ.length::d::(q++[j]))=_;rw [lab1 d s e _ hp];exact h7,h8⟩
    · rcases hs.row _ vs h2 with ⟨h3,h4⟩ | ⟨b1,o1,cs1,t1,h3,h4,h5,h6⟩
      · exact .inl ⟨(lab2 a p ha).trans h3,h4⟩
      · obtain ⟨n1,n2,n3⟩:=nb _ _ _ _ (by simp;intro e;exact absurd e hal) h2 h3
        refine .inr ⟨b1,o1,cs1,t1,(lab2 a p ha).trans h3,h4,by rw [hoth b1 n3 n1];exact h5,fun j y hj=>?_⟩
        obtain ⟨c,g1,g2⟩:=h6 j y hj
        refine ⟨c,g1,?_⟩
        rw [hbxO a p ha hal har]
        exact (g2.mono hF hS).ext hext
  · have old:∀ L vs b1 o1,rowAt ((σ.set l .dead).set r .dead++[Root.row ys]) L=some vs→regL2 Λ σ.length (b2,o2) π L=some (b1,o1)→(L=[σ.length]∧b1=b2)∨∃ Lo zo,rowAt σ Lo=some zo∧Λ Lo=some (b1,o1)∧Lo≠[l]∧((∃ d s e q,L=σ.length::d::q∧d<ys.length∧π d=some (s,e)∧(s=l∨s=r)∧Lo=s::e::q)∨(∃ a p,L=a::p∧a≠l∧a≠r∧a<σ.length∧Lo=L)):=fun L vs b1 o1 g1 g2=>by
      rcases rowAt_regroup2 hl hr hπ g1 with ⟨rfl,rfl⟩ | ⟨d,s,e,q,rfl,hd,hp,hsr,g3⟩ | ⟨a,p,rfl,ha,hal,har,g3⟩
      · rw [lab0] at g2;cases g2;exact .inl ⟨rfl,rfl⟩
      · rw [lab1 d s e q hp] at g2
        exact .inr ⟨_,_,g3,g2,by simp,.inl ⟨d,s,e,q,rfl,hd,hp,hsr,rfl⟩⟩
      · rw [lab2 a p ha] at g2
        exact .inr ⟨_,_,g3,g2,by simp;intro e;exact absurd e hal,.inr ⟨a,p,rfl,hal,har,ha,rfl⟩⟩
    rcases old L1 x1 b1 o1 h1 h3 with ⟨rfl,e1⟩ | ⟨M1,z1,g1,g2,g3,g4⟩<;>rcases old L2 x2 b1 o2' h2 h4 with ⟨rfl,e2⟩ | ⟨M2,z2,k1,k2,k3,k4⟩
    · rfl
    · exact absurd e1 (nb _ _ _ _ k3 k1 k2).2.1
    · exact absurd e2 (nb _ _ _ _ g3 g1 g2).2.1
    · have e:=hs.apart _ _ _ _ _ _ _ g1 k1 g2 k2
      subst e
      rcases g4 with ⟨d,s,e,q,rfl,hd,hp,hsr,rfl⟩ | ⟨a,p,rfl,hal,har,ha',rfl⟩<;>rcases k4 with ⟨d',s',e',q',rfl,hd',hp',hsr',h5⟩ | ⟨a',p',rfl,hal2,har2,ha2',h5⟩
      · simp only [List.cons.injEq] at h5
        obtain ⟨rfl,rfl,rfl⟩:=h5
        rw [hinj d d' (s,e) hd hd' hp hp']
      · simp only [List.cons.injEq] at h5
        obtain ⟨h5,_⟩:=h5
        rcases hsr with h6 | h6
        · exact absurd (h5.symm.trans h6) hal2
        · exact absurd (h5.symm.trans h6) har2
      · simp only [List.cons.injEq] at h5
        obtain ⟨h5,_⟩:=h5
        rcases hsr' with h6 | h6
        · exact absurd (h5.trans h6) hal
        · exact absurd (h5.trans h6) har
      · exact h5
  · have:((σ.set l .dead).set r .dead++[Root.row ys]).length=σ.length+1:=by simp
    rw [this] at hL'
    cases L with
    | nil=>simp at hL'
    | cons a p =>
      simp only [List.headD_cons] at hL'
      simp only [regL2]
      rw [if_neg (by omega)]
      exact hs.lab (a::p) (by simp only [List.headD_cons];omega)
  · exact { os:=hos,tape:=htape,output:=hout,size:=hsize,sizes:=hS
            keep:=fun b' hlt hno=>hoth b' hlt fun o' e=>hno ⟨[l],xs,o',hrow,e⟩
            mono:=fun _ h=>h,new:=fun _ h=>.inl h
            own:=fun b1 ⟨L,vs,o1,g1,g2⟩=>by
              rcases rowAt_regroup2 hl hr hπ g1 with ⟨rfl,rfl⟩ | ⟨d,s,e,q,rfl,hd,hp,hsr,g3⟩ | ⟨a,p,rfl,ha,hal,har,g3⟩
              · rw [lab0] at g2;cases g2
                rcases hb2 with ⟨o',h⟩ | h3
                · exact .inl ⟨[l],xs,o',hrow,h⟩
                · exact .inr h3
              · rw [lab1 d s e q hp] at g2;exact .inl ⟨_,_,_,g3,g2⟩
              · rw [lab2 a p ha] at g2;exact .inl ⟨_,_,_,g3,g2⟩
            len:=by simp;omega
            boxes:=fun a us ha hu=>by
              have hal:a<σ.length:=(List.getElem?_eq_some_iff.1 hu).1
              have hne:a≠l:=fun e=>by subst e;rw [hl] at hu;cases hu
              have hne2:a≠r:=fun e=>by subst e;rw [hr] at hu;cases hu
              exact ⟨lab2 a [] hal,us,by rw [List.getElem?_append_left (by simpa using hal),List.getElem?_set_ne (Ne.symm hne2),List.getElem?_set_ne (Ne.symm hne)];exact hu⟩
            kept:=fun L b o _ h=>hext L b o h }
end
def RowCells (F:Nat→Prop) (Λ:Lbl) (w:World) (l:Nat) (xs:List A) (xc:List Value):Prop:=xc.length=xs.length∧∀ (d:Nat) y,xs[d]?=some y→∃ c,xc[d]?=some c∧Cell F Λ w false [l,d] c y
def insMap (l r ik mk:Nat) (d:Nat):Option (Nat × Nat):=if d<ik then some (l,d) else if d<ik+mk then some (r,d - ik) else some (l,d - mk)
theorem St.ins {m:Nat} {α:Type} {Y:Ty α} {F:Nat→Prop} {Λ:Lbl} {σ:Store} {w w':World} (hs:St F Λ σ w) {l r i:Nat} {xs vs:List α} {xc vc:List Value} {b2 o2 cap2:Nat} {cs2:Array Value} {t2:TypeId} (hl:σ[l]?=some (.row (flat Y.own xs))) (hr:σ[r]?=some (.row (flat Y.own vs))) (hlr:l≠r) (hi:i≤xs.length)
  (hxc:RowCells F Λ w l (flat Y.own xs) xc) (hvc:RowCells F Λ w r (flat Y.own vs) vc)
  (hb2:(∃ o',Λ [l]=some (b2,o'))∨w.heap.size≤b2) (hc2:w'.heap[b2]?=some (.cells cs2 t2 (0,0))) (hoth:∀ b',b'<w.heap.size→(∀ o',Λ [l]≠some (b',o'))→w'.heap[b']?=w.heap[b']?) (hS:Sizes w w')
  (hsize:w.heap.size≤w'.heap.size) (hos:OsLe w w') (htape:w'.tape=w.tape) (hout:w'.output=w.output)
  (hcs:∀ d,d<(xs.length+vs.length)*Y.k→cs2[o2+d]?=(xc.take (i*Y.k)++vc++xc.drop (i*Y.k))[d]?) (hcap:xs.length+vs.length≤cap2) (hmax:cap2≤maxLen) (hfit:o2+cap2*Y.k≤cs2.size) :
  (St F (regL2 Λ σ.length (b2,o2) (insMap l r (i*Y.k) (vs.length*Y.k))) ((σ.set l .dead).set r .dead++[Root.row (flat Y.own (xs.take i++vs++xs.drop i))]) w' ∧
   Step m F Λ σ w F (regL2 Λ σ.length (b2,o2) (insMap l r (i*Y.k) (vs.length*Y.k))) ((σ.set l .dead).set r .dead++[Root.row (flat Y.own (xs.take i++vs++xs.drop i))]) w') ∧
   OK F (regL2 Λ σ.length (b2,o2) (insMap l r (i*Y.k) (vs.length*Y.k))) w' (.slice (some ⟨b2,o2,none⟩) (xs.length+vs.length) cap2) (.m [σ.length] 0 (xs.take i++vs++xs.drop i).length Y.k):=by
 have hxl:(flat Y.own xs).length=xs.length*Y.k:=flat_len Y.lenO xs
 have hvl:(flat Y.own vs).length=vs.length*Y.k:=flat_len Y.lenO vs
 have hik:i*Y.k≤xs.length*Y.k:=Nat.mul_le_mul_right _ hi
 have hlen:(xs.take i++vs++xs.drop i).length=xs.length+vs.length:=by simp only [List.length_append,List.length_take,List.length_drop];omega
 have hflat:flat Y.own (xs.take i++vs++xs.drop i)=(flat Y.own xs).take (i*Y.k)++flat Y.own vs++(flat Y.own xs).drop (i*Y.k):=by rw [← flat_app,← flat_app,flat_take Y.lenO,flat_drop Y.lenO]
 have hadd:(xs.length+vs.length)*Y.k=xs.length*Y.k+vs.length*Y.k:=Nat.add_mul ..
 have hxcl:=hxc.1
 have hvcl:=hvc.1
 refine ⟨St.regroup2 hs hl hr hb2 hc2 hoth hS hsize hos htape hout (fun d d' e _ _ h1 h2=>?_) fun d y hy=>?_,?_⟩
 ·unfold insMap at h1 h2
  split at h1<;>split at h2<;>(try split at h1)<;>(try split at h2)<;>(rw [← h1] at h2;simp only [Option.some.injEq,Prod.mk.injEq] at h2;omega)
 ·have hd:d<(xs.length+vs.length)*Y.k:=by have:=(List.getElem?_eq_some_iff.1 hy).1;rwa [flat_len Y.lenO,hlen] at this
  rw [hcs d hd]
  rw [hflat] at hy
  rw [List.append_assoc] at hy ⊢
  by_cases h1:d<i*Y.k
  ·rw [List.getElem?_append_left (by rw [List.length_take];omega),List.getElem?_take_of_lt h1] at hy
   obtain ⟨c,k1,k2⟩:=hxc.2 d y hy
   refine ⟨c,?_,.inl ⟨l,d,_,by simp only [insMap,if_pos h1],.inl rfl,hl,hy,k2⟩⟩
   rw [List.getElem?_append_left (by rw [List.length_take];omega),List.getElem?_take_of_lt h1];exact k1
  ·have e1:((flat Y.own xs).take (i*Y.k)).length=i*Y.k:=by rw [List.length_take];omega
   have e2:(xc.take (i*Y.k)).length=i*Y.k:=by rw [List.length_take];omega
   rw [List.getElem?_append_right (by omega),e1] at hy
   rw [List.getElem?_append_right (by omega),e2]
   by_cases h2:d<i*Y.k+vs.length*Y.k
   ·rw [List.getElem?_append_left (by omega)] at hy
    obtain ⟨c,k1,k2⟩:=hvc.2 _ y hy
    refine ⟨c,?_,.inl ⟨r,d - i*Y.k,_,by simp only [insMap,if_neg h1,if_pos h2],.inr rfl,hr,hy,k2⟩⟩
    rw [List.getElem?_append_left (by omega)];exact k1
   ·rw [List.getElem?_append_right (by omega),List.getElem?_drop] at hy
    have e3:i*Y.k+(d - i*Y.k - (flat Y.own vs).length)=d - vs.length*Y.k:=by omega
    rw [e3] at hy
    obtain ⟨c,k1,k2⟩:=hxc.2 _ y hy
    refine ⟨c,?_,.inl ⟨l,d - vs.length*Y.k,_,by simp only [insMap,if_neg h1,if_neg h2],.inl rfl,hl,hy,k2⟩⟩
    rw [List.getElem?_append_right (by omega),List.getElem?_drop]
    have e4:i*Y.k+(d - i*Y.k - vc.length)=d - vs.length*Y.k:=by omega
    rw [e4];exact k1
 ·rw [hlen]
  exact .m (.inr ⟨b2,o2,cap2,by simp only [regL2,if_true],by rw [Nat.add_zero],hcap,hmax,cs2,t2,hc2,by omega⟩)
theorem St.rowCells {F:Nat→Prop} {Λ:Lbl} {σ:Store} {w:World} (hs:St F Λ σ w) {l b o':Nat} {xs:List A} {cs:Array Value} {te:TypeId} (hl:σ[l]?=some (.row xs)) (hL:Λ [l]=some (b,o')) (hb:w.heap[b]?=some (.cells cs te (0,0))) (hfit:o'+xs.length≤cs.size) :
  RowCells F Λ w l xs ((cs.toList.drop o').take xs.length):=by
 have hrow:rowAt σ [l]=some xs:=by simp only [rowAt,hl,Root.cells,Go.Sep.sub]
 have hbx0:isBox σ [l]=false:=by simp only [isBox,hl]
 refine ⟨by simp only [List.length_take,List.length_drop,Array.length_toList];omega,fun d y hy=>?_⟩
 obtain ⟨c,k1,k2⟩:=hs.cellAt hrow hL hy
 rw [hbx0] at k2
 refine ⟨c,?_,k2⟩
 have hd:=(List.getElem?_eq_some_iff.1 hy).1
 rw [List.getElem?_take_of_lt hd,List.getElem?_drop,Array.getElem?_toList]
 simpa [World.cell?,hb] using k1
theorem RowCells.one {α:Type} {Y:Ty α} {F:Nat→Prop} {Λ:Lbl} {w:World} {l:Nat} {xs:List α} {xc:List Value} (h:RowCells F Λ w l (flat Y.own xs) xc):∀ u∈xc,u.oneCell'=true:=fun u hu=>by
 obtain ⟨q,hq⟩:=List.getElem?_of_mem hu
 have hd:q<(flat Y.own xs).length:=by have:=(List.getElem?_eq_some_iff.1 hq).1;rw [← h.1];exact this
 obtain ⟨u',k1,k2⟩:=h.2 _ _ (List.getElem?_eq_getElem hd)
 rw [hq] at k1
 cases k1
 exact k2.oneO (ownRL_mem (flat_ownR Y xs) _ (List.getElem_mem hd))
theorem RowCells.nil {F:Nat→Prop} {Λ:Lbl} {w:World} {l:Nat}:RowCells F Λ w l [] []:=⟨rfl,fun d y h=>by simp at h⟩
section
variable {P:Program} {E:Env} {o:Oper}
theorem purI_capX {t e k:Nat} {x:Operand} {a:Option Addr} {q cap:Nat} (hT:SlT P t e k) (hx:val E x=.v (.slice a q cap)) (h:o.op=.call { callee:=.builtin .cap,args:=#[x],argTypes:=#[t] }):PurI P o E (intA cap):=fun F Λ w tmps hf=>by
 have e1:=val_ok (ds:=[]) hf x
 rw [hx] at e1
 refine ⟨_,.imm (.v _),fun w'=>?_⟩
 simp only [execOp,h,resolve,Sem.run_bind,Sem.run_pure,invoke,builtin]
 simp [e1.v_inv,Builtin.cap_,run_underlying hT.u,goInt]
theorem purI_gtr {t x y t' k} {a b:Int} (h:o.op=.binOp .gtr t x y t') (hx:val E x=.v (.int k a)) (hy:val E y=.v (.int k b)):PurI P o E (.v (.bool (decide (b<a)))) :=
 purI_bin h hx hy fun w=>by simp [eqGuard_int,binOp,Op.intCmp]
theorem purI_cutA {t e k:Nat} {x y:Operand} {lo:Option Operand} {b oo q cap i j:Nat} (hT:SlT P t e k) (hx:val E x=.v (.slice (some ⟨b,oo,none⟩) q cap)) (hlo:bnd E 0 lo (i:Int)) (hhi:bnd E q (some y) (j:Int)) (hij:i≤j) (hj:j≤cap) (hne:i<cap) (h:o.op=.slice t x lo (some y) none):PurI P o E (.v (.slice (some ⟨b,oo+i*k,none⟩) (j - i) (cap - i))):=by
 have:=purI_cutX hT hx hlo hhi hij hj h
 rw [if_neg (by omega)] at this
 simpa [addr_add] using this
theorem purI_cutA1 {t e k:Nat} {x:Operand} {lo:Option Operand} {b oo q cap i:Nat} (hT:SlT P t e k) (hx:val E x=.v (.slice (some ⟨b,oo,none⟩) q cap)) (hlo:bnd E 0 lo (i:Int)) (hij:i≤q) (hj:q≤cap) (hne:i<cap) (h:o.op=.slice t x lo none none):PurI P o E (.v (.slice (some ⟨b,oo+i*k,none⟩) (q - i) (cap - i))):=by
 have:=purI_cutX1 hT hx hlo hij hj h
 rw [if_neg (by omega)] at this
 simpa [addr_add] using this
end
section
variable {P:Program} {o:Oper} {w:World} {tmps:Array Value}
theorem run_copyX {t e:Nat} {inf:TypeInfo} {x y:Operand} (ht:P.underlying t=some (.slice e)) (hi:P.info? e=some inf) (h:o.op=.call { callee:=.builtin .copy,args:=#[x,y],argTypes:=#[t,t] }) {g oo dLen dCap sLen sCap q:Nat} {a:Addr} (hx:Act.eval ⟨tmps,[]⟩ x=.slice (some ⟨g,oo,none⟩) dLen dCap) (hy:Act.eval ⟨tmps,[]⟩ y=.slice (some a) sLen sCap) (hq:min sLen dLen=q)
  {cur:Array Value} {te:TypeId} {cs:List Value} (hg:w.heap[g]?=some (.cells cur te (0,0))) (hn:cs.length=q*inf.size) (hsrc:∀ (j:Nat) v,cs[j]?=some v→w.cell? (a.add j)=some v) (hfit:oo+cs.length≤cur.size) (h1:∀ v∈cs,v.oneCell'=true) :
  (execOp (Act.eval ⟨tmps,[]⟩) o).run P w=.ok (.value (goInt q)) (w.setRow g (cur.toList.take oo++cs++cur.toList.drop (oo+cs.length)).toArray):=by
 have hl:=run_loadCells_list (P:=P) w a cs hsrc
 have hst:=run_storeCells_at P g oo te cs 0 cur w hg (by simpa using hfit) h1
 unfold execOp
 simp only [h,resolve,invoke,builtin,Sem.run_bind,Sem.run_pure,Result.andThen_ok,List.map_toArray,List.map_cons,List.map_nil,hx,hy]
 simp [Builtin.copy_,run_underlying ht,Builtin.lenOf,Builtin.firstCells,sizeOf,typeInfo,hi,hq,← hn,hl,hst]
theorem run_appZ {t tn e:Nat} {inf:TypeInfo} {z:Value} {x y:Operand} {kq kn:IntKind} (ht:P.underlying t=some (.slice e)) (htn:P.underlying tn=some (.int kn)) (hi:P.info? e=some inf) (hz:inf.zero=some z) (h:o.op=.call { callee:=.builtin .append,args:=#[x,y],argTypes:=#[t,tn] }) {base:Option Addr} {sLen sCap k:Nat} (hx:Act.eval ⟨tmps,[]⟩ x=.slice base sLen sCap) (hy:Act.eval ⟨tmps,[]⟩ y=.int kq (k:Int))
  {olds:List Value} (hold:(Builtin.firstCells inf.size sLen (.slice base sLen sCap)).run P w.drew=.ok olds.toArray w.drew) (h0:0<k) (hs:0<inf.size) (hg:sCap<sLen+k) (h63:((sLen+k:Nat):Int)≤9223372036854775807) (h48:k*inf.bytes≤281474976710656) (hfit:Builtin.nextslicecap (sLen+k) sCap*inf.bytes≤281474976710656) :
  (execOp (Act.eval ⟨tmps,[]⟩) o).run P w=.ok (.value (.slice (some ⟨w.heap.size,0,none⟩) (sLen+k) (grownCap w (sLen+k) sCap e))) (w.drew.alloc (.cells (olds.toArray++Builtin.zeroCells z.cells k++Builtin.zeroCells z.cells (grownCap w (sLen+k) sCap e - (sLen+k))) e)):=by
 unfold execOp
 simp only [h,resolve,invoke,builtin,Sem.run_bind,Sem.run_pure,Result.andThen_ok,List.map_toArray,List.map_cons,List.map_nil,hx,hy]
 rw [Lib.run_append_grow_zeros w t tn o.type e inf z kq kn ht htn hi hz base sLen sCap olds hold k h0 hs hg h63 h48 hfit]
 rfl
theorem run_appN {t e:Nat} {inf:TypeInfo} {z:Value} {x y:Operand} (ht:P.underlying t=some (.slice e)) (hi:P.info? e=some inf) (hz:inf.zero=some z) (h:o.op=.call { callee:=.builtin .append,args:=#[x,y],argTypes:=#[t,t] }) {base a:Option Addr} {sLen sCap q c:Nat} (hx:Act.eval ⟨tmps,[]⟩ x=.slice base sLen sCap) (hy:Act.eval ⟨tmps,[]⟩ y=.slice a q c)
  {olds news:List Value} (hold:(Builtin.firstCells inf.size sLen (.slice base sLen sCap)).run P w.drew=.ok olds.toArray w.drew) (hnews:(Builtin.firstCells inf.size q (.slice a q c)).run P w.drew=.ok news.toArray w.drew) (hg:sCap<sLen+q) (h63:((sLen+q:Nat):Int)≤9223372036854775807) (hfit:Builtin.nextslicecap (sLen+q) sCap*inf.bytes≤281474976710656) :
  (execOp (Act.eval ⟨tmps,[]⟩) o).run P w=.ok (.value (.slice (some ⟨w.heap.size,0,none⟩) (sLen+q) (grownCap w (sLen+q) sCap e))) (w.drew.alloc (.cells (olds.toArray++news.toArray++Builtin.zeroCells z.cells (grownCap w (sLen+q) sCap e - (sLen+q))) e)):=by
 unfold execOp
 simp only [h,resolve,invoke,builtin,Sem.run_bind,Sem.run_pure,Result.andThen_ok,List.map_toArray,List.map_cons,List.map_nil,hx,hy]
 rw [run_append_new w t o.type e inf z ht hi hz base sLen sCap olds hold a q c news hnews hg h63 hfit]
 rfl
theorem run_overX {t e tr f:Nat} {fn:Func} {x y:Operand} (ht:P.underlying t=some (.slice e)) {inf:TypeInfo} (hi:P.info? e=some inf) (h:o.op=.call { callee:=.value (.func f),args:=#[x,y],argTypes:=#[t,t] }) (hf:P.funcs[f]?=some fn) (hname:(fn.name == "runtime.NumGoroutine")=false) (hb:fn.body.isNone=true) (hn:Extern.findNext fn=none) (he:Extern.find fn=some (Extern.SlicesOverlaps.overlaps #[t,t] #[tr]))
  {a b:Addr} {la ca lb cb:Nat} (hx:Act.eval ⟨tmps,[]⟩ x=.slice (some a) la ca) (hy:Act.eval ⟨tmps,[]⟩ y=.slice (some b) lb cb) (hne:a.block≠b.block) {csa csb:Array Value} {ta tb:TypeId} (ha:w.heap[a.block]?=some (.cells csa ta (0,0))) (hb':w.heap[b.block]?=some (.cells csb tb (0,0))) (hkb:csb.size≠0) :
  (execOp (Act.eval ⟨tmps,[]⟩) o).run P w=.ok (.value (.bool false)) w:=by
 unfold execOp
 simp only [h,resolve,invoke,Act.eval,Deferred.ofValue,Sem.run_bind,Sem.run_pure,Result.andThen_ok,List.map_toArray,List.map_cons,List.map_nil,Array.append_empty]
 change (Sem.run P (callFunc f #[Act.eval ⟨tmps,[]⟩ x,Act.eval ⟨tmps,[]⟩ y]) w)=_
 rw [hx,hy]
 rw [run_callFunc_extern hf hname hb hn he]
 rw [Lib.run_overlaps_apart w t tr e ht inf.size (fun w=>by simp [sizeOf,typeInfo,hi]) a b la ca lb cb hne ta tb csa.size csb.size (by simp [World.shape?,ha]) (by simp [World.shape?,hb']) hkb (by simp [World.frozen?,ha]) (by simp [World.frozen?,ha])]
 rfl
end
def valsB:Env→Bool
 | []=>true
 | (_,.v _)::E=>valsB E
 | _::_=>false
theorem FrOK.vals {F F':Nat→Prop} {Λ Λ':Lbl} {w w':World} {tmps:Array Value}:∀ {E:Env},FrOK F Λ w tmps E→valsB E=true→FrOK F' Λ' w' tmps E:=fun {E} h hv u=>by
 have hu:=h u
 have key:∀ (E:Env),valsB E=true→(∃ x,lk E u=.v x)∨lk E u=.j:=fun E=>by
  induction E with
  | nil=>intro _;exact .inr rfl
  | cons p E ih =>
   intro hv
   obtain ⟨t,a⟩:=p
   cases a with
   | v x =>
    simp only [lk]
    split
    ·exact .inl ⟨x,rfl⟩
    ·exact ih hv
   | _=>simp [valsB] at hv
 rcases key E hv with ⟨x,e⟩ | e
 ·rw [e] at hu ⊢
  rw [hu.v_inv]
  exact .imm (.v _)
 ·rw [e];exact .j _
theorem insB {L0 xc vc:List Value} {a q:Nat} (h0:∀ d,d<a→L0[d]?=xc[d]?) (ha:a≤xc.length) (hL:xc.length+vc.length≤L0.length) (hq:q=a+vc.length):∀ d,d<xc.length+vc.length →
  ((L0.take a++vc++L0.drop (a+vc.length)).take q++xc.drop a++(L0.take a++vc++L0.drop (a+vc.length)).drop (q+(xc.drop a).length))[d]?=(xc.take a++vc++xc.drop a)[d]?:=fun d hd=>by
 subst hq
 simp only [List.getElem?_append,List.getElem?_take,List.getElem?_drop,List.length_append,List.length_take,List.length_drop]
 have e1:min a L0.length=a:=by omega
 have e2:min a xc.length=a:=by omega
 have e3:min (a+vc.length) (a+vc.length+(L0.length - (a+vc.length)))=a+vc.length:=by omega
 simp only [e1,e2,e3]
 by_cases d1:d<a
 ·rw [if_pos (by omega),if_pos (by omega),if_pos (by omega),if_pos (by omega),if_pos d1,if_pos d1,if_pos (by omega),if_pos d1,if_pos d1];exact h0 d d1
 ·by_cases d2:d<a+vc.length
  ·rw [if_pos (by omega),if_pos d2,if_pos d2,if_pos d2,if_neg d1,if_pos d2,if_neg d1]
  ·rw [if_pos (by omega),if_neg d2,if_neg d2]
theorem insC {L0 xc vc:List Value} {o a q:Nat} (h0:∀ d,d<xc.length→L0[o+d]?=xc[d]?) (ha:a≤xc.length) (hL:o+xc.length+vc.length≤L0.length) (hq:q=o+a+vc.length):∀ d,d<xc.length+vc.length →
  ((L0.take q++xc.drop a++L0.drop (q+(xc.drop a).length)).take (o+a)++vc++(L0.take q++xc.drop a++L0.drop (q+(xc.drop a).length)).drop (o+a+vc.length))[o+d]?=(xc.take a++vc++xc.drop a)[d]?:=fun d hd=>by
 subst hq
 simp only [List.getElem?_append,List.getElem?_take,List.getElem?_drop,List.length_append,List.length_take,List.length_drop]
 have e1:min (o+a+vc.length) L0.length=o+a+vc.length:=by omega
 have e2:min a xc.length=a:=by omega
 have e3:min (o+a) (o+a+vc.length+(xc.length - a)+(L0.length - (o+a+vc.length+(xc.length - a))))=o+a:=by omega
 simp only [e1,e2,e3]
 by_cases d1:d<a
 ·rw [if_pos (by omega),if_pos (by omega),if_pos (by omega),if_pos (by omega),if_pos (by omega),if_pos (by omega),if_pos (by omega),if_pos (by omega),if_pos d1];exact h0 d (by omega)
 ·by_cases d2:d<a+vc.length
  ·rw [if_pos (by omega),if_neg (by omega),if_pos d2,if_neg d1]
   congr 1;omega
  ·rw [if_neg (by omega),if_pos (by omega),if_neg (by omega),if_neg d2]
   congr 1;omega
theorem insE {L0 xc vc:List Value} {o:Nat} (h0:∀ d,d<xc.length→L0[o+d]?=xc[d]?) (hL:o+xc.length+vc.length≤L0.length):∀ d,d<xc.length+vc.length →
  (L0.take (o+xc.length)++vc++L0.drop (o+xc.length+vc.length))[o+d]?=(xc++vc)[d]?:=fun d hd=>by
 simp only [List.getElem?_append,List.getElem?_take,List.getElem?_drop,List.length_append,List.length_take,List.length_drop]
 have e1:min (o+xc.length) L0.length=o+xc.length:=by omega
 simp only [e1]
 by_cases d1:d<xc.length
 ·rw [if_pos (by omega),if_pos (by omega),if_pos (by omega),if_pos d1];exact h0 d d1
 ·rw [if_pos (by omega),if_neg (by omega),if_neg d1]
  congr 1;omega
def insAt {α:Type} (b:Nat) (xs:List α) (i:Int) (vs:List α):Option (List α):=if 0≤i∧i≤xs.length∧0<vs.length∧(xs.length+vs.length)*b≤140737488355328 then some (xs.take i.toNat++vs++xs.drop i.toNat) else none
theorem insAt_inv {α:Type} {b:Nat} {xs vs r:List α} {i1:Int} (h:insAt b xs i1 vs=some r):∃ i:Nat,i1=(i:Int)∧i≤xs.length∧0<vs.length∧(xs.length+vs.length)*b≤140737488355328∧r=xs.take i++vs++xs.drop i:=by
 unfold insAt at h
 split at h
 ·rename_i c
  refine ⟨i1.toNat,by omega,by omega,c.2.2.1,c.2.2.2,?_⟩
  simpa using h.symm
 ·cases h
theorem wp_seq_draw {P:Program} {id:Nat} {ops:Array Oper} {y:Code} {Q:Exit→Act→World→Prop} {a:Act} {w:World} (hm:P.follows .mixedOrders=true) (h:wpAny P .any ops (onlyN fun a w=>y.wp P Q a w) ops.size (Array.replicate ops.size false) a { w with drawn:=w.drawn+1 }):(Code.seq (.region id ops true) y).wp P Q a w :=
 wp_seq (wp_mono (wp_region_any hm h) fun e a w h=>by cases e<;>first | exact h | exact h.elim)
theorem wp_seq_list {P:Program} {id:Nat} {ops:Array Oper} {y:Code} {Q:Exit→Act→World→Prop} {a:Act} {w:World} (h:wpList P ops (Exit.then (y.wp P Q) Q) ops.toList a w):(Code.seq (.region id ops false) y).wp P Q a w:=wp_seq (wp_region_list h)
theorem rawL_nil {P:Program} {ops:Array Oper} {y:Code} {Q:Exit→Act→World→Prop} {a:Act} {w:World} (h:y.wp P Q a w):wpList P ops (Exit.then (y.wp P Q) Q) [] a w:=by
 unfold wpList
 exact h
theorem insAt_row {w:World} {b:Nat} {cur:Array Value} {te:TypeId} {a:Nat} {cs:List Value} (hb:w.heap[b]?=some (.cells cur te (0,0))) (hfit:a+cs.length≤cur.size) :
  (w.setRow b (cur.toList.take a++cs++cur.toList.drop (a+cs.length)).toArray).heap[b]?=some (.cells (cur.toList.take a++cs++cur.toList.drop (a+cs.length)).toArray te (0,0))∧(cur.toList.take a++cs++cur.toList.drop (a+cs.length)).toArray.size=cur.size :=
 ⟨setRow_heap w b cur _ te (0,0) hb,by simp only [List.size_toArray,List.length_append,List.length_take,List.length_drop,Array.length_toList];omega⟩
theorem FrOK.one {F F':Nat→Prop} {Λ Λ':Lbl} {w w':World} {tmps:Array Value} {k:Nat} {x:Value} {a:A} (h:FrOK F Λ w tmps [(k,.v x)]) (hx:OK F' Λ' w' x a):FrOK F' Λ' w' tmps [(k,a)]:=fun u=>by
 have hu:=h u
 simp only [lk] at hu ⊢
 split at hu
 ·rename_i eq
  rw [if_pos eq,hu.v_inv]
  exact hx
 ·rename_i eq
  rw [if_neg eq]
  exact .j _
theorem cut_cell {w:World} {b o' q:Nat} {cs:Array Value} {te:TypeId} (hb:w.heap[b]?=some (.cells cs te (0,0))) (hfit:o'+q≤cs.size) (j:Nat) (hj:j<q):∃ c,((cs.toList.drop o').take q)[j]?=some c∧w.cell? ⟨b,o'+j,none⟩=some c:=by
 rw [List.getElem?_take_of_lt hj,List.getElem?_drop,Array.getElem?_toList]
 refine ⟨cs[o'+j]'(by omega),by rw [Array.getElem?_eq_getElem],?_⟩
 simp [World.cell?,hb]
theorem cut_first {P:Program} {w:World} {b o' n k cap:Nat} {cs:Array Value} {te:TypeId} (hb:w.heap[b]?=some (.cells cs te (0,0))) (hfit:o'+n*k≤cs.size) (w':World) (hw:w'.heap=w.heap) :
  (Builtin.firstCells k n (.slice (some ⟨b,o',none⟩) n cap)).run P w'=.ok ((cs.toList.drop o').take (n*k)).toArray w' :=
 run_news (by simp only [List.length_take,List.length_drop,Array.length_toList];omega) (cut_cell hb hfit) w' hw
theorem cut_get {o' q:Nat} {cs:Array Value} (j:Nat) (hj:j<q):((cs.toList.drop o').take q)[j]?=cs[o'+j]?:=by
 rw [List.getElem?_take_of_lt hj,List.getElem?_drop,Array.getElem?_toList]
theorem FrOK.know {F:Nat→Prop} {Λ:Lbl} {w:World} {tmps:Array Value} {E:Env} (h:FrOK F Λ w tmps E) (t:Nat) {x:Value} (hx:tmps.getD t undef=x):FrOK F Λ w tmps ((t,.v x)::E):=fun u=>by
 simp only [lk]
 split
 ·rename_i eq
  have eq:t=u:=by simpa using eq
  subst eq
  rw [hx]
  exact .imm (.v _)
 ·exact h u
theorem Sizes.same {w w':World} (h:∀ b,b<w.heap.size→w'.heap[b]?=w.heap[b]?):Sizes w w':=fun b cs t hb=>⟨cs,by rw [h b (Array.getElem?_eq_some_iff.1 hb).1];exact hb,rfl⟩
theorem Sizes.one {w w':World} {b:Nat} {cs cs':Array Value} {te:TypeId} (hb:w.heap[b]?=some (.cells cs te (0,0))) (hb':w'.heap[b]?=some (.cells cs' te (0,0))) (hsz:cs'.size=cs.size) (h:∀ b1,b1≠b→w'.heap[b1]?=w.heap[b1]?):Sizes w w':=fun b1 cs1 t h1=>by
 by_cases e:b1=b
 ·subst e
  rw [hb] at h1
  cases h1
  exact ⟨cs',hb',hsz⟩
 ·exact ⟨cs1,by rw [h b1 e];exact h1,rfl⟩
theorem T_fin {P:Program} {n m:Nat} {c:Code} {K:Exit→Env→Store→Prop} {E:Env} {σ:Store} {F:Nat→Prop} {Λ:Lbl} {w:World} {tmps:Array Value} {Q:Exit→Act→World→Prop} (h:T P n m c (fun e E σ=>e=.ret∧K e E σ) E σ) (hn:tmps.size=n) (hs:St F Λ σ w) (hf:FrOK F Λ w tmps E)
  (hq:∀ F' Λ' σ' w' tmps' E',tmps'.size=n→St F' Λ' σ' w'→FrOK F' Λ' w' tmps' E'→Step m F Λ σ w F' Λ' σ' w'→K .ret E' σ'→Q .ret ⟨tmps',[]⟩ w'):c.wp P Q ⟨tmps,[]⟩ w :=
 h F Λ w tmps Q hn hs hf fun e F' Λ' σ' w' t' E' g1 g2 g3 g4 g5=>by
  obtain ⟨rfl,k⟩:=g5
  exact hq F' Λ' σ' w' t' E' g1 g2 g3 g4 k
end Go.Sep
set_option linter.unusedVariables false
set_option linter.unusedSimpArgs false
namespace Go.Sep
open Go
theorem Step.drop2 {m:Nat} {F:Nat→Prop} {Λ:Lbl} {σ:Store} {w:World} (hs:St F Λ σ w) {l r:Nat} {xs zs:List A} (hl:σ[l]?=some (.row xs)) (hr:σ[r]?=some (.row zs)):Step m F Λ σ w F Λ ((σ.set l .dead).set r .dead++[.row []]) w :=
  { os:=⟨rfl,fun _=>by first | exact Nat.le_refl _ | exact Nat.le_succ _⟩,tape:=rfl,output:=rfl,size:=Nat.le_refl _,sizes:=Sizes.refl w,keep:=fun _ _ _=>rfl,mono:=fun _ h=>h,new:=fun _ h=>.inl h,own:=fun b1 ⟨L,vs,o1,g1,g2⟩=>by
      rcases rowAt_regroup2 (π:=fun _=>none) hl hr (fun d y hd=>by simp at hd) g1 with ⟨rfl,rfl⟩ | ⟨d,s,e,q,rfl,hd,hp,hsr,g3⟩ | ⟨a,p,rfl,ha,hal,har,g3⟩
      · rw [hs.lab [σ.length] (Nat.le_refl _)] at g2;cases g2
      · cases hp
      · exact .inl ⟨_,_,_,g3,g2⟩,
    len:=by simp;omega,boxes:=fun a us ha hu=>by
      have hal:a<σ.length:=(List.getElem?_eq_some_iff.1 hu).1
      have hne:a≠l:=fun e=>by subst e;rw [hl] at hu;cases hu
      have hne2:a≠r:=fun e=>by subst e;rw [hr] at hu;cases hu
      exact ⟨rfl,us,by rw [List.getElem?_append_left (by simpa using hal),List.getElem?_set_ne (Ne.symm hne2),List.getElem?_set_ne (Ne.symm hne)];exact hu⟩,
    kept:=fun _ _ _ _ h=>h }
section
variable {P:Program} {n m:Nat} {N:Env→Store→Prop} {E:Env} {σ:Store} {o:Oper}
theorem TOp_appOO {α:Type} {Y:Ty α} {t e l r by_:Nat} {x y:Operand} {zs:List Value} {xs ys us:List α} (hT:SlT P t e Y.k) (hz:ZeroT P e zs) (hzk:zs.length=Y.k) (hby:(P.info? e).map (·.bytes)=some by_) (hb1:1≤by_)
  (h:o.op=.call { callee:=.builtin .append,args:=#[x,y],argTypes:=#[t,t] }) (hd:dstOK n o.dst=true) (hx:val E x=.m [l] 0 xs.length Y.k) (hy:val E y=.m [r] 0 ys.length Y.k) (hl:σ[l]?=some (.row (flat Y.own xs))) (hr:σ[r]?=some (.row (flat Y.own ys))) (hlr:l≠r) (ha:app by_ xs ys=some us)
  (hN:N (put E o.dst (.m [σ.length] 0 us.length Y.k)) ((σ.set l .dead).set r .dead++[.row (flat Y.own us)])):TOp P n m o N E σ:=fun F Λ w tmps K Q hn hs hf hk=>by
 obtain ⟨rfl,hb⟩:=app_inv ha
 obtain ⟨⟨inf,z,z1,z2,z3⟩,z4⟩:=hz
 have hbytes:inf.bytes=by_:=by simpa [z1] using hby
 have hsize:inf.size=Y.k:=by obtain ⟨i2,g1,g2⟩:=hT.i;rw [z1] at g1;cases g1;exact g2
 have hzc:z.cells.size=Y.k:=by rw [← hzk,← z3];simp
 have hk0:=hT.pos
 have h63:xs.length+ys.length≤140737488355328:=Nat.le_trans (Nat.le_mul_of_pos_right _ hb1) hb
 have hxl:(flat Y.own xs).length=xs.length*Y.k:=flat_len Y.lenO xs
 have hyl:(flat Y.own ys).length=ys.length*Y.k:=flat_len Y.lenO ys
 have hadd:(xs.length+ys.length)*Y.k=xs.length*Y.k+ys.length*Y.k:=Nat.add_mul ..
 have ex:=val_ok (ds:=[]) hf x
 rw [hx] at ex
 have ey:=val_ok (ds:=[]) hf y
 rw [hy] at ey
 -- what the second row is
 have hsrc:∃ ay cy vc,Act.eval ⟨tmps,[]⟩ y=.slice ay ys.length cy∧RowCells F Λ w r (flat Y.own ys) vc∧∀ w':World,w'.heap=w.heap→(Builtin.firstCells Y.k ys.length (.slice ay ys.length cy)).run P w'=.ok vc.toArray w':=by
  rcases ey.m_inv with ⟨h0,ad,g1⟩ | ⟨b,o1,cap,hL,g2,hN',hcap,cs,tv,g5,g6⟩
  ·have e0:ys=[]:=List.eq_nil_of_length_eq_zero h0
   subst e0
   exact ⟨ad,0,[],g1,.nil,fun w' _=>firstCells_zero w' _ ad 0⟩
  ·simp only [Nat.add_zero] at g2 g6
   have hle:ys.length*Y.k≤cap*Y.k:=Nat.mul_le_mul_right _ hN'
   refine ⟨_,cap,_,g2,?_,cut_first (P:=P) (k:=Y.k) (n:=ys.length) (cap:=cap) g5 (by omega)⟩
   rw [← hyl];exact hs.rowCells hr hL g5 (by omega)
 obtain ⟨ay,cy,vc,gy,hvc,hvfirst⟩:=hsrc
 have hvone:=hvc.one
 have hvcl:vc.length=ys.length*Y.k:=by rw [hvc.1,hyl]
 have fin:∀ (w':World) (v:Value) (Λ':Lbl),(execOp (Act.eval ⟨tmps,[]⟩) o).run P w=.ok (.value v) w'→(∀ L b o,Λ L=some (b,o)→Λ' L=some (b,o))→(∀ b,F b→F b∧w'.heap[b]?=w.heap[b]?)→Sizes w w'→St F Λ' ((σ.set l .dead).set r .dead++[.row (flat Y.own (xs++ys))]) w'→Step m F Λ σ w F Λ' ((σ.set l .dead).set r .dead++[.row (flat Y.own (xs++ys))]) w'→OK F Λ' w' v (.m [σ.length] 0 (xs++ys).length Y.k)→o.wp P ⟨tmps,[]⟩ w K Q:=fun w' v Λ' hrun hext hF hS hst hstep hv=>by
  obtain ⟨tmps',e',hn',hf'⟩:=((hf.mono hF hS).ext hext).putO (ds:=[]) hn hd hv
  unfold Oper.wp
  rw [hrun]
  show K (Act.put ⟨tmps,[]⟩ o.dst v) w'
  rw [e']
  exact hk F Λ' _ w' tmps' _ hn' hst hf' hstep hN
 have hrow:rowAt σ [l]=some (flat Y.own xs):=by simp only [rowAt,hl,Root.cells,Go.Sep.sub]
 have main:∀ (w1:World) (b2 o2 cap2:Nat) (cs2:Array Value) (t2:TypeId) (xc:List Value),(execOp (Act.eval ⟨tmps,[]⟩) o).run P w=.ok (.value (.slice (some ⟨b2,o2,none⟩) (xs.length+ys.length) cap2)) w1→RowCells F Λ w l (flat Y.own xs) xc→((∃ o1,Λ [l]=some (b2,o1))∨w.heap.size≤b2)→w1.heap[b2]?=some (.cells cs2 t2 (0,0))→(∀ b1,b1<w.heap.size→(∀ o1,Λ [l]≠some (b1,o1))→w1.heap[b1]?=w.heap[b1]?)→Sizes w w1→w.heap.size≤w1.heap.size→OsLe w w1→w1.tape=w.tape→w1.output=w.output→(∀ d,d<(xs.length+ys.length)*Y.k→cs2[o2+d]?=(xc++vc)[d]?)→xs.length+ys.length≤cap2→cap2≤maxLen→o2+cap2*Y.k≤cs2.size→o.wp P ⟨tmps,[]⟩ w K Q:=fun w1 b2 o2 cap2 cs2 t2 xc hrun a1 a2 a3 a4 a5 a6 a7 a8 a9 a10 a11 a12 a13=>by
  have hxcl:xc.length=xs.length*Y.k:=by rw [a1.1,hxl]
  have hturn:=St.ins (Y:=Y) (m:=m) hs (l:=l) (r:=r) (i:=xs.length) hl hr hlr (Nat.le_refl _) a1 hvc a2 a3 a4 a5 a6 a7 a8 a9 (fun d hd=>by
   rw [List.take_of_length_le (by omega),List.drop_eq_nil_of_le (by omega),List.append_nil];exact a10 d hd) a11 a12 a13
  rw [List.take_length,List.drop_length,List.append_nil] at hturn
  exact fin w1 _ _ hrun (regL2_ext hs) (fun b hb=>⟨hb,a4 b (hs.old b hb) fun o1 e=>hs.notOwn hb ⟨[l],_,o1,hrow,e⟩⟩) a5 hturn.1.1 hturn.1.2 hturn.2
 have grow:∀ (ad:Option Addr) (cap:Nat) (xc:List Value),Act.eval ⟨tmps,[]⟩ x=.slice ad xs.length cap→RowCells F Λ w l (flat Y.own xs) xc→(Builtin.firstCells Y.k xs.length (.slice ad xs.length cap)).run P w.drew=.ok xc.toArray w.drew→cap<xs.length+ys.length→o.wp P ⟨tmps,[]⟩ w K Q:=fun ad cap xc e0 hxc hold hg=>by
  have hge:=grownCap_ge w (xs.length+ys.length) cap e
  have hcm:grownCap w (xs.length+ys.length) cap e≤maxLen:=grownCap_le_maxLen w (xs.length+ys.length) cap e (by simp only [maxLen];omega)
  have hxcl:xc.length=xs.length*Y.k:=by rw [hxc.1,hxl]
  refine main _ w.heap.size 0 _ _ e xc (run_appN hT.u z1 z2 h e0 gy (by rw [hsize];exact hold) (by rw [hsize];exact hvfirst w.drew rfl) hg (by omega) (by rw [hbytes];exact growslice_fits hg hb)) hxc (.inr (Nat.le_refl _)) (Go.heap_alloc_new w.drew _) (fun b1 hb1 _=>by first | exact Go.heap_alloc_old w.drew _ hb1 | exact Go.heap_alloc_old w.drew _ b1 hb1) (Sizes.alloc w.drew _) (by simp) ⟨rfl,fun _=>by first | exact Nat.le_refl _ | exact Nat.le_succ _⟩ rfl rfl (fun d hd=>?_) hge hcm ?_
  ·rw [Nat.zero_add,Array.getElem?_append_left (by simp;omega),List.append_toArray,List.getElem?_toArray]
  ·simp only [Array.size_append,List.size_toArray,size_zeroCells,hzc,hxcl,hvcl]
   have hx:xs.length*Y.k+ys.length*Y.k+(grownCap w (xs.length+ys.length) cap e - (xs.length+ys.length))*Y.k=grownCap w (xs.length+ys.length) cap e*Y.k:=by rw [← Nat.add_mul,← Nat.add_mul];congr 1;omega
   omega
 rcases ex.m_inv with ⟨hz0,ad,g1⟩ | ⟨b,o1,cap,hL,g2,hN',hcap,cs,tw,g5,g6⟩
 ·have e0:xs=[]:=List.eq_nil_of_length_eq_zero hz0
  subst e0
  by_cases hy0:ys.length=0
  ·have e1:ys=[]:=List.eq_nil_of_length_eq_zero hy0
   subst e1
   refine fin w (.slice ad 0 0) Λ ?_ (fun _ _ _ h=>h) (fun b hb=>⟨hb,rfl⟩) (Sizes.refl w) ((hs.kill l).kill r).ghost (Step.drop2 hs hl hr) (.m (.inl ⟨rfl,ad,rfl⟩))
   unfold execOp
   simp only [h,resolve,invoke,builtin,Sem.run_bind,Sem.run_pure,Result.andThen_ok,List.map_toArray,List.map_cons,List.map_nil]
   rw [g1,gy]
   rw [show ([]:List α).length=0 from rfl,run_append_empty w t o.type e inf hT.u z1 ad ay cy]
   rfl
  ·exact grow ad 0 [] g1 .nil (firstCells_zero w.drew _ ad 0) (by simp only [List.length_nil];omega)
 ·simp only [Nat.add_zero] at g2 g6
  have hNk:xs.length*Y.k≤cap*Y.k:=Nat.mul_le_mul_right _ hN'
  have hrc:=hs.rowCells hl hL g5 (by omega)
  rw [hxl] at hrc
  by_cases hg:cap<xs.length+ys.length
  ·exact grow _ cap _ g2 hrc (cut_first (P:=P) (k:=Y.k) (n:=xs.length) (cap:=cap) g5 (by omega) w.drew rfl) hg
  ·have hfit:o1+xs.length*inf.size+vc.length≤cs.size:=by rw [hsize,hvcl];have:=Nat.mul_le_mul_right Y.k (show xs.length+ys.length≤cap by omega);omega
   have hxcl:((cs.toList.drop o1).take (xs.length*Y.k)).length=xs.length*Y.k:=by rw [hrc.1,hxl]
   refine main _ b o1 cap _ tw _ (run_appX hT.u z1 h g2 gy (by rw [hsize];exact hvfirst w rfl) hvone g5 (by omega) hfit) hrc (.inl ⟨o1,hL⟩) (insAt_row g5 hfit).1 (fun b1 _ hb1=>setRow_other w b b1 _ fun e=>hb1 o1 (e▸hL)) (Sizes.one g5 (insAt_row g5 hfit).1 (insAt_row g5 hfit).2 fun b1 e=>setRow_other w b b1 _ e) (by simp [World.setRow]) ⟨rfl,fun _=>by first | exact Nat.le_refl _ | exact Nat.le_succ _⟩ rfl rfl (fun d hd=>?_) (by omega) hcap (by rw [(insAt_row g5 hfit).2];omega)
   have:=insE (L0:=cs.toList) (o:=o1) (xc:=(cs.toList.drop o1).take (xs.length*Y.k)) (vc:=vc) (fun d hd=>by rw [cut_get d (by omega),Array.getElem?_toList]) (by rw [hsize] at hfit;rw [hxcl,show cs.toList.length=cs.size from Array.length_toList (xs:=cs)];exact hfit) d (by rw [hxcl,hvcl];omega)
   rw [List.getElem?_toArray,hsize]
   rw [hxcl] at this;exact this
end
end Go.Sep
set_option linter.unusedVariables false
set_option linter.unusedSimpArgs false
namespace Go.Sep
open Go
section
variable {P:Program} {n m:Nat} {N:Env→Store→Prop} {E:Env} {σ:Store} {o:Oper}
end
end Go.Sep
set_option linter.unusedVariables false
set_option linter.unusedSimpArgs false
namespace Go.Sep
open Go
def hide:A→A
 | .o _ _=>.j
 | x=>x
def hideTo (c:Nat) (l:List A):List A:=(l.take c).map hide++l.drop c
theorem hideTo_len (c:Nat) (l:List A):(hideTo c l).length=l.length:=by simp [hideTo];omega
theorem hideTo_zero (l:List A):hideTo 0 l=l:=by simp [hideTo]
theorem hideTo_lt {c j:Nat} {l:List A} (h:j<c):(hideTo c l)[j]?=l[j]?.map hide:=by
 rcases Nat.lt_or_ge j l.length with g | g
 ·rw [hideTo,List.getElem?_append_left (by simp;omega),List.getElem?_map,List.getElem?_take_of_lt h]
 ·rw [List.getElem?_eq_none (by rw [hideTo_len];exact g),List.getElem?_eq_none g];rfl
theorem hideTo_ge {c j:Nat} {l:List A} (h:c≤j):(hideTo c l)[j]?=l[j]?:=by
 rcases Nat.lt_or_ge j l.length with g | g
 ·rw [hideTo,List.getElem?_append_right (by simp;omega),List.getElem?_drop]
  congr 1;simp;omega
 ·rw [List.getElem?_eq_none (by rw [hideTo_len];exact g),List.getElem?_eq_none g]
theorem hide_o {x:A} {k:Nat} {ys:List A} (h:hide x=.o k ys):False:=by cases x<;>simp [hide] at h
theorem hide_cell {F:Nat→Prop} {Λ:Lbl} {w:World} {bx:Bool} {L:List Nat} {c:Value} {x:A} (h:Cell F Λ w bx L c x):Cell F Λ w bx L c (hide x):=by
 cases x<;>first | exact h | trivial
section
variable {F:Nat→Prop} {Λ:Lbl} {σ:Store} {w:World} {s:Nat} {xs:List A}
theorem rowAt_hide {c c':Nat} (hc:c≤c') (hs:σ[s]?=some (.row (hideTo c xs))) {L:List Nat} {zs:List A} (h:rowAt (σ.set s (.row (hideTo c' xs))) L=some zs) :
  (L=[s]∧zs=hideTo c' xs)∨(L≠[s]∧rowAt σ L=some zs∧∀ j p,L=s::j::p→c'≤j):=by
 have hls:s<σ.length:=(List.getElem?_eq_some_iff.1 hs).1
 cases L with
 | nil=>simp [rowAt] at h
 | cons a p =>
  simp only [rowAt] at h
  by_cases e:s=a
  ·subst e
   rw [List.getElem?_set_self hls] at h
   simp only [Root.cells] at h
   cases p with
   | nil=>simp only [sub,Option.some.injEq] at h;exact .inl ⟨rfl,h.symm⟩
   | cons j q =>
    refine .inr ⟨by simp,?_,fun j' p' hh=>?_⟩
    ·simp only [sub] at h
     rcases Nat.lt_or_ge j c' with g | g
     ·rw [hideTo_lt g] at h
      cases hj:xs[j]? with
      | none=>simp [hj] at h
      | some x =>
       rw [hj] at h
       simp only [Option.map_some] at h
       split at h
       ·rename_i k us hh;exact absurd hh (by intro e;simp only [Option.some.injEq] at e;exact hide_o e)
       ·cases h
     ·rw [hideTo_ge g] at h
      simp only [rowAt,hs,Root.cells,sub]
      rw [hideTo_ge (by omega)];exact h
    ·simp only [List.cons.injEq,true_and] at hh
     obtain ⟨rfl,rfl⟩:=hh
     simp only [sub] at h
     rcases Nat.lt_or_ge j c' with g | g
     ·rw [hideTo_lt g] at h
      cases hj:xs[j]? with
      | none=>simp [hj] at h
      | some x =>
       rw [hj] at h
       simp only [Option.map_some] at h
       split at h
       ·rename_i k us hh;exact absurd hh (by intro e;simp only [Option.some.injEq] at e;exact hide_o e)
       ·cases h
     ·exact g
  ·rw [List.getElem?_set_ne e] at h
   refine .inr ⟨by simp;omega,h,fun j p' hh=>?_⟩
   simp only [List.cons.injEq] at hh
   exact absurd hh.1.symm e
theorem isBox_hide {c c':Nat} (hs:σ[s]?=some (.row (hideTo c xs))) (L:List Nat):isBox (σ.set s (.row (hideTo c' xs))) L=isBox σ L:=by
 have hls:s<σ.length:=(List.getElem?_eq_some_iff.1 hs).1
 match L with
 | []=>rfl
 | [a] =>
  simp only [isBox]
  by_cases e:s=a
  ·subst e;rw [List.getElem?_set_self hls,hs]
  ·rw [List.getElem?_set_ne e]
 | _::_::_=>rfl
theorem St.hide {c c':Nat} (h:St F Λ σ w) (hc:c≤c') (hs:σ[s]?=some (.row (hideTo c xs))):St F Λ (σ.set s (.row (hideTo c' xs))) w where
 row L zs hz:=by
  rw [isBox_hide hs]
  rcases rowAt_hide hc hs hz with ⟨rfl,rfl⟩ | ⟨_,h1,_⟩
  ·have hr:rowAt σ [s]=some (hideTo c xs):=by simp only [rowAt,hs,Root.cells,Go.Sep.sub]
   rcases h.row _ _ hr with ⟨h1,h2⟩ | ⟨b,o,cs,t,h1,h2,h3,h4⟩
   ·refine .inl ⟨h1,?_⟩
    have:=hideTo_len c xs
    rw [h2] at this
    have e:xs=[]:=List.eq_nil_of_length_eq_zero (by simpa using this.symm)
    subst e;simp [hideTo]
   ·refine .inr ⟨b,o,cs,t,h1,h2,h3,fun j x hx=>?_⟩
    rcases Nat.lt_or_ge j c' with g | g
    ·rw [hideTo_lt g] at hx
     cases hj:xs[j]? with
     | none=>simp [hj] at hx
     | some y =>
      rw [hj] at hx
      simp only [Option.map_some,Option.some.injEq] at hx
      subst hx
      rcases Nat.lt_or_ge j c with g2 | g2
      ·exact h4 j (Sep.hide y) (by rw [hideTo_lt g2,hj];rfl)
      ·obtain ⟨v,k1,k2⟩:=h4 j y (by rw [hideTo_ge g2];exact hj)
       exact ⟨v,k1,hide_cell k2⟩
    ·rw [hideTo_ge g] at hx
     exact h4 j x (by rw [hideTo_ge (by omega)];exact hx)
  ·exact h.row _ _ h1
 apart L xs1 L' xs2 b o o' h1 h2 h3 h4:=by
  have hr:rowAt σ [s]=some (hideTo c xs):=by simp only [rowAt,hs,Root.cells,Go.Sep.sub]
  rcases rowAt_hide hc hs h1 with ⟨rfl,rfl⟩ | ⟨_,g1,_⟩<;>rcases rowAt_hide hc hs h2 with ⟨rfl,rfl⟩ | ⟨_,g2,_⟩
  ·rfl
  ·exact h.apart _ _ _ _ _ _ _ hr g2 h3 h4
  ·exact h.apart _ _ _ _ _ _ _ g1 hr h3 h4
  ·exact h.apart _ _ _ _ _ _ _ g1 g2 h3 h4
 old:=h.old
 tab:=h.tab
 lab L hL:=h.lab L (by simpa using hL)
theorem Step.hide {m c c':Nat} (hc:c≤c') (hs:σ[s]?=some (.row (hideTo c xs))) (hms:m≤s):Step m F Λ σ w F Λ (σ.set s (.row (hideTo c' xs))) w :=
  { os:=⟨rfl,fun _=>by first | exact Nat.le_refl _ | exact Nat.le_succ _⟩,tape:=rfl,output:=rfl,size:=Nat.le_refl _,sizes:=Sizes.refl _,keep:=fun _ _ _=>rfl,mono:=fun _ h=>h,new:=fun _ h=>.inl h
    own:=fun b ⟨L,ys,o,g1,g2⟩=>by
      rcases rowAt_hide hc hs g1 with ⟨rfl,rfl⟩ | ⟨_,h1,_⟩
      · exact .inl ⟨[s],hideTo c xs,o,by simp only [rowAt,hs,Root.cells,Go.Sep.sub],g2⟩
      · exact .inl ⟨L,ys,o,h1,g2⟩
    len:=by rw [List.length_set];exact Nat.min_le_right _ _
    boxes:=fun a us ha hu=>by
      have:a≠s:=fun e=>by subst e;rw [hs] at hu;cases hu
      exact ⟨rfl,us,by rw [List.getElem?_set_ne (Ne.symm this)];exact hu⟩
    kept:=fun _ _ _ _ h=>h }
theorem Ghost.hide {m c c':Nat} {E:Env} (hc:c≤c') (hs:σ[s]?=some (.row (hideTo c xs))) (hms:m≤s):Ghost m E σ E (σ.set s (.row (hideTo c' xs))):=fun F Λ w tmps h1 h2 =>
 ⟨F,Λ,h1.hide hc hs,h2,Step.hide hc hs hms⟩
def dtΛ (Λ:Lbl) (s j l:Nat):Lbl:=fun L=>match L with
 | []=>Λ []
 | h::q=>if h=l then Λ (s::j::q) else Λ (h::q)
theorem dtΛ_ok (h:St F Λ σ w) (s j:Nat):∀ L b o,Λ L=some (b,o)→dtΛ Λ s j σ.length L=some (b,o):=fun L b o hL=>by
 cases L with
 | nil=>exact hL
 | cons a q =>
  simp only [dtΛ]
  rw [if_neg (by rintro rfl;rw [h.lab _ (by simp)] at hL;cases hL)];exact hL
theorem dtΛ_new (s j l:Nat) (q:List Nat):dtΛ Λ s j l (l::q)=Λ (s::j::q):=by simp [dtΛ]
theorem dtΛ_old {s j l:Nat} {L:List Nat} (h:L.headD 0<l):dtΛ Λ s j l L=Λ L:=by
 cases L with
 | nil=>rfl
 | cons a q=>simp only [dtΛ];rw [if_neg (by simp at h;omega)]
theorem rowAt_det {c j k:Nat} {ys:List A} (hs:σ[s]?=some (.row (hideTo c xs))) (hc:c≤j) (hx:xs[j]?=some (.o k ys)) {L:List Nat} {zs:List A} (h:rowAt (σ.set s (.row (hideTo (j+1) xs))++[.row ys]) L=some zs) :
  (∃ q,L=σ.length::q∧rowAt σ (s::j::q)=some zs)∨(L.headD 0<σ.length∧rowAt (σ.set s (.row (hideTo (j+1) xs))) L=some zs):=by
 cases L with
 | nil=>simp [rowAt] at h
 | cons a p =>
  by_cases e:a=σ.length
  ·subst e
   refine .inl ⟨p,rfl,?_⟩
   simp only [rowAt] at h
   rw [List.getElem?_append_right (by simp)] at h
   simp only [List.length_set,Nat.sub_self,List.getElem?_cons_zero,Root.cells] at h
   simp only [rowAt,hs,Root.cells,sub]
   rw [hideTo_ge hc,hx];exact h
  ·by_cases g:a<σ.length
   ·refine .inr ⟨g,?_⟩
    simp only [rowAt] at h ⊢
    rw [List.getElem?_append_left (by simpa using g)] at h
    exact h
   ·simp only [rowAt] at h
    rw [List.getElem?_eq_none (by simp;omega)] at h
    cases h
theorem St.det {c j k:Nat} {ys:List A} (h:St F Λ σ w) (hs:σ[s]?=some (.row (hideTo c xs))) (hc:c≤j) (hx:xs[j]?=some (.o k ys)):St F (dtΛ Λ s j σ.length) (σ.set s (.row (hideTo (j+1) xs))++[.row ys]) w:=by
 have hh:=h.hide (c':=j+1) (by omega) hs
 have hb:∀ (L:List Nat),L.headD 0<σ.length→isBox (σ.set s (.row (hideTo (j+1) xs))++[.row ys]) L=isBox (σ.set s (.row (hideTo (j+1) xs))) L:=fun L hL=>by
  match L with
  | []=>rfl
  | [a]=>simp only [isBox];rw [List.getElem?_append_left (by simpa using hL)]
  | _::_::_=>rfl
 refine ⟨fun L zs hz=>?_,fun L zs L' zs' b o o' g1 g2 g3 g4=>?_,h.old,h.tab,fun L hL=>?_⟩
 ·rcases rowAt_det hs hc hx hz with ⟨q,rfl,h1⟩ | ⟨hl,h1⟩
  ·rw [dtΛ_new]
   have hib:isBox (σ.set s (.row (hideTo (j+1) xs))++[Root.row ys]) (σ.length::q)=false:=by
    cases q with
    | nil=>simp [isBox]
    | cons=>rfl
   rw [hib]
   refine (h.row _ _ h1).imp id fun ⟨b,o,cs,t,k1,k2,k3,k4⟩=>⟨b,o,cs,t,k1,k2,k3,fun i x hi=>(k4 i x hi).imp fun cv hcv=>⟨hcv.1,?_⟩⟩
   have h5:=hcv.2
   rw [isBox_deep] at h5
   exact h5.unbox fun a n k v hv=>hv.imp id fun ⟨b,o,cap,k1,k2⟩=>⟨b,o,cap,by rw [List.cons_append,dtΛ_new];simpa using k1,k2⟩
  ·rw [dtΛ_old hl,hb L hl]
   refine (hh.row _ _ h1).imp id fun ⟨b,o,cs,t,k1,k2,k3,k4⟩=>⟨b,o,cs,t,k1,k2,k3,fun i x hi=>(k4 i x hi).imp fun cv hcv=>⟨hcv.1,?_⟩⟩
   exact hcv.2.ext (dtΛ_ok h s j)
 ·rcases rowAt_det hs hc hx g1 with ⟨q,rfl,h1⟩ | ⟨hl,h1⟩<;>rcases rowAt_det hs hc hx g2 with ⟨q',rfl,h2⟩ | ⟨hl2,h2⟩
  ·rw [dtΛ_new] at g3 g4
   have:=h.apart _ _ _ _ _ _ _ h1 h2 g3 g4
   simp only [List.cons.injEq,true_and] at this;rw [this]
  ·rw [dtΛ_new] at g3
   rw [dtΛ_old hl2] at g4
   exfalso
   rcases rowAt_hide (by omega) hs h2 with ⟨rfl,rfl⟩ | ⟨_,k1,k2⟩
   ·have:=h.apart _ _ _ _ _ _ _ h1 (show rowAt σ [s]=some (hideTo c xs) by simp only [rowAt,hs,Root.cells,Go.Sep.sub]) g3 g4
    simp at this
   ·have:=h.apart _ _ _ _ _ _ _ h1 k1 g3 g4
    have:=k2 j q this.symm
    omega
  ·rw [dtΛ_new] at g4
   rw [dtΛ_old hl] at g3
   exfalso
   rcases rowAt_hide (by omega) hs h1 with ⟨rfl,rfl⟩ | ⟨_,k1,k2⟩
   ·have:=h.apart _ _ _ _ _ _ _ h2 (show rowAt σ [s]=some (hideTo c xs) by simp only [rowAt,hs,Root.cells,Go.Sep.sub]) g4 g3
    simp at this
   ·have:=h.apart _ _ _ _ _ _ _ h2 k1 g4 g3
    have:=k2 j q' this.symm
    omega
  ·rw [dtΛ_old hl] at g3
   rw [dtΛ_old hl2] at g4
   exact hh.apart _ _ _ _ _ _ _ h1 h2 g3 g4
 ·have:L.headD 0 ≥ σ.length+1:=by simpa using hL
  rw [show dtΛ Λ s j σ.length L=Λ L from ?_]
  ·exact h.lab _ (by omega)
  ·cases L with
   | nil=>rfl
   | cons a q=>simp only [dtΛ];rw [if_neg (by simp at this;omega)]
theorem Step.det {m c j k:Nat} {ys:List A} (h:St F Λ σ w) (hs:σ[s]?=some (.row (hideTo c xs))) (hc:c≤j) (hx:xs[j]?=some (.o k ys)) (hms:m≤s):Step m F Λ σ w F (dtΛ Λ s j σ.length) (σ.set s (.row (hideTo (j+1) xs))++[.row ys]) w:=by
  have hls:s<σ.length:=(List.getElem?_eq_some_iff.1 hs).1
  exact { os:=⟨rfl,fun _=>by first | exact Nat.le_refl _ | exact Nat.le_succ _⟩,tape:=rfl,output:=rfl,size:=Nat.le_refl _,sizes:=Sizes.refl _,keep:=fun _ _ _=>rfl,mono:=fun _ h=>h,new:=fun _ h=>.inl h
          own:=fun b ⟨L,zs,o,g1,g2⟩=>by
            rcases rowAt_det hs hc hx g1 with ⟨q,rfl,h1⟩ | ⟨hl,h1⟩
            · rw [dtΛ_new] at g2;exact .inl ⟨_,zs,o,h1,g2⟩
            · rw [dtΛ_old hl] at g2
              rcases rowAt_hide (by omega) hs h1 with ⟨rfl,rfl⟩ | ⟨_,h2,_⟩
              · exact .inl ⟨[s],hideTo c xs,o,by simp only [rowAt,hs,Root.cells,Go.Sep.sub],g2⟩
              · exact .inl ⟨L,zs,o,h2,g2⟩
          len:=by simp;omega
          boxes:=fun a us ha hu=>by
            have hal:a<σ.length:=(List.getElem?_eq_some_iff.1 hu).1
            have:a≠s:=fun e=>by subst e;rw [hs] at hu;cases hu
            exact ⟨dtΛ_old (by simpa using hal),us,by rw [List.getElem?_append_left (by simpa using hal),List.getElem?_set_ne (Ne.symm this)];exact hu⟩
          kept:=fun L b o ha hL=>dtΛ_ok h s j L b o hL }
end
mutual
inductive DtA (s j q:Nat):A→A→Prop
  | r (x):DtA s j q x x
  | m (a n k):DtA s j q (.m [s,j] a n k) (.m [q] a n k)
  | g {xs ys}:DtL s j q xs ys→DtA s j q (.g xs) (.g ys)
inductive DtL (s j q:Nat):List A→List A→Prop
  | nil:DtL s j q [] []
  | cons {x y xs ys}:DtA s j q x y→DtL s j q xs ys→DtL s j q (x::xs) (y::ys)
end
theorem DtL.get {s j q:Nat}:∀ {xs ys:List A},DtL s j q xs ys→xs.length=ys.length∧∀ (i:Nat) y,ys[i]?=some y→∃ x,xs[i]?=some x∧DtA s j q x y
 | _,_,.nil=>⟨rfl,fun i y h=>by simp at h⟩
 | _,_,.cons h hs=>by
  obtain ⟨h1,h2⟩:=DtL.get hs
  refine ⟨by simp [h1],fun i y hi=>?_⟩
  cases i with
  | zero=>simp at hi;subst hi;exact ⟨_,rfl,h⟩
  | succ i=>simpa using h2 i y (by simpa using hi)
theorem Imm.dt {F:Nat→Prop} {w:World} {s j q:Nat} {v:Value} {x:A} (h:Imm F w v x):∀ y,DtA s j q x y→Imm F w v y:=by
 induction h with
 | v x=>intro y hy;cases hy;exact .v x
 | n ad=>intro y hy;cases hy;exact .n ad
 | i0 ad cap k=>intro y hy;cases hy;exact .i0 ad cap k
 | i b o n cap k cs xs hb h0 hnc hm hl hc hi _=>intro y hy;cases hy;exact .i b o n cap k cs xs hb h0 hnc hm hl hc hi
 | q b o d cs xs hb hc hi _=>intro y hy;cases hy;exact .q b o d cs xs hb hc hi
 | g vs xs hl hv ih =>
  intro y hy
  cases hy with
  | r=>exact .g vs xs hl hv
  | g hg =>
   obtain ⟨g1,g2⟩:=hg.get
   refine .g vs _ (by omega) fun i x z hx hz=>?_
   obtain ⟨u,k1,k2⟩:=g2 i x hx
   exact ih i u z k1 hz x k2
 | t vs xs hl hv _=>intro y hy;cases hy;exact .t vs xs hl hv
 | f fn vs xs hl hv _=>intro y hy;cases hy;exact .f fn vs xs hl hv
theorem OK.dt {F:Nat→Prop} {Λ Λ':Lbl} {w:World} {s j q:Nat} (h1:∀ L b o,Λ L=some (b,o)→Λ' L=some (b,o)) (h2:Λ' [q]=Λ [s,j]) {v:Value} {x:A} (h:OK F Λ w v x):∀ y,DtA s j q x y→OK F Λ' w v y:=by
 induction h with
 | imm hi=>exact fun y hy=>.imm (hi.dt y hy)
 | j v=>intro y hy;cases hy;exact .j v
 | m hm =>
  intro y hy
  cases hy with
  | r=>exact .m (hm.imp id fun ⟨b1,o1,cap,k3,k4⟩=>⟨b1,o1,cap,h1 _ _ _ k3,k4⟩)
  | m a n k=>exact .m (hm.imp id fun ⟨b1,o1,cap,k3,k4⟩=>⟨b1,o1,cap,by rw [h2];exact k3,k4⟩)
 | e he=>intro y hy;cases hy;exact .e (h1 _ _ _ he)
 | b hb=>intro y hy;cases hy;exact .b (h1 _ _ _ hb)
 | g vs xs hl hv ih =>
  intro y hy
  cases hy with
  | r=>exact .g vs xs hl fun i x z hx hz=>(hv i x z hx hz).ext h1
  | g hg =>
   obtain ⟨g1,g2⟩:=hg.get
   refine .g vs _ (by omega) fun i x z hx hz=>?_
   obtain ⟨u,k1,k2⟩:=g2 i x hx
   exact ih i u z k1 hz x k2
 | t vs xs hl hv ih=>intro y hy;cases hy;exact .t vs xs hl fun i x z hx hz=>(hv i x z hx hz).ext h1
 | f fn vs xs hl hv ih=>intro y hy;cases hy;exact .f fn vs xs hl fun i x z hx hz=>(hv i x z hx hz).ext h1
def DtE (s j q:Nat) (E:Env):Env→Prop
 | []=>True
 | (t,a)::E'=>DtA s j q (lk E t) a∧DtE s j q E E'
theorem DtE.lk {s j q:Nat} {E:Env}:∀ {E':Env},DtE s j q E E'→∀ t,Sep.lk E' t=.j∨DtA s j q (Sep.lk E t) (Sep.lk E' t)
 | [],_,t=>.inl rfl
 | (u,a)::E',h,t=>by
  simp only [Sep.lk]
  split
  ·rename_i e;subst e;exact .inr h.1
  ·exact DtE.lk h.2 t
theorem Ghost.det {m s c j k:Nat} {σ:Store} {xs ys:List A} {E E':Env} (hs:σ[s]?=some (.row (hideTo c xs))) (hc:c≤j) (hx:xs[j]?=some (.o k ys)) (hms:m≤s) (hE:DtE s j σ.length E E'):Ghost m E σ E' (σ.set s (.row (hideTo (j+1) xs))++[.row ys]):=fun F Λ w tmps h1 h2 =>
 ⟨F,_,h1.det hs hc hx,fun t=>by
  rcases hE.lk t with h | h
  ·rw [h];exact .j _
  ·exact (h2 t).dt (dtΛ_ok h1 s j) (dtΛ_new s j σ.length []) _ h,Step.det h1 hs hc hx hms⟩
theorem Ghost.detT {α β:Type} {T:Ty α} {T2:Ty β} {m s c i off:Nat} {σ:Store} {xs:List α} {v:α} {ys:List β} {E E':Env} (hs:σ[s]?=some (.row (hideTo c (flat T.own xs)))) (hv:xs[i]?=some v) (hc:c≤i*T.k+off) (ho:(T.own v)[off]?=some (.o T2.k (flat T2.own ys))) (hms:m≤s) (hE:DtE s (i*T.k+off) σ.length E E') :
  Ghost m E σ E' (σ.set s (.row (hideTo (i*T.k+off+1) (flat T.own xs)))++[.row (flat T2.own ys)]):=Ghost.det hs hc (flat_at' T.lenO hv ho) hms hE
theorem hide_le1 {i k d:Nat} (h:d+1≤k):i*k+d+1≤(i+1)*k:=by rw [Nat.succ_mul];omega
section
variable {P:Program} {n m:Nat} {K:Exit→Env→Store→Prop} {N:Env→Store→Prop} {E:Env} {σ:Store} {ops:Array Oper} {os:List Oper}
theorem TO_gh {E':Env} {σ':Store} (hg:Ghost m E σ E' σ') (h:TO P n m ops os N E' σ'):TO P n m ops os N E σ:=fun F Λ w tmps Q hn hs hf hq=>by
 obtain ⟨F1,Λ1,h1,h2,h3⟩:=hg F Λ w tmps hs hf
 exact h F1 Λ1 w tmps Q hn h1 h2 fun F2 Λ2 σ2 w2 tmps2 E2 hn2 hs2 hf2 hst2 hK=>hq F2 Λ2 σ2 w2 tmps2 E2 hn2 hs2 hf2 (h3.trans hst2) hK
theorem T_kill (l:Nat) {cd:Code} (hm:m≤l) (h:T P n m cd K E (σ.set l .dead)):T P n m cd K E σ:=T_gh (fun F Λ w tmps hs hf=>⟨F,Λ,hs.kill l,hf,Step.kill hm⟩) h
end
section
variable {P:Program} {E:Env} {σ:Store} {o:Oper}
theorem pur_ldG {α:Type} {T:Ty α} {t x d i off c l} {xs:List α} {v:α} {y y':A} (h:o.op=.load t x) (hT:OneT P t) (hx:val E x=.e [l] d) (hr:σ[l]?=some (.row (hideTo c (flat T.own xs)))) (hd:d=i*T.k+off) (hc:c≤i*T.k) (hv:xs[i]?=some v) (hy:(T.own v)[off]?=some y) (hy':cellVal ([l]++[d]) y=y'):Pur P o E σ y':=by
 subst hd hy'
 exact pur_ld_e hT hx (show rowAt σ [l]=some (hideTo c (flat T.own xs)) by simp only [rowAt,hr,Root.cells,Go.Sep.sub]) (by rw [hideTo_ge (by omega)];exact flat_at' T.lenO hv hy) h
theorem pur_ldGK {α:Type} {T:Ty α} {t x d i off k' c l} {xs:List α} {v:α} {ys:List A} (h:o.op=.load t x) (hT:AggT P t k') (hx:val E x=.e [l] d) (hr:σ[l]?=some (.row (hideTo c (flat T.own xs)))) (hd:d=i*T.k+off) (hc:c≤i*T.k) (hv:xs[i]?=some v) (hk:off+k'≤T.k) (hy:cellVals [l] d (((T.own v).drop off).take k')=ys):Pur P o E σ (.g ys):=by
 subst hy
 have hn:=flat_n T.lenO hv hk
 have:=pur_ldK_e (σ:=σ) hT hx (show rowAt σ [l]=some (hideTo c (flat T.own xs)) by simp only [rowAt,hr,Root.cells,Go.Sep.sub]) (by subst hd;rw [hideTo_len];exact hn) h
 rw [hd] at this ⊢
 have e:((hideTo c (flat T.own xs)).drop (i*T.k+off)).take k'=((flat T.own xs).drop (i*T.k+off)).take k':=by
  apply List.ext_getElem?
  intro q
  rcases Nat.lt_or_ge q k' with g | g
  ·rw [List.getElem?_take_of_lt g,List.getElem?_take_of_lt g,List.getElem?_drop,List.getElem?_drop,hideTo_ge (by omega)]
  ·rw [List.getElem?_eq_none (by rw [List.length_take];omega),List.getElem?_eq_none (by rw [List.length_take];omega)]
 rw [e,flat_cut T.lenO hv hk] at this
 exact this
end
end Go.Sep
set_option linter.unusedVariables false
set_option linter.unusedSimpArgs false
namespace Go.Sep
open Go
section
variable {P:Program} {E:Env} {σ:Store} {o:Oper}
end
section
variable {F:Nat→Prop} {Λ:Lbl} {σ:Store} {w:World} {s:Nat} {xs:List A}
end
end Go.Sep
set_option linter.unusedVariables false
set_option linter.unusedSimpArgs false
namespace Go.Sep
open Go
end Go.Sep
set_option linter.unusedVariables false
set_option linter.unusedSimpArgs false
namespace Go.Sep
open Go
section
variable {P:Program} {n m:Nat} {N:Env→Store→Prop} {E:Env} {σ:Store} {o:Oper}
end
end Go.Sep
set_option linter.unusedVariables false
set_option linter.unusedSimpArgs false
namespace Go.Sep
open Go
theorem below_grown (w:World) (n:Nat) (os:Array Obj):Go.RowKit.Below w.heap.size w (Sort.grow (w.drewN n) os) :=
 ⟨rfl,rfl,rfl,by simp [Sort.grow,World.drewN],fun k hk=>by
  show (w.heap++os)[k]?=w.heap[k]?
  exact Array.getElem?_append_left hk⟩
theorem St.below {F:Nat→Prop} {Λ:Lbl} {w w':World} (hs:St F Λ [] w) (h:Go.RowKit.Below w.heap.size w w') (h0:drawnOK→w.drawn≤w'.drawn):St F (fun _=>none) [] w'∧Step 0 F Λ [] w F (fun _=>none) [] w':=by
  obtain ⟨h1,h2,h3,h4,h5⟩:=h
  refine ⟨⟨fun L xs h=>by cases L<;>simp [rowAt] at h,fun L xs _ _ _ _ _ h=>by cases L<;>simp [rowAt] at h,fun b hb=>Nat.lt_of_lt_of_le (hs.old b hb) h4,hs.tab.mono fun b hb=>⟨hb,h5 b (hs.old b hb)⟩,fun _ _=>rfl⟩,?_⟩
  exact { os:=⟨h1,fun d=>h0 d⟩,tape:=h2,output:=h3,size:=h4
          sizes:=fun b cs t hb=>⟨cs,by rw [h5 b (Array.getElem?_eq_some_iff.1 hb).1];exact hb,rfl⟩
          keep:=fun b hb _=>h5 b hb,mono:=fun _ h=>h,new:=fun _ h=>.inl h
          own:=fun b ⟨L,xs,o,h,_⟩=>by cases L<;>simp [rowAt] at h
          len:=Nat.min_le_right _ _,boxes:=fun l xs hl _=>absurd hl (Nat.not_lt_zero _),kept:=fun L b o hl _=>absurd hl (Nat.not_lt_zero _) }
theorem FnV.ofCalls {P:Program} {f:Nat} (xs:List Value) {r:Value} (h:∀ w:World,(∀ t∈tables,∃ te fr,w.heap[t.1]?=some (.cells t.2 te fr))→Calls P f xs.toArray w fun e w'=>e=.returned r∧Go.RowKit.Below w.heap.size w w'∧(drawnOK→w.drawn≤w'.drawn)):FnV P f (xs.map A.v) (.v r):=fun F Λ w vs R hs ha hr=>by
 obtain ⟨hvl,hvs⟩:=ha
 have e:vs=xs:=by
  refine List.ext_getElem? fun j=>?_
  rcases Nat.lt_or_ge j xs.length with hj | hj
  ·have hjv:j<vs.length:=by rw [hvl];simpa using hj
   have:=hvs j (.v xs[j]) vs[j] (by simp [hj]) (List.getElem?_eq_getElem hjv)
   rw [List.getElem?_eq_getElem hj,List.getElem?_eq_getElem hjv,this.v_inv]
  ·rw [List.getElem?_eq_none hj,List.getElem?_eq_none (by rw [hvl];simpa using hj)]
 subst e
 refine (h w fun t ht=>(hs.tab t ht).2).mono fun e w' ⟨he,hb,hd⟩=>?_
 subst he
 obtain ⟨h1,h2⟩:=hs.below hb hd
 exact hr F _ [] w' r (.v r) h1 h2 (.imm (.v _)) ⟨rfl,rfl⟩
theorem FnV.ofStrs {P:Program} {f:Nat} {xs:List ByteArray} {sep:ByteArray} {r:Value} (h0:xs=[]→∀ (ad:Option Addr) (c:Nat) (w:World),Calls P f #[.slice ad 0 c,.string sep] w fun e w'=>e=.returned r∧Go.RowKit.Below w.heap.size w w'∧(drawnOK→w.drawn≤w'.drawn))
  (h1:∀ (b o c:Nat) (w:World),(∀ (j:Nat) x,xs[j]?=some x→w.cell? ⟨b,o+j,none⟩=some (.string x))→b<w.heap.size→xs.length≤c→Calls P f #[.slice (some ⟨b,o,none⟩) xs.length c,.string sep] w fun e w'=>e=.returned r∧Go.RowKit.Below w.heap.size w w'∧(drawnOK→w.drawn≤w'.drawn)) :
  FnV P f [sl tStr xs,strA sep] (.v r):=fun F Λ w vs R hs ha hr=>by
 obtain ⟨hvl,hvs⟩:=ha
 obtain ⟨u,v,rfl⟩:∃ u v,vs=[u,v]:=by
  match vs,hvl with
  | [u,v],_=>exact ⟨u,v,rfl⟩
 have hv:=(hvs 1 _ v rfl rfl).v_inv
 subst hv
 have key:Calls P f #[u,.string sep] w fun e w'=>e=.returned r∧Go.RowKit.Below w.heap.size w w'∧(drawnOK→w.drawn≤w'.drawn):=by
  rcases (hvs 0 _ u rfl rfl).i_inv2 tStr.pos (flat_len tStr.len xs) with ⟨e0,_,ad,cap,rfl⟩ | ⟨b,o,cap,cs,_,hc,_,rfl,hb,hcl,hi⟩
  ·exact h0 (List.eq_nil_of_length_eq_zero e0) ad cap w
  ·refine h1 b o cap w (fun j x hj=>?_) (hs.old b hb) hc
   have hx:(flat tStr.enc xs)[j]?=some (strA x):=by
    have:∀ zs:List ByteArray,flat (fun z=>[strA z]) zs=zs.map strA:=fun zs=>by
     induction zs with
     | nil=>rfl
     | cons z zs ih=>simp only [flat,List.cons_append,List.nil_append,List.map_cons,ih]
    rw [show flat tStr.enc xs=xs.map strA from this xs,List.getElem?_map,hj];rfl
   have h3:=hcl j _ hx
   rw [(OK.imm (Λ:=Λ) (hi j _ hx)).v_inv] at h3
   exact h3
 refine key.mono fun e w' ⟨he,hb,hd⟩=>?_
 subst he
 obtain ⟨h1,h2⟩:=hs.below hb hd
 exact hr F _ [] w' r (.v r) h1 h2 (.imm (.v _)) ⟨rfl,rfl⟩
end Go.Sep
set_option linter.unusedVariables false
set_option linter.unusedSimpArgs false
namespace Go.Sep
open Go
section
variable {P:Program} {n m:Nat} {N:Env→Store→Prop} {E:Env} {σ:Store} {o:Oper}
end
end Go.Sep


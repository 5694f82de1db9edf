import Derived.Test.YtmecnecfkgneoaaCRC
import Derived.Laws.BytesString
import Derived.Sort.Grow
import Derived.Lib.Overlaps
import Derived.Lib.AppendZerosOnto
import Derived.Laws.Externs
import Derived.Laws.CopyRow
import Derived.Lib.SlicesCompact
import Derived.Lib.ItoaNum
import Derived.Lib.Join
set_option linter.unusedVariables false
set_option linter.unusedSimpArgs false
namespace Go.Sep
open Go
theorem end_pickX {P : Program} {E : Env} {σ : Store} {rs as} {m : Nat} {r0 : A} {σ0 : Store} (h : ResA P E σ rs as) {r} (hr : resA as = r) (ls : List Nat) (hnd : ls.Nodup) (hml : m ≤ ls.length) (hid : (List.range m).all (fun i => ls[i]? == some i) = true) (hm : m ≤ σ.length) (hb : boxesE σ.length σ = false)
  (hn : r.names (fun L => decide (σ.length ≤ L.headD 0)) = false) (hp : subS σ ls = σ0) (hsn : subNames σ ls = false) (hnm : r.names (fun L => !inL ls L) = false) (hren : r.ren (ixOf ls) = r0) : EndK P rs m (PickX m r0 σ0) .ret E σ :=
 end_own h hr σ.length hm (List.take_length ..).symm hb hn hb ⟨ls, hnd, hml, fun i hi => by have := List.all_eq_true.1 hid i (List.mem_range.2 hi); simpa using this, hp, hsn, hnm, hren⟩
theorem fnS_of_T {P f} {fn : Func} {c : Code} {as : List A} {r0 : A} {σ σ0 : Store} {rs : List ResultVar} (hf : P.funcs[f]? = some fn) (hb : fn.body = some c) (hr : fn.results = rs.toArray) (hn : as.length ≤ fn.ntmps)
  (h : T P fn.ntmps σ.length c (EndK P rs σ.length (PickX σ.length r0 σ0)) (entry 0 as) σ) : FnS P f as σ r0 σ0 := Fn.pickX (fn_of_T hf hb hr hn h)
def FzRt (l : Nat) (xs : List A) : Root → Root → Prop
 | .box as, .box bs => FzLs l xs as bs
 | .row as, .row bs => as = bs
 | .dead, .dead => True
 | _, _ => False
def FzS (l : Nat) (xs : List A) : Store → Store → Prop
 | [], [] => True
 | r :: σ, r' :: σ' => FzRt l xs r r' ∧ FzS l xs σ σ'
 | _, _ => False
theorem FzS.get {l : Nat} {xs : List A} : ∀ {σ σ' : Store}, FzS l xs σ σ' → σ'.length = σ.length ∧ ∀ (j : Nat) r', σ'[j]? = some r' → ∃ r, σ[j]? = some r ∧ FzRt l xs r r'
 | [], [], _ => ⟨rfl, by simp⟩
 | [], _ :: _, h => h.elim
 | _ :: _, [], h => h.elim
 | r :: σ, r1 :: σ', ⟨h, hs⟩ => by
  obtain ⟨h1, h2⟩ := FzS.get hs
  refine ⟨by simp [h1], fun j r' hj => ?_⟩
  cases j with
  | zero => simp at hj; subst hj; exact ⟨r, rfl, h⟩
  | succ j => simpa using h2 j r' (by simpa using hj)
section
variable {F : Nat → Prop} {Λ : Lbl} {σ σ' : Store} {w : World} {l : Nat} {xs : List A}
end
section
variable {P : Program} {n m : Nat} {K : Exit → Env → Store → Prop} {N : Env → Store → Prop} {E : Env} {σ σ' κ : Store} {ops : Array Oper} {os : List Oper} {fuel : Nat} {listed : Array Bool}
end
section
variable {P : Program} {o : Oper} {E : Env} {σ : Store}
end
theorem Cell.le {F : Nat → Prop} {Λ : Lbl} {w : World} {L : List Nat} {c : Value} {x y : A} (h : LeA x y) (hc : Cell F Λ w true L c x) : Cell F Λ w true L c y := by
 rcases hc.box with rfl | ⟨k, ys, rfl⟩ | ⟨h1, h2⟩
 ·cases h; exact hc
 ·cases h; exact hc
 ·have h3 := h2.le h
  cases x with
  | n => rcases h with rfl | ⟨k, rfl⟩ | ⟨L, a, k, rfl⟩ <;> exact ⟨rfl, h3⟩
  | j => simp [A.inBox] at h1
  | o k ys => simp [A.inBox] at h1
  | g xs => simp [A.inBox] at h1
  | t xs => simp [A.inBox] at h1
  | _ => cases h; exact hc
section
variable {P : Program} {n m : Nat} {K : Exit → Env → Store → Prop} {N : Env → Store → Prop} {E : Env} {σ : Store} {ops : Array Oper} {os : List Oper}
end
inductive Sc2 where
  | s (a b : ByteArray)
  | i (a b : Int)
def Sc2.vx : Sc2 → Value
 | .s a _ => .string a
 | .i a _ => .int .i64 a
def Sc2.vy : Sc2 → Value
 | .s _ b => .string b
 | .i _ b => .int .i64 b
def Sc2.eq : Sc2 → Bool
 | .s a b => decide (a = b)
 | .i a b => decide (a = b)
def Sc2.str : Sc2 → Bool
 | .s _ _ => true
 | .i _ _ => false
def cmpSc : List Sc2 → Bool
 | [] => true
 | p :: ps => p.eq && cmpSc ps
structure EqS (P : Program) (t : Nat) (ks : List Bool) : Prop where
  g : P.eqGuardType P.depth t = false
  e : ∀ (ps : List Sc2) w, ps.map Sc2.str = ks → Sem.run P (Op.equalIn 10000 t (.agg (ps.map Sc2.vx).toArray) (.agg (ps.map Sc2.vy).toArray)) w = .ok (cmpSc ps) w
theorem EqS.of {P : Program} {t : Nat} {ks : List Bool} {ts : List Nat} (g : P.eqGuardType P.depth t = false) (hS : P.underlying t = some (.struct (P.fieldsOf t))) (hp : P.stoodInHeld t = false)
  (hf : ((P.fieldsOf t).toList.map fun f => (decide (f.name = "_"), f.offset, f.type)) = (List.range ts.length).map fun i => (false, i, ts.getD i 0))
  (hk : ts.length = ks.length) (hu : ∀ i, i < ts.length → P.underlying (ts.getD i 0) = some (if ks.getD i false = true then .string else .int .i64)) : EqS P t ks := by
 refine ⟨g, fun ps w hps => ?_⟩
 have hlen : ps.length = ks.length := by have := congrArg List.length hps; simpa using this
 rw [show (10000 : Nat) = 9999 + 1 from rfl, run_equalIn_agg w 9999 t _ _ hS hp]
 have key : ∀ (fs : List Field) (k : Nat), k + fs.length = ps.length → (fs.map fun f => (decide (f.name = "_"), f.offset, f.type)) = ((List.range fs.length).map fun i => (false, k + i, ts.getD (k + i) 0)) → Sem.run P (Op.eqFields 9999 (ps.map Sc2.vx).toArray (ps.map Sc2.vy).toArray fs) w = .ok (cmpSc (ps.drop k)) w := by
  intro fs
  induction fs with
  | nil => intro k hk _; simp only [List.length_nil] at hk; rw [List.drop_eq_nil_of_le (by omega)]; simp [Op.eqFields, cmpSc]
  | cons f fs ih =>
   intro k hk hfs
   simp only [List.length_cons] at hk
   rw [List.length_cons, List.range_succ_eq_map, List.map_cons, List.map_cons, List.map_map] at hfs
   simp only [List.cons.injEq, Prod.mk.injEq, decide_eq_false_iff_not] at hfs
   obtain ⟨⟨h1, h2, h3⟩, h4⟩ := hfs
   have hkl : k < ps.length := by omega
   have ih' := ih (k + 1) (by omega) (by rw [h4]; refine List.map_congr_left fun i _ => ?_; simp only [Function.comp, Nat.succ_eq_add_one]; rw [Nat.add_assoc, Nat.add_comm 1 i])
   have hu' := hu k (by omega)
   have hks : ks.getD k false = ps[k].str := by
    rw [← hps, List.getD_eq_getElem?_getD, List.getElem?_map, List.getElem?_eq_getElem hkl]; rfl
   rw [hks] at hu'
   rw [Nat.add_zero] at h2 h3
   rw [← h3] at hu'
   have hx : (ps.map Sc2.vx).toArray[k]? = some ps[k].vx := by simp [hkl]
   have hy : (ps.map Sc2.vy).toArray[k]? = some ps[k].vy := by simp [hkl]
   have hag : ∀ w, (isAgg f.type).run P w = .ok false w := fun w => by
    cases hc : ps[k].str with
    | true => rw [hc, if_pos rfl] at hu'; simp [isAgg, run_underlying hu']
    | false => rw [hc, if_neg (by decide)] at hu'; simp [isAgg, run_underlying hu']
   have he : ∀ w, (Op.equalIn 9999 f.type ps[k].vx ps[k].vy).run P w = .ok ps[k].eq w := fun w => by
    cases hc : ps[k] with
    | s a b =>
     rw [hc] at hu'
     simp only [Sc2.str, if_true] at hu'
     simp only [Sc2.vx, Sc2.vy, Sc2.eq]
     rw [show (9999 : Nat) = 9998 + 1 from rfl, run_equalIn_string w 9998 _ a b hu', beq_bytes]
    | i a b =>
     rw [hc] at hu'
     simp only [Sc2.str, Bool.false_eq_true, if_false] at hu'
     simp only [Sc2.vx, Sc2.vy, Sc2.eq]
     rw [show (9999 : Nat) = 9998 + 1 from rfl, run_equalIn_int w 9998 _ .i64 .i64 a b hu']
     exact congrArg (fun z => Result.ok z w) (Bool.eq_iff_iff.2 (by simp))
   rw [List.drop_eq_getElem_cons hkl]
   simp only [Op.eqFields, h2, cmpSc]
   have hpx : ∀ w, (part f.type (ps.map Sc2.vx).toArray k).run P w = .ok ps[k].vx w := fun w => by simp [part, hag, hkl]
   have hpy : ∀ w, (part f.type (ps.map Sc2.vy).toArray k).run P w = .ok ps[k].vy w := fun w => by simp [part, hag, hkl]
   cases hq : ps[k].eq <;> simp [hpx, hpy, he, hq, h1, ih']
 have := key (P.fieldsOf t).toList 0 (by have := congrArg List.length hf; simp only [List.length_map, List.length_range] at this; omega) (by
  rw [hf]
  have hl := congrArg List.length hf
  simp only [List.length_map, List.length_range] at hl
  rw [hl]
  refine List.map_congr_left fun i _ => ?_
  rw [Nat.zero_add])
 rw [List.drop_zero] at this
 exact this
section
variable {P : Program} {n m : Nat} {N : Env → Store → Prop} {E : Env} {σ κ : Store} {ops : Array Oper} {fuel : Nat} {listed : Array Bool}
theorem TA_have (fuel2 : Nat) (listed2 : Array Bool) (E2 : Env) (σ2 : Store) (h : TA P n m κ ops fuel2 listed2 N E2 σ2) (k : TA P n m κ ops fuel2 listed2 N E2 σ2 → TA P n m κ ops fuel listed N E σ) : TA P n m κ ops fuel listed N E σ := k h
end
section
variable {P : Program} {o : Oper} {E : Env} {σ : Store}
end
section
variable {P : Program} {n m : Nat} {N : Env → Store → Prop} {E : Env} {σ κ : Store} {ops : Array Oper} {fuel : Nat} {listed : Array Bool} {o : Oper}
theorem TA_kill (l : Nat) (hm : m ≤ l) (h : TA P n m κ ops fuel listed N E (σ.set l .dead)) : TA P n m κ ops fuel listed N E σ := TA_ghost (fun F Λ w tmps hs hf => ⟨F, Λ, hs.kill l, hf, Step.kill hm⟩) h
theorem TA_rowify (l : Nat) {xs : List A} (hr : σ[l]? = some (.box xs)) (hb : rowB xs = true) (hm : m ≤ l) (h : TA P n m κ ops fuel listed N E (σ.set l (.row xs))) : TA P n m κ ops fuel listed N E σ :=
 TA_ghost (fun F Λ w tmps hs hf => ⟨F, Λ, hs.rekind (r' := .row xs) hr rfl rfl fun c x hx L hc => hc.rowed (by simp only [rowB, List.all_eq_true] at hb; exact hb x hx), hf, Step.rekind hr rfl rfl hm⟩) h
theorem TA_absorbA (s off l : Nat) {nn k : Nat} {pr cs ys : List A} (hs : σ[s]? = some (.box (pr ++ cs))) (hl : σ[l]? = some (.row ys)) (hx : cs[off]? = some (.m [l] 0 nn k)) (hne : s ≠ l) (hk : 0 < k) (hn : ys.length = nn * k) (hms : m ≤ s) (hml : m ≤ l)
  (hE : nmE (pre s (pr.length + off)) E = false) (hb : nmS (pre s (pr.length + off)) σ = false) (h : TA P n m κ ops fuel listed N E ((σ.set l .dead).set s (.box (pr ++ cs.set off (.o k ys))))) : TA P n m κ ops fuel listed N E σ := by
 have hx' : (pr ++ cs)[pr.length + off]? = some (.m [l] 0 nn k) := by rw [List.getElem?_append_right (by omega)]; simpa using hx
 refine TA_ghost (σ' := abS σ s (pr.length + off) l k (pr ++ cs) ys) (fun F Λ w tmps hs' hf => ⟨F, _, hs'.absorb hs hl hx' hne hk hn hb, fun t => (hf t).relabel (pre s (pr.length + off)) abL_ok (nmE_lk hE t), Step.absorb hs' hs hl hx' hne hms hml⟩) ?_
 unfold abS; rw [set_right]; exact h
theorem TA_rowifyT {α : Type} {T : Ty α} (s : Nat) {xs us : List α} {v : α} {cs : List A} {by_ : Nat} (hs : σ[s]? = some (.box (flat T.own xs ++ cs))) (hv : cs = T.own v) (ha : app by_ xs [v] = some us) (hm : m ≤ s) (h : TA P n m κ ops fuel listed N E (σ.set s (.row (flat T.own us)))) : TA P n m κ ops fuel listed N E σ := by
 obtain ⟨rfl, _⟩ := app_inv ha
 subst hv
 have e : flat T.own xs ++ T.own v = flat T.own (xs ++ [v]) := flat_one _ _ _
 rw [e] at hs
 exact TA_rowify s hs (rowB_own (flat_ownR T _)) hm h
theorem TA_move (l l' : Nat) {zs : List A} (hne : l ≠ l') (hl : l < σ.length) (hr : σ[l']? = some (.row zs)) (hb : noBox σ l = true) (hm : m ≤ l) (h : TA P n m κ ops fuel listed N (mvE l l' E) (mvS l l' σ)) : TA P n m κ ops fuel listed N E σ :=
 TA_ghost (fun F Λ w tmps hs hf => ⟨F, _, hs.move hne hl hr, fun t => by rw [lk_mvE]; exact mvA_ok hne (hf t), Step.move hs hne hl hr hb hm⟩) h
theorem TOp_ghost {E' : Env} {σ' : Store} (hg : Ghost m E σ E' σ') (h : TOp P n m o N E' σ') : TOp P n m o N E σ := fun F Λ w tmps K Q hn hs hf hk => by
 obtain ⟨F1, Λ1, h1, h2, h3⟩ := hg F Λ w tmps hs hf
 exact h F1 Λ1 w tmps K Q hn h1 h2 fun F2 Λ2 σ2 w2 tmps2 E2 hn2 hs2 hf2 hst2 hN2 => hk F2 Λ2 σ2 w2 tmps2 E2 hn2 hs2 hf2 (h3.trans hst2) hN2
theorem TOp_boxify (l : Nat) {xs : List A} (hr : σ[l]? = some (.row xs)) (hm : m ≤ l) (h : TOp P n m o N E (σ.set l (.box xs))) : TOp P n m o N E σ :=
 TOp_ghost (fun F Λ w tmps hs hf => ⟨F, Λ, hs.rekind (r' := .box xs) hr rfl rfl fun c x _ L hc => hc.boxed, hf, Step.rekind hr rfl rfl hm⟩) h
end
end Go.Sep
set_option linter.unusedVariables false
set_option linter.unusedSimpArgs false
namespace Go.Sep
open Go
theorem lb {n m : Nat} (h : Nat.ble n m = true) : n ≤ m := Nat.le_of_ble_eq_true h
def pkE (E : Env) : Env → Env
 | [] => []
 | (t, _) :: E' => (t, lk E t) :: pkE E E'
theorem pkE.of {E : Env} : ∀ {E' : Env}, pkE E E' = E' → Pk E E'
 | [], _ => trivial
 | (t, a) :: E', h => by
  simp only [pkE, List.cons.injEq, Prod.mk.injEq, true_and] at h
  exact ⟨h.1, pkE.of h.2⟩
mutual
theorem ren_id {f : Nat → Nat} {p : List Nat → Bool} (hp : ∀ L, p L = false → rh f L = L) : ∀ x : A, x.names p = false → x.ren f = x
 | .m L a n k, h => by simp only [A.names] at h; simp only [A.ren, hp L h]
 | .e L a, h => by simp only [A.names] at h; simp only [A.ren, hp L h]
 | .b l a, h => by
  simp only [A.names] at h
  have := hp [l] h
  simp only [rh, List.cons.injEq, and_true] at this
  simp only [A.ren, this]
 | .g xs, h => by simp only [A.names] at h; simp only [A.ren, renL_id hp xs h]
 | .t xs, h => by simp only [A.names] at h; simp only [A.ren, renL_id hp xs h]
 | .f g xs, h => by simp only [A.names] at h; simp only [A.ren, renL_id hp xs h]
 | .o k xs, _ => rfl
 | .v x, _ => rfl
 | .n, _ => rfl
 | .i k xs, _ => rfl
 | .q xs d, _ => rfl
 | .j, _ => rfl
 | .raw _ _, _ => rfl
theorem renL_id {f : Nat → Nat} {p : List Nat → Bool} (hp : ∀ L, p L = false → rh f L = L) : ∀ xs : List A, namesL p xs = false → renL f xs = xs
 | [], _ => rfl
 | x :: xs, h => by
  simp only [namesL, Bool.or_eq_false_iff] at h
  simp only [renL, ren_id hp x h.1, renL_id hp xs h.2]
end
mutual
theorem names_mono {p q : List Nat → Bool} (hq : ∀ L, p L = true → q L = true) : ∀ x : A, x.names p = true → x.names q = true
 | .m L a n k, h => hq L h
 | .e L a, h => hq L h
 | .b l a, h => hq [l] h
 | .g xs, h => namesL_mono hq xs h
 | .t xs, h => namesL_mono hq xs h
 | .f g xs, h => namesL_mono hq xs h
 | .o k xs, h => by cases h
 | .v x, h => by cases h
 | .n, h => by cases h
 | .i k xs, h => by cases h
 | .q xs d, h => by cases h
 | .j, h => by cases h
 | .raw _ _, h => by cases h
theorem namesL_mono {p q : List Nat → Bool} (hq : ∀ L, p L = true → q L = true) : ∀ xs : List A, namesL p xs = true → namesL q xs = true
 | [], h => by cases h
 | x :: xs, h => by
  simp only [namesL, Bool.or_eq_true] at h ⊢
  exact h.imp (names_mono hq x) (namesL_mono hq xs)
end
def noNm (l l' : Nat) (σ : Store) : Bool := σ.all fun r => match r with
 | .box xs => !namesL (fun L => L.headD 0 == l || L.headD 0 == l') xs
 | _ => true
theorem mvS_noNm {l l' : Nat} {σ : Store} {zs : List A} (h : noNm l l' σ = true) (hr : σ[l']? = some (.row zs)) : mvS l l' σ = (σ.set l (.row zs)).set l' .dead := by
 have key : σ.map (mvR l l') = σ := by
  rw [List.map_congr_left (g := id), List.map_id]
  intro r hr
  simp only [noNm, List.all_eq_true] at h
  have h1 := h r hr
  cases r with
  | dead => rfl
  | row => rfl
  | box xs =>
   simp only [Bool.not_eq_true'] at h1
   have : xs.map (mvA l l') = xs := by
    rw [List.map_congr_left (g := id), List.map_id]
    intro x hx
    have h2 := namesL_false h1 x hx
    have h3 : x.names (fun L => L.headD 0 == l) = false := by
     cases h3 : x.names (fun L => L.headD 0 == l) with
     | false => rfl
     | true =>
      exfalso
      have := names_mono (q := fun L => L.headD 0 == l || L.headD 0 == l') (fun L hL => by rw [hL]; rfl) x h3
      rw [h2] at this; cases this
    simp only [mvA, h3, id]
    exact ren_id (p := fun L => L.headD 0 == l || L.headD 0 == l') (fun L hL => by
     cases L with
     | nil => rfl
     | cons h0 p0 =>
      simp only [List.headD_cons, Bool.or_eq_false_iff, beq_eq_false_iff_ne] at hL
      simp only [rh, mvH, if_neg hL.2]) x h2
   simp only [mvR, this, id]
 simp only [mvS, key, hr, Option.getD_some]
section
variable {P : Program} {n m : Nat} {K : Exit → Env → Store → Prop} {N : Env → Store → Prop} {E : Env} {σ κ : Store} {ops : Array Oper} {os : List Oper} {o : Oper} {fuel : Nat} {listed : Array Bool}
theorem Tp {os' : List Oper} {o : Oper} {r : A} (ho : os = o :: os') (hg : o.guard = none) (hp : Pur P o E σ r) (hd : dstOK n o.dst = true) (h : TO P n m ops os' N (put E o.dst r) σ) : TO P n m ops os N E σ := by
 subst ho; exact TO_cons hg (TOp_pure hp hd h)
theorem te {c : Code} (E' : Env) (hE : pkE E E' = E') (h : T P n m c K E' σ) : T P n m c K E σ := T_env (pkE.of hE) h
theorem toe (E' : Env) (hE : pkE E E' = E') (h : TO P n m ops os N E' σ) : TO P n m ops os N E σ := TO_env (pkE.of hE) h
theorem tqe (E' : Env) (hE : pkE E E' = E') (h : TQ P n m ops os N E' σ) : TQ P n m ops os N E σ := TQ_env (pkE.of hE) h
theorem tae (E' : Env) (hE : pkE E E' = E') (h : TA P n m κ ops fuel listed N E' σ) : TA P n m κ ops fuel listed N E σ := TA_env (pkE.of hE) h
theorem sr {id : Nat} {l : List Oper} {b : Code} (h : TO P n m l.toArray l ((thenK (T P n m b K) K) .normal) E σ) : T P n m (.seq (.region id l.toArray false) b) K E σ := T_seq (T_region h)
theorem tf (i : Nat) {o : Oper} {r : A} (hi : ops[i]? = some o) (hp : Pur P o E (pads κ σ.length) r) (hg : o.guard = none) (hd : dstOK n o.dst = true) (hc : (Region.noSelect ops && (Region.ready .any ops listed).contains i && Region.free .any ops listed i) = true) (h : TA P n m κ ops fuel (listed.setIfInBounds i true) N (put E o.dst r) σ) : TA P n m κ ops (fuel + 1) listed N E σ := by
 simp only [Bool.and_eq_true] at hc
 exact TA_first i _ hi hp (fun F Λ w tmps _ _ => by simp [Region.wanted, hg]) hd rfl hc.1.1 hc.1.2 hc.2 h
theorem t1 (i : Nat) {o : Oper} (hr : Region.ready .any ops listed = [i]) (hi : ops[i]? = some o) (hg : o.guard = none) (h : TOp P n m o (TA P n m κ ops fuel (listed.setIfInBounds i true) N) E σ) : TA P n m κ ops (fuel + 1) listed N E σ :=
 TA_all [i] hr (by simp) ⟨⟨o, hi, hg, h⟩, trivial⟩
theorem tmv (l l' : Nat) {zs : List A} (hne : l ≠ l') (hl : l < σ.length) (hr : σ[l']? = some (.row zs)) (hb : noBox σ l = true) (hm : m ≤ l) (h : TA P n m κ ops fuel listed N (mvE l l' E) (mvS l l' σ)) : TA P n m κ ops fuel listed N E σ :=
 TA_ghost (fun F Λ w tmps hs hf => ⟨F, _, hs.move hne hl hr, fun t => by rw [lk_mvE]; exact mvA_ok hne (hf t), Step.move hs hne hl hr hb hm⟩) h
theorem tmw (l l' : Nat) {zs : List A} (hne : l ≠ l') (hl : l < σ.length) (hr : σ[l']? = some (.row zs)) (hb : noBox σ l = true) (hm : m ≤ l) (hx : noNm l l' σ = true) (h : TA P n m κ ops fuel listed N (mvE l l' E) ((σ.set l (.row zs)).set l' .dead)) : TA P n m κ ops fuel listed N E σ :=
 tmv l l' hne hl hr hb hm (mvS_noNm hx hr ▸ h)
theorem PkL.of : ∀ {E' : Env}, Pk E E' → PkL E E'
 | [], _ => trivial
 | (_, _) :: _, h => ⟨leR h.1, PkL.of h.2⟩
theorem w0 {σ' : Store} {E' : Env} (k : Nat) (hm : m ≤ k := by exact lb rfl) (ha : ascE E' = true := by rfl) (hσ : σ' = σ.take k := by rfl) (h1 : namesE k E' = false := by rfl) (h2 : boxesE k σ' = false := by rfl) (hE : pkE E E' = E' := by rfl) : WeakL m E σ E' σ' := WeakL.to k hm ha hσ h1 h2 (PkL.of (pkE.of hE))
theorem wp {σ' : Store} {E' : Env} (k : Nat) (hm : m ≤ k) (ha : ascE E' = true) (hσ : σ' = σ.take k) (h1 : namesE k E' = false) (h2 : boxesE k σ' = false) (hE : pkE E E' = E') : WeakL m E σ E' σ' := WeakL.to k hm ha hσ h1 h2 (PkL.of (pkE.of hE))
theorem tj {listed2 : Array Bool} {E2 : Env} {σ2 : Store} (h : TA P n m κ ops fuel listed2 N E2 σ2) (hl : listed = listed2) (hw : WeakL m E σ E2 σ2) : TA P n m κ ops fuel listed N E σ := TA_listed _ hl (TA_ghost (Ghost.weak hw) h)
end
end Go.Sep
set_option linter.unusedVariables false
set_option linter.unusedSimpArgs false
namespace Go.Sep
open Go
section
variable {P : Program} {n m : Nat} {E : Env} {σ : Store} {ops : Array Oper} {fuel : Nat} {listed : Array Bool} {F : Nat → Prop} {Λ : Lbl} {w : World} {tmps : Array Value} {Q : Act → World → Prop}
end
section
variable {P : Program} {E : Env} {o : Oper} {n m : Nat} {σ : Store} {F : Nat → Prop} {Λ : Lbl} {w : World}
end
section
variable {P : Program} {n m : Nat} {E : Env} {ops : Array Oper} {os : List Oper} {F : Nat → Prop} {Λ : Lbl} {w : World} {tmps : Array Value} {Q : Exit → Act → World → Prop} {o : Oper}
end
section
variable {P : Program} {o : Oper} {w : World} {tmps : Array Value}
theorem run_clearX {t e : Nat} {inf : TypeInfo} {z : Value} {x : Operand} (ht : P.underlying t = some (.slice e)) (hi : P.info? e = some inf) (hz : inf.zero = some z) (h : o.op = .call { callee := .builtin .clear, args := #[x], argTypes := #[t] }) {b oo q cap : Nat} (hx : Act.eval ⟨tmps, []⟩ x = .slice (some ⟨b, oo, none⟩) q cap) (hq : 0 < q) (h1 : ∀ u ∈ (Builtin.zeroCells z.cells q).toList, u.oneCell' = true) {cur : Array Value} {te : TypeId} (hb : w.heap[b]? = some (.cells cur te (0, 0))) (hfit : oo + (Builtin.zeroCells z.cells q).toList.length ≤ cur.size) :
  (execOp (Act.eval ⟨tmps, []⟩) o).run P w = .ok (.value (.tuple #[])) (w.setRow b (cur.toList.take oo ++ (Builtin.zeroCells z.cells q).toList ++ cur.toList.drop (oo + (Builtin.zeroCells z.cells q).toList.length)).toArray) := by
 have hst := run_storeCells_at P b oo te (Builtin.zeroCells z.cells q).toList 0 cur w hb (by simpa using hfit) h1
 simp only [Nat.add_zero] at hst
 unfold execOp
 simp only [h, resolve, invoke, builtin, Sem.run_bind, Sem.run_pure, Result.andThen_ok, List.map_toArray, List.map_cons, List.map_nil, hx]
 obtain ⟨q', rfl⟩ : ∃ q', q = q' + 1 := ⟨q - 1, by omega⟩
 simp [Builtin.clear_, run_underlying ht, zeroValue, typeInfo, hi, hz, hst]
end
theorem rowAt_turn {σ : Store} {l : Nat} {ys : List A} {L : List Nat} {zs : List A} (hl : l < σ.length) (hp : ∀ y ∈ ys, y.plain = true) (h : rowAt (σ.set l (.row ys)) L = some zs) : (L = [l] ∧ zs = ys) ∨ (L.headD 0 ≠ l ∧ rowAt σ L = some zs) := by
 cases L with
 | nil => simp [rowAt] at h
 | cons a p =>
  by_cases e : a = l
  ·subst e
   simp only [rowAt, List.getElem?_set_self hl, Root.cells] at h
   obtain ⟨rfl, rfl⟩ := sub_plain hp h
   exact .inl ⟨rfl, rfl⟩
  ·refine .inr ⟨by simpa using e, ?_⟩
   simpa only [rowAt, List.getElem?_set_ne (Ne.symm e)] using h
theorem isBox_turn {σ : Store} {l : Nat} {xs ys : List A} (hr : σ[l]? = some (.row xs)) (L : List Nat) : isBox (σ.set l (.row ys)) L = isBox σ L := by
 have hl : l < σ.length := (List.getElem?_eq_some_iff.1 hr).1
 cases L with
 | nil => rfl
 | cons a p =>
  cases p with
  | nil =>
   by_cases e : a = l
   ·subst e
    simp only [isBox, List.getElem?_set_self hl, hr]
   ·simp only [isBox, List.getElem?_set_ne (Ne.symm e)]
  | cons _ _ => rfl
theorem St.turn {m : Nat} {F : Nat → Prop} {Λ : Lbl} {σ : Store} {w w' : World} (hs : St F Λ σ w) {l : Nat} {xs ys : List A} {b o' : Nat} {cs cs' : Array Value} {t : TypeId} (hr : σ[l]? = some (.row xs)) (hp : ∀ y ∈ ys, y.plain = true)
    (hL : Λ [l] = some (b, o')) (hb : w.heap[b]? = some (.cells cs t (0, 0))) (hb' : w'.heap[b]? = some (.cells cs' t (0, 0))) (hsz : cs'.size = cs.size) (hoth : ∀ b', b' ≠ b → w'.heap[b']? = w.heap[b']?)
    (hsize : w'.heap.size = w.heap.size) (hos : OsLe w w') (htape : w'.tape = w.tape) (hout : w'.output = w.output)
    (hc : ∀ (j : Nat) y, ys[j]? = some y → ∃ c, cs'[o' + j]? = some c ∧ Cell F Λ w false [l, j] c y) :
    St F Λ (σ.set l (.row ys)) w' ∧ Step m F Λ σ w F Λ (σ.set l (.row ys)) w' := by
  have hl : l < σ.length := (List.getElem?_eq_some_iff.1 hr).1
  have hrow : rowAt σ [l] = some xs := by simp only [rowAt, hr, Root.cells, Go.Sep.sub]
  have hO : ¬ F b := fun hf => hs.notOwn hf ⟨[l], xs, o', hrow, hL⟩
  have hF : ∀ b', F b' → F b' ∧ w'.heap[b']? = w.heap[b']? := fun b' hb' => ⟨hb', hoth b' fun e => hO (e ▸ hb')⟩
  have hS : Sizes w w' := fun b' cs1 t1 h1 => by
    by_cases e : b' = b
    · subst e; rw [hb] at h1; cases h1; exact ⟨cs', hb', hsz⟩
    · exact ⟨cs1, by rw [hoth b' e]; exact h1, rfl⟩
  have hbx : isBox σ [l] = false := by simp only [isBox, hr]
  refine ⟨⟨fun L zs h1 => ?_, fun L1 x1 L2 x2 b1 o1 o2 h1 h2 h3 h4 => ?_, fun b' hb' => by rw [hsize]; exact hs.old b' hb', hs.tab.mono hF, fun L hL' => hs.lab L (by simpa using hL')⟩, ?_⟩
  · rw [isBox_turn hr]
    rcases rowAt_turn hl hp h1 with ⟨rfl, rfl⟩ | ⟨hne, h2⟩
    · refine .inr ⟨b, o', cs', t, hL, hO, hb', fun j y hy => ?_⟩
      obtain ⟨c, g1, g2⟩ := hc j y hy
      exact ⟨c, g1, by rw [hbx]; exact g2.mono hF hS⟩
    · rcases hs.row L zs h2 with h6 | ⟨b2, o2, cs2, t2, h6, h7, h8, h9⟩
      · exact .inl h6
      · have hnb : b2 ≠ b := fun e2 => by
          subst e2
          have := hs.apart L zs [l] xs b2 o2 o' h2 hrow h6 hL
          subst this
          exact hne rfl
        refine .inr ⟨b2, o2, cs2, t2, h6, h7, by rw [hoth b2 hnb]; exact h8, fun j x hx => ?_⟩
        obtain ⟨c, g1, g2⟩ := h9 j x hx
        exact ⟨c, g1, g2.mono hF hS⟩
  · have key : ∀ L zs, rowAt (σ.set l (.row ys)) L = some zs → ∃ zs', rowAt σ L = some zs' := fun L zs h => by
      rcases rowAt_turn hl hp h with ⟨rfl, rfl⟩ | ⟨_, h2⟩
      · exact ⟨xs, hrow⟩
      · exact ⟨zs, h2⟩
    obtain ⟨z1, g1⟩ := key L1 x1 h1
    obtain ⟨z2, g2⟩ := key L2 x2 h2
    exact hs.apart L1 z1 L2 z2 b1 o1 o2 g1 g2 h3 h4
  · exact { os := hos, tape := htape, output := hout, size := by omega, sizes := hS
            keep := fun b' _ hno => hoth b' fun e => hno (e ▸ ⟨[l], xs, o', hrow, hL⟩)
            mono := fun _ h => h, new := fun _ h => .inl h
            own := fun b' ⟨L, zs, o2, g1, g2⟩ => by
              rcases rowAt_turn hl hp g1 with ⟨rfl, rfl⟩ | ⟨_, h2⟩
              · exact .inl ⟨[l], xs, o2, hrow, g2⟩
              · exact .inl ⟨L, zs, o2, h2, g2⟩
            len := by rw [List.length_set]; exact Nat.min_le_right _ _
            boxes := fun a us ha hu => by
              have hne : a ≠ l := fun e => by subst e; rw [hr] at hu; cases hu
              exact ⟨rfl, us, by rw [List.getElem?_set_ne (Ne.symm hne)]; exact hu⟩
            kept := fun _ _ _ _ h => h }
end Go.Sep
set_option linter.unusedVariables false
set_option linter.unusedSimpArgs false
namespace Go.Sep
open Go
section
variable {P : Program} {n : Nat} {F : Nat → Prop} {Λ : Lbl} {w : World} {tmps : Array Value} {Q : Act → World → Prop}
end
section
variable {P : Program} {n : Nat} {F : Nat → Prop} {Λ : Lbl} {w : World} {tmps : Array Value} {Q : Exit → Act → World → Prop} {ops : Array Oper}
end
section
variable {P : Program} {n m : Nat} {K : Exit → Env → Store → Prop} {E : Env} {σ : Store}
end
end Go.Sep
namespace Go.Sep
open Go
section
variable {P : Program} {E : Env} {σ : Store} {o : Oper}
end
end Go.Sep
set_option linter.unusedVariables false
set_option linter.unusedSimpArgs false
namespace Go.Sep
open Go
structure Tab where
  fld : List (Nat × Nat × Nat × Nat)
  one : List Nat
  agg : List (Nat × Nat)
def TabOK (P : Program) (T : Tab) : Prop := (∀ p ∈ T.fld, FldT P p.1 p.2.1 p.2.2.1 p.2.2.2) ∧ (∀ t ∈ T.one, OneT P t) ∧ ∀ p ∈ T.agg, AggT P p.1 p.2
def fldAt : List (Nat × Nat × Nat × Nat) → Nat → Nat → Option (Nat × Nat)
 | [], _, _ => none
 | (t, x, o, ft) :: l, t', x' => if t = t' ∧ x = x' then some (o, ft) else fldAt l t' x'
def aggAt : List (Nat × Nat) → Nat → Option Nat
 | [], _ => none
 | (t, k) :: l, t' => if t = t' then some k else aggAt l t'
theorem tbN {α : Type} {Q : α → Prop} : ∀ p ∈ ([] : List α), Q p := fun _ h => nomatch h
theorem tbC {α : Type} {Q : α → Prop} {a : α} {l : List α} (h : Q a) (hl : ∀ p ∈ l, Q p) : ∀ p ∈ a :: l, Q p := List.forall_mem_cons.2 ⟨h, hl⟩
theorem fldAt_mem : ∀ {l : List (Nat × Nat × Nat × Nat)} {t x o ft}, fldAt l t x = some (o, ft) → (t, x, o, ft) ∈ l
 | (t, x, o, ft) :: l, t', x', o', ft', h => by
  simp only [fldAt] at h
  split at h
  ·rename_i e
   obtain ⟨rfl, rfl⟩ := e
   cases h; exact List.mem_cons_self ..
  ·exact List.mem_cons_of_mem _ (fldAt_mem h)
theorem aggAt_mem : ∀ {l : List (Nat × Nat)} {t k}, aggAt l t = some k → (t, k) ∈ l
 | (t, k) :: l, t', k', h => by
  simp only [aggAt] at h
  split at h
  ·rename_i e
   subst e
   cases h; exact List.mem_cons_self ..
  ·exact List.mem_cons_of_mem _ (aggAt_mem h)
def asB : A → Option Bool
 | .v (.bool b) => some b
 | _ => none
def asI : A → Option (IntKind × Int)
 | .v (.int k z) => some (k, z)
 | _ => none
def asT : A → Option (List A)
 | .t xs => some xs
 | _ => none
def asG : A → Option (List A)
 | .g xs => some xs
 | _ => none
theorem asB_of {x : A} {b} (h : asB x = some b) : x = .v (.bool b) := by
 unfold asB at h; split at h <;> cases h; rfl
theorem asI_of {x : A} {b} (h : asI x = some b) : x = .v (.int b.1 b.2) := by
 unfold asI at h; split at h <;> cases h; rfl
theorem asT_of {x : A} {b} (h : asT x = some b) : x = .t b := by
 unfold asT at h; split at h <;> cases h; rfl
theorem asG_of {x : A} {b} (h : asG x = some b) : x = .g b := by
 unfold asG at h; split at h <;> cases h; rfl
def arith (op : BinOp) (k : IntKind) (a b : Int) : Option A := match op with
 | .add => some (.v (.int k (k.wrap (a + b))))
 | .sub => some (.v (.int k (k.wrap (a - b))))
 | .mul => some (.v (.int k (k.wrap (a * b))))
 | .lss => some (.v (.bool (decide (a < b))))
 | .leq => some (.v (.bool (decide (a ≤ b))))
 | .gtr => some (.v (.bool (decide (b < a))))
 | .geq => some (.v (.bool (decide (b ≤ a))))
 | .eql => some (.v (.bool (decide (a = b))))
 | .neq => some (.v (.bool (decide (a ≠ b))))
 | _ => none
def addrA (off : Nat) : A → Option A
 | .b l a => some (.b l (a + off))
 | .q xs d => some (.q xs (d + off))
 | .e L a => some (.e L (a + off))
 | _ => none
def loadA (T : Tab) (σ : Store) (t : Nat) : A → Option A
 | .b l d => match rowAt σ [l] with
  | some xs => if T.one.contains t = true then (xs[d]?).map (cellVal [l, d]) else (aggAt T.agg t).bind fun k => if d + k ≤ xs.length then some (.g (cellVals [l] d ((xs.drop d).take k))) else none
  | none => none
 | .q xs d => if T.one.contains t = true then xs[d]? else (aggAt T.agg t).bind fun k => if d + k ≤ xs.length then some (.g ((xs.drop d).take k)) else none
 | _ => none
def pv1 (T : Tab) (E : Env) (σ : Store) : Op → Option A
 | .move x => some (val E x)
 | .assign x => some (val E x)
 | .extract x i => (asT (val E x)).bind fun xs => xs[i]?
 | .pick c a b => (asB (val E c)).bind fun t => some (if t then val E a else val E b)
 | .unOp .not _ x => (asB (val E x)).bind fun b => some (.v (.bool (!b)))
 | .binOp op _ x y _ => (asI (val E x)).bind fun p => (asI (val E y)).bind fun q => if p.1 = q.1 then arith op p.1 p.2 q.2 else none
 | .makeFunc (.func fn) f cs => match f.toList with
  | [] => some (.f fn (cs.toList.map (val E)))
  | _ => none
 | .fieldAddr t x f => (fldAt T.fld t f).bind fun p => addrA p.1 (val E x)
 | .field t x f => (fldAt T.fld t f).bind fun p => if T.one.contains p.2 = true then (asG (val E x)).bind fun xs => xs[p.1]? else none
 | .load t x => loadA T σ t (val E x)
 | _ => none
theorem pv1_ok {P : Program} {T : Tab} (hT : TabOK P T) {E : Env} {σ : Store} {o : Oper} {op : Op} (ho : o.op = op) {r : A} (h : pv1 T E σ op = some r) : Pur P o E σ r := by
 obtain ⟨hF, hO, hG⟩ := hT
 unfold pv1 at h
 split at h
 ·cases h; exact pur_move ho
 ·cases h; exact pur_assign ho
 ·simp only [Option.bind_eq_some_iff] at h
  obtain ⟨xs, h1, h2⟩ := h
  exact pur_extract (asT_of h1) h2 ho
 ·simp only [Option.bind_eq_some_iff] at h
  obtain ⟨t, h1, h2⟩ := h
  exact pur_pick ho (asB_of h1) (Option.some.inj h2)
 ·simp only [Option.bind_eq_some_iff] at h
  obtain ⟨t, h1, h2⟩ := h
  cases h2
  exact pur_not ho (asB_of h1)
 ·simp only [Option.bind_eq_some_iff] at h
  obtain ⟨p, h1, q, h2, h3⟩ := h
  obtain ⟨k, a⟩ := p
  obtain ⟨k', b⟩ := q
  split at h3
  ·rename_i e
   simp only at e
   subst e
   have h1 := asI_of h1
   have h2 := asI_of h2
   unfold arith at h3
   split at h3 <;> cases h3
   ·exact pur_wadd ho h1 h2
   ·exact pur_wsub ho h1 h2
   ·exact pur_wmul ho h1 h2
   ·exact pur_lss ho h1 h2
   ·exact pur_leq ho h1 h2
   ·exact pur_gtr ho h1 h2
   ·exact pur_geq ho h1 h2
   ·exact pur_eql ho h1 h2
   ·exact pur_neq ho h1 h2
  ·cases h3
 ·rename_i fn f cs
  split at h
  ·rename_i hf
   cases h
   have : f = #[] := by cases f; simpa using hf
   subst this
   exact pur_makeFunc (cs := cs.toList) (by rw [ho])
  ·cases h
 ·simp only [Option.bind_eq_some_iff] at h
  obtain ⟨p, h1, h2⟩ := h
  have h1 := hF _ (fldAt_mem h1)
  unfold addrA at h2
  split at h2 <;> cases h2
  ·exact pur_fa_b h1 ‹_› ho
  ·exact pur_fa_q h1 ‹_› ho
  ·exact pur_fa_e h1 ‹_› ho
 ·simp only [Option.bind_eq_some_iff] at h
  obtain ⟨p, h1, h2⟩ := h
  split at h2
  ·rename_i h3
   simp only [Option.bind_eq_some_iff] at h2
   obtain ⟨xs, h4, h5⟩ := h2
   exact pur_field1 (hF _ (fldAt_mem h1)) (hO _ (by simpa using h3)) (asG_of h4) h5 ho
  ·cases h2
 ·unfold loadA at h
  split at h
  ·split at h
   ·rename_i xs hr
    split at h
    ·rename_i h3
     simp only [Option.map_eq_some_iff] at h
     obtain ⟨y, h4, rfl⟩ := h
     exact pur_ld_b (hO _ (by simpa using h3)) ‹_› hr h4 ho
    ·simp only [Option.bind_eq_some_iff] at h
     obtain ⟨k, h4, h5⟩ := h
     split at h5
     ·rename_i h6
      cases h5
      exact pur_ldK_b (hG _ (aggAt_mem h4)) ‹_› hr h6 ho
     ·cases h5
   ·cases h
  ·split at h
   ·rename_i h3
    exact pur_ld_q (hO _ (by simpa using h3)) ‹_› h ho
   ·simp only [Option.bind_eq_some_iff] at h
    obtain ⟨k, h4, h5⟩ := h
    split at h5
    ·rename_i h6
     cases h5
     exact pur_ldK_q (hG _ (aggAt_mem h4)) ‹_› h6 ho
    ·cases h5
  ·cases h
 ·cases h
def pvG (T : Tab) (n : Nat) (ops : Array Oper) (E : Env) (σ : Store) (o : Oper) : Option A := match o.guard with
 | none => pv1 T E σ o.op
 | some (j, want) => ((ops[j]?).bind (·.dst)).bind fun d => if d < n then (match lk E d with
  | .v (.bool b) => if b = want then pv1 T E σ o.op else some (.v undef)
  | .v x => if offB want x = true then some (.v undef) else none
  | _ => none) else none
inductive PvG (P : Program) (n : Nat) (ops : Array Oper) (E : Env) (σ : Store) (o : Oper) : A → Prop
  | free {r} : o.guard = none → Pur P o E σ r → PvG P n ops E σ o r
  | on {j d want r} : o.guard = some (j, want) → (ops[j]?).bind (·.dst) = some d → d < n → lk E d = .v (.bool want) → Pur P o E σ r → PvG P n ops E σ o r
  | off {j d want v0} : o.guard = some (j, want) → (ops[j]?).bind (·.dst) = some d → d < n → lk E d = .v v0 → offB want v0 = true → PvG P n ops E σ o (.v undef)
theorem pvG_ok {P : Program} {T : Tab} (hT : TabOK P T) {n : Nat} {ops : Array Oper} {E : Env} {σ : Store} {o : Oper} {r : A} (h : pvG T n ops E σ o = some r) : PvG P n ops E σ o r := by
 unfold pvG at h
 split at h
 ·rename_i hg; exact .free hg (pv1_ok hT rfl h)
 ·rename_i j want hg
  simp only [Option.bind_eq_some_iff] at h
  obtain ⟨d, hd, h⟩ := h
  split at h
  ·rename_i hdn
   split at h
   ·rename_i b hl
    split at h
    ·rename_i e; subst e; exact .on hg (by simpa [Option.bind_eq_some_iff] using hd) hdn hl (pv1_ok hT rfl h)
    ·rename_i e; cases h
     exact .off hg (by simpa [Option.bind_eq_some_iff] using hd) hdn hl (by simpa [offB] using e)
   ·rename_i x _ hl
    split at h
    ·rename_i ho; cases h; exact .off hg (by simpa [Option.bind_eq_some_iff] using hd) hdn hl ho
    ·cases h
   ·cases h
  ·cases h
def pvs (T : Tab) (n : Nat) (ops : Array Oper) (σ : Store) : Nat → List Oper → Env → Option (List Oper × Env)
 | 0, os, E => some (os, E)
 | k + 1, o :: os, E => (pvG T n ops E σ o).bind fun r => if dstOK n o.dst = true then pvs T n ops σ k os (put E o.dst r) else none
 | _ + 1, [], _ => none
section
variable {P : Program} {T : Tab} {n m : Nat} {N : Env → Store → Prop} {E : Env} {σ κ : Store} {ops : Array Oper} {os : List Oper} {o : Oper} {fuel : Nat} {listed : Array Bool}
theorem pv (hT : TabOK P T) : ∀ (k : Nat) {os : List Oper} {E : Env} {os' : List Oper} {E' : Env}, pvs T n ops σ k os E = some (os', E') → TO P n m ops os' N E' σ → TO P n m ops os N E σ
 | 0, _, _, _, _, h, H => by cases h; exact H
 | k + 1, o :: os, E, os', E', h, H => by
  simp only [pvs, Option.bind_eq_some_iff] at h
  obtain ⟨r, h1, h2⟩ := h
  split at h2
  ·rename_i hd
   have H := pv hT k h2 H
   cases pvG_ok hT h1 with
   | free hg hp => exact TO_cons hg (TOp_pure hp hd H)
   | on hg hj hdn hl hp => exact TO_on hg hj hdn hl hd (TOp_pure hp hd H)
   | off hg hj hdn hl ho => exact TO_off hg hj hdn hl ho hd H
  ·cases h2
 | _ + 1, [], _, _, _, h, _ => by cases h
theorem pq (hT : TabOK P T) : ∀ (k : Nat) {os : List Oper} {E : Env} {os' : List Oper} {E' : Env}, pvs T n ops σ k os E = some (os', E') → TQ P n m ops os' N E' σ → TQ P n m ops os N E σ
 | 0, _, _, _, _, h, H => by cases h; exact H
 | k + 1, o :: os, E, os', E', h, H => by
  simp only [pvs, Option.bind_eq_some_iff] at h
  obtain ⟨r, h1, h2⟩ := h
  split at h2
  ·rename_i hd
   have H := pq hT k h2 H
   cases pvG_ok hT h1 with
   | free hg hp => exact TQ_pure hg hp hd H
   | on hg hj hdn hl hp => exact TQ_on hg hj hdn hl hp hd H
   | off hg hj hdn hl ho => exact TQ_off hg hj hdn hl ho hd H
  ·cases h2
 | _ + 1, [], _, _, _, h, _ => by cases h
def pvA (T : Tab) (n : Nat) (ops : Array Oper) (σ : Store) : List Nat → Env → Option Env
 | [], E => some E
 | i :: is, E => (ops[i]?).bind fun o => (pvG T n ops E σ o).bind fun r => if dstOK n o.dst = true then pvA T n ops σ is (put E o.dst r) else none
def pvOK (ops : Array Oper) : List Nat → Array Bool → Bool
 | [], _ => true
 | i :: is, l => Region.noSelect ops && (Region.ready .any ops l).contains i && Region.free .any ops l i && pvOK ops is (l.setIfInBounds i true)
def pvL : List Nat → Array Bool → Array Bool
 | [], l => l
 | i :: is, l => pvL is (l.setIfInBounds i true)
theorem pa (hT : TabOK P T) : ∀ (is : List Nat) (f : Nat) {fuel : Nat} {listed : Array Bool} {E : Env} {E' : Env}, fuel = f + is.length → pvOK ops is listed = true → pvA T n ops (pads κ σ.length) is E = some E' → TA P n m κ ops f (pvL is listed) N E' σ → TA P n m κ ops fuel listed N E σ
 | [], f, fuel, l, E, E', hf, hc, h, H => by cases h; subst hf; exact H
 | i :: is, f, fuel, l, E, E', hf, hc, h, H => by
  simp only [pvA, Option.bind_eq_some_iff] at h
  obtain ⟨o, hi, r, h1, h2⟩ := h
  simp only [pvOK, Bool.and_eq_true] at hc
  obtain ⟨⟨⟨c1, c2⟩, c3⟩, c4⟩ := hc
  split at h2
  ·rename_i hd
   have H := pa hT is f (fuel := f + is.length) rfl c4 h2 H
   have hf : fuel = f + is.length + 1 := by rw [hf]; simp; omega
   subst hf
   cases pvG_ok hT h1 with
   | free hg hp => exact TA_first i _ hi hp (fun F Λ w tmps _ _ => by simp [Region.wanted, hg]) hd rfl c1 c2 c3 H
   | on hg hj hdn hl hp => exact TA_first i _ hi hp (fun F Λ w tmps hn hf => by simp [Region.wanted, hg, yielded_of hf hn hj hdn hl]) hd rfl c1 c2 c3 H
   | off hg hj hdn hl ho => exact TA_off i _ hi hg hj hdn hl ho hd rfl c1 c2 c3 H
  ·cases h2
end
end Go.Sep
set_option linter.unusedVariables false
set_option linter.unusedSimpArgs false
namespace Go.Sep
open Go
def regL (Λ : Lbl) (s l : Nat) (lab : Nat × Nat) (π : Nat → Option Nat) : Lbl := fun L => match L with
 | [] => Λ []
 | h :: p => if h = s then (match p with
  | [] => some lab
  | d :: q => match π d with
   | some e => Λ (l :: e :: q)
   | none => none) else Λ (h :: p)
theorem isBox_long {σ : Store} {a b : Nat} {q : List Nat} : isBox σ (a :: b :: q) = false := rfl
section
variable {F : Nat → Prop} {Λ : Lbl} {σ : Store} {w w' : World} {l : Nat} {xs ys : List A} {π : Nat → Option Nat}
theorem regL_ext (hs : St F Λ σ w) {lab} : ∀ L b o, Λ L = some (b, o) → regL Λ σ.length l lab π L = some (b, o) := fun L b o h => by
 cases L with
 | nil => exact h
 | cons a p =>
  simp only [regL]
  rw [if_neg]
  ·exact h
  ·rintro rfl
   rw [hs.lab (σ.length :: p) (Nat.le_refl _)] at h; cases h
theorem rowAt_regroup (hr : σ[l]? = some (.row xs)) (hπ : ∀ d y, ys[d]? = some y → (∃ e, π d = some e ∧ xs[e]? = some y) ∨ y.inCell = true) {L : List Nat} {zs : List A} (h : rowAt (σ.set l .dead ++ [Root.row ys]) L = some zs) :
  (L = [σ.length] ∧ zs = ys) ∨ (∃ d e q, L = σ.length :: d :: q ∧ d < ys.length ∧ π d = some e ∧ rowAt σ (l :: e :: q) = some zs) ∨ (∃ a p, L = a :: p ∧ a < σ.length ∧ a ≠ l ∧ rowAt σ L = some zs) := by
 have hl : l < σ.length := (List.getElem?_eq_some_iff.1 hr).1
 cases L with
 | nil => cases h
 | cons a p =>
  rcases Nat.lt_or_ge a σ.length with ha | ha
  ·refine .inr (.inr ⟨a, p, rfl, ha, ?_⟩)
   by_cases e : a = l
   ·subst e
    simp only [rowAt, List.getElem?_append_left (show a < (σ.set a .dead).length by simpa using ha), List.getElem?_set_self ha, Root.cells] at h
    cases h
   ·refine ⟨e, ?_⟩
    simpa only [rowAt, List.getElem?_append_left (show a < (σ.set l .dead).length by simpa using ha), List.getElem?_set_ne (Ne.symm e)] using h
  ·have hlen : a < (σ.set l .dead ++ [Root.row ys]).length := by
    rcases Nat.lt_or_ge a (σ.set l .dead ++ [Root.row ys]).length with g | g
    ·exact g
    ·simp only [rowAt, List.getElem?_eq_none g] at h; cases h
   have e : a = σ.length := by simp at hlen; omega
   subst e
   have hg : (σ.set l .dead ++ [Root.row ys])[σ.length]? = some (.row ys) := by
    rw [List.getElem?_append_right (by simp)]; simp
   simp only [rowAt, hg, Root.cells] at h
   cases p with
   | nil => simp only [sub, Option.some.injEq] at h; exact .inl ⟨rfl, h.symm⟩
   | cons d q =>
    simp only [sub] at h
    split at h
    ·rename_i k us hd
     rcases hπ d _ hd with ⟨e, h1, h2⟩ | h1
     ·exact .inr (.inl ⟨d, e, q, rfl, (List.getElem?_eq_some_iff.1 hd).1, h1, by simp only [rowAt, hr, Root.cells, sub, h2]; exact h⟩)
     ·simp [A.inCell] at h1
    ·cases h
theorem St.regroup {m : Nat} (hs : St F Λ σ w) {b o' b2 o2 : Nat} {cs2 : Array Value} {t2 : TypeId} (hr : σ[l]? = some (.row xs)) (hL : Λ [l] = some (b, o'))
    (hb2 : b2 = b ∨ w.heap.size ≤ b2) (hc2 : w'.heap[b2]? = some (.cells cs2 t2 (0, 0))) (hoth : ∀ b', b' < w.heap.size → b' ≠ b → w'.heap[b']? = w.heap[b']?) (hS : Sizes w w')
    (hsize : w.heap.size ≤ w'.heap.size) (hos : OsLe w w') (htape : w'.tape = w.tape) (hout : w'.output = w.output)
    (hinj : ∀ d d' e, d < ys.length → d' < ys.length → π d = some e → π d' = some e → d = d')
    (hy : ∀ (d : Nat) y, ys[d]? = some y → ∃ c, cs2[o2 + d]? = some c ∧ ((∃ e, π d = some e ∧ xs[e]? = some y ∧ Cell F Λ w false [l, e] c y) ∨ (y.inCell = true ∧ OK F Λ w c y))) :
    St F (regL Λ σ.length l (b2, o2) π) (σ.set l .dead ++ [Root.row ys]) w' ∧ Step m F Λ σ w F (regL Λ σ.length l (b2, o2) π) (σ.set l .dead ++ [Root.row ys]) w' := by
  have hl : l < σ.length := (List.getElem?_eq_some_iff.1 hr).1
  have hrow : rowAt σ [l] = some xs := by simp only [rowAt, hr, Root.cells, Go.Sep.sub]
  have hO : ¬ F b := fun hf => hs.notOwn hf ⟨[l], xs, o', hrow, hL⟩
  have hF : ∀ b', F b' → F b' ∧ w'.heap[b']? = w.heap[b']? := fun b' hb' => ⟨hb', hoth b' (hs.old b' hb') fun e => hO (e ▸ hb')⟩
  have hext := regL_ext (l := l) (π := π) hs (lab := (b2, o2))
  have hπ : ∀ d y, ys[d]? = some y → (∃ e, π d = some e ∧ xs[e]? = some y) ∨ y.inCell = true := fun d y hd => by
    obtain ⟨c, _, h1⟩ := hy d y hd
    rcases h1 with ⟨e, h1, h2, _⟩ | ⟨h1, _⟩
    · exact .inl ⟨e, h1, h2⟩
    · exact .inr h1
  have lab1 : ∀ d e q, π d = some e → regL Λ σ.length l (b2, o2) π (σ.length :: d :: q) = Λ (l :: e :: q) := fun d e q h => by
    simp only [regL, h, if_true]
  have lab2 : ∀ a p, a < σ.length → regL Λ σ.length l (b2, o2) π (a :: p) = Λ (a :: p) := fun a p h => by
    simp only [regL]; rw [if_neg (by omega)]
  have lab0 : regL Λ σ.length l (b2, o2) π [σ.length] = some (b2, o2) := by simp only [regL, if_true]
  have nb : ∀ L zs b1 o1, L ≠ [l] → rowAt σ L = some zs → Λ L = some (b1, o1) → b1 ≠ b ∧ b1 ≠ b2 ∧ b1 < w.heap.size := fun L zs b1 o1 hne h1 h2 => by
    have hlt := hs.owns ⟨L, zs, o1, h1, h2⟩
    have hb : b1 ≠ b := fun e => by subst e; exact hne (hs.apart _ _ _ _ _ _ _ h1 hrow h2 hL)
    refine ⟨hb, ?_, hlt⟩
    rcases hb2 with rfl | h3
    · exact hb
    · omega
  refine ⟨⟨fun L zs h1 => ?_, fun L1 x1 L2 x2 b1 o1 o2' h1 h2 h3 h4 => ?_, fun b' hb' => Nat.lt_of_lt_of_le (hs.old b' hb') hsize, hs.tab.mono hF, fun L hL' => ?_⟩, ?_⟩
  · rcases rowAt_regroup hr hπ h1 with ⟨rfl, hz⟩ | ⟨d, e, q, rfl, hd, hp, h2⟩ | ⟨a, p, rfl, ha, hal, h2⟩
    · rw [hz]
      refine .inr ⟨b2, o2, cs2, t2, lab0, ?_, hc2, fun j y hj => ?_⟩
      · rcases hb2 with rfl | h3
        · exact hO
        · intro hf; have := hs.old b2 hf; omega
      · obtain ⟨c, g1, g2⟩ := hy j y hj
        refine ⟨c, g1, ?_⟩
        have hbx : isBox (σ.set l .dead ++ [Root.row ys]) [σ.length] = false := by
          simp only [isBox]
          rw [List.getElem?_append_right (by simp)]; simp
        rw [hbx]
        rcases g2 with ⟨e, g3, g4, g5⟩ | ⟨g3, g4⟩
        · refine Cell.path (L := [l, e]) (fun a n k v hsl => ?_) hext (g5.mono hF hS)
          rcases hsl with h | ⟨bb, oo, cap, h5, h6⟩
          · exact .inl h
          · exact .inr ⟨bb, oo, cap, by show regL Λ σ.length l (b2, o2) π (σ.length :: j :: []) = _; rw [lab1 j e [] g3]; exact h5, h6⟩
        · exact .ofCell g3 ((g4.mono hF hS).ext hext)
    · rcases hs.row _ zs h2 with ⟨h3, h4⟩ | ⟨b1, o1, cs1, t1, h3, h4, h5, h6⟩
      · exact .inl ⟨(lab1 d e q hp).trans h3, h4⟩
      · obtain ⟨n1, n2, n3⟩ := nb _ _ _ _ (by simp) h2 h3
        refine .inr ⟨b1, o1, cs1, t1, (lab1 d e q hp).trans h3, h4, by rw [hoth b1 n3 n1]; exact h5, fun j y hj => ?_⟩
        obtain ⟨c, g1, g2⟩ := h6 j y hj
        refine ⟨c, g1, ?_⟩
        rw [isBox_long] at g2 ⊢
        refine Cell.path (fun a n k v hsl => ?_) hext (g2.mono hF hS)
        rcases hsl with h | ⟨bb, oo, cap, h7, h8⟩
        · exact .inl h
        · exact .inr ⟨bb, oo, cap, by show regL Λ σ.length l (b2, o2) π (σ.length :: d :: (q ++ [j])) = _; rw [lab1 d e _ hp]; exact h7, h8⟩
    · rcases hs.row _ zs h2 with ⟨h3, h4⟩ | ⟨b1, o1, cs1, t1, h3, h4, h5, h6⟩
      · exact .inl ⟨(lab2 a p ha).trans h3, h4⟩
      · obtain ⟨n1, n2, n3⟩ := nb _ _ _ _ (by simp; intro e; exact absurd e hal) h2 h3
        refine .inr ⟨b1, o1, cs1, t1, (lab2 a p ha).trans h3, h4, by rw [hoth b1 n3 n1]; exact h5, fun j y hj => ?_⟩
        obtain ⟨c, g1, g2⟩ := h6 j y hj
        refine ⟨c, g1, ?_⟩
        have hbx : isBox (σ.set l .dead ++ [Root.row ys]) (a :: p) = isBox σ (a :: p) := by
          cases p with
          | nil => simp only [isBox, List.getElem?_append_left (show a < (σ.set l .dead).length by simpa using ha), List.getElem?_set_ne (Ne.symm hal)]
          | cons _ _ => rfl
        rw [hbx]
        exact (g2.mono hF hS).ext hext
  · have old : ∀ L zs b1 o1, rowAt (σ.set l .dead ++ [Root.row ys]) L = some zs → regL Λ σ.length l (b2, o2) π L = some (b1, o1) → (L = [σ.length] ∧ b1 = b2) ∨ ∃ Lo zo, rowAt σ Lo = some zo ∧ Λ Lo = some (b1, o1) ∧ Lo ≠ [l] ∧ ((∃ d e q, L = σ.length :: d :: q ∧ d < ys.length ∧ π d = some e ∧ Lo = l :: e :: q) ∨ (∃ a p, L = a :: p ∧ a ≠ l ∧ a < σ.length ∧ Lo = L)) := fun L zs b1 o1 g1 g2 => by
      rcases rowAt_regroup hr hπ g1 with ⟨rfl, rfl⟩ | ⟨d, e, q, rfl, hd, hp, g3⟩ | ⟨a, p, rfl, ha, hal, g3⟩
      · rw [lab0] at g2; cases g2; exact .inl ⟨rfl, rfl⟩
      · rw [lab1 d e q hp] at g2
        exact .inr ⟨_, _, g3, g2, by simp, .inl ⟨d, e, q, rfl, hd, hp, rfl⟩⟩
      · rw [lab2 a p ha] at g2
        exact .inr ⟨_, _, g3, g2, by simp; intro e; exact absurd e hal, .inr ⟨a, p, rfl, hal, ha, rfl⟩⟩
    rcases old L1 x1 b1 o1 h1 h3 with ⟨rfl, e1⟩ | ⟨M1, z1, g1, g2, g3, g4⟩ <;> rcases old L2 x2 b1 o2' h2 h4 with ⟨rfl, e2⟩ | ⟨M2, z2, k1, k2, k3, k4⟩
    · rfl
    · exact absurd e1 (nb _ _ _ _ k3 k1 k2).2.1
    · exact absurd e2 (nb _ _ _ _ g3 g1 g2).2.1
    · have e := hs.apart _ _ _ _ _ _ _ g1 k1 g2 k2
      subst e
      rcases g4 with ⟨d, e, q, rfl, hd, hp, rfl⟩ | ⟨a, p, rfl, ha, ha', rfl⟩ <;> rcases k4 with ⟨d', e', q', rfl, hd', hp', h5⟩ | ⟨a', p', rfl, ha2, ha2', h5⟩
      · simp only [List.cons.injEq, true_and] at h5
        obtain ⟨rfl, rfl⟩ := h5
        rw [hinj d d' e hd hd' hp hp']
      · simp only [List.cons.injEq] at h5; exact absurd h5.1.symm ha2
      · simp only [List.cons.injEq] at h5; exact absurd h5.1 ha
      · exact h5
  · have : (σ.set l .dead ++ [Root.row ys]).length = σ.length + 1 := by simp
    rw [this] at hL'
    cases L with
    | nil => simp at hL'
    | cons a p =>
      simp only [List.headD_cons] at hL'
      simp only [regL]
      rw [if_neg (by omega)]
      exact hs.lab (a :: p) (by simp only [List.headD_cons]; omega)
  · exact { os := hos, tape := htape, output := hout, size := hsize, sizes := hS
            keep := fun b' hlt hno => hoth b' hlt fun e => hno (e ▸ ⟨[l], xs, o', hrow, hL⟩)
            mono := fun _ h => h, new := fun _ h => .inl h
            own := fun b1 ⟨L, zs, o1, g1, g2⟩ => by
              rcases rowAt_regroup hr hπ g1 with ⟨rfl, rfl⟩ | ⟨d, e, q, rfl, hd, hp, g3⟩ | ⟨a, p, rfl, ha, hal, g3⟩
              · rw [lab0] at g2; cases g2
                rcases hb2 with rfl | h3
                · exact .inl ⟨[l], xs, o', hrow, hL⟩
                · exact .inr h3
              · rw [lab1 d e q hp] at g2; exact .inl ⟨_, _, _, g3, g2⟩
              · rw [lab2 a p ha] at g2; exact .inl ⟨_, _, _, g3, g2⟩
            len := by simp; omega
            boxes := fun a us ha hu => by
              have hal : a < σ.length := (List.getElem?_eq_some_iff.1 hu).1
              have hne : a ≠ l := fun e => by subst e; rw [hr] at hu; cases hu
              exact ⟨lab2 a [] hal, us, by rw [List.getElem?_append_left (by simpa using hal), List.getElem?_set_ne (Ne.symm hne)]; exact hu⟩
            kept := fun L b o _ h => hext L b o h }
end
theorem Cell.oneO {F : Nat → Prop} {Λ : Lbl} {w : World} {L : List Nat} {c : Value} {x : A} (h : Cell F Λ w false L c x) (hx : Go.Sep.ownR x = true) : c.oneCell' = true := by
 refine oneCell_sc ?_
 cases x with
 | v x =>
  have h1 := (h.2 : OK F Λ w c (.v x)).v_inv
  subst h1; simpa [Go.Sep.ownR] using hx
 | n =>
  obtain ⟨ad, h1⟩ := (h.2 : OK F Λ w c .n).n_inv
  subst h1; rfl
 | o k ys =>
  obtain ⟨_, _, n, _, h1⟩ := h
  rcases h1 with ⟨_, ad, h1⟩ | ⟨b, o, cap, _, h1, _⟩ <;> subst h1 <;> rfl
 | _ => simp [Go.Sep.ownR] at hx
section
variable {P : Program} {n m : Nat} {K : Exit → Env → Store → Prop} {E : Env} {σ : Store}
end
end Go.Sep
set_option linter.unusedVariables false
set_option linter.unusedSimpArgs false
namespace Go.Sep
open Go
section
variable {F : Nat → Prop} {Λ : Lbl} {σ : Store} {w : World} {s j : Nat} {xs : List A} {x : A}
end
section
variable {P : Program} {n m : Nat} {K : Exit → Env → Store → Prop} {E : Env} {σ : Store}
theorem T_gh {c : Code} {E' : Env} {σ' : Store} (hg : Ghost m E σ E' σ') (h : T P n m c K E' σ') : T P n m c K E σ := fun F Λ w tmps Q hn hs hf hq => by
 obtain ⟨F1, Λ1, h1, h2, h3⟩ := hg F Λ w tmps hs hf
 exact h F1 Λ1 w tmps Q hn h1 h2 fun e F2 Λ2 σ2 w2 tmps2 E2 hn2 hs2 hf2 hst2 hK => hq e F2 Λ2 σ2 w2 tmps2 E2 hn2 hs2 hf2 (h3.trans hst2) hK
end
end Go.Sep
namespace Go.Sep
open Go
end Go.Sep
set_option linter.unusedVariables false
set_option linter.unusedSimpArgs false
namespace Go.Sep
open Go
theorem St.turnG {m : Nat} {F : Nat → Prop} {Λ : Lbl} {σ : Store} {w w' : World} (hs : St F Λ σ w) {l : Nat} {xs ys : List A} {b o' : Nat} {cs cs' : Array Value} {t : TypeId} (hr : σ[l]? = some (.row xs)) (hp : ∀ y ∈ ys, y.plain = true)
    (hL : Λ [l] = some (b, o')) (hb : w.heap[b]? = some (.cells cs t (0, 0))) (hb' : w'.heap[b]? = some (.cells cs' t (0, 0))) (hsz : cs'.size = cs.size) (hoth : ∀ b', b' < w.heap.size → b' ≠ b → w'.heap[b']? = w.heap[b']?)
    (hsize : w.heap.size ≤ w'.heap.size) (hos : OsLe w w') (htape : w'.tape = w.tape) (hout : w'.output = w.output)
    (hc : ∀ (j : Nat) y, ys[j]? = some y → ∃ c, cs'[o' + j]? = some c ∧ Cell F Λ w false [l, j] c y) :
    St F Λ (σ.set l (.row ys)) w' ∧ Step m F Λ σ w F Λ (σ.set l (.row ys)) w' := by
  have hl : l < σ.length := (List.getElem?_eq_some_iff.1 hr).1
  have hrow : rowAt σ [l] = some xs := by simp only [rowAt, hr, Root.cells, Go.Sep.sub]
  have hO : ¬ F b := fun hf => hs.notOwn hf ⟨[l], xs, o', hrow, hL⟩
  have hF : ∀ b', F b' → F b' ∧ w'.heap[b']? = w.heap[b']? := fun b' hb' => ⟨hb', hoth b' (hs.old b' hb') fun e => hO (e ▸ hb')⟩
  have hS : Sizes w w' := fun b' cs1 t1 h1 => by
    by_cases e : b' = b
    · subst e; rw [hb] at h1; cases h1; exact ⟨cs', hb', hsz⟩
    · exact ⟨cs1, by rw [hoth b' (Array.getElem?_eq_some_iff.1 h1).1 e]; exact h1, rfl⟩
  have hbx : isBox σ [l] = false := by simp only [isBox, hr]
  refine ⟨⟨fun L zs h1 => ?_, fun L1 x1 L2 x2 b1 o1 o2 h1 h2 h3 h4 => ?_, fun b' hb' => Nat.lt_of_lt_of_le (hs.old b' hb') hsize, hs.tab.mono hF, fun L hL' => hs.lab L (by simpa using hL')⟩, ?_⟩
  · rw [isBox_turn hr]
    rcases rowAt_turn hl hp h1 with ⟨rfl, rfl⟩ | ⟨hne, h2⟩
    · refine .inr ⟨b, o', cs', t, hL, hO, hb', fun j y hy => ?_⟩
      obtain ⟨c, g1, g2⟩ := hc j y hy
      exact ⟨c, g1, by rw [hbx]; exact g2.mono hF hS⟩
    · rcases hs.row L zs h2 with h6 | ⟨b2, o2, cs2, t2, h6, h7, h8, h9⟩
      · exact .inl h6
      · have hnb : b2 ≠ b := fun e2 => by
          subst e2
          have := hs.apart L zs [l] xs b2 o2 o' h2 hrow h6 hL
          subst this
          exact hne rfl
        refine .inr ⟨b2, o2, cs2, t2, h6, h7, by rw [hoth b2 (Array.getElem?_eq_some_iff.1 h8).1 hnb]; exact h8, fun j x hx => ?_⟩
        obtain ⟨c, g1, g2⟩ := h9 j x hx
        exact ⟨c, g1, g2.mono hF hS⟩
  · have key : ∀ L zs, rowAt (σ.set l (.row ys)) L = some zs → ∃ zs', rowAt σ L = some zs' := fun L zs h => by
      rcases rowAt_turn hl hp h with ⟨rfl, rfl⟩ | ⟨_, h2⟩
      · exact ⟨xs, hrow⟩
      · exact ⟨zs, h2⟩
    obtain ⟨z1, g1⟩ := key L1 x1 h1
    obtain ⟨z2, g2⟩ := key L2 x2 h2
    exact hs.apart L1 z1 L2 z2 b1 o1 o2 g1 g2 h3 h4
  · exact { os := hos, tape := htape, output := hout, size := hsize, sizes := hS
            keep := fun b' hlt hno => hoth b' hlt fun e => hno (e ▸ ⟨[l], xs, o', hrow, hL⟩)
            mono := fun _ h => h, new := fun _ h => .inl h
            own := fun b' ⟨L, zs, o2, g1, g2⟩ => by
              rcases rowAt_turn hl hp g1 with ⟨rfl, rfl⟩ | ⟨_, h2⟩
              · exact .inl ⟨[l], xs, o2, hrow, g2⟩
              · exact .inl ⟨L, zs, o2, h2, g2⟩
            len := by rw [List.length_set]; exact Nat.min_le_right _ _
            boxes := fun a us ha hu => by
              have hne : a ≠ l := fun e => by subst e; rw [hr] at hu; cases hu
              exact ⟨rfl, us, by rw [List.getElem?_set_ne (Ne.symm hne)]; exact hu⟩
            kept := fun _ _ _ _ h => h }
theorem flat_int_get (zs : List Int) (j : Nat) : (flat tInt.enc zs)[j]? = (zs[j]?).map intA := by
 induction zs generalizing j with
 | nil => rfl
 | cons z zs ih =>
  have e : flat tInt.enc (z :: zs) = intA z :: flat tInt.enc zs := rfl
  rw [e]
  cases j with
  | zero => rfl
  | succ j => simp only [List.getElem?_cons_succ]; exact ih j
theorem St.holds {F Λ σ w} (hs : St F Λ σ w) {l : Nat} {zs : List Int} (hr : σ[l]? = some (.row (flat tInt.enc zs))) {v : Value} (hv : OK F Λ w v (.m [l] 0 zs.length 1)) :
  (zs = [] ∧ ∃ ad, v = .slice ad 0 0) ∨ ∃ b o cap cs t, Λ [l] = some (b, o) ∧ v = .slice (some ⟨b, o, none⟩) zs.length cap ∧ zs.length ≤ cap ∧ b < w.heap.size ∧ w.heap[b]? = some (.cells cs t (0, 0)) ∧ o + zs.length ≤ cs.size ∧ Sort.Holds (Value.int .i64) w b o zs.toArray := by
 rcases hv.m_inv with ⟨h0, ad, h1⟩ | ⟨b, o, cap, hL, h1, h2, h3, cs, t, h4, h5⟩
 ·exact .inl ⟨List.eq_nil_of_length_eq_zero h0, ad, h1⟩
 ·have hrow : rowAt σ [l] = some (flat tInt.enc zs) := by simp only [rowAt, hr, Root.cells, Go.Sep.sub]
  refine .inr ⟨b, o, cap, cs, t, hL, by rw [Nat.add_zero] at h1; exact h1, h2, (Array.getElem?_eq_some_iff.1 h4).1, h4, by omega, fun j hj => ?_⟩
  have hj' : j < zs.length := by simpa using hj
  obtain ⟨c, g1, g2⟩ := hs.cellAt hrow hL (d := j) (y := intA zs[j]) (by rw [flat_int_get, List.getElem?_eq_getElem hj']; rfl)
  have g3 : c = .int .i64 zs[j] := (g2.2 : OK F Λ w c (intA zs[j])).v_inv
  refine ⟨?_, by simp [World.frozen?, h4]⟩
  rw [g1, g3, getElem!_pos _ j hj]
  simp
theorem cells_put {w : World} {n : Nat} {os : Array Obj} {b o : Nat} {cs : Array Value} {t : TypeId} {ys : Array Int} (h : w.heap[b]? = some (.cells cs t (0, 0))) :
  (Sort.grow (Sort.putRow (Value.int .i64) (Sort.ahead w n) b o ys) os).heap[b]? = some (.cells (Sort.putCells (Value.int .i64) o ys cs) t (0, 0)) := by
 have hb : b < w.heap.size := (Array.getElem?_eq_some_iff.1 h).1
 rw [Sort.heap_grow_old _ _ (by simpa using hb)]
 simp only [Sort.putRow, Sort.mapBlock, Array.getElem?_modify, if_true, Sort.heap_ahead, h, Option.map_some, Sort.onCells]
theorem others_put {w : World} {n : Nat} {os : Array Obj} {b o b' : Nat} {ys : Array Int} (hb : b' < w.heap.size) (hne : b' ≠ b) :
  (Sort.grow (Sort.putRow (Value.int .i64) (Sort.ahead w n) b o ys) os).heap[b']? = w.heap[b']? := by
 rw [Sort.heap_grow_old _ _ (by simpa using hb)]
 simp only [Sort.putRow, Sort.mapBlock, Array.getElem?_modify, if_neg (Ne.symm hne), Sort.heap_ahead]
theorem size_putCells {o : Nat} {cs : Array Value} {ys : Array Int} : (Sort.putCells (Value.int .i64) o ys cs).size = cs.size := by simp [Sort.putCells]
theorem putCells_get {o j : Nat} {cs : Array Value} {ys : List Int} (hj : j < ys.length) (hc : o + ys.length ≤ cs.size) : (Sort.putCells (Value.int .i64) o ys.toArray cs)[o + j]? = some (.int .i64 ys[j]) := by
 simp only [Sort.putCells, Array.getElem?_mapIdx]
 rw [Array.getElem?_eq_getElem (by omega), Option.map_some, if_pos ⟨by omega, by simp; omega⟩, show o + j - o = j by omega, getElem!_pos _ j (by simpa using hj)]
 simp
theorem FnM.ofPut {P : Program} {f : Nat} {zs ys : List Int} (hl : ys.length = zs.length) (h0 : ∀ (ad : Option Addr) w, zs = [] → Calls P f #[.slice ad 0 0] w fun e w' => e = .returned (.tuple #[]) ∧ w' = w)
  (h1 : ∀ b o cap w, Sort.Holds (Value.int .i64) w b o zs.toArray → b < w.heap.size → zs.length ≤ cap → Calls P f #[.slice (some ⟨b, o, none⟩) zs.length cap] w fun e w' => e = .returned (.tuple #[]) ∧ ∃ n os, w' = Sort.grow (Sort.putRow (Value.int .i64) (Sort.ahead w n) b o ys.toArray) os) :
  FnM P f [.m [0] 0 zs.length 1] [flat tInt.enc zs] (.tuple #[]) [flat tInt.enc ys] := fun F Λ w vs R hs ha hr => by
 obtain ⟨hvl, hvs⟩ := ha
 obtain ⟨v, rfl⟩ : ∃ v, vs = [v] := by
  match vs, hvl with
  | [v], _ => exact ⟨v, rfl⟩
 have hv := hvs 0 _ v rfl rfl
 have hrow0 : (rowsS [flat tInt.enc zs])[0]? = some (.row (flat tInt.enc zs)) := rfl
 have hlen : sameLens [flat tInt.enc zs] [flat tInt.enc ys] := ⟨by rw [flat_len tInt.len, flat_len tInt.len, hl], trivial⟩
 rcases hs.holds hrow0 hv with ⟨e0, ad, rfl⟩ | ⟨b, o, cap, cs, t, hL, rfl, hcap, hb, hcs, hfit, hh⟩
 ·refine Calls.mono (h0 ad w e0) fun e w' he => ?_
  obtain ⟨rfl, rfl⟩ := he
  subst e0
  have ey : ys = [] := List.eq_nil_of_length_eq_zero hl
  subst ey
  exact hr F Λ _ w' _ (.v (.tuple #[])) hs (.refl ..) (.imm (.v _)) ⟨rfl, rfl, hlen⟩
 ·refine Calls.mono (h1 b o cap w hh hb hcap) fun e w' he => ?_
  obtain ⟨rfl, n, os, rfl⟩ := he
  have hturn := St.turnG (m := (rowsS [flat tInt.enc zs]).length) (w' := Sort.grow (Sort.putRow (Value.int .i64) (Sort.ahead w n) b o ys.toArray) os) hs hrow0 (ys := flat tInt.enc ys) (fun y hy => by
    obtain ⟨z, _, hz⟩ := mem_flat hy
    have : y = intA z := by simpa [tInt, tI] using hz
    subst this; rfl) hL hcs (cells_put hcs) size_putCells (fun b' h1 h2 => others_put h1 h2) (by simp) ⟨rfl, fun _ => by first | exact Nat.le_refl _ | exact Nat.le_add_right _ _ | exact Nat.le_succ _⟩ rfl rfl fun j y hy => by
   rw [flat_int_get] at hy
   have hj : j < ys.length := by
    rcases Nat.lt_or_ge j ys.length with h | h
    ·exact h
    ·rw [List.getElem?_eq_none h] at hy; cases hy
   rw [List.getElem?_eq_getElem hj] at hy
   cases hy
   exact ⟨_, putCells_get hj (by omega), ⟨rfl, .imm (.v _)⟩⟩
  exact hr F Λ _ _ _ (.v (.tuple #[])) hturn.1 hturn.2 (.imm (.v _)) ⟨rfl, rfl, hlen⟩
theorem FnS.ofCut {P : Program} {f : Nat} {zs ys : List Int} {rest : List Int} (hl : ys.length + rest.length = zs.length) (h0 : ∀ (ad : Option Addr) w, zs = [] → Calls P f #[.slice ad 0 0] w fun e w' => (∃ ad', e = .returned (.slice ad' 0 0)) ∧ w' = w)
  (h1 : ∀ b o cap w, Sort.Holds (Value.int .i64) w b o zs.toArray → b < w.heap.size → zs.length ≤ cap → Calls P f #[.slice (some ⟨b, o, none⟩) zs.length cap] w fun e w' => e = .returned (.slice (some ⟨b, o, none⟩) ys.length cap) ∧ ∃ n os, w' = Sort.grow (Sort.putRow (Value.int .i64) (Sort.ahead w n) b o (ys ++ rest).toArray) os) :
  FnS P f [.m [0] 0 zs.length 1] [.row (flat tInt.enc zs)] (.m [0] 0 ys.length 1) [.row (flat tInt.enc ys)] := fun F Λ w vs R hs ha hr => by
 obtain ⟨hvl, hvs⟩ := ha
 obtain ⟨v, rfl⟩ : ∃ v, vs = [v] := by
  match vs, hvl with
  | [v], _ => exact ⟨v, rfl⟩
 have hv := hvs 0 _ v rfl rfl
 have hrow0 : ([Root.row (flat tInt.enc zs)] : Store)[0]? = some (.row (flat tInt.enc zs)) := rfl
 rcases hs.holds hrow0 hv with ⟨e0, ad, rfl⟩ | ⟨b, o, cap, cs, t, hL, rfl, hcap, hb, hcs, hfit, hh⟩
 ·refine Calls.mono (h0 ad w e0) fun e w' he => ?_
  obtain ⟨⟨ad', rfl⟩, rfl⟩ := he
  subst e0
  have ey : ys = [] := List.eq_nil_of_length_eq_zero (by simp only [List.length_nil] at hl; omega)
  subst ey
  exact hr F Λ _ w' _ (.m [0] 0 0 1) hs (.refl ..) (.m (.inl ⟨rfl, _, rfl⟩)) ⟨rfl, rfl⟩
 ·refine Calls.mono (h1 b o cap w hh hb hcap) fun e w' he => ?_
  obtain ⟨rfl, n, os, rfl⟩ := he
  have hturn := St.turnG (m := 1) (w' := Sort.grow (Sort.putRow (Value.int .i64) (Sort.ahead w n) b o (ys ++ rest).toArray) os) hs hrow0 (ys := flat tInt.enc ys) (fun y hy => by
    obtain ⟨z, _, hz⟩ := mem_flat hy
    have : y = intA z := by simpa [tInt, tI] using hz
    subst this; rfl) hL hcs (cells_put hcs) size_putCells (fun b' h1 h2 => others_put h1 h2) (by simp) ⟨rfl, fun _ => by first | exact Nat.le_refl _ | exact Nat.le_add_right _ _ | exact Nat.le_succ _⟩ rfl rfl fun j y hy => by
   rw [flat_int_get] at hy
   have hj : j < ys.length := by
    rcases Nat.lt_or_ge j ys.length with h | h
    ·exact h
    ·rw [List.getElem?_eq_none h] at hy; cases hy
   rw [List.getElem?_eq_getElem hj] at hy
   cases hy
   have hj2 : j < (ys ++ rest).length := by simp; omega
   have := putCells_get (o := o) (cs := cs) hj2 (by simp; omega)
   rw [List.getElem_append_left hj] at this
   exact ⟨_, this, ⟨rfl, .imm (.v _)⟩⟩
  refine hr F Λ _ _ _ (.m [0] 0 ys.length 1) hturn.1 hturn.2 (.m (.inr ⟨b, o, cap, hL, by rw [Nat.add_zero], by omega, ?_, _, t, cells_put hcs, ?_⟩)) ⟨rfl, rfl⟩
  ·rcases hv.m_inv with ⟨h0, _, h⟩ | ⟨_, _, _, _, h, _, h3, _⟩
   ·simp only [Value.slice.injEq] at h; rw [h.2.2]; exact Nat.zero_le _
   ·cases h; exact h3
  ·rw [size_putCells]
   rcases hv.m_inv with ⟨h0, _, h⟩ | ⟨_, _, _, hL2, h, _, h3, cs3, t3, h4, h5⟩
   ·simp only [Value.slice.injEq] at h; omega
   ·rw [hL] at hL2; cases hL2; cases h
    rw [hcs] at h4; cases h4
    omega
end Go.Sep
set_option linter.unusedVariables false
set_option linter.unusedSimpArgs false
namespace Go.Sep
open Go
section
variable {F : Nat → Prop} {Λ : Lbl} {σ : Store} {w w' : World} {l r : Nat} {xs zs ys : List A} {π : Nat → Option (Nat × Nat)}
end
def RowCells (F : Nat → Prop) (Λ : Lbl) (w : World) (l : Nat) (xs : List A) (xc : List Value) : Prop := xc.length = xs.length ∧ ∀ (d : Nat) y, xs[d]? = some y → ∃ c, xc[d]? = some c ∧ Cell F Λ w false [l, d] c y
theorem RowCells.one {α : Type} {Y : Ty α} {F : Nat → Prop} {Λ : Lbl} {w : World} {l : Nat} {xs : List α} {xc : List Value} (h : RowCells F Λ w l (flat Y.own xs) xc) : ∀ u ∈ xc, u.oneCell' = true := fun u hu => by
 obtain ⟨q, hq⟩ := List.getElem?_of_mem hu
 have hd : q < (flat Y.own xs).length := by have := (List.getElem?_eq_some_iff.1 hq).1; rw [← h.1]; exact this
 obtain ⟨u', k1, k2⟩ := h.2 _ _ (List.getElem?_eq_getElem hd)
 rw [hq] at k1
 cases k1
 exact k2.oneO (ownRL_mem (flat_ownR Y xs) _ (List.getElem_mem hd))
theorem RowCells.nil {F : Nat → Prop} {Λ : Lbl} {w : World} {l : Nat} : RowCells F Λ w l [] [] := ⟨rfl, fun d y h => by simp at h⟩
section
variable {P : Program} {E : Env} {o : Oper}
end
section
variable {P : Program} {o : Oper} {w : World} {tmps : Array Value}
theorem run_appZ {t tn e : Nat} {inf : TypeInfo} {z : Value} {x y : Operand} {kq kn : IntKind} (ht : P.underlying t = some (.slice e)) (htn : P.underlying tn = some (.int kn)) (hi : P.info? e = some inf) (hz : inf.zero = some z) (h : o.op = .call { callee := .builtin .append, args := #[x, y], argTypes := #[t, tn] }) {base : Option Addr} {sLen sCap k : Nat} (hx : Act.eval ⟨tmps, []⟩ x = .slice base sLen sCap) (hy : Act.eval ⟨tmps, []⟩ y = .int kq (k : Int))
  {olds : List Value} (hold : (Builtin.firstCells inf.size sLen (.slice base sLen sCap)).run P w.drew = .ok olds.toArray w.drew) (h0 : 0 < k) (hs : 0 < inf.size) (hg : sCap < sLen + k) (h63 : ((sLen + k : Nat) : Int) ≤ 9223372036854775807) (h48 : k * inf.bytes ≤ 281474976710656) (hfit : Builtin.nextslicecap (sLen + k) sCap * inf.bytes ≤ 281474976710656) :
  (execOp (Act.eval ⟨tmps, []⟩) o).run P w = .ok (.value (.slice (some ⟨w.heap.size, 0, none⟩) (sLen + k) (grownCap w (sLen + k) sCap e))) (w.drew.alloc (.cells (olds.toArray ++ Builtin.zeroCells z.cells k ++ Builtin.zeroCells z.cells (grownCap w (sLen + k) sCap e - (sLen + k))) e)) := by
 unfold execOp
 simp only [h, resolve, invoke, builtin, Sem.run_bind, Sem.run_pure, Result.andThen_ok, List.map_toArray, List.map_cons, List.map_nil, hx, hy]
 rw [Lib.run_append_grow_zeros w t tn o.type e inf z kq kn ht htn hi hz base sLen sCap olds hold k h0 hs hg h63 h48 hfit]
 rfl
end
def valsB : Env → Bool
 | [] => true
 | (_, .v _) :: E => valsB E
 | _ :: _ => false
theorem FrOK.vals {F F' : Nat → Prop} {Λ Λ' : Lbl} {w w' : World} {tmps : Array Value} : ∀ {E : Env}, FrOK F Λ w tmps E → valsB E = true → FrOK F' Λ' w' tmps E := fun {E} h hv u => by
 have hu := h u
 have key : ∀ (E : Env), valsB E = true → (∃ x, lk E u = .v x) ∨ lk E u = .j := fun E => by
  induction E with
  | nil => intro _; exact .inr rfl
  | cons p E ih =>
   intro hv
   obtain ⟨t, a⟩ := p
   cases a with
   | v x =>
    simp only [lk]
    split
    ·exact .inl ⟨x, rfl⟩
    ·exact ih hv
   | _ => simp [valsB] at hv
 rcases key E hv with ⟨x, e⟩ | e
 ·rw [e] at hu ⊢
  rw [hu.v_inv]
  exact .imm (.v _)
 ·rw [e]; exact .j _
theorem FrOK.one {F F' : Nat → Prop} {Λ Λ' : Lbl} {w w' : World} {tmps : Array Value} {k : Nat} {x : Value} {a : A} (h : FrOK F Λ w tmps [(k, .v x)]) (hx : OK F' Λ' w' x a) : FrOK F' Λ' w' tmps [(k, a)] := fun u => by
 have hu := h u
 simp only [lk] at hu ⊢
 split at hu
 ·rename_i eq
  rw [if_pos eq, hu.v_inv]
  exact hx
 ·rename_i eq
  rw [if_neg eq]
  exact .j _
theorem Sizes.one {w w' : World} {b : Nat} {cs cs' : Array Value} {te : TypeId} (hb : w.heap[b]? = some (.cells cs te (0, 0))) (hb' : w'.heap[b]? = some (.cells cs' te (0, 0))) (hsz : cs'.size = cs.size) (h : ∀ b1, b1 ≠ b → w'.heap[b1]? = w.heap[b1]?) : Sizes w w' := fun b1 cs1 t h1 => by
 by_cases e : b1 = b
 ·subst e
  rw [hb] at h1
  cases h1
  exact ⟨cs', hb', hsz⟩
 ·exact ⟨cs1, by rw [h b1 e]; exact h1, rfl⟩
end Go.Sep
set_option linter.unusedVariables false
set_option linter.unusedSimpArgs false
namespace Go.Sep
open Go
section
variable {P : Program} {n m : Nat} {N : Env → Store → Prop} {E : Env} {σ : Store} {o : Oper}
end
end Go.Sep
set_option linter.unusedVariables false
set_option linter.unusedSimpArgs false
namespace Go.Sep
open Go
section
variable {P : Program} {n m : Nat} {N : Env → Store → Prop} {E : Env} {σ : Store} {o : Oper}
end
end Go.Sep
set_option linter.unusedVariables false
set_option linter.unusedSimpArgs false
namespace Go.Sep
open Go
section
variable {F : Nat → Prop} {Λ : Lbl} {σ : Store} {w : World} {s : Nat} {xs : List A}
end
mutual
inductive DtA (s j q : Nat) : A → A → Prop
  | r (x) : DtA s j q x x
  | m (a n k) : DtA s j q (.m [s, j] a n k) (.m [q] a n k)
  | g {xs ys} : DtL s j q xs ys → DtA s j q (.g xs) (.g ys)
inductive DtL (s j q : Nat) : List A → List A → Prop
  | nil : DtL s j q [] []
  | cons {x y xs ys} : DtA s j q x y → DtL s j q xs ys → DtL s j q (x :: xs) (y :: ys)
end
theorem DtL.get {s j q : Nat} : ∀ {xs ys : List A}, DtL s j q xs ys → xs.length = ys.length ∧ ∀ (i : Nat) y, ys[i]? = some y → ∃ x, xs[i]? = some x ∧ DtA s j q x y
 | _, _, .nil => ⟨rfl, fun i y h => by simp at h⟩
 | _, _, .cons h hs => by
  obtain ⟨h1, h2⟩ := DtL.get hs
  refine ⟨by simp [h1], fun i y hi => ?_⟩
  cases i with
  | zero => simp at hi; subst hi; exact ⟨_, rfl, h⟩
  | succ i => simpa using h2 i y (by simpa using hi)
section
variable {P : Program} {n m : Nat} {K : Exit → Env → Store → Prop} {N : Env → Store → Prop} {E : Env} {σ : Store} {ops : Array Oper} {os : List Oper}
end
section
variable {P : Program} {E : Env} {σ : Store} {o : Oper}
end
end Go.Sep
set_option linter.unusedVariables false
set_option linter.unusedSimpArgs false
namespace Go.Sep
open Go
section
variable {P : Program} {E : Env} {σ : Store} {o : Oper}
theorem pur_cap_n {t x e k'} (hT : SlT P t e k') (hx : val E x = .n) (h : o.op = .call { callee := .builtin .cap, args := #[x], argTypes := #[t] }) : Pur P o E σ (.v (.int .i64 (0 : Nat))) := fun F Λ w tmps hs hf => by
 have h1 := val_ok (ds := []) hf x
 rw [hx] at h1
 obtain ⟨ad, h2⟩ := h1.n_inv
 refine ⟨_, .imm (.v _), fun w' _ => ?_⟩
 simp only [execOp, h, resolve, Sem.run_bind, Sem.run_pure, invoke, builtin]
 simp [h2, Builtin.cap_, run_underlying hT.u, goInt]
theorem pur_cutN {t e k : Nat} {x : Operand} {lo hi : Option Operand} {a b : Int} (hT : SlT P t e k) (hx : val E x = .n) (hlo : bnd E 0 lo a) (hhi : bnd E 0 hi b) (ha : a = 0) (hb : b = 0) (h : o.op = .slice t x lo hi none) : Pur P o E σ .n := fun F Λ w tmps hs hf => by
 subst ha hb
 have e1 := val_ok (ds := []) hf x
 rw [hx] at e1
 obtain ⟨ad, h4⟩ := e1.n_inv
 exact ⟨_, .imm (.n _), fun w' _ => run_cut (n := 0) (cap := 0) (i := 0) (j := 0) hf hT h h4 hlo hhi (Nat.le_refl _) (Nat.le_refl _) (Nat.le_refl _) w'⟩
end
section
variable {F : Nat → Prop} {Λ : Lbl} {σ : Store} {w : World} {s : Nat} {xs : List A}
theorem sub_take {c : Nat} {xs : List A} {j : Nat} {q : List Nat} {zs : List A} (h : sub (xs.take c) (j :: q) = some zs) : sub xs (j :: q) = some zs := by
 simp only [sub] at h ⊢
 rcases Nat.lt_or_ge j c with g | g
 ·rwa [List.getElem?_take_of_lt g] at h
 ·rw [List.getElem?_eq_none (by rw [List.length_take]; omega)] at h; cases h
theorem rowAt_trunc {c : Nat} (hs : σ[s]? = some (.row xs)) {L : List Nat} {zs : List A} (h : rowAt (σ.set s (.row (xs.take c))) L = some zs) : (L = [s] ∧ zs = xs.take c) ∨ (L ≠ [s] ∧ rowAt σ L = some zs) := by
 have hls : s < σ.length := (List.getElem?_eq_some_iff.1 hs).1
 cases L with
 | nil => simp [rowAt] at h
 | cons a p =>
  simp only [rowAt] at h
  by_cases e : s = a
  ·subst e
   rw [List.getElem?_set_self hls] at h
   simp only [Root.cells] at h
   cases p with
   | nil => simp only [sub, Option.some.injEq] at h; exact .inl ⟨rfl, h.symm⟩
   | cons j q => exact .inr ⟨by simp, by simp only [rowAt, hs, Root.cells]; exact sub_take h⟩
  ·rw [List.getElem?_set_ne e] at h
   exact .inr ⟨by simp; omega, h⟩
theorem isBox_trunc {c : Nat} (hs : σ[s]? = some (.row xs)) (L : List Nat) : isBox (σ.set s (.row (xs.take c))) L = isBox σ L := by
 have hls : s < σ.length := (List.getElem?_eq_some_iff.1 hs).1
 match L with
 | [] => rfl
 | [a] =>
  simp only [isBox]
  by_cases e : s = a
  ·subst e; rw [List.getElem?_set_self hls, hs]
  ·rw [List.getElem?_set_ne e]
 | _ :: _ :: _ => rfl
theorem Ghost.trunc {m c : Nat} {E : Env} (hs : σ[s]? = some (.row xs)) (hms : m ≤ s) : Ghost m E σ E (σ.set s (.row (xs.take c))) := fun F Λ w tmps h hf => by
  have hr : rowAt σ [s] = some xs := by simp only [rowAt, hs, Root.cells, Go.Sep.sub]
  have key : ∀ L zs, rowAt (σ.set s (.row (xs.take c))) L = some zs → ∃ zs', rowAt σ L = some zs' := fun L zs h1 => by
    rcases rowAt_trunc hs h1 with ⟨rfl, rfl⟩ | ⟨_, h2⟩
    · exact ⟨xs, hr⟩
    · exact ⟨zs, h2⟩
  refine ⟨F, Λ, ⟨fun L zs hz => ?_, fun L1 x1 L2 x2 b o o' h1 h2 h3 h4 => ?_, h.old, h.tab, fun L hL => h.lab L (by simpa using hL)⟩, hf, ?_⟩
  · rw [isBox_trunc hs]
    rcases rowAt_trunc hs hz with ⟨rfl, rfl⟩ | ⟨_, h1⟩
    · rcases h.row _ _ hr with ⟨h1, h2⟩ | ⟨b, o, cs, t, h1, h2, h3, h4⟩
      · exact .inl ⟨h1, by rw [h2]; simp⟩
      · refine .inr ⟨b, o, cs, t, h1, h2, h3, fun j x hx => h4 j x ?_⟩
        rcases Nat.lt_or_ge j c with g | g
        · rwa [List.getElem?_take_of_lt g] at hx
        · rw [List.getElem?_eq_none (by rw [List.length_take]; omega)] at hx; cases hx
    · exact h.row _ _ h1
  · obtain ⟨z1, g1⟩ := key L1 x1 h1
    obtain ⟨z2, g2⟩ := key L2 x2 h2
    exact h.apart _ _ _ _ _ _ _ g1 g2 h3 h4
  · exact { os := ⟨rfl, fun _ => by first | exact Nat.le_refl _ | exact Nat.le_succ _⟩, tape := rfl, output := rfl, size := Nat.le_refl _, sizes := Sizes.refl _, keep := fun _ _ _ => rfl, mono := fun _ h => h, new := fun _ h => .inl h
            own := fun b ⟨L, ys, o, g1, g2⟩ => by
              obtain ⟨zs, g3⟩ := key L ys g1
              exact .inl ⟨L, zs, o, g3, g2⟩
            len := by rw [List.length_set]; exact Nat.min_le_right _ _
            boxes := fun a us ha hu => by
              have : a ≠ s := fun e => by subst e; rw [hs] at hu; cases hu
              exact ⟨rfl, us, by rw [List.getElem?_set_ne (Ne.symm this)]; exact hu⟩
            kept := fun _ _ _ _ h => h }
theorem Ghost.truncT {α : Type} {f : α → List A} {k : Nat} (hf : ∀ x, (f x).length = k) {m : Nat} {E : Env} {xs ys : List α} {i j : Nat} (hs : σ[s]? = some (.row (flat f xs))) (hi : i = 0) (hy : ys = (xs.take j).drop i) (hms : m ≤ s) : Ghost m E σ E (σ.set s (.row (flat f ys))) := by
 subst hi hy
 rw [List.drop_zero, flat_take hf]
 exact Ghost.trunc hs hms
end
theorem trunc_A {α : Type} {l k i j : Nat} {xs ys : List α} (hi : i = 0) (hj : j ≤ xs.length) (hy : ys = (xs.take j).drop i) : A.m [l] (i * k) (j - i) k = .m [l] 0 ys.length k := by
 subst hi hy
 rw [Nat.zero_mul, List.drop_zero, List.length_take, Nat.min_eq_left hj]; rfl
end Go.Sep
set_option linter.unusedVariables false
set_option linter.unusedSimpArgs false
namespace Go.Sep
open Go
def comp2 : Int → List Int → List Int
 | _, [] => []
 | p, x :: l => if x = p then comp2 p l else x :: comp2 x l
def comp1 : List Int → List Int
 | [] => []
 | x :: l => x :: comp2 x l
theorem comp2_snoc : ∀ (l : List Int) (p x : Int), comp2 p (l ++ [x]) = comp2 p l ++ (if (l.getLast?).getD p = x then [] else [x])
 | [], p, x => by
  simp only [List.nil_append, comp2, List.getLast?_nil, Option.getD_none]
  by_cases h : x = p
  ·simp [h]
  ·simp [h, Ne.symm h]
 | y :: l, p, x => by
  have e : ((y :: l).getLast?).getD p = (l.getLast?).getD y := by rw [List.getLast?_cons]; rfl
  rw [e, List.cons_append]
  simp only [comp2]
  by_cases h : y = p
  ·subst h
   rw [if_pos rfl, if_pos rfl]; exact comp2_snoc l y x
  ·rw [if_neg h, if_neg h, comp2_snoc l y x, List.cons_append]
theorem comp1_snoc (l : List Int) (x : Int) (h : l ≠ []) : comp1 (l ++ [x]) = comp1 l ++ (if l.getLast? = some x then [] else [x]) := by
 cases l with
 | nil => exact absurd rfl h
 | cons y l =>
  rw [List.cons_append]
  simp only [comp1]
  rw [comp2_snoc, List.cons_append, List.getLast?_cons]
  simp
theorem compact_comp1 (zs : List Int) : Lib.compact zs = comp1 zs := by
 have key : ∀ m, m ≤ zs.length → Lib.compactUpTo zs.toArray m = comp1 (zs.take m) := fun m => by
  induction m with
  | zero => intro _; simp [Lib.compactUpTo, comp1]
  | succ m ih =>
   intro h
   have hm : m < zs.length := by omega
   rw [Lib.compactUpTo_succ, ih (by omega), List.take_add_one, List.getElem?_eq_getElem hm]
   have e1 : zs.toArray[m]! = zs[m] := by simp [hm]
   rw [e1]
   cases m with
   | zero => simp [Lib.keeps, comp1, comp2]
   | succ m =>
    have hm' : m < zs.length := by omega
    have e2 : zs.toArray[m + 1 - 1]! = zs[m] := by simp [hm']
    have e3 : (zs.take (m + 1)).getLast? = some zs[m] := by rw [List.take_add_one, List.getElem?_eq_getElem hm', show (some zs[m]).toList = [zs[m]] from rfl, List.getLast?_append]; rfl
    rw [show (some zs[m + 1]).toList = [zs[m + 1]] from rfl, comp1_snoc _ _ (by intro e; rw [e] at e3; cases e3), e3]
    congr 1
    simp only [Lib.keeps, e1, e2]
    by_cases g : zs[m] = zs[m + 1]
    ·simp [g]
    ·simp [g, Ne.symm g]
 have := key zs.length (Nat.le_refl _)
 rwa [List.take_length] at this
theorem comp2_le : ∀ (l : List Int) (p : Int), (comp2 p l).length ≤ l.length
 | [], p => Nat.le_refl _
 | x :: l, p => by
  simp only [comp2]
  split
  ·have := comp2_le l p; simp only [List.length_cons]; omega
  ·have := comp2_le l x; simp only [List.length_cons]; omega
theorem comp1_le (l : List Int) : (comp1 l).length ≤ l.length := by
 cases l with
 | nil => exact Nat.le_refl _
 | cons x l => have := comp2_le l x; simp only [comp1, List.length_cons]; omega
end Go.Sep
set_option linter.unusedVariables false
set_option linter.unusedSimpArgs false
namespace Go.Sep
open Go
theorem St.drewn {F : Nat → Prop} {Λ : Lbl} {σ : Store} {w : World} (hs : St F Λ σ w) : St F Λ σ w.drew where
 row L xs h := by
  refine (hs.row L xs h).imp id fun ⟨b, o, cs, t, h1, h2, h3, h4⟩ => ⟨b, o, cs, t, h1, h2, h3, fun j x hx => (h4 j x hx).imp fun c hc => ⟨hc.1, ?_⟩⟩
  exact Cell.mono (w := w) (w' := w.drew) (fun b hb => ⟨hb, rfl⟩) (fun b cs t hb => ⟨cs, hb, rfl⟩) hc.2
 apart := hs.apart
 old := hs.old
 tab := hs.tab
 lab := hs.lab
theorem Step.drewn {m : Nat} {F : Nat → Prop} {Λ : Lbl} {σ : Store} {w : World} : Step m F Λ σ w F Λ σ w.drew :=
 { os := ⟨rfl, fun _ => by first | exact Nat.le_refl _ | exact Nat.le_succ _⟩, tape := rfl, output := rfl, size := Nat.le_refl _, sizes := fun b cs t hb => ⟨cs, hb, rfl⟩, keep := fun _ _ _ => rfl, mono := fun _ h => h, new := fun _ h => .inl h, own := fun _ h => .inl h, len := Nat.min_le_right _ _, boxes := fun _ xs _ h => ⟨rfl, xs, h⟩, kept := fun _ _ _ _ h => h }
theorem grow_nil (w : World) : Sort.grow w #[] = w := by cases w; simp [Sort.grow]
def apz {α : Type} (by_ : Nat) (n : Int) (z : α) : Option (List α) := if 0 < n ∧ n * by_ ≤ 140737488355328 then some (List.replicate n.toNat z) else none
theorem apz_inv {α : Type} {by_ : Nat} {n : Int} {z : α} {us : List α} (h : apz by_ n z = some us) : ∃ k : Nat, n = k ∧ 0 < k ∧ k * by_ ≤ 140737488355328 ∧ us = List.replicate k z := by
 unfold apz at h
 split at h
 ·rename_i h0
  obtain ⟨k, rfl⟩ : ∃ k : Nat, n = k := ⟨n.toNat, by omega⟩
  refine ⟨k, rfl, by omega, ?_, by simpa using h.symm⟩
  have := h0.2
  rw [← Int.natCast_mul] at this
  omega
 ·cases h
section
variable {P : Program} {n m : Nat} {N : Env → Store → Prop} {E : Env} {σ : Store} {o : Oper}
theorem TOp_appNZ {α : Type} {T : Ty α} {t tn e by_ : Nat} {kn kq : IntKind} {x y : Operand} {zs : List Value} {z : α} {nz : Int} {us : List α} (hzT : zs.map constA = T.enc z) (hT : SlT P t e T.k) (htn : P.underlying tn = some (.int kn)) (hz : ZeroT P e zs) (hzk : zs.length = T.k) (hby : (P.info? e).map (·.bytes) = some by_) (hb1 : 1 ≤ by_)
  (h : o.op = .call { callee := .builtin .append, args := #[x, y], argTypes := #[t, tn] }) (hd : dstOK n o.dst = true) (hx : val E x = .n) (hy : val E y = .v (.int kq nz)) (ha : apz by_ nz z = some us)
  (hN : N (put E o.dst (.m [σ.length] 0 us.length T.k)) (σ ++ [.row (flat T.enc us)])) : TOp P n m o N E σ := fun F Λ w tmps K Q hn hs hf hk => by
 obtain ⟨k, rfl, hk0, hkb, rfl⟩ := apz_inv ha
 obtain ⟨⟨inf, zv, h1, h2, h3⟩, h4⟩ := hz
 have hbytes : inf.bytes = by_ := by simpa [h1] using hby
 have hsize : inf.size = T.k := by obtain ⟨i2, g1, g2⟩ := hT.i; rw [h1] at g1; cases g1; exact g2
 have hzc : zv.cells.size = T.k := by rw [← hzk, ← h3]; simp
 have h63 : k ≤ 140737488355328 := Nat.le_trans (Nat.le_mul_of_pos_right _ hb1) hkb
 have ex := val_ok (ds := []) hf x
 rw [hx] at ex
 obtain ⟨ad, ex⟩ := ex.n_inv
 have ey := val_ok (ds := []) hf y
 rw [hy] at ey
 have ey := ey.v_inv
 have hrun := run_appZ (P := P) (o := o) (w := w) (tmps := tmps) hT.u htn h1 h2 h ex ey (olds := []) (firstCells_zero w.drew inf.size ad 0) hk0 (by rw [hsize]; exact T.pos) (by omega) (by omega) (by rw [hbytes]; omega) (growslice_fits (by omega) (by rw [hbytes, Nat.zero_add]; exact hkb))
 rw [Nat.zero_add] at hrun
 have hge := grownCap_ge w k 0 e
 have hcm : grownCap w k 0 e ≤ maxLen := grownCap_le_maxLen w k 0 e (by simp only [maxLen]; omega)
 generalize hG : grownCap w k 0 e = G at hrun hge hcm
 have hlen : ((([] : List Value).toArray ++ Builtin.zeroCells zv.cells k ++ Builtin.zeroCells zv.cells (G - k)).toList).length = G * T.k := by
  simp only [Array.length_toList, Array.size_append, size_zeroCells, hzc, List.size_toArray, List.length_nil, Nat.zero_add, ← Nat.add_mul]
  congr 1; omega
 have harr : ([] : List Value).toArray ++ Builtin.zeroCells zv.cells k ++ Builtin.zeroCells zv.cells (G - k) = ((([] : List Value).toArray ++ Builtin.zeroCells zv.cells k ++ Builtin.zeroCells zv.cells (G - k)).toList).toArray := by simp
 rw [harr] at hrun
 generalize hcc : (([] : List Value).toArray ++ Builtin.zeroCells zv.cells k ++ Builtin.zeroCells zv.cells (G - k)).toList = ccs at hrun hlen
 have hcell : ∀ (j : Nat) x, (flat T.enc (List.replicate k z))[j]? = some x → ∃ c, ccs[j]? = some c ∧ Cell F Λ w.drew false [] c x := fun j x hj => by
  rw [← zeros_T hzT, List.getElem?_map] at hj
  have hjl : j < k * T.k := by
   rcases Nat.lt_or_ge j (k * T.k) with g | g
   ·exact g
   ·rw [List.getElem?_eq_none (by simpa using g)] at hj; cases hj
  rw [List.getElem?_range hjl] at hj
  simp only [Option.map_some, Option.some.injEq] at hj
  subst hj
  have hlt : j % T.k < zs.length := by rw [hzk]; exact Nat.mod_lt _ T.pos
  refine ⟨zs[j % T.k]!, ?_, constA_cell (h4 _ (by have := List.getElem_mem hlt; rwa [← getElem!_pos zs (j % T.k) hlt] at this))⟩
  subst h3
  have hlt2 : j % T.k < zv.cells.size := by simpa using hlt
  have h10 : zv.cells.toList[j % T.k]! = zv.cells[j % T.k]! := by rw [getElem!_pos zv.cells.toList _ hlt, getElem!_pos zv.cells _ hlt2]; simp
  rw [h10, ← hcc, Array.getElem?_toList, Array.getElem?_append_left (by simp [size_zeroCells, hzc]; exact hjl)]
  rw [show ([] : List Value).toArray = #[] from rfl, Array.empty_append]
  simp only [Builtin.zeroCells, hzc]
  rw [Array.getElem?_map, Array.getElem?_range]
  simp [hjl]
 obtain ⟨hs', hst⟩ := hs.drewn.push (m := m) (.row (flat T.enc (List.replicate k z))) _ rfl ccs e (fun x hx => inCell_plain (cellAll (flat_cell T _) x hx)) hcell
 obtain ⟨tmps', e', hn', hf'⟩ := ((FrOK.mono (w := w) (w' := w.drew) (fun b hb => ⟨hb, rfl⟩) (fun b cs t hb => ⟨cs, hb, rfl⟩) hf).push hs.drewn (.cells ccs.toArray e)).putO (ds := []) hn hd (v := .slice (some ⟨w.heap.size, 0, none⟩) k G) (r := .m [σ.length] 0 k T.k)
  (.m (.inr ⟨w.heap.size, 0, G, by simp [pushL], by simp, hge, hcm, _, e, heap_alloc_new w.drew _, by simp [hlen]⟩))
 unfold Oper.wp
 rw [hrun, Oper.upon_value, e']
 rw [List.length_replicate] at hN
 exact hk F _ _ _ tmps' _ hn' hs' hf' (Step.drewn.trans hst) hN
end
end Go.Sep
set_option linter.unusedVariables false
set_option linter.unusedSimpArgs false
namespace Go.Sep
open Go
end Go.Sep
set_option linter.unusedVariables false
set_option linter.unusedSimpArgs false
namespace Go.Sep
open Go
section
variable {P : Program} {n m : Nat} {N : Env → Store → Prop} {E : Env} {σ : Store} {o : Oper}
end
end Go.Sep
set_option linter.unusedVariables false
set_option linter.unusedSimpArgs false
namespace Go.Sep
open Go
def nst (l : Nat) : List Nat → Bool
 | h :: _ :: _ => h == l
 | _ => false
def boxNst (l : Nat) (σ : Store) : Bool := σ.all fun r => match r with
 | .box xs => !namesL (nst l) xs
 | _ => true
theorem boxNst_all {l : Nat} {σ : Store} (h : boxNst l σ = true) {xs : List A} (hx : Root.box xs ∈ σ) : namesL (nst l) xs = false := by
 have := List.all_eq_true.1 h _ hx
 simpa using this
def permL (Λ : Lbl) (l : Nat) (π : Nat → Option Nat) : Lbl := fun L => match L with
 | h :: d :: q => if h = l then (match π d with
  | some e => Λ (l :: e :: q)
  | none => none) else Λ (h :: d :: q)
 | L => Λ L
theorem permL_ok {Λ : Lbl} {l : Nat} {π : Nat → Option Nat} : ∀ L b o, nst l L = false → Λ L = some (b, o) → permL Λ l π L = some (b, o) := fun L b o h hL => by
 match L, h, hL with
 | [], _, hL => exact hL
 | [_], _, hL => exact hL
 | a :: d :: q, h, hL =>
  simp only [nst, beq_eq_false_iff_ne] at h
  simp only [permL, if_neg h]; exact hL
theorem Cell.pathP {F Λ Λ' w bx L L' c x} (p : List Nat → Bool) (h : ∀ L b o, p L = false → Λ L = some (b, o) → Λ' L = some (b, o)) (hS : ∀ a n k v, Sl Λ w L a n k v → Sl Λ' w L' a n k v) (hc : Cell F Λ w bx L c x) (hb : bx = true → x.names p = false) : Cell F Λ' w bx L' c x := by
 cases x with
 | j => trivial
 | o k ys => exact ⟨hc.1, hc.2.1, hc.2.2.elim fun n hn => ⟨n, hn.1, hS _ _ _ _ hn.2⟩⟩
 | _ =>
  refine ⟨hc.1, hc.2.relabel p h ?_⟩
  cases bx with
  | true => exact hb rfl
  | false => exact inCell_names (by have h1 := hc.1; rwa [if_neg (by simp)] at h1) p
section
variable {F : Nat → Prop} {Λ : Lbl} {σ : Store} {w w' : World} {l : Nat} {xs ys : List A} {π : Nat → Option Nat}
theorem rowAt_perm (hr : σ[l]? = some (.row xs)) (hπ : ∀ (d : Nat) y, ys[d]? = some y → ∃ e, π d = some e ∧ xs[e]? = some y) {L : List Nat} {zs : List A} (h : rowAt (σ.set l (.row ys)) L = some zs) :
  (L = [l] ∧ zs = ys) ∨ (∃ d e q, L = l :: d :: q ∧ d < ys.length ∧ π d = some e ∧ rowAt σ (l :: e :: q) = some zs) ∨ (∃ a p, L = a :: p ∧ a ≠ l ∧ rowAt σ L = some zs) := by
 have hl : l < σ.length := (List.getElem?_eq_some_iff.1 hr).1
 cases L with
 | nil => cases h
 | cons a p =>
  by_cases e : a = l
  ·subst e
   simp only [rowAt, List.getElem?_set_self hl, Root.cells] at h
   cases p with
   | nil => simp only [sub, Option.some.injEq] at h; exact .inl ⟨rfl, h.symm⟩
   | cons d q =>
    simp only [sub] at h
    split at h
    ·rename_i k us hd
     obtain ⟨e, h1, h2⟩ := hπ d _ hd
     exact .inr (.inl ⟨d, e, q, rfl, (List.getElem?_eq_some_iff.1 hd).1, h1, by simp only [rowAt, hr, Root.cells, sub, h2]; exact h⟩)
    ·cases h
  ·refine .inr (.inr ⟨a, p, rfl, e, ?_⟩)
   simpa only [rowAt, List.getElem?_set_ne (Ne.symm e)] using h
theorem St.permute {m b o' : Nat} {cs2 : Array Value} {t2 : TypeId} (hs : St F Λ σ w) (hr : σ[l]? = some (.row xs)) (hL : Λ [l] = some (b, o')) (hbn : boxNst l σ = true) (hm : m ≤ l)
    (hc2 : w'.heap[b]? = some (.cells cs2 t2 (0, 0))) (hoth : ∀ b', b' < w.heap.size → b' ≠ b → w'.heap[b']? = w.heap[b']?) (hS : Sizes w w')
    (hsize : w.heap.size ≤ w'.heap.size) (hos : OsLe w w') (htape : w'.tape = w.tape) (hout : w'.output = w.output)
    (hinj : ∀ d d' e, d < ys.length → d' < ys.length → π d = some e → π d' = some e → d = d')
    (hy : ∀ (d : Nat) y, ys[d]? = some y → ∃ c, cs2[o' + d]? = some c ∧ ∃ e, π d = some e ∧ xs[e]? = some y ∧ Cell F Λ w false [l, e] c y) :
    St F (permL Λ l π) (σ.set l (.row ys)) w' ∧ Step m F Λ σ w F (permL Λ l π) (σ.set l (.row ys)) w' := by
  have hl : l < σ.length := (List.getElem?_eq_some_iff.1 hr).1
  have hrow : rowAt σ [l] = some xs := by simp only [rowAt, hr, Root.cells, Go.Sep.sub]
  have hO : ¬ F b := fun hf => hs.notOwn hf ⟨[l], xs, o', hrow, hL⟩
  have hF : ∀ b', F b' → F b' ∧ w'.heap[b']? = w.heap[b']? := fun b' hb' => ⟨hb', hoth b' (hs.old b' hb') fun e => hO (e ▸ hb')⟩
  have hπ : ∀ (d : Nat) y, ys[d]? = some y → ∃ e, π d = some e ∧ xs[e]? = some y := fun d y hd => by
    obtain ⟨c, _, e, h1, h2, _⟩ := hy d y hd
    exact ⟨e, h1, h2⟩
  have lab1 : ∀ d e q, π d = some e → permL Λ l π (l :: d :: q) = Λ (l :: e :: q) := fun d e q h => by simp only [permL, h, if_true]
  have lab2 : ∀ a p, a ≠ l → permL Λ l π (a :: p) = Λ (a :: p) := fun a p h => by
    cases p with
    | nil => rfl
    | cons d q => simp only [permL, if_neg h]
  have lab0 : permL Λ l π [l] = some (b, o') := hL
  have nb : ∀ L zs b1 o1, L ≠ [l] → rowAt σ L = some zs → Λ L = some (b1, o1) → b1 ≠ b ∧ b1 < w.heap.size := fun L zs b1 o1 hne h1 h2 =>
    ⟨fun e => by subst e; exact hne (hs.apart _ _ _ _ _ _ _ h1 hrow h2 hL), hs.owns ⟨L, zs, o1, h1, h2⟩⟩
  have hbx0 : isBox σ [l] = false := by simp only [isBox, hr]
  refine ⟨⟨fun L zs h1 => ?_, fun L1 x1 L2 x2 b1 o1 o2 h1 h2 h3 h4 => ?_, fun b' hb' => Nat.lt_of_lt_of_le (hs.old b' hb') hsize, hs.tab.mono hF, fun L hL' => ?_⟩, ?_⟩
  · rw [isBox_turn hr]
    rcases rowAt_perm hr hπ h1 with ⟨rfl, hz⟩ | ⟨d, e, q, rfl, hd, hp, h2⟩ | ⟨a, p, rfl, ha, h2⟩
    · rw [hz]
      refine .inr ⟨b, o', cs2, t2, lab0, hO, hc2, fun j y hj => ?_⟩
      obtain ⟨c, g1, e, g3, g4, g5⟩ := hy j y hj
      refine ⟨c, g1, ?_⟩
      rw [hbx0]
      refine Cell.pathP (L := [l, e]) (nst l) permL_ok (fun a n k v hsl => ?_) (g5.mono hF hS) fun h => by cases h
      rcases hsl with h | ⟨bb, oo, cap, h5, h6⟩
      · exact .inl h
      · exact .inr ⟨bb, oo, cap, (lab1 j e [] g3).trans h5, h6⟩
    · rcases hs.row _ zs h2 with ⟨h3, h4⟩ | ⟨b1, o1, cs1, t1, h3, h4, h5, h6⟩
      · exact .inl ⟨(lab1 d e q hp).trans h3, h4⟩
      · obtain ⟨n1, n2⟩ := nb _ _ _ _ (by simp) h2 h3
        refine .inr ⟨b1, o1, cs1, t1, (lab1 d e q hp).trans h3, h4, by rw [hoth b1 n2 n1]; exact h5, fun j y hj => ?_⟩
        obtain ⟨c, g1, g2⟩ := h6 j y hj
        refine ⟨c, g1, ?_⟩
        rw [isBox_long] at g2 ⊢
        refine Cell.pathP (nst l) permL_ok (fun a n k v hsl => ?_) (g2.mono hF hS) fun h => by cases h
        rcases hsl with h | ⟨bb, oo, cap, h7, h8⟩
        · exact .inl h
        · exact .inr ⟨bb, oo, cap, by show permL Λ l π (l :: d :: (q ++ [j])) = _; rw [lab1 d e _ hp]; exact h7, h8⟩
    · rcases hs.row _ zs h2 with ⟨h3, h4⟩ | ⟨b1, o1, cs1, t1, h3, h4, h5, h6⟩
      · exact .inl ⟨(lab2 a p ha).trans h3, h4⟩
      · obtain ⟨n1, n2⟩ := nb _ _ _ _ (by simp; intro e; exact absurd e ha) h2 h3
        refine .inr ⟨b1, o1, cs1, t1, (lab2 a p ha).trans h3, h4, by rw [hoth b1 n2 n1]; exact h5, fun j y hj => ?_⟩
        obtain ⟨c, g1, g2⟩ := h6 j y hj
        refine ⟨c, g1, (g2.mono hF hS).relabel (nst l) permL_ok ?_ fun hbx => ?_⟩
        · cases p with
          | nil => simpa [nst] using ha
          | cons _ _ => simpa [nst] using ha
        · match p, hbx, h2 with
          | [], hbx, h2 =>
            simp only [isBox] at hbx
            split at hbx
            · rename_i us hu
              have h9 : us = zs := by simpa [rowAt, hu, Root.cells, Go.Sep.sub] using h2
              subst h9
              exact namesL_false (boxNst_all hbn (List.mem_of_getElem? hu)) y (List.mem_of_getElem? hj)
            · cases hbx
          | _ :: _, hbx, _ => cases hbx
  · have old : ∀ L zs b1 o1, rowAt (σ.set l (.row ys)) L = some zs → permL Λ l π L = some (b1, o1) → (L = [l] ∧ b1 = b) ∨ ∃ Lo zo, rowAt σ Lo = some zo ∧ Λ Lo = some (b1, o1) ∧ Lo ≠ [l] ∧ ((∃ d e q, L = l :: d :: q ∧ d < ys.length ∧ π d = some e ∧ Lo = l :: e :: q) ∨ (∃ a p, L = a :: p ∧ a ≠ l ∧ Lo = L)) := fun L zs b1 o1 g1 g2 => by
      rcases rowAt_perm hr hπ g1 with ⟨rfl, rfl⟩ | ⟨d, e, q, rfl, hd, hp, g3⟩ | ⟨a, p, rfl, ha, g3⟩
      · rw [lab0] at g2; cases g2; exact .inl ⟨rfl, rfl⟩
      · rw [lab1 d e q hp] at g2
        exact .inr ⟨_, _, g3, g2, by simp, .inl ⟨d, e, q, rfl, hd, hp, rfl⟩⟩
      · rw [lab2 a p ha] at g2
        exact .inr ⟨_, _, g3, g2, by simp; intro e; exact absurd e ha, .inr ⟨a, p, rfl, ha, rfl⟩⟩
    rcases old L1 x1 b1 o1 h1 h3 with ⟨rfl, e1⟩ | ⟨M1, z1, g1, g2, g3, g4⟩ <;> rcases old L2 x2 b1 o2 h2 h4 with ⟨rfl, e2⟩ | ⟨M2, z2, k1, k2, k3, k4⟩
    · rfl
    · exact absurd e1 (nb _ _ _ _ k3 k1 k2).1
    · exact absurd e2 (nb _ _ _ _ g3 g1 g2).1
    · have e := hs.apart _ _ _ _ _ _ _ g1 k1 g2 k2
      subst e
      rcases g4 with ⟨d, e, q, rfl, hd, hp, rfl⟩ | ⟨a, p, rfl, ha, rfl⟩ <;> rcases k4 with ⟨d', e', q', rfl, hd', hp', h5⟩ | ⟨a', p', rfl, ha2, h5⟩
      · simp only [List.cons.injEq, true_and] at h5
        obtain ⟨rfl, rfl⟩ := h5
        rw [hinj d d' e hd hd' hp hp']
      · simp only [List.cons.injEq] at h5; exact absurd h5.1.symm ha2
      · simp only [List.cons.injEq] at h5; exact absurd h5.1 ha
      · exact h5
  · rw [List.length_set] at hL'
    have hne : ∀ a p, L = a :: p → a ≠ l := fun a p e h => by subst e; simp only [List.headD_cons] at hL'; omega
    cases L with
    | nil => exact hs.lab [] hL'
    | cons a p => rw [lab2 a p (hne a p rfl)]; exact hs.lab (a :: p) hL'
  · exact { os := hos, tape := htape, output := hout, size := hsize, sizes := hS
            keep := fun b' hlt hno => hoth b' hlt fun e => hno (e ▸ ⟨[l], xs, o', hrow, hL⟩)
            mono := fun _ h => h, new := fun _ h => .inl h
            own := fun b1 ⟨L, zs, o1, g1, g2⟩ => by
              rcases rowAt_perm hr hπ g1 with ⟨rfl, rfl⟩ | ⟨d, e, q, rfl, hd, hp, g3⟩ | ⟨a, p, rfl, ha, g3⟩
              · rw [lab0] at g2; cases g2; exact .inl ⟨[l], xs, o', hrow, hL⟩
              · rw [lab1 d e q hp] at g2; exact .inl ⟨_, _, _, g3, g2⟩
              · rw [lab2 a p ha] at g2; exact .inl ⟨_, _, _, g3, g2⟩
            len := by rw [List.length_set]; exact Nat.min_le_right _ _
            boxes := fun a us ha hu => by
              have hne : a ≠ l := fun e => by subst e; rw [hr] at hu; cases hu
              exact ⟨rfl, us, by rw [List.getElem?_set_ne (Ne.symm hne)]; exact hu⟩
            kept := fun L b o hlt h => permL_ok L b o (by
              match L, hlt with
              | [], _ => rfl
              | [_], _ => rfl
              | a :: d :: q, hlt =>
                simp only [List.headD_cons] at hlt
                simp only [nst, beq_eq_false_iff_ne]; omega) h }
end
end Go.Sep

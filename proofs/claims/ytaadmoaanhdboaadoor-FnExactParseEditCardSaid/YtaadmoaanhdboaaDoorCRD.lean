import Derived.Test.YtaadmoaanhdboaaDoorCRC
import Derived.Laws.BytesString
import Derived.Sort.Grow
import Derived.Lib.Overlaps
import Derived.Lib.AppendZerosOnto
import Derived.Laws.Externs
import Derived.Laws.CopyRow
import Derived.Lib.SlicesCompact
import Derived.Lib.ItoaNum
import Derived.Lib.Join
set_option linter.unusedVariables false
set_option linter.unusedSimpArgs false
namespace Go.Sep
open Go
theorem Fz1.o_inv {l : Nat} {xs : List A} {a : A} {k : Nat} {ys : List A} (h : Fz1 l xs a (.o k ys)) : a = .o k ys := by
 generalize hb : A.o k ys = b at h
 cases h with
 | keep => rfl
 | m h1 h2 => rw [← hb] at h2; simp [fzR] at h2
 | g => cases hb
def FzRt (l : Nat) (xs : List A) : Root → Root → Prop
 | .box as, .box bs => FzLs l xs as bs
 | .row as, .row bs => as = bs
 | .dead, .dead => True
 | _, _ => False
def FzS (l : Nat) (xs : List A) : Store → Store → Prop
 | [], [] => True
 | r :: σ, r' :: σ' => FzRt l xs r r' ∧ FzS l xs σ σ'
 | _, _ => False
theorem FzS.get {l : Nat} {xs : List A} : ∀ {σ σ' : Store}, FzS l xs σ σ' → σ'.length = σ.length ∧ ∀ (j : Nat) r', σ'[j]? = some r' → ∃ r, σ[j]? = some r ∧ FzRt l xs r r'
 | [], [], _ => ⟨rfl, by simp⟩
 | [], _ :: _, h => h.elim
 | _ :: _, [], h => h.elim
 | r :: σ, r1 :: σ', ⟨h, hs⟩ => by
  obtain ⟨h1, h2⟩ := FzS.get hs
  refine ⟨by simp [h1], fun j r' hj => ?_⟩
  cases j with
  | zero => simp at hj; subst hj; exact ⟨r, rfl, h⟩
  | succ j => simpa using h2 j r' (by simpa using hj)
section
variable {F : Nat → Prop} {Λ : Lbl} {σ σ' : Store} {w : World} {l : Nat} {xs : List A}
end
section
variable {P : Program} {n m : Nat} {K : Exit → Env → Store → Prop} {N : Env → Store → Prop} {E : Env} {σ σ' κ : Store} {ops : Array Oper} {os : List Oper} {fuel : Nat} {listed : Array Bool}
end
section
variable {P : Program} {o : Oper} {E : Env} {σ : Store}
end
theorem LeA.o_inv {x : A} {k : Nat} {ys : List A} (h : LeA x (.o k ys)) : x = .o k ys := by
 cases x with
 | n => rcases h with h | ⟨k, h⟩ | ⟨L, a, k, h⟩ <;> cases h
 | g xs => obtain ⟨ys, h, _⟩ := h; cases h
 | t xs => obtain ⟨ys, h, _⟩ := h; cases h
 | _ => first | (cases h; rfl) | cases h
theorem Cell.le {F : Nat → Prop} {Λ : Lbl} {w : World} {L : List Nat} {c : Value} {x y : A} (h : LeA x y) (hc : Cell F Λ w true L c x) : Cell F Λ w true L c y := by
 rcases hc.box with rfl | ⟨k, ys, rfl⟩ | ⟨h1, h2⟩
 ·cases h; exact hc
 ·cases h; exact hc
 ·have h3 := h2.le h
  cases x with
  | n => rcases h with rfl | ⟨k, rfl⟩ | ⟨L, a, k, rfl⟩ <;> exact ⟨rfl, h3⟩
  | j => simp [A.inBox] at h1
  | o k ys => simp [A.inBox] at h1
  | g xs => simp [A.inBox] at h1
  | t xs => simp [A.inBox] at h1
  | _ => cases h; exact hc
theorem rowAt_boxle {σ : Store} {l : Nat} {xs ys : List A} (hr : σ[l]? = some (.box xs)) (hl : LeL xs ys) {h0 : Nat} {p : List Nat} {zs : List A} (hz : rowAt (σ.set l (.box ys)) (h0 :: p) = some zs) : (h0 = l ∧ p = [] ∧ zs = ys) ∨ (¬ (h0 = l ∧ p = []) ∧ rowAt σ (h0 :: p) = some zs) := by
 have hll : l < σ.length := (List.getElem?_eq_some_iff.1 hr).1
 simp only [rowAt] at hz ⊢
 by_cases e : h0 = l
 ·subst e
  rw [List.getElem?_set_self hll] at hz
  simp only [Root.cells] at hz
  cases p with
  | nil => simp only [Sep.sub, Option.some.injEq] at hz; exact .inl ⟨rfl, rfl, hz.symm⟩
  | cons j p =>
   refine .inr ⟨by simp, ?_⟩
   simp only [hr, Root.cells, Sep.sub] at hz ⊢
   obtain ⟨h1, h2⟩ := hl.get
   cases hj : ys[j]? with
   | none => rw [hj] at hz; cases hz
   | some y =>
    have hjl : j < xs.length := by have := (List.getElem?_eq_some_iff.1 hj).1; omega
    have h3 := h2 j _ y (List.getElem?_eq_getElem hjl) hj
    rw [hj] at hz
    cases y with
    | o k us =>
     have h4 := h3.o_inv
     rw [List.getElem?_eq_getElem hjl, h4]; exact hz
    | _ => cases hz
 ·rw [List.getElem?_set_ne (Ne.symm e)] at hz
  exact .inr ⟨fun h => e h.1, hz⟩
theorem isBox_boxle {σ : Store} {l : Nat} {xs ys : List A} (hr : σ[l]? = some (.box xs)) (L : List Nat) : isBox (σ.set l (.box ys)) L = isBox σ L := by
 have hll : l < σ.length := (List.getElem?_eq_some_iff.1 hr).1
 cases L with
 | nil => rfl
 | cons h p =>
  cases p with
  | cons j p => rfl
  | nil =>
   simp only [isBox]
   by_cases e : h = l
   ·subst e; rw [List.getElem?_set_self hll, hr]
   ·rw [List.getElem?_set_ne (Ne.symm e)]
theorem St.boxle {F Λ σ w} (hs : St F Λ σ w) {l : Nat} {xs ys : List A} (hr : σ[l]? = some (.box xs)) (hl : LeL xs ys) : St F Λ (σ.set l (.box ys)) w where
 row L zs hz := by
  cases L with
  | nil => simp [rowAt] at hz
  | cons h0 p =>
   rw [isBox_boxle hr]
   rcases rowAt_boxle hr hl hz with ⟨rfl, rfl, rfl⟩ | ⟨_, h1⟩
   ·have h1 : rowAt σ [h0] = some xs := by simp [rowAt, hr, Root.cells, Sep.sub]
    have hb : isBox σ [h0] = true := by simp [isBox, hr]
    obtain ⟨h2, h3⟩ := hl.get
    rcases hs.row _ _ h1 with ⟨g1, rfl⟩ | ⟨b, o, cs, t, g1, g2, g3, g4⟩
    ·exact .inl ⟨g1, List.eq_nil_of_length_eq_zero (by simpa using h2.symm)⟩
    ·refine .inr ⟨b, o, cs, t, g1, g2, g3, fun j y hj => ?_⟩
     have hjl : j < xs.length := by have := (List.getElem?_eq_some_iff.1 hj).1; omega
     obtain ⟨c, g5, g6⟩ := g4 j _ (List.getElem?_eq_getElem hjl)
     rw [hb] at g6 ⊢
     exact ⟨c, g5, g6.le (h3 j _ y (List.getElem?_eq_getElem hjl) hj)⟩
   ·exact hs.row _ _ h1
 apart L zs L' zs' b o o' h1 h2 := by
  have key : ∀ L zs, rowAt (σ.set l (.box ys)) L = some zs → ∃ zs', rowAt σ L = some zs' := fun L zs h => by
   cases L with
   | nil => simp [rowAt] at h
   | cons h0 p =>
    rcases rowAt_boxle hr hl h with ⟨rfl, rfl, rfl⟩ | ⟨_, h1⟩
    ·exact ⟨xs, by simp [rowAt, hr, Root.cells, Sep.sub]⟩
    ·exact ⟨_, h1⟩
  obtain ⟨_, k1⟩ := key _ _ h1
  obtain ⟨_, k2⟩ := key _ _ h2
  exact hs.apart _ _ _ _ _ _ _ k1 k2
 old := hs.old
 tab := hs.tab
 lab L h := hs.lab L (by simpa using h)
theorem Step.boxle {m F Λ σ w} {l : Nat} {xs ys : List A} (hr : σ[l]? = some (.box xs)) (hl : LeL xs ys) : Step m F Λ σ w F Λ (σ.set l (.box ys)) w :=
  { os := rfl, tape := rfl, output := rfl, size := Nat.le_refl _, sizes := Sizes.refl _, keep := fun _ _ _ => rfl, mono := fun _ h => h, new := fun _ h => .inl h
    own := fun b ⟨L, zs, o, g1, g2⟩ => by
      cases L with
      | nil => simp [rowAt] at g1
      | cons h0 p =>
        rcases rowAt_boxle hr hl g1 with ⟨rfl, rfl, rfl⟩ | ⟨_, h1⟩
        · exact .inl ⟨_, xs, o, by simp [rowAt, hr, Root.cells, Sep.sub], g2⟩
        · exact .inl ⟨_, _, o, h1, g2⟩
    len := by rw [List.length_set]; exact Nat.min_le_right _ _
    boxes := fun a us _ ha => by
      have hll : l < σ.length := (List.getElem?_eq_some_iff.1 hr).1
      by_cases e : a = l
      · subst e; exact ⟨rfl, ys, List.getElem?_set_self hll⟩
      · exact ⟨rfl, us, by rw [List.getElem?_set_ne (Ne.symm e)]; exact ha⟩
    kept := fun _ _ _ _ h => h }
section
variable {P : Program} {n m : Nat} {K : Exit → Env → Store → Prop} {N : Env → Store → Prop} {E : Env} {σ : Store} {ops : Array Oper} {os : List Oper}
theorem T_boxle (l : Nat) {c : Code} {xs ys : List A} (hr : σ[l]? = some (.box xs)) (hl : LeL xs ys) (h : T P n m c K E (σ.set l (.box ys))) : T P n m c K E σ := fun F Λ w tmps Q hn hs hf hq =>
 h F Λ w tmps Q hn (hs.boxle hr hl) hf fun e F' Λ' σ' w' tmps' E' hn' hs' hf' hst hN => hq e F' Λ' σ' w' tmps' E' hn' hs' hf' ((Step.boxle hr hl).trans hst) hN
end
inductive Sc2 where
  | s (a b : ByteArray)
  | i (a b : Int)
def Sc2.vx : Sc2 → Value
 | .s a _ => .string a
 | .i a _ => .int .i64 a
def Sc2.vy : Sc2 → Value
 | .s _ b => .string b
 | .i _ b => .int .i64 b
def Sc2.eq : Sc2 → Bool
 | .s a b => decide (a = b)
 | .i a b => decide (a = b)
def Sc2.str : Sc2 → Bool
 | .s _ _ => true
 | .i _ _ => false
def cmpSc : List Sc2 → Bool
 | [] => true
 | p :: ps => p.eq && cmpSc ps
structure EqS (P : Program) (t : Nat) (ks : List Bool) : Prop where
  g : P.eqGuardType P.depth t = false
  e : ∀ (ps : List Sc2) w, ps.map Sc2.str = ks → Sem.run P (Op.equalIn 10000 t (.agg (ps.map Sc2.vx).toArray) (.agg (ps.map Sc2.vy).toArray)) w = .ok (cmpSc ps) w
theorem EqS.of {P : Program} {t : Nat} {ks : List Bool} {ts : List Nat} (g : P.eqGuardType P.depth t = false) (hS : P.underlying t = some (.struct (P.fieldsOf t))) (hp : P.stoodInHeld t = false)
  (hf : ((P.fieldsOf t).toList.map fun f => (decide (f.name = "_"), f.offset, f.type)) = (List.range ts.length).map fun i => (false, i, ts.getD i 0))
  (hk : ts.length = ks.length) (hu : ∀ i, i < ts.length → P.underlying (ts.getD i 0) = some (if ks.getD i false = true then .string else .int .i64)) : EqS P t ks := by
 refine ⟨g, fun ps w hps => ?_⟩
 have hlen : ps.length = ks.length := by have := congrArg List.length hps; simpa using this
 rw [show (10000 : Nat) = 9999 + 1 from rfl, run_equalIn_agg w 9999 t _ _ hS hp]
 have key : ∀ (fs : List Field) (k : Nat), k + fs.length = ps.length → (fs.map fun f => (decide (f.name = "_"), f.offset, f.type)) = ((List.range fs.length).map fun i => (false, k + i, ts.getD (k + i) 0)) → Sem.run P (Op.eqFields 9999 (ps.map Sc2.vx).toArray (ps.map Sc2.vy).toArray fs) w = .ok (cmpSc (ps.drop k)) w := by
  intro fs
  induction fs with
  | nil => intro k hk _; simp only [List.length_nil] at hk; rw [List.drop_eq_nil_of_le (by omega)]; simp [Op.eqFields, cmpSc]
  | cons f fs ih =>
   intro k hk hfs
   simp only [List.length_cons] at hk
   rw [List.length_cons, List.range_succ_eq_map, List.map_cons, List.map_cons, List.map_map] at hfs
   simp only [List.cons.injEq, Prod.mk.injEq, decide_eq_false_iff_not] at hfs
   obtain ⟨⟨h1, h2, h3⟩, h4⟩ := hfs
   have hkl : k < ps.length := by omega
   have ih' := ih (k + 1) (by omega) (by rw [h4]; refine List.map_congr_left fun i _ => ?_; simp only [Function.comp, Nat.succ_eq_add_one]; rw [Nat.add_assoc, Nat.add_comm 1 i])
   have hu' := hu k (by omega)
   have hks : ks.getD k false = ps[k].str := by
    rw [← hps, List.getD_eq_getElem?_getD, List.getElem?_map, List.getElem?_eq_getElem hkl]; rfl
   rw [hks] at hu'
   rw [Nat.add_zero] at h2 h3
   rw [← h3] at hu'
   have hx : (ps.map Sc2.vx).toArray[k]? = some ps[k].vx := by simp [hkl]
   have hy : (ps.map Sc2.vy).toArray[k]? = some ps[k].vy := by simp [hkl]
   have hag : ∀ w, (isAgg f.type).run P w = .ok false w := fun w => by
    cases hc : ps[k].str with
    | true => rw [hc, if_pos rfl] at hu'; simp [isAgg, run_underlying hu']
    | false => rw [hc, if_neg (by decide)] at hu'; simp [isAgg, run_underlying hu']
   have he : ∀ w, (Op.equalIn 9999 f.type ps[k].vx ps[k].vy).run P w = .ok ps[k].eq w := fun w => by
    cases hc : ps[k] with
    | s a b =>
     rw [hc] at hu'
     simp only [Sc2.str, if_true] at hu'
     simp only [Sc2.vx, Sc2.vy, Sc2.eq]
     rw [show (9999 : Nat) = 9998 + 1 from rfl, run_equalIn_string w 9998 _ a b hu', beq_bytes]
    | i a b =>
     rw [hc] at hu'
     simp only [Sc2.str, Bool.false_eq_true, if_false] at hu'
     simp only [Sc2.vx, Sc2.vy, Sc2.eq]
     rw [show (9999 : Nat) = 9998 + 1 from rfl, run_equalIn_int w 9998 _ .i64 .i64 a b hu']
     exact congrArg (fun z => Result.ok z w) (Bool.eq_iff_iff.2 (by simp))
   rw [List.drop_eq_getElem_cons hkl]
   simp only [Op.eqFields, h2, cmpSc]
   have hpx : ∀ w, (part f.type (ps.map Sc2.vx).toArray k).run P w = .ok ps[k].vx w := fun w => by simp [part, hag, hkl]
   have hpy : ∀ w, (part f.type (ps.map Sc2.vy).toArray k).run P w = .ok ps[k].vy w := fun w => by simp [part, hag, hkl]
   cases hq : ps[k].eq <;> simp [hpx, hpy, he, hq, h1, ih']
 have := key (P.fieldsOf t).toList 0 (by have := congrArg List.length hf; simp only [List.length_map, List.length_range] at this; omega) (by
  rw [hf]
  have hl := congrArg List.length hf
  simp only [List.length_map, List.length_range] at hl
  rw [hl]
  refine List.map_congr_left fun i _ => ?_
  rw [Nat.zero_add])
 rw [List.drop_zero] at this
 exact this
section
variable {P : Program} {n m : Nat} {N : Env → Store → Prop} {E : Env} {σ κ : Store} {ops : Array Oper} {fuel : Nat} {listed : Array Bool}
theorem TA_have (fuel2 : Nat) (listed2 : Array Bool) (E2 : Env) (σ2 : Store) (h : TA P n m κ ops fuel2 listed2 N E2 σ2) (k : TA P n m κ ops fuel2 listed2 N E2 σ2 → TA P n m κ ops fuel listed N E σ) : TA P n m κ ops fuel listed N E σ := k h
end
def strOf (zs : List Int) : ByteArray := zs.foldl (fun r n => r.push (UInt8.ofNat n.toNat)) ByteArray.empty
theorem flat_u8 : ∀ zs : List Int, flat (tI .u8).enc zs = zs.map fun z => A.v (.int .u8 z)
 | [] => rfl
 | z :: zs => by
  have := flat_u8 zs
  show A.v (.int .u8 z) :: flat (tI .u8).enc zs = _
  rw [this]; rfl
section
variable {P : Program} {o : Oper} {E : Env} {σ : Store}
theorem run_strOf {s d e : Nat} (hs' : P.underlying s = some (.slice e)) (he : P.underlying e = some (.int .u8)) (hd : P.underlying d = some .string) (w : World) (b o' cap : Nat) (zs : List Int) (hc : ∀ j z, zs[j]? = some z → w.cell? ⟨b, o' + j, none⟩ = some (.int .u8 z)) : (convert s d (.slice (some ⟨b, o', none⟩) zs.length cap)).run P w = .ok (.string (strOf zs)) w := by
 rw [run_convert_bytes_string w s d e _ _ _ hs' he hd]
 refine run_bytesToString w _ _ _ zs ?_
 have := run_loadCells_list (P := P) w ⟨b, o', none⟩ (zs.map (Value.int .u8)) (fun j v hj => by
  rw [addr_add]
  rw [List.getElem?_map, Option.map_eq_some_iff] at hj
  obtain ⟨z, hz, rfl⟩ := hj
  exact hc j z hz)
 simpa using this
theorem run_strNil {s d e : Nat} (hs' : P.underlying s = some (.slice e)) (he : P.underlying e = some (.int .u8)) (hd : P.underlying d = some .string) (w : World) (ad : Option Addr) (cap : Nat) : (convert s d (.slice ad 0 cap)).run P w = .ok (.string (strOf [])) w := by
 rw [run_convert_bytes_string w s d e _ _ _ hs' he hd]
 cases ad with
 | none => rfl
 | some a => exact run_bytesToString w a 0 cap [] (run_loadCells_list (P := P) w a [] (fun j v hj => by simp at hj))
theorem pur_strM {s d e : Nat} {x : Operand} {L : List Nat} {zs : List Int} (hs' : P.underlying s = some (.slice e)) (he : P.underlying e = some (.int .u8)) (hd : P.underlying d = some .string) (hx : val E x = .m L 0 zs.length 1) (hr : rowAt σ L = some (flat (tI .u8).enc zs)) (h : o.op = .convert s d x) : Pur P o E σ (.v (.string (strOf zs))) := fun F Λ w tmps hs hf => by
 have e1 := val_ok (ds := []) hf x
 rw [hx] at e1
 refine ⟨_, .imm (.v _), fun w' ha => ?_⟩
 rcases e1.m_inv with ⟨h0, ad, h4⟩ | ⟨b, o', cap, hL, h5, h6, h7, cs, t', h8, h9⟩
 ·have : zs = [] := List.length_eq_zero_iff.1 h0
  subst this
  simp only [execOp, h, h4]
  simp [run_strNil hs' he hd]
 ·rw [Nat.add_zero] at h5
  simp only [execOp, h, h5]
  have := run_strOf hs' he hd w' b o' cap zs fun j z hz => by
   have hy : (flat (tI .u8).enc zs)[j]? = some (.v (.int .u8 z)) := by rw [flat_u8, List.getElem?_map, hz]; rfl
   obtain ⟨c, g3, g4⟩ := hs.cellAt hr hL hy
   rw [← ha.cell (.inr ⟨L, _, o', hr, hL⟩)] at g3
   have := g4.val.v_inv
   rw [g3, this]
  simp [this]
end
section
variable {P : Program} {n m : Nat} {N : Env → Store → Prop} {E : Env} {σ κ : Store} {ops : Array Oper} {fuel : Nat} {listed : Array Bool} {o : Oper}
end
end Go.Sep
set_option linter.unusedVariables false
set_option linter.unusedSimpArgs false
namespace Go.Sep
open Go
theorem lb {n m : Nat} (h : Nat.ble n m = true) : n ≤ m := Nat.le_of_ble_eq_true h
def pkE (E : Env) : Env → Env
 | [] => []
 | (t, _) :: E' => (t, lk E t) :: pkE E E'
theorem pkE.of {E : Env} : ∀ {E' : Env}, pkE E E' = E' → Pk E E'
 | [], _ => trivial
 | (t, a) :: E', h => by
  simp only [pkE, List.cons.injEq, Prod.mk.injEq, true_and] at h
  exact ⟨h.1, pkE.of h.2⟩
mutual
theorem ren_id {f : Nat → Nat} {p : List Nat → Bool} (hp : ∀ L, p L = false → rh f L = L) : ∀ x : A, x.names p = false → x.ren f = x
 | .m L a n k, h => by simp only [A.names] at h; simp only [A.ren, hp L h]
 | .e L a, h => by simp only [A.names] at h; simp only [A.ren, hp L h]
 | .b l a, h => by
  simp only [A.names] at h
  have := hp [l] h
  simp only [rh, List.cons.injEq, and_true] at this
  simp only [A.ren, this]
 | .g xs, h => by simp only [A.names] at h; simp only [A.ren, renL_id hp xs h]
 | .t xs, h => by simp only [A.names] at h; simp only [A.ren, renL_id hp xs h]
 | .f g xs, h => by simp only [A.names] at h; simp only [A.ren, renL_id hp xs h]
 | .o k xs, _ => rfl
 | .v x, _ => rfl
 | .n, _ => rfl
 | .i k xs, _ => rfl
 | .q xs d, _ => rfl
 | .j, _ => rfl
theorem renL_id {f : Nat → Nat} {p : List Nat → Bool} (hp : ∀ L, p L = false → rh f L = L) : ∀ xs : List A, namesL p xs = false → renL f xs = xs
 | [], _ => rfl
 | x :: xs, h => by
  simp only [namesL, Bool.or_eq_false_iff] at h
  simp only [renL, ren_id hp x h.1, renL_id hp xs h.2]
end
mutual
theorem names_mono {p q : List Nat → Bool} (hq : ∀ L, p L = true → q L = true) : ∀ x : A, x.names p = true → x.names q = true
 | .m L a n k, h => hq L h
 | .e L a, h => hq L h
 | .b l a, h => hq [l] h
 | .g xs, h => namesL_mono hq xs h
 | .t xs, h => namesL_mono hq xs h
 | .f g xs, h => namesL_mono hq xs h
 | .o k xs, h => by cases h
 | .v x, h => by cases h
 | .n, h => by cases h
 | .i k xs, h => by cases h
 | .q xs d, h => by cases h
 | .j, h => by cases h
theorem namesL_mono {p q : List Nat → Bool} (hq : ∀ L, p L = true → q L = true) : ∀ xs : List A, namesL p xs = true → namesL q xs = true
 | [], h => by cases h
 | x :: xs, h => by
  simp only [namesL, Bool.or_eq_true] at h ⊢
  exact h.imp (names_mono hq x) (namesL_mono hq xs)
end
def noNm (l l' : Nat) (σ : Store) : Bool := σ.all fun r => match r with
 | .box xs => !namesL (fun L => L.headD 0 == l || L.headD 0 == l') xs
 | _ => true
theorem mvS_noNm {l l' : Nat} {σ : Store} {zs : List A} (h : noNm l l' σ = true) (hr : σ[l']? = some (.row zs)) : mvS l l' σ = (σ.set l (.row zs)).set l' .dead := by
 have key : σ.map (mvR l l') = σ := by
  rw [List.map_congr_left (g := id), List.map_id]
  intro r hr
  simp only [noNm, List.all_eq_true] at h
  have h1 := h r hr
  cases r with
  | dead => rfl
  | row => rfl
  | box xs =>
   simp only [Bool.not_eq_true'] at h1
   have : xs.map (mvA l l') = xs := by
    rw [List.map_congr_left (g := id), List.map_id]
    intro x hx
    have h2 := namesL_false h1 x hx
    have h3 : x.names (fun L => L.headD 0 == l) = false := by
     cases h3 : x.names (fun L => L.headD 0 == l) with
     | false => rfl
     | true =>
      exfalso
      have := names_mono (q := fun L => L.headD 0 == l || L.headD 0 == l') (fun L hL => by rw [hL]; rfl) x h3
      rw [h2] at this; cases this
    simp only [mvA, h3, id]
    exact ren_id (p := fun L => L.headD 0 == l || L.headD 0 == l') (fun L hL => by
     cases L with
     | nil => rfl
     | cons h0 p0 =>
      simp only [List.headD_cons, Bool.or_eq_false_iff, beq_eq_false_iff_ne] at hL
      simp only [rh, mvH, if_neg hL.2]) x h2
   simp only [mvR, this, id]
 simp only [mvS, key, hr, Option.getD_some]
section
variable {P : Program} {n m : Nat} {K : Exit → Env → Store → Prop} {N : Env → Store → Prop} {E : Env} {σ κ : Store} {ops : Array Oper} {os : List Oper} {o : Oper} {fuel : Nat} {listed : Array Bool}
theorem Tp {os' : List Oper} {o : Oper} {r : A} (ho : os = o :: os') (hg : o.guard = none) (hp : Pur P o E σ r) (hd : dstOK n o.dst = true) (h : TO P n m ops os' N (put E o.dst r) σ) : TO P n m ops os N E σ := by
 subst ho; exact TO_cons hg (TOp_pure hp hd h)
theorem te {c : Code} (E' : Env) (hE : pkE E E' = E') (h : T P n m c K E' σ) : T P n m c K E σ := T_env (pkE.of hE) h
theorem toe (E' : Env) (hE : pkE E E' = E') (h : TO P n m ops os N E' σ) : TO P n m ops os N E σ := TO_env (pkE.of hE) h
theorem tqe (E' : Env) (hE : pkE E E' = E') (h : TQ P n m ops os N E' σ) : TQ P n m ops os N E σ := TQ_env (pkE.of hE) h
theorem tae (E' : Env) (hE : pkE E E' = E') (h : TA P n m κ ops fuel listed N E' σ) : TA P n m κ ops fuel listed N E σ := TA_env (pkE.of hE) h
theorem sr {id : Nat} {l : List Oper} {b : Code} (h : TO P n m l.toArray l ((thenK (T P n m b K) K) .normal) E σ) : T P n m (.seq (.region id l.toArray false) b) K E σ := T_seq (T_region h)
theorem tf (i : Nat) {o : Oper} {r : A} (hi : ops[i]? = some o) (hp : Pur P o E (pads κ σ.length) r) (hg : o.guard = none) (hd : dstOK n o.dst = true) (hc : (Region.noSelect ops && (Region.ready .any ops listed).contains i && Region.free .any ops listed i) = true) (h : TA P n m κ ops fuel (listed.setIfInBounds i true) N (put E o.dst r) σ) : TA P n m κ ops (fuel + 1) listed N E σ := by
 simp only [Bool.and_eq_true] at hc
 exact TA_first i _ hi hp (fun F Λ w tmps _ _ => by simp [Region.wanted, hg]) hd rfl hc.1.1 hc.1.2 hc.2 h
theorem t1 (i : Nat) {o : Oper} (hr : Region.ready .any ops listed = [i]) (hi : ops[i]? = some o) (hg : o.guard = none) (h : TOp P n m o (TA P n m κ ops fuel (listed.setIfInBounds i true) N) E σ) : TA P n m κ ops (fuel + 1) listed N E σ :=
 TA_all [i] hr (by simp) ⟨⟨o, hi, hg, h⟩, trivial⟩
theorem tmv (l l' : Nat) {zs : List A} (hne : l ≠ l') (hl : l < σ.length) (hr : σ[l']? = some (.row zs)) (hb : noBox σ l = true) (hm : m ≤ l) (h : TA P n m κ ops fuel listed N (mvE l l' E) (mvS l l' σ)) : TA P n m κ ops fuel listed N E σ :=
 TA_ghost (fun F Λ w tmps hs hf => ⟨F, _, hs.move hne hl hr, fun t => by rw [lk_mvE]; exact mvA_ok hne (hf t), Step.move hs hne hl hr hb hm⟩) h
theorem tmw (l l' : Nat) {zs : List A} (hne : l ≠ l') (hl : l < σ.length) (hr : σ[l']? = some (.row zs)) (hb : noBox σ l = true) (hm : m ≤ l) (hx : noNm l l' σ = true) (h : TA P n m κ ops fuel listed N (mvE l l' E) ((σ.set l (.row zs)).set l' .dead)) : TA P n m κ ops fuel listed N E σ :=
 tmv l l' hne hl hr hb hm (mvS_noNm hx hr ▸ h)
theorem PkL.of : ∀ {E' : Env}, Pk E E' → PkL E E'
 | [], _ => trivial
 | (_, _) :: _, h => ⟨leR h.1, PkL.of h.2⟩
theorem w0 {σ' : Store} {E' : Env} (k : Nat) (hm : m ≤ k := by exact lb rfl) (ha : ascE E' = true := by rfl) (hσ : σ' = σ.take k := by rfl) (h1 : namesE k E' = false := by rfl) (h2 : boxesE k σ' = false := by rfl) (hE : pkE E E' = E' := by rfl) : WeakL m E σ E' σ' := WeakL.to k hm ha hσ h1 h2 (PkL.of (pkE.of hE))
theorem wp {σ' : Store} {E' : Env} (k : Nat) (hm : m ≤ k) (ha : ascE E' = true) (hσ : σ' = σ.take k) (h1 : namesE k E' = false) (h2 : boxesE k σ' = false) (hE : pkE E E' = E') : WeakL m E σ E' σ' := WeakL.to k hm ha hσ h1 h2 (PkL.of (pkE.of hE))
theorem tj {listed2 : Array Bool} {E2 : Env} {σ2 : Store} (h : TA P n m κ ops fuel listed2 N E2 σ2) (hl : listed = listed2) (hw : WeakL m E σ E2 σ2) : TA P n m κ ops fuel listed N E σ := TA_listed _ hl (TA_ghost (Ghost.weak hw) h)
end
end Go.Sep
set_option linter.unusedVariables false
set_option linter.unusedSimpArgs false
namespace Go.Sep
open Go
section
variable {P : Program} {n m : Nat} {E : Env} {σ : Store} {ops : Array Oper} {fuel : Nat} {listed : Array Bool} {F : Nat → Prop} {Λ : Lbl} {w : World} {tmps : Array Value} {Q : Act → World → Prop}
end
section
variable {P : Program} {E : Env} {o : Oper} {n m : Nat} {σ : Store} {F : Nat → Prop} {Λ : Lbl} {w : World}
end
section
variable {P : Program} {n m : Nat} {E : Env} {ops : Array Oper} {os : List Oper} {F : Nat → Prop} {Λ : Lbl} {w : World} {tmps : Array Value} {Q : Exit → Act → World → Prop} {o : Oper}
end
section
variable {P : Program} {o : Oper} {w : World} {tmps : Array Value}
end
end Go.Sep
set_option linter.unusedVariables false
set_option linter.unusedSimpArgs false
namespace Go.Sep
open Go
section
variable {P : Program} {n : Nat} {F : Nat → Prop} {Λ : Lbl} {w : World} {tmps : Array Value} {Q : Act → World → Prop}
end
section
variable {P : Program} {n : Nat} {F : Nat → Prop} {Λ : Lbl} {w : World} {tmps : Array Value} {Q : Exit → Act → World → Prop} {ops : Array Oper}
end
section
variable {P : Program} {n m : Nat} {K : Exit → Env → Store → Prop} {E : Env} {σ : Store}
end
end Go.Sep
namespace Go.Sep
open Go
section
variable {P : Program} {E : Env} {σ : Store} {o : Oper}
end
end Go.Sep
set_option linter.unusedVariables false
set_option linter.unusedSimpArgs false
namespace Go.Sep
open Go
structure Tab where
  fld : List (Nat × Nat × Nat × Nat)
  one : List Nat
  agg : List (Nat × Nat)
def TabOK (P : Program) (T : Tab) : Prop := (∀ p ∈ T.fld, FldT P p.1 p.2.1 p.2.2.1 p.2.2.2) ∧ (∀ t ∈ T.one, OneT P t) ∧ ∀ p ∈ T.agg, AggT P p.1 p.2
def fldAt : List (Nat × Nat × Nat × Nat) → Nat → Nat → Option (Nat × Nat)
 | [], _, _ => none
 | (t, x, o, ft) :: l, t', x' => if t = t' ∧ x = x' then some (o, ft) else fldAt l t' x'
def aggAt : List (Nat × Nat) → Nat → Option Nat
 | [], _ => none
 | (t, k) :: l, t' => if t = t' then some k else aggAt l t'
theorem tbN {α : Type} {Q : α → Prop} : ∀ p ∈ ([] : List α), Q p := fun _ h => nomatch h
theorem tbC {α : Type} {Q : α → Prop} {a : α} {l : List α} (h : Q a) (hl : ∀ p ∈ l, Q p) : ∀ p ∈ a :: l, Q p := List.forall_mem_cons.2 ⟨h, hl⟩
theorem fldAt_mem : ∀ {l : List (Nat × Nat × Nat × Nat)} {t x o ft}, fldAt l t x = some (o, ft) → (t, x, o, ft) ∈ l
 | (t, x, o, ft) :: l, t', x', o', ft', h => by
  simp only [fldAt] at h
  split at h
  ·rename_i e
   obtain ⟨rfl, rfl⟩ := e
   cases h; exact List.mem_cons_self ..
  ·exact List.mem_cons_of_mem _ (fldAt_mem h)
theorem aggAt_mem : ∀ {l : List (Nat × Nat)} {t k}, aggAt l t = some k → (t, k) ∈ l
 | (t, k) :: l, t', k', h => by
  simp only [aggAt] at h
  split at h
  ·rename_i e
   subst e
   cases h; exact List.mem_cons_self ..
  ·exact List.mem_cons_of_mem _ (aggAt_mem h)
def asB : A → Option Bool
 | .v (.bool b) => some b
 | _ => none
def asI : A → Option (IntKind × Int)
 | .v (.int k z) => some (k, z)
 | _ => none
def asT : A → Option (List A)
 | .t xs => some xs
 | _ => none
def asG : A → Option (List A)
 | .g xs => some xs
 | _ => none
theorem asB_of {x : A} {b} (h : asB x = some b) : x = .v (.bool b) := by
 unfold asB at h; split at h <;> cases h; rfl
theorem asI_of {x : A} {b} (h : asI x = some b) : x = .v (.int b.1 b.2) := by
 unfold asI at h; split at h <;> cases h; rfl
theorem asT_of {x : A} {b} (h : asT x = some b) : x = .t b := by
 unfold asT at h; split at h <;> cases h; rfl
theorem asG_of {x : A} {b} (h : asG x = some b) : x = .g b := by
 unfold asG at h; split at h <;> cases h; rfl
def arith (op : BinOp) (k : IntKind) (a b : Int) : Option A := match op with
 | .add => some (.v (.int k (k.wrap (a + b))))
 | .sub => some (.v (.int k (k.wrap (a - b))))
 | .mul => some (.v (.int k (k.wrap (a * b))))
 | .lss => some (.v (.bool (decide (a < b))))
 | .leq => some (.v (.bool (decide (a ≤ b))))
 | .gtr => some (.v (.bool (decide (b < a))))
 | .geq => some (.v (.bool (decide (b ≤ a))))
 | .eql => some (.v (.bool (decide (a = b))))
 | .neq => some (.v (.bool (decide (a ≠ b))))
 | _ => none
def addrA (off : Nat) : A → Option A
 | .b l a => some (.b l (a + off))
 | .q xs d => some (.q xs (d + off))
 | .e L a => some (.e L (a + off))
 | _ => none
def loadA (T : Tab) (σ : Store) (t : Nat) : A → Option A
 | .b l d => match rowAt σ [l] with
  | some xs => if T.one.contains t = true then (xs[d]?).map (cellVal [l, d]) else (aggAt T.agg t).bind fun k => if d + k ≤ xs.length then some (.g (cellVals [l] d ((xs.drop d).take k))) else none
  | none => none
 | .q xs d => if T.one.contains t = true then xs[d]? else (aggAt T.agg t).bind fun k => if d + k ≤ xs.length then some (.g ((xs.drop d).take k)) else none
 | _ => none
def pv1 (T : Tab) (E : Env) (σ : Store) : Op → Option A
 | .move x => some (val E x)
 | .assign x => some (val E x)
 | .extract x i => (asT (val E x)).bind fun xs => xs[i]?
 | .pick c a b => (asB (val E c)).bind fun t => some (if t then val E a else val E b)
 | .unOp .not _ x => (asB (val E x)).bind fun b => some (.v (.bool (!b)))
 | .binOp op _ x y _ => (asI (val E x)).bind fun p => (asI (val E y)).bind fun q => if p.1 = q.1 then arith op p.1 p.2 q.2 else none
 | .makeFunc (.func fn) f cs => match f.toList with
  | [] => some (.f fn (cs.toList.map (val E)))
  | _ => none
 | .fieldAddr t x f => (fldAt T.fld t f).bind fun p => addrA p.1 (val E x)
 | .field t x f => (fldAt T.fld t f).bind fun p => if T.one.contains p.2 = true then (asG (val E x)).bind fun xs => xs[p.1]? else none
 | .load t x => loadA T σ t (val E x)
 | _ => none
theorem pv1_ok {P : Program} {T : Tab} (hT : TabOK P T) {E : Env} {σ : Store} {o : Oper} {op : Op} (ho : o.op = op) {r : A} (h : pv1 T E σ op = some r) : Pur P o E σ r := by
 obtain ⟨hF, hO, hG⟩ := hT
 unfold pv1 at h
 split at h
 ·cases h; exact pur_move ho
 ·cases h; exact pur_assign ho
 ·simp only [Option.bind_eq_some_iff] at h
  obtain ⟨xs, h1, h2⟩ := h
  exact pur_extract (asT_of h1) h2 ho
 ·simp only [Option.bind_eq_some_iff] at h
  obtain ⟨t, h1, h2⟩ := h
  exact pur_pick ho (asB_of h1) (Option.some.inj h2)
 ·simp only [Option.bind_eq_some_iff] at h
  obtain ⟨t, h1, h2⟩ := h
  cases h2
  exact pur_not ho (asB_of h1)
 ·simp only [Option.bind_eq_some_iff] at h
  obtain ⟨p, h1, q, h2, h3⟩ := h
  obtain ⟨k, a⟩ := p
  obtain ⟨k', b⟩ := q
  split at h3
  ·rename_i e
   simp only at e
   subst e
   have h1 := asI_of h1
   have h2 := asI_of h2
   unfold arith at h3
   split at h3 <;> cases h3
   ·exact pur_wadd ho h1 h2
   ·exact pur_wsub ho h1 h2
   ·exact pur_wmul ho h1 h2
   ·exact pur_lss ho h1 h2
   ·exact pur_leq ho h1 h2
   ·exact pur_gtr ho h1 h2
   ·exact pur_geq ho h1 h2
   ·exact pur_eql ho h1 h2
   ·exact pur_neq ho h1 h2
  ·cases h3
 ·rename_i fn f cs
  split at h
  ·rename_i hf
   cases h
   have : f = #[] := by cases f; simpa using hf
   subst this
   exact pur_makeFunc (cs := cs.toList) (by rw [ho])
  ·cases h
 ·simp only [Option.bind_eq_some_iff] at h
  obtain ⟨p, h1, h2⟩ := h
  have h1 := hF _ (fldAt_mem h1)
  unfold addrA at h2
  split at h2 <;> cases h2
  ·exact pur_fa_b h1 ‹_› ho
  ·exact pur_fa_q h1 ‹_› ho
  ·exact pur_fa_e h1 ‹_› ho
 ·simp only [Option.bind_eq_some_iff] at h
  obtain ⟨p, h1, h2⟩ := h
  split at h2
  ·rename_i h3
   simp only [Option.bind_eq_some_iff] at h2
   obtain ⟨xs, h4, h5⟩ := h2
   exact pur_field1 (hF _ (fldAt_mem h1)) (hO _ (by simpa using h3)) (asG_of h4) h5 ho
  ·cases h2
 ·unfold loadA at h
  split at h
  ·split at h
   ·rename_i xs hr
    split at h
    ·rename_i h3
     simp only [Option.map_eq_some_iff] at h
     obtain ⟨y, h4, rfl⟩ := h
     exact pur_ld_b (hO _ (by simpa using h3)) ‹_› hr h4 ho
    ·simp only [Option.bind_eq_some_iff] at h
     obtain ⟨k, h4, h5⟩ := h
     split at h5
     ·rename_i h6
      cases h5
      exact pur_ldK_b (hG _ (aggAt_mem h4)) ‹_› hr h6 ho
     ·cases h5
   ·cases h
  ·split at h
   ·rename_i h3
    exact pur_ld_q (hO _ (by simpa using h3)) ‹_› h ho
   ·simp only [Option.bind_eq_some_iff] at h
    obtain ⟨k, h4, h5⟩ := h
    split at h5
    ·rename_i h6
     cases h5
     exact pur_ldK_q (hG _ (aggAt_mem h4)) ‹_› h6 ho
    ·cases h5
  ·cases h
 ·cases h
def pvG (T : Tab) (n : Nat) (ops : Array Oper) (E : Env) (σ : Store) (o : Oper) : Option A := match o.guard with
 | none => pv1 T E σ o.op
 | some (j, want) => ((ops[j]?).bind (·.dst)).bind fun d => if d < n then (match lk E d with
  | .v (.bool b) => if b = want then pv1 T E σ o.op else some (.v undef)
  | .v x => if offB want x = true then some (.v undef) else none
  | _ => none) else none
inductive PvG (P : Program) (n : Nat) (ops : Array Oper) (E : Env) (σ : Store) (o : Oper) : A → Prop
  | free {r} : o.guard = none → Pur P o E σ r → PvG P n ops E σ o r
  | on {j d want r} : o.guard = some (j, want) → (ops[j]?).bind (·.dst) = some d → d < n → lk E d = .v (.bool want) → Pur P o E σ r → PvG P n ops E σ o r
  | off {j d want v0} : o.guard = some (j, want) → (ops[j]?).bind (·.dst) = some d → d < n → lk E d = .v v0 → offB want v0 = true → PvG P n ops E σ o (.v undef)
theorem pvG_ok {P : Program} {T : Tab} (hT : TabOK P T) {n : Nat} {ops : Array Oper} {E : Env} {σ : Store} {o : Oper} {r : A} (h : pvG T n ops E σ o = some r) : PvG P n ops E σ o r := by
 unfold pvG at h
 split at h
 ·rename_i hg; exact .free hg (pv1_ok hT rfl h)
 ·rename_i j want hg
  simp only [Option.bind_eq_some_iff] at h
  obtain ⟨d, hd, h⟩ := h
  split at h
  ·rename_i hdn
   split at h
   ·rename_i b hl
    split at h
    ·rename_i e; subst e; exact .on hg (by simpa [Option.bind_eq_some_iff] using hd) hdn hl (pv1_ok hT rfl h)
    ·rename_i e; cases h
     exact .off hg (by simpa [Option.bind_eq_some_iff] using hd) hdn hl (by simpa [offB] using e)
   ·rename_i x _ hl
    split at h
    ·rename_i ho; cases h; exact .off hg (by simpa [Option.bind_eq_some_iff] using hd) hdn hl ho
    ·cases h
   ·cases h
  ·cases h
def pvs (T : Tab) (n : Nat) (ops : Array Oper) (σ : Store) : Nat → List Oper → Env → Option (List Oper × Env)
 | 0, os, E => some (os, E)
 | k + 1, o :: os, E => (pvG T n ops E σ o).bind fun r => if dstOK n o.dst = true then pvs T n ops σ k os (put E o.dst r) else none
 | _ + 1, [], _ => none
section
variable {P : Program} {T : Tab} {n m : Nat} {N : Env → Store → Prop} {E : Env} {σ κ : Store} {ops : Array Oper} {os : List Oper} {o : Oper} {fuel : Nat} {listed : Array Bool}
theorem pv (hT : TabOK P T) : ∀ (k : Nat) {os : List Oper} {E : Env} {os' : List Oper} {E' : Env}, pvs T n ops σ k os E = some (os', E') → TO P n m ops os' N E' σ → TO P n m ops os N E σ
 | 0, _, _, _, _, h, H => by cases h; exact H
 | k + 1, o :: os, E, os', E', h, H => by
  simp only [pvs, Option.bind_eq_some_iff] at h
  obtain ⟨r, h1, h2⟩ := h
  split at h2
  ·rename_i hd
   have H := pv hT k h2 H
   cases pvG_ok hT h1 with
   | free hg hp => exact TO_cons hg (TOp_pure hp hd H)
   | on hg hj hdn hl hp => exact TO_on hg hj hdn hl hd (TOp_pure hp hd H)
   | off hg hj hdn hl ho => exact TO_off hg hj hdn hl ho hd H
  ·cases h2
 | _ + 1, [], _, _, _, h, _ => by cases h
theorem pq (hT : TabOK P T) : ∀ (k : Nat) {os : List Oper} {E : Env} {os' : List Oper} {E' : Env}, pvs T n ops σ k os E = some (os', E') → TQ P n m ops os' N E' σ → TQ P n m ops os N E σ
 | 0, _, _, _, _, h, H => by cases h; exact H
 | k + 1, o :: os, E, os', E', h, H => by
  simp only [pvs, Option.bind_eq_some_iff] at h
  obtain ⟨r, h1, h2⟩ := h
  split at h2
  ·rename_i hd
   have H := pq hT k h2 H
   cases pvG_ok hT h1 with
   | free hg hp => exact TQ_pure hg hp hd H
   | on hg hj hdn hl hp => exact TQ_on hg hj hdn hl hp hd H
   | off hg hj hdn hl ho => exact TQ_off hg hj hdn hl ho hd H
  ·cases h2
 | _ + 1, [], _, _, _, h, _ => by cases h
def pvA (T : Tab) (n : Nat) (ops : Array Oper) (σ : Store) : List Nat → Env → Option Env
 | [], E => some E
 | i :: is, E => (ops[i]?).bind fun o => (pvG T n ops E σ o).bind fun r => if dstOK n o.dst = true then pvA T n ops σ is (put E o.dst r) else none
def pvOK (ops : Array Oper) : List Nat → Array Bool → Bool
 | [], _ => true
 | i :: is, l => Region.noSelect ops && (Region.ready .any ops l).contains i && Region.free .any ops l i && pvOK ops is (l.setIfInBounds i true)
def pvL : List Nat → Array Bool → Array Bool
 | [], l => l
 | i :: is, l => pvL is (l.setIfInBounds i true)
theorem pa (hT : TabOK P T) : ∀ (is : List Nat) (f : Nat) {fuel : Nat} {listed : Array Bool} {E : Env} {E' : Env}, fuel = f + is.length → pvOK ops is listed = true → pvA T n ops (pads κ σ.length) is E = some E' → TA P n m κ ops f (pvL is listed) N E' σ → TA P n m κ ops fuel listed N E σ
 | [], f, fuel, l, E, E', hf, hc, h, H => by cases h; subst hf; exact H
 | i :: is, f, fuel, l, E, E', hf, hc, h, H => by
  simp only [pvA, Option.bind_eq_some_iff] at h
  obtain ⟨o, hi, r, h1, h2⟩ := h
  simp only [pvOK, Bool.and_eq_true] at hc
  obtain ⟨⟨⟨c1, c2⟩, c3⟩, c4⟩ := hc
  split at h2
  ·rename_i hd
   have H := pa hT is f (fuel := f + is.length) rfl c4 h2 H
   have hf : fuel = f + is.length + 1 := by rw [hf]; simp; omega
   subst hf
   cases pvG_ok hT h1 with
   | free hg hp => exact TA_first i _ hi hp (fun F Λ w tmps _ _ => by simp [Region.wanted, hg]) hd rfl c1 c2 c3 H
   | on hg hj hdn hl hp => exact TA_first i _ hi hp (fun F Λ w tmps hn hf => by simp [Region.wanted, hg, yielded_of hf hn hj hdn hl]) hd rfl c1 c2 c3 H
   | off hg hj hdn hl ho => exact TA_off i _ hi hg hj hdn hl ho hd rfl c1 c2 c3 H
  ·cases h2
end
end Go.Sep
set_option linter.unusedVariables false
set_option linter.unusedSimpArgs false
namespace Go.Sep
open Go
section
variable {F : Nat → Prop} {Λ : Lbl} {σ : Store} {w w' : World} {l : Nat} {xs ys : List A} {π : Nat → Option Nat}
end
theorem Cell.oneO {F : Nat → Prop} {Λ : Lbl} {w : World} {L : List Nat} {c : Value} {x : A} (h : Cell F Λ w false L c x) (hx : Go.Sep.ownR x = true) : c.oneCell' = true := by
 refine oneCell_sc ?_
 cases x with
 | v x =>
  have h1 := (h.2 : OK F Λ w c (.v x)).v_inv
  subst h1; simpa [Go.Sep.ownR] using hx
 | n =>
  obtain ⟨ad, h1⟩ := (h.2 : OK F Λ w c .n).n_inv
  subst h1; rfl
 | o k ys =>
  obtain ⟨_, _, n, _, h1⟩ := h
  rcases h1 with ⟨_, ad, h1⟩ | ⟨b, o, cap, _, h1, _⟩ <;> subst h1 <;> rfl
 | _ => simp [Go.Sep.ownR] at hx
section
variable {P : Program} {n m : Nat} {K : Exit → Env → Store → Prop} {E : Env} {σ : Store}
end
end Go.Sep
set_option linter.unusedVariables false
set_option linter.unusedSimpArgs false
namespace Go.Sep
open Go
section
variable {F : Nat → Prop} {Λ : Lbl} {σ : Store} {w : World} {s j : Nat} {xs : List A} {x : A}
end
section
variable {P : Program} {n m : Nat} {K : Exit → Env → Store → Prop} {E : Env} {σ : Store}
end
end Go.Sep
namespace Go.Sep
open Go
end Go.Sep
set_option linter.unusedVariables false
set_option linter.unusedSimpArgs false
namespace Go.Sep
open Go
theorem flat_int_get (zs : List Int) (j : Nat) : (flat tInt.enc zs)[j]? = (zs[j]?).map intA := by
 induction zs generalizing j with
 | nil => rfl
 | cons z zs ih =>
  have e : flat tInt.enc (z :: zs) = intA z :: flat tInt.enc zs := rfl
  rw [e]
  cases j with
  | zero => rfl
  | succ j => simp only [List.getElem?_cons_succ]; exact ih j
theorem St.holds {F Λ σ w} (hs : St F Λ σ w) {l : Nat} {zs : List Int} (hr : σ[l]? = some (.row (flat tInt.enc zs))) {v : Value} (hv : OK F Λ w v (.m [l] 0 zs.length 1)) :
  (zs = [] ∧ ∃ ad, v = .slice ad 0 0) ∨ ∃ b o cap cs t, Λ [l] = some (b, o) ∧ v = .slice (some ⟨b, o, none⟩) zs.length cap ∧ zs.length ≤ cap ∧ b < w.heap.size ∧ w.heap[b]? = some (.cells cs t (0, 0)) ∧ o + zs.length ≤ cs.size ∧ Sort.Holds (Value.int .i64) w b o zs.toArray := by
 rcases hv.m_inv with ⟨h0, ad, h1⟩ | ⟨b, o, cap, hL, h1, h2, h3, cs, t, h4, h5⟩
 ·exact .inl ⟨List.eq_nil_of_length_eq_zero h0, ad, h1⟩
 ·have hrow : rowAt σ [l] = some (flat tInt.enc zs) := by simp only [rowAt, hr, Root.cells, Go.Sep.sub]
  refine .inr ⟨b, o, cap, cs, t, hL, by rw [Nat.add_zero] at h1; exact h1, h2, (Array.getElem?_eq_some_iff.1 h4).1, h4, by omega, fun j hj => ?_⟩
  have hj' : j < zs.length := by simpa using hj
  obtain ⟨c, g1, g2⟩ := hs.cellAt hrow hL (d := j) (y := intA zs[j]) (by rw [flat_int_get, List.getElem?_eq_getElem hj']; rfl)
  have g3 : c = .int .i64 zs[j] := (g2.2 : OK F Λ w c (intA zs[j])).v_inv
  refine ⟨?_, by simp [World.frozen?, h4]⟩
  rw [g1, g3, getElem!_pos _ j hj]
  simp
end Go.Sep
set_option linter.unusedVariables false
set_option linter.unusedSimpArgs false
namespace Go.Sep
open Go
section
variable {F : Nat → Prop} {Λ : Lbl} {σ : Store} {w w' : World} {l r : Nat} {xs zs ys : List A} {π : Nat → Option (Nat × Nat)}
end
def RowCells (F : Nat → Prop) (Λ : Lbl) (w : World) (l : Nat) (xs : List A) (xc : List Value) : Prop := xc.length = xs.length ∧ ∀ (d : Nat) y, xs[d]? = some y → ∃ c, xc[d]? = some c ∧ Cell F Λ w false [l, d] c y
theorem RowCells.one {α : Type} {Y : Ty α} {F : Nat → Prop} {Λ : Lbl} {w : World} {l : Nat} {xs : List α} {xc : List Value} (h : RowCells F Λ w l (flat Y.own xs) xc) : ∀ u ∈ xc, u.oneCell' = true := fun u hu => by
 obtain ⟨q, hq⟩ := List.getElem?_of_mem hu
 have hd : q < (flat Y.own xs).length := by have := (List.getElem?_eq_some_iff.1 hq).1; rw [← h.1]; exact this
 obtain ⟨u', k1, k2⟩ := h.2 _ _ (List.getElem?_eq_getElem hd)
 rw [hq] at k1
 cases k1
 exact k2.oneO (ownRL_mem (flat_ownR Y xs) _ (List.getElem_mem hd))
theorem RowCells.nil {F : Nat → Prop} {Λ : Lbl} {w : World} {l : Nat} : RowCells F Λ w l [] [] := ⟨rfl, fun d y h => by simp at h⟩
section
variable {P : Program} {E : Env} {o : Oper}
end
section
variable {P : Program} {o : Oper} {w : World} {tmps : Array Value}
end
theorem FrOK.one {F F' : Nat → Prop} {Λ Λ' : Lbl} {w w' : World} {tmps : Array Value} {k : Nat} {x : Value} {a : A} (h : FrOK F Λ w tmps [(k, .v x)]) (hx : OK F' Λ' w' x a) : FrOK F' Λ' w' tmps [(k, a)] := fun u => by
 have hu := h u
 simp only [lk] at hu ⊢
 split at hu
 ·rename_i eq
  rw [if_pos eq, hu.v_inv]
  exact hx
 ·rename_i eq
  rw [if_neg eq]
  exact .j _
theorem Sizes.one {w w' : World} {b : Nat} {cs cs' : Array Value} {te : TypeId} (hb : w.heap[b]? = some (.cells cs te (0, 0))) (hb' : w'.heap[b]? = some (.cells cs' te (0, 0))) (hsz : cs'.size = cs.size) (h : ∀ b1, b1 ≠ b → w'.heap[b1]? = w.heap[b1]?) : Sizes w w' := fun b1 cs1 t h1 => by
 by_cases e : b1 = b
 ·subst e
  rw [hb] at h1
  cases h1
  exact ⟨cs', hb', hsz⟩
 ·exact ⟨cs1, by rw [h b1 e]; exact h1, rfl⟩
end Go.Sep
set_option linter.unusedVariables false
set_option linter.unusedSimpArgs false
namespace Go.Sep
open Go
section
variable {P : Program} {n m : Nat} {N : Env → Store → Prop} {E : Env} {σ : Store} {o : Oper}
end
end Go.Sep
set_option linter.unusedVariables false
set_option linter.unusedSimpArgs false
namespace Go.Sep
open Go
section
variable {P : Program} {n m : Nat} {N : Env → Store → Prop} {E : Env} {σ : Store} {o : Oper}
end
end Go.Sep
set_option linter.unusedVariables false
set_option linter.unusedSimpArgs false
namespace Go.Sep
open Go
section
variable {F : Nat → Prop} {Λ : Lbl} {σ : Store} {w : World} {s : Nat} {xs : List A}
end
mutual
inductive DtA (s j q : Nat) : A → A → Prop
  | r (x) : DtA s j q x x
  | m (a n k) : DtA s j q (.m [s, j] a n k) (.m [q] a n k)
  | g {xs ys} : DtL s j q xs ys → DtA s j q (.g xs) (.g ys)
inductive DtL (s j q : Nat) : List A → List A → Prop
  | nil : DtL s j q [] []
  | cons {x y xs ys} : DtA s j q x y → DtL s j q xs ys → DtL s j q (x :: xs) (y :: ys)
end
theorem DtL.get {s j q : Nat} : ∀ {xs ys : List A}, DtL s j q xs ys → xs.length = ys.length ∧ ∀ (i : Nat) y, ys[i]? = some y → ∃ x, xs[i]? = some x ∧ DtA s j q x y
 | _, _, .nil => ⟨rfl, fun i y h => by simp at h⟩
 | _, _, .cons h hs => by
  obtain ⟨h1, h2⟩ := DtL.get hs
  refine ⟨by simp [h1], fun i y hi => ?_⟩
  cases i with
  | zero => simp at hi; subst hi; exact ⟨_, rfl, h⟩
  | succ i => simpa using h2 i y (by simpa using hi)
section
variable {P : Program} {n m : Nat} {K : Exit → Env → Store → Prop} {N : Env → Store → Prop} {E : Env} {σ : Store} {ops : Array Oper} {os : List Oper}
end
section
variable {P : Program} {E : Env} {σ : Store} {o : Oper}
end
end Go.Sep
set_option linter.unusedVariables false
set_option linter.unusedSimpArgs false
namespace Go.Sep
open Go
section
variable {P : Program} {E : Env} {σ : Store} {o : Oper}
end
section
variable {F : Nat → Prop} {Λ : Lbl} {σ : Store} {w : World} {s : Nat} {xs : List A}
end
end Go.Sep
set_option linter.unusedVariables false
set_option linter.unusedSimpArgs false
namespace Go.Sep
open Go
end Go.Sep
set_option linter.unusedVariables false
set_option linter.unusedSimpArgs false
namespace Go.Sep
open Go
section
variable {P : Program} {n m : Nat} {N : Env → Store → Prop} {E : Env} {σ : Store} {o : Oper}
end
end Go.Sep
set_option linter.unusedVariables false
set_option linter.unusedSimpArgs false
namespace Go.Sep
open Go
theorem below_grown (w : World) (n : Nat) (os : Array Obj) : Go.RowKit.Below w.heap.size w (Sort.grow (w.drewN n) os) :=
 ⟨rfl, rfl, rfl, by simp [Sort.grow, World.drewN], fun k hk => by
  show (w.heap ++ os)[k]? = w.heap[k]?
  exact Array.getElem?_append_left hk⟩
theorem St.below {F : Nat → Prop} {Λ : Lbl} {w w' : World} (hs : St F Λ [] w) (h : Go.RowKit.Below w.heap.size w w') : St F (fun _ => none) [] w' ∧ Step 0 F Λ [] w F (fun _ => none) [] w' := by
  obtain ⟨h1, h2, h3, h4, h5⟩ := h
  refine ⟨⟨fun L xs h => by cases L <;> simp [rowAt] at h, fun L xs _ _ _ _ _ h => by cases L <;> simp [rowAt] at h, fun b hb => Nat.lt_of_lt_of_le (hs.old b hb) h4, hs.tab.mono fun b hb => ⟨hb, h5 b (hs.old b hb)⟩, fun _ _ => rfl⟩, ?_⟩
  exact { os := h1, tape := h2, output := h3, size := h4
          sizes := fun b cs t hb => ⟨cs, by rw [h5 b (Array.getElem?_eq_some_iff.1 hb).1]; exact hb, rfl⟩
          keep := fun b hb _ => h5 b hb, mono := fun _ h => h, new := fun _ h => .inl h
          own := fun b ⟨L, xs, o, h, _⟩ => by cases L <;> simp [rowAt] at h
          len := Nat.min_le_right _ _, boxes := fun l xs hl _ => absurd hl (Nat.not_lt_zero _), kept := fun L b o hl _ => absurd hl (Nat.not_lt_zero _) }
theorem FnV.ofCalls {P : Program} {f : Nat} (xs : List Value) {r : Value} (h : ∀ w : World, (∀ t ∈ tables, ∃ te fr, w.heap[t.1]? = some (.cells t.2 te fr)) → Calls P f xs.toArray w fun e w' => e = .returned r ∧ Go.RowKit.Below w.heap.size w w') : FnV P f (xs.map A.v) (.v r) := fun F Λ w vs R hs ha hr => by
 obtain ⟨hvl, hvs⟩ := ha
 have e : vs = xs := by
  refine List.ext_getElem? fun j => ?_
  rcases Nat.lt_or_ge j xs.length with hj | hj
  ·have hjv : j < vs.length := by rw [hvl]; simpa using hj
   have := hvs j (.v xs[j]) vs[j] (by simp [hj]) (List.getElem?_eq_getElem hjv)
   rw [List.getElem?_eq_getElem hj, List.getElem?_eq_getElem hjv, this.v_inv]
  ·rw [List.getElem?_eq_none hj, List.getElem?_eq_none (by rw [hvl]; simpa using hj)]
 subst e
 refine (h w fun t ht => (hs.tab t ht).2).mono fun e w' ⟨he, hb⟩ => ?_
 subst he
 obtain ⟨h1, h2⟩ := hs.below hb
 exact hr F _ [] w' r (.v r) h1 h2 (.imm (.v _)) ⟨rfl, rfl⟩
theorem FnV.ofStrs {P : Program} {f : Nat} {xs : List ByteArray} {sep : ByteArray} {r : Value} (h0 : xs = [] → ∀ (ad : Option Addr) (c : Nat) (w : World), Calls P f #[.slice ad 0 c, .string sep] w fun e w' => e = .returned r ∧ Go.RowKit.Below w.heap.size w w')
  (h1 : ∀ (b o c : Nat) (w : World), (∀ (j : Nat) x, xs[j]? = some x → w.cell? ⟨b, o + j, none⟩ = some (.string x)) → b < w.heap.size → xs.length ≤ c → Calls P f #[.slice (some ⟨b, o, none⟩) xs.length c, .string sep] w fun e w' => e = .returned r ∧ Go.RowKit.Below w.heap.size w w') :
  FnV P f [sl tStr xs, strA sep] (.v r) := fun F Λ w vs R hs ha hr => by
 obtain ⟨hvl, hvs⟩ := ha
 obtain ⟨u, v, rfl⟩ : ∃ u v, vs = [u, v] := by
  match vs, hvl with
  | [u, v], _ => exact ⟨u, v, rfl⟩
 have hv := (hvs 1 _ v rfl rfl).v_inv
 subst hv
 have key : Calls P f #[u, .string sep] w fun e w' => e = .returned r ∧ Go.RowKit.Below w.heap.size w w' := by
  rcases (hvs 0 _ u rfl rfl).i_inv2 tStr.pos (flat_len tStr.len xs) with ⟨e0, _, ad, cap, rfl⟩ | ⟨b, o, cap, cs, _, hc, _, rfl, hb, hcl, hi⟩
  ·exact h0 (List.eq_nil_of_length_eq_zero e0) ad cap w
  ·refine h1 b o cap w (fun j x hj => ?_) (hs.old b hb) hc
   have hx : (flat tStr.enc xs)[j]? = some (strA x) := by
    have : ∀ zs : List ByteArray, flat (fun z => [strA z]) zs = zs.map strA := fun zs => by
     induction zs with
     | nil => rfl
     | cons z zs ih => simp only [flat, List.cons_append, List.nil_append, List.map_cons, ih]
    rw [show flat tStr.enc xs = xs.map strA from this xs, List.getElem?_map, hj]; rfl
   have h3 := hcl j _ hx
   rw [(OK.imm (Λ := Λ) (hi j _ hx)).v_inv] at h3
   exact h3
 refine key.mono fun e w' ⟨he, hb⟩ => ?_
 subst he
 obtain ⟨h1, h2⟩ := hs.below hb
 exact hr F _ [] w' r (.v r) h1 h2 (.imm (.v _)) ⟨rfl, rfl⟩
end Go.Sep

/- Regions that draw their order and write: whatever the order, the state is that of the operations which have come up. -/
import Derived.Test.YtlcpdlngbofgcaaCU
set_option linter.unusedVariables false
set_option linter.unusedSimpArgs false
namespace Go.Sep
open Go

/-- The same world, seen otherwise. -/
def Ghost (m : Nat) (E : Env) (σ : Store) (E' : Env) (σ' : Store) : Prop := ∀ F Λ w tmps, St F Λ σ w → FrOK F Λ w tmps E → ∃ F' Λ', St F' Λ' σ' w ∧ FrOK F' Λ' w tmps E' ∧ Step m F Λ σ w F' Λ' σ' w
theorem Ghost.weak {m E σ E' σ'} (h : WeakL m E σ E' σ') : Ghost m E σ E' σ' := fun F Λ w tmps hs hf => ⟨F, h.go hs hf⟩
theorem Ghost.trans {m E σ E1 σ1 E2 σ2} (h : Ghost m E σ E1 σ1) (h' : Ghost m E1 σ1 E2 σ2) : Ghost m E σ E2 σ2 := fun F Λ w tmps hs hf => by
  obtain ⟨F1, Λ1, h1, h2, h3⟩ := h F Λ w tmps hs hf
  obtain ⟨F2, Λ2, g1, g2, g3⟩ := h' F1 Λ1 w tmps h1 h2
  exact ⟨F2, Λ2, g1, g2, h3.trans g3⟩
theorem Ghost.move {m E σ E' σ'} (l l' : Nat) {zs} (hne : l ≠ l') (hl : l < σ.length) (hr : σ[l']? = some (.row zs)) (hb : noBox σ l = true) (hm : m ≤ l) (h : Ghost m (mvE l l' E) (mvS l l' σ) E' σ') : Ghost m E σ E' σ' :=
  Ghost.trans (fun F Λ w tmps hs hf => ⟨F, _, hs.move hne hl hr, fun t => by rw [lk_mvE]; exact mvA_ok hne (hf t), Step.move hs hne hl hr hb hm⟩) h
theorem rowAt_pad {σ : Store} {L xs} (h : rowAt (σ ++ [.dead]) L = some xs) : L.headD 0 < σ.length ∧ rowAt σ L = some xs := by
  rcases rowAt_push h with h | ⟨p, ys, rfl, h1, h2⟩
  · exact h
  · cases h1
theorem St.pad {F Λ σ w} (hs : St F Λ σ w) : St F Λ (σ ++ [.dead]) w where
  row L xs h := by
    obtain ⟨h1, h2⟩ := rowAt_pad h
    rw [isBox_push h1]; exact hs.row L xs h2
  apart L xs L' xs' b o o' h1 h2 := hs.apart _ _ _ _ _ _ _ (rowAt_pad h1).2 (rowAt_pad h2).2
  old := hs.old
  lab L h := hs.lab L (Nat.le_trans (by simp) h)
theorem Step.pad {m F Λ σ w} : Step m F Λ σ w F Λ (σ ++ [.dead]) w :=
  { os := rfl, tape := rfl, output := rfl, size := Nat.le_refl _, sizes := Sizes.refl _, keep := fun _ _ _ => rfl, mono := fun _ h => h, new := fun _ h => .inl h
    own := fun b ⟨L, xs, o, h1, h2⟩ => .inl ⟨L, xs, o, (rowAt_pad h1).2, h2⟩
    len := by simp; omega
    boxes := fun a us ha hu => ⟨rfl, us, by rw [List.getElem?_append_left (List.getElem?_eq_some_iff.1 hu).1]; exact hu⟩
    kept := fun _ _ _ _ h => h }
theorem Ghost.pad {m E σ E' σ'} (h : Ghost m E (σ ++ [.dead]) E' σ') : Ghost m E σ E' σ' :=
  Ghost.trans (fun F Λ w tmps hs hf => ⟨F, Λ, hs.pad, hf, Step.pad⟩) h
theorem Ghost.at' {m E σ E1 σ1 E' σ'} (h1 : E' = E1) (h2 : σ' = σ1) (h : Ghost m E σ E1 σ1) : Ghost m E σ E' σ' := by subst h1 h2; exact h

def upd (I : Nat → Bool) (i : Nat) : Nat → Bool := fun k => if k = i then true else I k
def depOf (deps : List (List Nat)) (i : Nat) : List Nat := deps.getD i []
def depsB (l : List Oper) (deps : List (List Nat)) : Bool := (l.zip deps).all fun p => p.2.all fun j => p.1.after.any fun e => Region.binds .any e && e.on == j
def lessB (l : List Oper) : Bool := l.zipIdx.all fun p => p.1.guard.isNone && p.1.after.all fun e => !Region.binds .any e || decide (e.on < p.2)
section
variable {P : Program} {n m : Nat} {K : Exit → Env → Store → Prop} {N : Env → Store → Prop} {E : Env} {σ : Store} {ops : Array Oper} {os : List Oper} {o : Oper}
theorem TOp_at {E' : Env} {σ' : Store} (h1 : E = E') (h2 : σ = σ') (h : TOp P n m o N E' σ') : TOp P n m o N E σ := by subst h1 h2; exact h
/-- What is asked of each operation: from whatever has come up, what it waits for among it. -/
def Steps (P : Program) (n m : Nat) (deps : List (List Nat)) (Est : (Nat → Bool) → Env) (Sst : (Nat → Bool) → Store) : List Oper → Nat → Prop
  | [], _ => True
  | o :: os, i => (∀ I : Nat → Bool, I i = false → (∀ j ∈ depOf deps i, I j = true) → (∀ k, I k = true → ∀ j ∈ depOf deps k, I j = true) →
      TOp P n m o (fun E' σ' => Ghost m E' σ' (Est (upd I i)) (Sst (upd I i))) (Est I) (Sst I)) ∧ Steps P n m deps Est Sst os (i + 1)
theorem Steps.get {deps Est Sst} : ∀ {l : List Oper} {k : Nat}, Steps P n m deps Est Sst l k → ∀ i o, l[i]? = some o → ∀ I : Nat → Bool, I (k + i) = false → (∀ j ∈ depOf deps (k + i), I j = true) → (∀ k, I k = true → ∀ j ∈ depOf deps k, I j = true) →
      TOp P n m o (fun E' σ' => Ghost m E' σ' (Est (upd I (k + i))) (Sst (upd I (k + i)))) (Est I) (Sst I)
  | [], _, _, i, o, h => by simp at h
  | o' :: os, k, hs, 0, o, h => by
    simp only [List.getElem?_cons_zero, Option.some.injEq] at h; subst h; exact hs.1
  | o' :: os, k, hs, i + 1, o, h => by
    have := Steps.get hs.2 i o (by simpa using h)
    rw [show k + 1 + i = k + (i + 1) by omega] at this; exact this

theorem T_regionA {rid} {l : List Oper} (deps : List (List Nat)) (Est : (Nat → Bool) → Env) (Sst : (Nat → Bool) → Store) (hm : P.follows .mixedOrders = true) (hd : depsB l deps = true) (hlen : deps.length = l.length) (hl : lessB l = true)
    (h0 : ∀ I : Nat → Bool, (∀ i, i < l.length → I i = false) → Ghost m E σ (Est I) (Sst I)) (hs : Steps P n m deps Est Sst l 0)
    (hend : ∀ I : Nat → Bool, (∀ i, i < l.length → I i = true) → K .normal (Est I) (Sst I)) : T P n m (.region rid l.toArray true) K E σ := fun F Λ w tmps Q hn hst hf hq => by
  refine wp_region_any hm ?_
  have hsize : l.toArray.size = l.length := by simp
  have key : ∀ (fuel : Nat) (listed : Array Bool) F1 Λ1 w1 tmps1, listed.size = l.length → (listed.toList.count false) = fuel → tmps1.size = n →
      St F1 Λ1 (Sst fun i => listed.getD i true) w1 → FrOK F1 Λ1 w1 tmps1 (Est fun i => listed.getD i true) → Step m F Λ σ w F1 Λ1 (Sst fun i => listed.getD i true) w1 →
      (∀ k, listed.getD k true = true → ∀ j ∈ depOf deps k, listed.getD j true = true) → wpAny P .any l.toArray Q fuel listed ⟨tmps1, []⟩ w1 := by
    have allof : ∀ listed : Array Bool, listed.size = l.length → Region.ready .any l.toArray listed = [] → ∀ i, i < l.length → listed.getD i true = true := fun listed hsz hr i => by
      induction i using Nat.strongRecOn with
      | _ i ih =>
        intro hi
        cases hb : listed.getD i true with
        | true => rfl
        | false =>
          exfalso
          have : i ∈ Region.ready .any l.toArray listed := by
            rw [mem_ready]
            refine ⟨hb, l[i], by simp [hi], fun e he hbe => ?_⟩
            have h1 : (l[i], i) ∈ l.zipIdx := by
              rw [List.mem_iff_getElem?]; exact ⟨i, by simp [hi]⟩
            simp only [lessB, List.all_eq_true, Bool.and_eq_true] at hl
            have h2 := (hl _ h1).2
            rw [Array.all_eq_true_iff_forall_mem] at h2
            have h3 := h2 e he
            simp only [hbe, Bool.not_true, Bool.false_or, decide_eq_true_eq] at h3
            have h4 := ih e.on h3 (by omega)
            have h5 : e.on < listed.size := by omega
            simpa [Array.getD, h5] using h4
          rw [hr] at this; cases this
    have fin : ∀ (listed : Array Bool) F1 Λ1 w1 tmps1, listed.size = l.length → tmps1.size = n → St F1 Λ1 (Sst fun i => listed.getD i true) w1 → FrOK F1 Λ1 w1 tmps1 (Est fun i => listed.getD i true) → Step m F Λ σ w F1 Λ1 (Sst fun i => listed.getD i true) w1 →
        Region.ready .any l.toArray listed = [] → Q .normal ⟨tmps1, []⟩ w1 := fun listed F1 Λ1 w1 tmps1 hsz hn1 hs1 hf1 hst1 hr =>
      hq .normal F1 Λ1 _ w1 tmps1 _ hn1 hs1 hf1 hst1 (hend _ (allof listed hsz hr))
    intro fuel
    induction fuel with
    | zero =>
      intro listed F1 Λ1 w1 tmps1 hsz hc hn1 hs1 hf1 hst1 hcl
      have hr : Region.ready .any l.toArray listed = [] := by
        rw [List.eq_nil_iff_forall_not_mem]
        intro i hi
        obtain ⟨h1, o, h2, _⟩ := mem_ready.1 hi
        have hlt : i < listed.size := by have := (Array.getElem?_eq_some_iff.1 h2).1; omega
        have : false ∈ listed.toList := by
          simp [Array.getD, hlt] at h1
          rw [← h1]; exact Array.getElem_mem_toList hlt
        rw [List.count_eq_zero] at hc
        exact hc this
      exact ⟨hr, fin listed F1 Λ1 w1 tmps1 hsz hn1 hs1 hf1 hst1 hr⟩
    | succ fuel ih =>
      intro listed F1 Λ1 w1 tmps1 hsz hc hn1 hs1 hf1 hst1 hcl
      refine ⟨fin listed F1 Λ1 w1 tmps1 hsz hn1 hs1 hf1 hst1, fun i hi => ?_⟩
      obtain ⟨h1, o, h2, h3⟩ := mem_ready.1 hi
      have hilt : i < l.length := by have := (Array.getElem?_eq_some_iff.1 h2).1; omega
      have hilt' : i < listed.size := by omega
      have h2' : l[i]? = some o := by simpa using h2
      have hgn : o.guard = none := by
        simp only [lessB, List.all_eq_true, Bool.and_eq_true] at hl
        have hz : (o, i) ∈ l.zipIdx := by
          rw [List.mem_iff_getElem?]; refine ⟨i, ?_⟩
          rw [List.getElem?_zipIdx, h2']; simp
        have := (hl _ hz).1
        simpa using this
      have hdp : ∀ j ∈ depOf deps i, listed.getD j true = true := fun j hj => by
        have hdi : i < deps.length := by omega
        have hz : (o, deps[i]) ∈ l.zip deps := by
          rw [List.mem_iff_getElem?]; refine ⟨i, ?_⟩
          rw [List.getElem?_zip_eq_some]; exact ⟨h2', List.getElem?_eq_getElem hdi⟩
        simp only [depsB, List.all_eq_true] at hd
        have h4 := hd _ hz j (by simpa [depOf, List.getD, hdi] using hj)
        simp only [Array.any_eq_true', Bool.and_eq_true, beq_iff_eq] at h4
        obtain ⟨e, he, hb, rfl⟩ := h4
        have h5 := h3 e he hb
        have h6 : e.on < listed.size := by
          rcases Nat.lt_or_ge e.on listed.size with h | h
          · exact h
          · simp [Array.getD, Nat.not_lt.2 h] at h5
        simpa [Array.getD, h6] using h5
      have eup : (fun k => (listed.setIfInBounds i true).getD k true) = upd (fun k => listed.getD k true) i := by
        funext k
        simp only [upd, Array.getD_eq_getD_getElem?, Array.getElem?_setIfInBounds]
        by_cases e : k = i
        · subst e; simp [hilt']
        · rw [if_neg e, if_neg (Ne.symm e)]
      unfold wpOp
      rw [h2]
      simp only
      rw [if_pos (by simp [Region.wanted, hgn])]
      have hop := Steps.get hs i o h2' (fun k => listed.getD k true) (by rw [Nat.zero_add]; exact h1) (by rw [Nat.zero_add]; exact hdp) hcl
      rw [Nat.zero_add] at hop
      refine .inl (hop F1 Λ1 w1 tmps1 _ Q hn1 hs1 hf1 fun F2 Λ2 σ2 w2 tmps2 E2 hn2 hs2 hf2 hst2 hg => ?_)
      obtain ⟨F3, Λ3, hs3, hf3, hst3⟩ := hg F2 Λ2 w2 tmps2 hs2 hf2
      rw [← eup] at hs3 hf3 hst3
      refine ih (listed.setIfInBounds i true) F3 Λ3 w2 tmps2 (by simpa using hsz) ?_ hn2 hs3 hf3 ((hst1.trans hst2).trans hst3) ?_
      · have hset : (listed.setIfInBounds i true).toList = listed.toList.set i true := by simp
        rw [hset]
        have hge : listed.toList[i]? = some false := by
          simp [Array.getD, hilt'] at h1
          simp [hilt', h1]
        have : ∀ (xs : List Bool) (i : Nat), xs[i]? = some false → (xs.set i true).count false + 1 = xs.count false := by
          intro xs
          induction xs with
          | nil => intro i h; simp at h
          | cons b bs ihb =>
            intro i h
            cases i with
            | zero => simp at h; subst h; simp
            | succ i => have := ihb i (by simpa using h); simp only [List.set_cons_succ, List.count_cons]; omega
        have := this listed.toList i hge
        omega
      · intro k hk j hj
        have e1 := congrFun eup
        rw [e1] at hk ⊢
        simp only [upd] at hk ⊢
        by_cases ek : k = i
        · subst ek
          have := hdp j hj
          split
          · rfl
          · exact this
        · rw [if_neg ek] at hk
          have := hcl k hk j hj
          split
          · rfl
          · exact this
  obtain ⟨F1, Λ1, hs1, hf1, hst1⟩ := h0 (fun i => (Array.replicate l.toArray.size false).getD i true) (fun i hi => by simp [Array.getD, hi]) F Λ w tmps hst hf
  have hw : ∀ b : Nat, ({ w with drawn := w.drawn + 1 } : World).heap[b]? = w.heap[b]? := fun b => rfl
  have hdr : Step m F Λ σ w F1 Λ1 (Sst fun i => (Array.replicate l.toArray.size false).getD i true) { w with drawn := w.drawn + 1 } :=
    { os := hst1.os, tape := hst1.tape, output := hst1.output, size := hst1.size, sizes := hst1.sizes, keep := hst1.keep, mono := hst1.mono, new := hst1.new, own := hst1.own, len := hst1.len, boxes := hst1.boxes, kept := hst1.kept }
  refine key l.toArray.size _ F1 Λ1 { w with drawn := w.drawn + 1 } tmps (by simp) (by simp) hn ?_ (FrOK.mono (w := w) (w' := { w with drawn := w.drawn + 1 }) (fun b hb => ⟨hb, rfl⟩) (fun b cs t h => ⟨cs, h, rfl⟩) hf1) hdr ?_
  · exact ⟨fun L xs hx => (hs1.row L xs hx).imp id fun ⟨b, o, cs, t, h1, h2, h3, h4⟩ => ⟨b, o, cs, t, h1, h2, h3, fun j x hj => (h4 j x hj).imp fun c hc => ⟨hc.1, Cell.mono (w := w) (w' := { w with drawn := w.drawn + 1 }) (fun b hb => ⟨hb, rfl⟩) (fun b cs t h => ⟨cs, h, rfl⟩) hc.2⟩⟩, hs1.apart, hs1.old, hs1.lab⟩
  · intro k hk j hj
    rcases Nat.lt_or_ge k l.toArray.size with h | h
    · rw [Array.getD_eq_getD_getElem?, Array.getElem?_replicate, if_pos h] at hk; cases hk
    · have : depOf deps k = [] := by
        have : deps.length ≤ k := by omega
        simp [depOf, List.getD, List.getElem?_eq_none this]
      rw [this] at hj; cases hj

theorem TOp_appY {α : Type} {T : Ty α} {f : α → List A} (hf : ∀ x, (f x).length = T.k) {t e l by_ : Nat} {x y : Operand} {zs : List Value} {xs ys us : List α} (hT : SlT P t e T.k) (hz : ZeroT P e zs) (hzk : zs.length = T.k) (hby : (P.info? e).map (·.bytes) = some by_) (hb1 : 1 ≤ by_)
    (h : o.op = .call { callee := .builtin .append, args := #[x, y], argTypes := #[t, t] }) (hd : dstOK n o.dst = true) (hx : val E x = .m [l] 0 xs.length T.k) (hr : σ[l]? = some (.row (flat f xs)))
    (hsrc : SrcA P E σ y ys.length T.k (flat f ys)) (hc : cellAllB (flat f ys) = true) (ha : app by_ xs ys = some us)
    (hN : N (put E o.dst (.m [σ.length] 0 us.length T.k)) (σ.set l .dead ++ [.row (flat f us)])) : TOp P n m o N E σ := by
  obtain ⟨rfl, hb⟩ := app_inv ha
  have h63 : xs.length + ys.length ≤ 9223372036854775807 := by
    have : (xs.length + ys.length) * 1 ≤ (xs.length + ys.length) * by_ := Nat.mul_le_mul_left _ hb1
    omega
  refine TOp_append hT hz hzk hby h hd hx hr (flat_len hf xs) hsrc hc h63 hb ?_
  rw [← List.length_append, flat_app]; exact hN
/-! ### part of a slice -/
/-- xs[a:b], in Go; b no more than the length. -/
def cutI {α : Type} (xs : List α) (a b : Int) : Option (List α) := if 0 ≤ a ∧ a ≤ b ∧ b ≤ xs.length then some ((xs.take b.toNat).drop a.toNat) else none
theorem cutI_inv {α : Type} {xs ys : List α} {a b : Int} (h : cutI xs a b = some ys) : ∃ i j : Nat, a = (i : Int) ∧ b = (j : Int) ∧ i ≤ j ∧ j ≤ xs.length ∧ ys = (xs.take j).drop i ∧ ys.length = j - i := by
  unfold cutI at h
  split at h
  · rename_i h1
    refine ⟨a.toNat, b.toNat, by omega, by omega, by omega, by omega, by simpa using h.symm, ?_⟩
    have : ys = (xs.take b.toNat).drop a.toNat := by simpa using h.symm
    rw [this]; simp; omega
  · cases h
theorem cutI_ok {α : Type} {xs : List α} {i j : Nat} (h1 : i ≤ j) (h2 : j ≤ xs.length) : cutI xs (i : Int) (j : Int) = some ((xs.take j).drop i) := by
  unfold cutI; rw [if_pos (by omega)]; simp
theorem flat_take {α : Type} {f : α → List A} {k : Nat} (hk : ∀ x, (f x).length = k) : ∀ (xs : List α) (j : Nat), flat f (xs.take j) = (flat f xs).take (j * k)
  | [], j => by simp [flat]
  | x :: xs, 0 => by simp [flat]
  | x :: xs, j + 1 => by
    simp only [List.take_succ_cons, flat, flat_take hk xs j]
    rw [Nat.succ_mul, List.take_append, List.take_of_length_le (l := f x) (by rw [hk]; omega), hk, Nat.add_sub_cancel]
theorem flat_drop {α : Type} {f : α → List A} {k : Nat} (hk : ∀ x, (f x).length = k) : ∀ (xs : List α) (j : Nat), flat f (xs.drop j) = (flat f xs).drop (j * k)
  | [], j => by simp [flat]
  | x :: xs, 0 => by simp [flat]
  | x :: xs, j + 1 => by
    simp only [List.drop_succ_cons, flat, flat_drop hk xs j]
    rw [Nat.succ_mul, List.drop_append, List.drop_eq_nil_of_le (as := f x) (by rw [hk]; omega), hk, Nat.add_sub_cancel, List.nil_append]
/-- The value of a bound. -/
def bnd (E : Env) (d : Int) : Option Operand → Int → Prop
  | none, z => z = d
  | some x, z => ∃ k, val E x = .v (.int k z)
theorem bnd_run {F Λ w tmps} (hf : FrOK F Λ w tmps E) {d z : Int} {x : Option Operand} (h : bnd E d x z) : (x = none ∧ z = d) ∨ ∃ k, x.map (Act.eval ⟨tmps, []⟩) = some (.int k z) ∧ x ≠ none := by
  cases x with
  | none => exact .inl ⟨rfl, h⟩
  | some x =>
    obtain ⟨k, h⟩ := h
    have h1 := val_ok (ds := []) hf x
    rw [h] at h1
    exact .inr ⟨k, by simp [h1.v_inv], by simp⟩
theorem run_cut {F Λ w tmps} (hf : FrOK F Λ w tmps E) {t e k : Nat} {x : Operand} {lo hi : Option Operand} {a : Option Addr} {n cap i j : Nat} (hT : SlT P t e k) (h : o.op = .slice t x lo hi none) (hx : Act.eval ⟨tmps, []⟩ x = .slice a n cap) (hlo : bnd E 0 lo (i : Int)) (hhi : bnd E n hi (j : Int)) (hij : i ≤ j) (hj : j ≤ n) (hn : n ≤ cap) (w' : World) :
    (execOp (Act.eval ⟨tmps, []⟩) o).run P w' = .ok (.value (.slice (if cap = i then a else a.map (·.add (i * k))) (j - i) (cap - i))) w' := by
  have hb : (Instr.sliceBounds true n cap (lo.map (Act.eval ⟨tmps, []⟩)) (hi.map (Act.eval ⟨tmps, []⟩)) none).run P w' = .ok (i, j, cap) w' := by
    rcases bnd_run hf hlo with ⟨rfl, h1⟩ | ⟨k1, h1, _⟩ <;> rcases bnd_run hf hhi with ⟨rfl, h2⟩ | ⟨k2, h2, _⟩
    · have e1 : i = 0 := by omega
      have e2 : j = n := by omega
      subst e1 e2
      simp [Instr.sliceBounds]
    · have e1 : i = 0 := by omega
      subst e1
      rw [h2]
      simp [Instr.sliceBounds, run_sliceBound, show (j : Int) ≤ cap by omega]
    · have e2 : j = n := by omega
      subst e2
      rw [h1]
      simp [Instr.sliceBounds, run_sliceBound, show (i : Int) ≤ j by omega]
    · rw [h1, h2]
      simp [Instr.sliceBounds, run_sliceBound, show (j : Int) ≤ cap by omega, show (i : Int) ≤ j by omega]
  simp only [execOp, h, hx, Option.map_none]
  simp [Instr.sliceAt, run_underlying hT.u, Instr.slice, hb, run_sizeOf' hT.i]
theorem pur_cutT {α : Type} {T : Ty α} {t e : Nat} {x : Operand} {lo hi : Option Operand} {xs ys : List α} {a b : Int} (hT : SlT P t e T.k) (hx : val E x = sl T xs) (hlo : bnd E 0 lo a) (hhi : bnd E (xs.length : Int) hi b) (hc : cutI xs a b = some ys) (h : o.op = .slice t x lo hi none) : Pur P o E σ (sl T ys) := fun F Λ w tmps hs hf => by
  obtain ⟨i, j, rfl, rfl, h1, h2, rfl, h3⟩ := cutI_inv hc
  have e1 := val_ok (ds := []) hf x
  rw [hx] at e1
  rcases e1.i_inv2 T.pos (flat_len T.len xs) with ⟨h0, hz, ad, cap, h4⟩ | ⟨b, o', cap, cs, h4, h5, h6, h7, h8, h9, h10⟩
  · have ei : i = 0 := by omega
    have ej : j = 0 := by omega
    subst ei ej
    refine ⟨.slice (if cap = 0 then ad else ad.map (·.add (0 * T.k))) (0 - 0) (cap - 0), ?_, fun w' _ => run_cut hf hT h (by rw [h4, h0]) hlo hhi h1 h2 (by omega) w'⟩
    simp only [List.take_zero, List.drop_nil, flat]
    exact .imm (.i0 _ _ _)
  · refine ⟨.slice (if cap = i then some ⟨b, o', none⟩ else (some (⟨b, o', none⟩ : Addr)).map (·.add (i * T.k))) (j - i) (cap - i), ?_, fun w' _ => run_cut hf hT h h7 hlo hhi h1 h2 h5 w'⟩
    rcases Nat.eq_zero_or_pos (j - i) with hz | hz
    · have : (xs.take j).drop i = [] := List.eq_nil_of_length_eq_zero (by rw [h3]; exact hz)
      rw [this, hz]
      exact .imm (.i0 _ _ _)
    · rw [if_neg (by omega)]
      simp only [Option.map_some, addr_add]
      have hfl : flat T.enc ((xs.take j).drop i) = ((flat T.enc xs).take (j * T.k)).drop (i * T.k) := by rw [flat_drop T.len, flat_take T.len]
      have hat : ∀ (q : Nat) x, (flat T.enc ((xs.take j).drop i))[q]? = some x → (flat T.enc xs)[i * T.k + q]? = some x := fun q x hq => by
        rw [hfl, List.getElem?_drop] at hq
        have := (List.getElem?_eq_some_iff.1 hq).1
        rw [List.length_take] at this
        rwa [List.getElem?_take_of_lt (by omega)] at hq
      refine .imm (.i b (o' + i * T.k) (j - i) (cap - i) T.k (fun q => cs (i * T.k + q)) _ h8 hz (by omega) (by omega) (by rw [flat_len T.len, h3]) (fun q x hq => ?_) (fun q x hq => h10 _ x (hat q x hq)))
      rw [Nat.add_assoc]; exact h9 _ x (hat q x hq)
/-- Part of a row, to be copied. -/
theorem pur_cutM {t e k l : Nat} {x : Operand} {lo hi : Option Operand} {i j nn : Nat} (hT : SlT P t e k) (hx : val E x = .m [l] 0 nn k) (hlo : bnd E 0 lo (i : Int)) (hhi : bnd E (nn : Int) hi (j : Int)) (h1 : i ≤ j) (h2 : j ≤ nn) (h : o.op = .slice t x lo hi none) : Pur P o E σ (.m [l] (i * k) (j - i) k) := fun F Λ w tmps hs hf => by
  have e1 := val_ok (ds := []) hf x
  rw [hx] at e1
  rcases e1.m_inv with ⟨h0, ad, h4⟩ | ⟨b, o', cap, hL, h5, h6, h7, cs, t', h8, h9⟩
  · subst h0
    refine ⟨_, ?_, fun w' _ => run_cut hf hT h h4 hlo hhi h1 h2 (Nat.le_refl _) w'⟩
    rw [show j - i = 0 by omega, show 0 - i = 0 by omega]
    exact .m (.inl ⟨rfl, _, rfl⟩)
  · refine ⟨_, ?_, fun w' _ => run_cut hf hT h h5 hlo hhi h1 h2 h6 w'⟩
    by_cases hz : cap = i
    · rw [show j - i = 0 by omega, show cap - i = 0 by omega]
      exact .m (.inl ⟨rfl, _, rfl⟩)
    · rw [if_neg hz]
      simp only [Option.map_some, addr_add, Nat.add_zero]
      refine .m (.inr ⟨b, o', cap - i, hL, rfl, by omega, by omega, cs, t', h8, ?_⟩)
      have : i * k + (cap - i) * k = cap * k := by rw [← Nat.add_mul]; congr 1; omega
      omega
theorem src_cut {α : Type} {T : Ty α} {y : Operand} {xs ys : List α} {l i j : Nat} (hy : val E y = .m [l] (i * T.k) (j - i) T.k) (hr : σ[l]? = some (.row (flat T.enc xs))) (h1 : i ≤ j) (h2 : j ≤ xs.length) (hys : ys = (xs.take j).drop i) : SrcA P E σ y ys.length T.k (flat T.enc ys) := by
  have hl : ys.length = j - i := by rw [hys]; simp; omega
  rw [hl]
  have hfl : flat T.enc ys = ((flat T.enc xs).take (j * T.k)).drop (i * T.k) := by rw [hys, flat_drop T.len, flat_take T.len]
  refine src_m (zs := flat T.enc xs) hy (by rw [rowAt_cons, hr]; rfl) ?_ ?_ (by simp [isBox, hr]) (flat_cell T ys)
  · rw [flat_len T.len, ← Nat.add_mul]; exact Nat.mul_le_mul_right _ (by omega)
  · rw [hfl, List.drop_take]
    congr 1
    rw [← Nat.sub_mul]
theorem chainF {I : Nat → Bool} {k i : Nat} (hi : I i = false) (h : I k = true → I i = true) : I k = false := by
  cases hk : I k with
  | false => rfl
  | true => rw [h hk] at hi; cases hi
end
end Go.Sep

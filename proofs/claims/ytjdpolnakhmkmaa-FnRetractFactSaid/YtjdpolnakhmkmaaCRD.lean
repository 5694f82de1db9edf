/- The calculus, part 4. -/
import Derived.Test.YtjdpolnakhmkmaaCRC
/- Regions walked by hand, where the labels stand still: what slices.Delete and its like want. -/
set_option linter.unusedVariables false
set_option linter.unusedSimpArgs false
namespace Go.Sep
open Go
section
variable {P : Program} {n m : Nat} {E : Env} {σ : Store} {ops : Array Oper} {fuel : Nat} {listed : Array Bool} {F : Nat → Prop} {Λ : Lbl} {w : World} {tmps : Array Value} {Q : Act → World → Prop}
/-- In a drawn region: an operation that looks at no world, first of all. -/
theorem raw_first (i : Nat) {o : Oper} {r : A} (hi : ops[i]? = some o) (hp : PurI P o E r) (hg : o.guard = none) {dd : Option Nat} (hD : o.dst = dd) (hd : dstOK n dd = true) (hc : (Region.noSelect ops && (Region.ready .any ops listed).contains i && Region.free .any ops listed i) = true) (hn : tmps.size = n) (hf : FrOK F Λ w tmps E)
    (h : ∀ tmps', tmps'.size = n → FrOK F Λ w tmps' (put E dd r) → wpAny P .any ops (onlyN Q) fuel (listed.setIfInBounds i true) ⟨tmps', []⟩ w) : wpAny P .any ops (onlyN Q) (fuel + 1) listed ⟨tmps, []⟩ w := by
  subst hD
  simp only [Bool.and_eq_true] at hc
  obtain ⟨v, hv, hrun⟩ := hp F Λ w tmps hf
  obtain ⟨tmps', e, hn', hf'⟩ := hf.putO (ds := []) hn hd hv
  refine wpAny_first hi (Region.noSelect_spec hc.1.1) (fun c a w h => h) fuel listed _ w (Region.free_spec hi hc.2) (by simpa using hc.1.2) (.inl ⟨by simp [Region.wanted, hg], hrun⟩) ?_
  rw [e]
  exact h tmps' hn' hf'
/-- In a drawn region: the one operation that is ready, which turns the world. -/
theorem raw_one (i : Nat) {o : Oper} {v : Value} {r : A} {w' : World} (hr : Region.ready .any ops listed = [i]) (hi : ops[i]? = some o) (hg : o.guard = none) {dd : Option Nat} (hD : o.dst = dd) (hd : dstOK n dd = true) (hn : tmps.size = n)
    (hrun : (execOp (Act.eval ⟨tmps, []⟩) o).run P w = .ok (.value v) w') (hf : FrOK F Λ w' tmps E) (hv : OK F Λ w' v r)
    (h : ∀ tmps', tmps'.size = n → FrOK F Λ w' tmps' (put E dd r) → wpAny P .any ops (onlyN Q) fuel (listed.setIfInBounds i true) ⟨tmps', []⟩ w') : wpAny P .any ops (onlyN Q) (fuel + 1) listed ⟨tmps, []⟩ w := by
  subst hD
  obtain ⟨tmps', e, hn', hf'⟩ := hf.putO (ds := []) hn hd hv
  refine ⟨fun h0 => (by rw [hr] at h0; cases h0), fun j hj => ?_⟩
  rw [hr] at hj
  simp only [List.mem_singleton] at hj
  subst hj
  unfold wpOp
  rw [hi]
  simp only
  rw [if_pos (by simp [Region.wanted, hg])]
  refine .inl ?_
  unfold Oper.wp
  rw [hrun]
  show wpAny P .any ops (onlyN Q) fuel (listed.setIfInBounds j true) (Act.put ⟨tmps, []⟩ o.dst v) w'
  rw [e]
  exact h tmps' hn' hf'
theorem raw_nil (hr : Region.ready .any ops listed = []) (h : Q ⟨tmps, []⟩ w) : wpAny P .any ops (onlyN Q) fuel listed ⟨tmps, []⟩ w := by
  cases fuel with
  | zero => exact ⟨hr, h⟩
  | succ fuel => exact ⟨fun _ => h, fun i hi => by rw [hr] at hi; cases hi⟩
end
section
variable {P : Program} {E : Env} {o : Oper} {n m : Nat} {σ : Store} {F : Nat → Prop} {Λ : Lbl} {w : World}
/-- s[lo:hi], of a slice that is known, up to its cap. -/
theorem run_cutC {F Λ w tmps} (hf : FrOK F Λ w tmps E) {t e k : Nat} {x y : Operand} {lo : Option Operand} {a : Option Addr} {n cap i j : Nat} (hT : SlT P t e k) (h : o.op = .slice t x lo (some y) none) (hx : Act.eval ⟨tmps, []⟩ x = .slice a n cap) (hlo : bnd E 0 lo (i : Int)) (hhi : bnd E n (some y) (j : Int)) (hij : i ≤ j) (hj : j ≤ cap) (w' : World) :
    (execOp (Act.eval ⟨tmps, []⟩) o).run P w' = .ok (.value (.slice (if cap = i then a else a.map (·.add (i * k))) (j - i) (cap - i))) w' := by
  have hb : (Instr.sliceBounds true n cap (lo.map (Act.eval ⟨tmps, []⟩)) ((some y).map (Act.eval ⟨tmps, []⟩)) none).run P w' = .ok (i, j, cap) w' := by
    rcases bnd_run hf hlo with ⟨rfl, h1⟩ | ⟨k1, h1, _⟩ <;> rcases bnd_run hf hhi with ⟨h0, h2⟩ | ⟨k2, h2, _⟩
    · cases h0
    · have e1 : i = 0 := by omega
      subst e1
      rw [h2]
      simp [Instr.sliceBounds, run_sliceBound, show (j : Int) ≤ cap by omega]
    · cases h0
    · rw [h1, h2]
      simp [Instr.sliceBounds, run_sliceBound, show (j : Int) ≤ cap by omega, show (i : Int) ≤ j by omega]
  simp only [Option.map_some] at hb
  simp only [execOp, h, hx, Option.map_none, Option.map_some]
  simp [Instr.sliceAt, run_underlying hT.u, Instr.slice, hb, run_sizeOf' hT.i]
theorem purI_cutX {t e k : Nat} {x y : Operand} {lo : Option Operand} {a : Option Addr} {q cap i j : Nat} (hT : SlT P t e k) (hx : val E x = .v (.slice a q cap)) (hlo : bnd E 0 lo (i : Int)) (hhi : bnd E q (some y) (j : Int)) (hij : i ≤ j) (hj : j ≤ cap) (h : o.op = .slice t x lo (some y) none) : PurI P o E (.v (.slice (if cap = i then a else a.map (·.add (i * k))) (j - i) (cap - i))) := fun F Λ w tmps hf => by
  have e1 := val_ok (ds := []) hf x
  rw [hx] at e1
  exact ⟨_, .imm (.v _), fun w' => run_cutC hf hT h e1.v_inv hlo hhi hij hj w'⟩
theorem purI_cutX1 {t e k : Nat} {x : Operand} {lo : Option Operand} {a : Option Addr} {q cap i : Nat} (hT : SlT P t e k) (hx : val E x = .v (.slice a q cap)) (hlo : bnd E 0 lo (i : Int)) (hij : i ≤ q) (hj : q ≤ cap) (h : o.op = .slice t x lo none none) : PurI P o E (.v (.slice (if cap = i then a else a.map (·.add (i * k))) (q - i) (cap - i))) := fun F Λ w tmps hf => by
  have e1 := val_ok (ds := []) hf x
  rw [hx] at e1
  exact ⟨_, .imm (.v _), fun w' => run_cut hf hT h e1.v_inv hlo (hi := none) rfl hij (Nat.le_refl _) hj w'⟩
theorem purI_lenX {t e k : Nat} {x : Operand} {a : Option Addr} {q cap : Nat} (hT : SlT P t e k) (hx : val E x = .v (.slice a q cap)) (h : o.op = .call { callee := .builtin .len, args := #[x], argTypes := #[t] }) : PurI P o E (.v (.int .i64 q)) := fun F Λ w tmps hf => by
  have e1 := val_ok (ds := []) hf x
  rw [hx] at e1
  refine ⟨_, .imm (.v _), fun w' => ?_⟩
  simp only [execOp, h, resolve, Sem.run_bind, Sem.run_pure, invoke, builtin]
  simp [e1.v_inv, Builtin.len_, run_underlying hT.u, goInt]
end
section
variable {P : Program} {n m : Nat} {E : Env} {ops : Array Oper} {os : List Oper} {F : Nat → Prop} {Λ : Lbl} {w : World} {tmps : Array Value} {Q : Exit → Act → World → Prop} {o : Oper}
theorem rawL_cons {r : A} (hg : o.guard = none) (hp : PurI P o E r) {dd : Option Nat} (hD : o.dst = dd) (hd : dstOK n dd = true) (hn : tmps.size = n) (hf : FrOK F Λ w tmps E) (h : ∀ tmps', tmps'.size = n → FrOK F Λ w tmps' (put E dd r) → wpList P ops Q os ⟨tmps', []⟩ w) : wpList P ops Q (o :: os) ⟨tmps, []⟩ w := by
  subst hD
  obtain ⟨v, hv, hrun⟩ := hp F Λ w tmps hf
  obtain ⟨tmps', e, hn', hf'⟩ := hf.putO (ds := []) hn hd hv
  unfold wpList
  rw [if_pos (by simp [Region.wanted, hg])]
  refine .inl ?_
  unfold Oper.wp
  rw [hrun]
  show wpList P ops Q os (Act.put ⟨tmps, []⟩ o.dst v) w
  rw [e]
  exact h tmps' hn' hf'
theorem rawL_run {v : Value} {r : A} {w' : World} (hg : o.guard = none) (hrun : (execOp (Act.eval ⟨tmps, []⟩) o).run P w = .ok (.value v) w') {dd : Option Nat} (hD : o.dst = dd) (hd : dstOK n dd = true) (hn : tmps.size = n) (hf : FrOK F Λ w' tmps E) (hv : OK F Λ w' v r) (h : ∀ tmps', tmps'.size = n → FrOK F Λ w' tmps' (put E dd r) → wpList P ops Q os ⟨tmps', []⟩ w') : wpList P ops Q (o :: os) ⟨tmps, []⟩ w := by
  subst hD
  obtain ⟨tmps', e, hn', hf'⟩ := hf.putO (ds := []) hn hd hv
  unfold wpList
  rw [if_pos (by simp [Region.wanted, hg])]
  refine .inl ?_
  unfold Oper.wp
  rw [hrun]
  show wpList P ops Q os (Act.put ⟨tmps, []⟩ o.dst v) w'
  rw [e]
  exact h tmps' hn' hf'
end
section
variable {P : Program} {o : Oper} {w : World} {tmps : Array Value}
theorem run_appX {t e : Nat} {inf : TypeInfo} {x y : Operand} (ht : P.underlying t = some (.slice e)) (hi : P.info? e = some inf) (h : o.op = .call { callee := .builtin .append, args := #[x, y], argTypes := #[t, t] }) {b oo i cap : Nat} (hx : Act.eval ⟨tmps, []⟩ x = .slice (some ⟨b, oo, none⟩) i cap) {ay : Option Addr} {q cy : Nat} (hy : Act.eval ⟨tmps, []⟩ y = .slice ay q cy) {news : List Value}
    (hnews : (Builtin.firstCells inf.size q (.slice ay q cy)).run P w = .ok news.toArray w) (h1 : ∀ u ∈ news, u.oneCell' = true) {cur : Array Value} {te : TypeId} (hb : w.heap[b]? = some (.cells cur te (0, 0))) (hroom : i + q ≤ cap) (hfit : oo + i * inf.size + news.length ≤ cur.size) :
    (execOp (Act.eval ⟨tmps, []⟩) o).run P w = .ok (.value (.slice (some ⟨b, oo, none⟩) (i + q) cap)) (w.setRow b (cur.toList.take (oo + i * inf.size) ++ news ++ cur.toList.drop (oo + i * inf.size + news.length)).toArray) := by
  unfold execOp
  simp only [h, resolve, invoke, builtin, Sem.run_bind, Sem.run_pure, Result.andThen_ok, List.map_toArray, List.map_cons, List.map_nil, hx, hy]
  rw [run_append_in w t o.type e inf ht hi b oo i cap cur te hb ay q cy news hnews h1 hroom hfit]
  rfl
theorem run_clearX {t e : Nat} {inf : TypeInfo} {z : Value} {x : Operand} (ht : P.underlying t = some (.slice e)) (hi : P.info? e = some inf) (hz : inf.zero = some z) (h : o.op = .call { callee := .builtin .clear, args := #[x], argTypes := #[t] }) {b oo q cap : Nat} (hx : Act.eval ⟨tmps, []⟩ x = .slice (some ⟨b, oo, none⟩) q cap) (hq : 0 < q) (h1 : ∀ u ∈ (Builtin.zeroCells z.cells q).toList, u.oneCell' = true) {cur : Array Value} {te : TypeId} (hb : w.heap[b]? = some (.cells cur te (0, 0))) (hfit : oo + (Builtin.zeroCells z.cells q).toList.length ≤ cur.size) :
    (execOp (Act.eval ⟨tmps, []⟩) o).run P w = .ok (.value (.tuple #[])) (w.setRow b (cur.toList.take oo ++ (Builtin.zeroCells z.cells q).toList ++ cur.toList.drop (oo + (Builtin.zeroCells z.cells q).toList.length)).toArray) := by
  have hst := run_storeCells_at P b oo te (Builtin.zeroCells z.cells q).toList 0 cur w hb (by simpa using hfit) h1
  simp only [Nat.add_zero] at hst
  unfold execOp
  simp only [h, resolve, invoke, builtin, Sem.run_bind, Sem.run_pure, Result.andThen_ok, List.map_toArray, List.map_cons, List.map_nil, hx]
  obtain ⟨q', rfl⟩ : ∃ q', q = q' + 1 := ⟨q - 1, by omega⟩
  simp [Builtin.clear_, run_underlying ht, zeroValue, typeInfo, hi, hz, hst]
end
/-! ### a row of plain cells, turned -/
theorem rowAt_turn {σ : Store} {l : Nat} {ys : List A} {L : List Nat} {zs : List A} (hl : l < σ.length) (hp : ∀ y ∈ ys, y.plain = true) (h : rowAt (σ.set l (.row ys)) L = some zs) : (L = [l] ∧ zs = ys) ∨ (L.headD 0 ≠ l ∧ rowAt σ L = some zs) := by
  cases L with
  | nil => simp [rowAt] at h
  | cons a p =>
    by_cases e : a = l
    · subst e
      simp only [rowAt, List.getElem?_set_self hl, Root.cells] at h
      obtain ⟨rfl, rfl⟩ := sub_plain hp h
      exact .inl ⟨rfl, rfl⟩
    · refine .inr ⟨by simpa using e, ?_⟩
      simpa only [rowAt, List.getElem?_set_ne (Ne.symm e)] using h
theorem isBox_turn {σ : Store} {l : Nat} {xs ys : List A} (hr : σ[l]? = some (.row xs)) (L : List Nat) : isBox (σ.set l (.row ys)) L = isBox σ L := by
  have hl : l < σ.length := (List.getElem?_eq_some_iff.1 hr).1
  cases L with
  | nil => rfl
  | cons a p =>
    cases p with
    | nil =>
      by_cases e : a = l
      · subst e
        simp only [isBox, List.getElem?_set_self hl, hr]
      · simp only [isBox, List.getElem?_set_ne (Ne.symm e)]
    | cons _ _ => rfl
/-- A row of plain cells becomes another, where it lies. -/
theorem St.turn {m : Nat} {F : Nat → Prop} {Λ : Lbl} {σ : Store} {w w' : World} (hs : St F Λ σ w) {l : Nat} {xs ys : List A} {b o' : Nat} {cs cs' : Array Value} {t : TypeId} (hr : σ[l]? = some (.row xs)) (hp : ∀ y ∈ ys, y.plain = true)
    (hL : Λ [l] = some (b, o')) (hb : w.heap[b]? = some (.cells cs t (0, 0))) (hb' : w'.heap[b]? = some (.cells cs' t (0, 0))) (hsz : cs'.size = cs.size) (hoth : ∀ b', b' ≠ b → w'.heap[b']? = w.heap[b']?)
    (hsize : w'.heap.size = w.heap.size) (hos : w'.os = w.os) (htape : w'.tape = w.tape) (hout : w'.output = w.output)
    (hc : ∀ (j : Nat) y, ys[j]? = some y → ∃ c, cs'[o' + j]? = some c ∧ Cell F Λ w false [l, j] c y) :
    St F Λ (σ.set l (.row ys)) w' ∧ Step m F Λ σ w F Λ (σ.set l (.row ys)) w' := by
  have hl : l < σ.length := (List.getElem?_eq_some_iff.1 hr).1
  have hrow : rowAt σ [l] = some xs := by simp only [rowAt, hr, Root.cells, Go.Sep.sub]
  have hO : ¬ F b := fun hf => hs.notOwn hf ⟨[l], xs, o', hrow, hL⟩
  have hF : ∀ b', F b' → F b' ∧ w'.heap[b']? = w.heap[b']? := fun b' hb' => ⟨hb', hoth b' fun e => hO (e ▸ hb')⟩
  have hS : Sizes w w' := fun b' cs1 t1 h1 => by
    by_cases e : b' = b
    · subst e; rw [hb] at h1; cases h1; exact ⟨cs', hb', hsz⟩
    · exact ⟨cs1, by rw [hoth b' e]; exact h1, rfl⟩
  have hbx : isBox σ [l] = false := by simp only [isBox, hr]
  refine ⟨⟨fun L zs h1 => ?_, fun L1 x1 L2 x2 b1 o1 o2 h1 h2 h3 h4 => ?_, fun b' hb' => by rw [hsize]; exact hs.old b' hb', fun L hL' => hs.lab L (by simpa using hL')⟩, ?_⟩
  · rw [isBox_turn hr]
    rcases rowAt_turn hl hp h1 with ⟨rfl, rfl⟩ | ⟨hne, h2⟩
    · refine .inr ⟨b, o', cs', t, hL, hO, hb', fun j y hy => ?_⟩
      obtain ⟨c, g1, g2⟩ := hc j y hy
      exact ⟨c, g1, by rw [hbx]; exact g2.mono hF hS⟩
    · rcases hs.row L zs h2 with h6 | ⟨b2, o2, cs2, t2, h6, h7, h8, h9⟩
      · exact .inl h6
      · have hnb : b2 ≠ b := fun e2 => by
          subst e2
          have := hs.apart L zs [l] xs b2 o2 o' h2 hrow h6 hL
          subst this
          exact hne rfl
        refine .inr ⟨b2, o2, cs2, t2, h6, h7, by rw [hoth b2 hnb]; exact h8, fun j x hx => ?_⟩
        obtain ⟨c, g1, g2⟩ := h9 j x hx
        exact ⟨c, g1, g2.mono hF hS⟩
  · have key : ∀ L zs, rowAt (σ.set l (.row ys)) L = some zs → ∃ zs', rowAt σ L = some zs' := fun L zs h => by
      rcases rowAt_turn hl hp h with ⟨rfl, rfl⟩ | ⟨_, h2⟩
      · exact ⟨xs, hrow⟩
      · exact ⟨zs, h2⟩
    obtain ⟨z1, g1⟩ := key L1 x1 h1
    obtain ⟨z2, g2⟩ := key L2 x2 h2
    exact hs.apart L1 z1 L2 z2 b1 o1 o2 g1 g2 h3 h4
  · exact { os := hos, tape := htape, output := hout, size := by omega, sizes := hS
            keep := fun b' _ hno => hoth b' fun e => hno (e ▸ ⟨[l], xs, o', hrow, hL⟩)
            mono := fun _ h => h, new := fun _ h => .inl h
            own := fun b' ⟨L, zs, o2, g1, g2⟩ => by
              rcases rowAt_turn hl hp g1 with ⟨rfl, rfl⟩ | ⟨_, h2⟩
              · exact .inl ⟨[l], xs, o2, hrow, g2⟩
              · exact .inl ⟨L, zs, o2, h2, g2⟩
            len := by rw [List.length_set]; exact Nat.min_le_right _ _
            boxes := fun a us ha hu => by
              have hne : a ≠ l := fun e => by subst e; rw [hr] at hu; cases hu
              exact ⟨rfl, us, by rw [List.getElem?_set_ne (Ne.symm hne)]; exact hu⟩
            kept := fun _ _ _ _ h => h }
end Go.Sep
/- slices.Delete's own steps. -/
set_option linter.unusedVariables false
set_option linter.unusedSimpArgs false
namespace Go.Sep
open Go
/-- What an operation is, but for its place in the text. -/
structure IsOp (o : Oper) (d : Option Nat) (p : Op) : Prop where
  op : o.op = p
  dst : o.dst = d
  g : o.guard = none
section
variable {P : Program} {n : Nat} {F : Nat → Prop} {Λ : Lbl} {w : World} {tmps : Array Value} {Q : Act → World → Prop}
theorem del5 {t e : Nat} {inf : TypeInfo} {k : Nat} (hT : SlT P t e k) (hi : P.info? e = some inf) (hk : inf.size = k) {a0 a1 a2 a3 a4 a5 a6 a7 : Oper}
    (s0 : IsOp a0 (some 20) (.move (.tmp 0))) (s1 : IsOp a1 (some 21) (.move (.tmp 1))) (s2 : IsOp a2 (some 22) (.slice t (.tmp 20) none (some (.tmp 21)) none)) (s3 : IsOp a3 (some 23) (.move (.tmp 0))) (s4 : IsOp a4 (some 24) (.move (.tmp 2))) (s5 : IsOp a5 (some 25) (.slice t (.tmp 23) (some (.tmp 24)) none none)) (s6 : IsOp a6 (some 26) (.call { callee := .builtin .append, args := #[.tmp 22, .tmp 25], argTypes := #[t, t] })) (s7 : IsOp a7 (some 0) (.assign (.tmp 26)))
    {c : Nat → Array Bool} (hc0 : c 0 = #[false, false, false, false, false, false, false, false]) (hcs : ∀ q, q < 8 → (c q).setIfInBounds q true = c (q + 1))
    (hc : ∀ q, q < 8 → q ≠ 6 → (Region.noSelect #[a0, a1, a2, a3, a4, a5, a6, a7] && (Region.ready .any #[a0, a1, a2, a3, a4, a5, a6, a7] (c q)).contains q && Region.free .any #[a0, a1, a2, a3, a4, a5, a6, a7] (c q) q) = true)
    (h6 : Region.ready .any #[a0, a1, a2, a3, a4, a5, a6, a7] (c 6) = [6]) (h8 : Region.ready .any #[a0, a1, a2, a3, a4, a5, a6, a7] (c 8) = [])
    (hn : tmps.size = n) (hn33 : 33 ≤ n) {b o' N cap i j : Nat} {cur : Array Value} {te : TypeId} (hb : w.heap[b]? = some (.cells cur te (0, 0))) (hij : i < j) (hj : j ≤ N) (hN : N ≤ cap) (hfit : o' + cap * k ≤ cur.size)
    (hf : FrOK F Λ w tmps [(0, .v (.slice (some ⟨b, o', none⟩) N cap)), (1, intA i), (2, intA j), (7, intA N)]) (hO : ¬ F b)
    {news : List Value} (hnl : news.length = (N - j) * k) (hnews : ∀ (q : Nat) v, news[q]? = some v → w.cell? ⟨b, o' + j * k + q, none⟩ = some v) (h1 : ∀ u ∈ news, u.oneCell' = true)
    (h : ∀ tmps', tmps'.size = n → FrOK F Λ (w.setRow b (cur.toList.take (o' + i * k) ++ news ++ cur.toList.drop (o' + i * k + news.length)).toArray) tmps' [(0, .v (.slice (some ⟨b, o', none⟩) (i + (N - j)) cap)), (7, intA N)] → Q ⟨tmps', []⟩ (w.setRow b (cur.toList.take (o' + i * k) ++ news ++ cur.toList.drop (o' + i * k + news.length)).toArray)) :
    wpAny P .any #[a0, a1, a2, a3, a4, a5, a6, a7] (onlyN Q) 8 #[false, false, false, false, false, false, false, false] ⟨tmps, []⟩ w := by
  subst hk
  have hk0 := hT.pos
  rw [← hc0]
  have dk : ∀ (d : Nat), d < 33 → dstOK n (some d) = true := fun d hd => by show decide (d < n) = true; exact decide_eq_true (by omega)
  refine raw_first (n := n) 0 rfl (purI_move s0.op) s0.g s0.dst (dk 20 (by omega)) (hc 0 (by omega) (by omega)) hn hf fun t1 n1 f1 => ?_
  rw [hcs 0 (by omega)]
  refine raw_first (n := n) 1 rfl (purI_move s1.op) s1.g s1.dst (dk 21 (by omega)) (hc 1 (by omega) (by omega)) n1 f1 fun t2 n2 f2 => ?_
  rw [hcs 1 (by omega)]
  refine raw_first (n := n) 2 rfl (purI_cutX (lo := none) (y := .tmp 21) (a := some ⟨b, o', none⟩) (q := N) (cap := cap) (i := 0) (j := i) hT rfl rfl ⟨_, rfl⟩ (by omega) (by omega) s2.op) s2.g s2.dst (dk 22 (by omega)) (hc 2 (by omega) (by omega)) n2 f2 fun t3 n3 f3 => ?_
  rw [hcs 2 (by omega)]
  refine raw_first (n := n) 3 rfl (purI_move s3.op) s3.g s3.dst (dk 23 (by omega)) (hc 3 (by omega) (by omega)) n3 f3 fun t4 n4 f4 => ?_
  rw [hcs 3 (by omega)]
  refine raw_first (n := n) 4 rfl (purI_move s4.op) s4.g s4.dst (dk 24 (by omega)) (hc 4 (by omega) (by omega)) n4 f4 fun t5 n5 f5 => ?_
  rw [hcs 4 (by omega)]
  refine raw_first (n := n) 5 rfl (purI_cutX1 (lo := some (.tmp 24)) (a := some ⟨b, o', none⟩) (q := N) (cap := cap) (i := j) hT rfl ⟨_, rfl⟩ hj hN s5.op) s5.g s5.dst (dk 25 (by omega)) (hc 5 (by omega) (by omega)) n5 f5 fun t6 n6 f6 => ?_
  rw [hcs 5 (by omega)]
  have hcap : 0 < cap := by omega
  have v22 : Act.eval ⟨t6, []⟩ (.tmp 22) = .slice (some ⟨b, o', none⟩) i cap := by
    have e1 := (val_ok (ds := []) f6 (.tmp 22)).v_inv (x := .slice (if cap = 0 then some ⟨b, o', none⟩ else (some (⟨b, o', none⟩ : Addr)).map (·.add (0 * inf.size))) (i - 0) (cap - 0))
    rw [if_neg (by omega)] at e1
    simpa [addr_add] using e1
  have v25 : Act.eval ⟨t6, []⟩ (.tmp 25) = .slice (if cap = j then some ⟨b, o', none⟩ else (some (⟨b, o', none⟩ : Addr)).map (·.add (j * inf.size))) (N - j) (cap - j) := (val_ok (ds := []) f6 (.tmp 25)).v_inv
  have hfc : (Builtin.firstCells inf.size (N - j) (.slice (if cap = j then some ⟨b, o', none⟩ else (some (⟨b, o', none⟩ : Addr)).map (·.add (j * inf.size))) (N - j) (cap - j))).run P w = .ok news.toArray w := by
    by_cases e1 : cap = j
    · have e2 : N - j = 0 := by omega
      rw [e2, Nat.zero_mul] at hnl
      have e3 : news = [] := List.eq_nil_of_length_eq_zero hnl
      subst e3
      rw [if_pos e1, e2]
      exact firstCells_zero w inf.size _ _
    · rw [if_neg e1]
      simp only [Option.map_some, addr_add, Builtin.firstCells]
      have := run_loadCells_list (P := P) w ⟨b, o' + j * inf.size, none⟩ news fun q v hq => by rw [addr_add]; exact hnews q v hq
      rwa [hnl] at this
  have hfit2 : o' + i * inf.size + news.length ≤ cur.size := by
    have h2 : (i + (N - j)) * inf.size ≤ cap * inf.size := Nat.mul_le_mul_right _ (by omega)
    rw [Nat.add_mul] at h2
    omega
  have hrun := run_appX (P := P) (o := a6) (w := w) (tmps := t6) hT.u hi s6.op v22 v25 hfc h1 hb (by omega) hfit2
  have hF : ∀ b', F b' → F b' ∧ (w.setRow b (cur.toList.take (o' + i * inf.size) ++ news ++ cur.toList.drop (o' + i * inf.size + news.length)).toArray).heap[b']? = w.heap[b']? := fun b' hb' => ⟨hb', setRow_other w b b' _ fun e => hO (e ▸ hb')⟩
  have hS : Sizes w (w.setRow b (cur.toList.take (o' + i * inf.size) ++ news ++ cur.toList.drop (o' + i * inf.size + news.length)).toArray) := fun b' cs1 t1 h1 => by
    by_cases e : b' = b
    · subst e
      rw [hb] at h1
      cases h1
      refine ⟨_, setRow_heap w b' cur _ te (0, 0) hb, ?_⟩
      simp only [List.size_toArray, List.length_append, List.length_take, List.length_drop, Array.length_toList]
      omega
    · exact ⟨cs1, by rw [setRow_other w b b' _ e]; exact h1, rfl⟩
  refine raw_one (n := n) 6 h6 rfl s6.g s6.dst (dk 26 (by omega)) n6 hrun (f6.mono hF hS) (.imm (.v _)) fun t7 n7 f7 => ?_
  rw [hcs 6 (by omega)]
  refine raw_first (n := n) 7 rfl (purI_assign s7.op) s7.g s7.dst (dk 0 (by omega)) (hc 7 (by omega) (by omega)) n7 f7 fun t8 n8 f8 => ?_
  rw [hcs 7 (by omega)]
  exact raw_nil h8 (h t8 n8 (f8.weak (Pk.all (E' := [(0, .v (.slice (some ⟨b, o', none⟩) (i + (N - j)) cap)), (7, intA N)]) ⟨rfl, rfl, trivial⟩)))
end
section
variable {P : Program} {n : Nat} {F : Nat → Prop} {Λ : Lbl} {w : World} {tmps : Array Value} {Q : Exit → Act → World → Prop} {ops : Array Oper}
theorem del6 {t e : Nat} {inf : TypeInfo} {z : Value} {k : Nat} (hT : SlT P t e k) (hi : P.info? e = some inf) (hk : inf.size = k) (hz : inf.zero = some z) {a0 a1 a2 a3 a4 a5 : Oper}
    (s0 : IsOp a0 (some 27) (.move (.tmp 0))) (s1 : IsOp a1 (some 28) (.move (.tmp 0))) (s2 : IsOp a2 (some 29) (.call { callee := .builtin .len, args := #[.tmp 28], argTypes := #[t] })) (s3 : IsOp a3 (some 30) (.move (.tmp 7))) (s4 : IsOp a4 (some 31) (.slice t (.tmp 27) (some (.tmp 29)) (some (.tmp 30)) none)) (s5 : IsOp a5 none (.call { callee := .builtin .clear, args := #[.tmp 31], argTypes := #[t] }))
    (hn : tmps.size = n) (hn33 : 33 ≤ n) {b o' N M cap : Nat} {cur : Array Value} {te : TypeId} (hb : w.heap[b]? = some (.cells cur te (0, 0))) (hM : M < N) (hN : N ≤ cap) (hfit : o' + cap * k ≤ cur.size)
    (hf : FrOK F Λ w tmps [(0, .v (.slice (some ⟨b, o', none⟩) M cap)), (7, intA N)]) (hO : ¬ F b) {zc : List Value} (hzc : (Builtin.zeroCells z.cells (N - M)).toList = zc) (hzl : zc.length = (N - M) * k) (h1 : ∀ u ∈ zc, u.oneCell' = true)
    (h : ∀ tmps', tmps'.size = n → FrOK F Λ (w.setRow b (cur.toList.take (o' + M * k) ++ zc ++ cur.toList.drop (o' + M * k + zc.length)).toArray) tmps' [(0, .v (.slice (some ⟨b, o', none⟩) M cap))] → Q .normal ⟨tmps', []⟩ (w.setRow b (cur.toList.take (o' + M * k) ++ zc ++ cur.toList.drop (o' + M * k + zc.length)).toArray)) :
    wpList P ops Q [a0, a1, a2, a3, a4, a5] ⟨tmps, []⟩ w := by
  subst hk hzc
  have dk : ∀ (d : Nat), d < 33 → dstOK n (some d) = true := fun d hd => by show decide (d < n) = true; exact decide_eq_true (by omega)
  refine rawL_cons (n := n) s0.g (purI_move s0.op) s0.dst (dk 27 (by omega)) hn hf fun t1 n1 f1 => ?_
  refine rawL_cons (n := n) s1.g (purI_move s1.op) s1.dst (dk 28 (by omega)) n1 f1 fun t2 n2 f2 => ?_
  refine rawL_cons (n := n) s2.g (purI_lenX (a := some ⟨b, o', none⟩) (q := M) (cap := cap) hT rfl s2.op) s2.dst (dk 29 (by omega)) n2 f2 fun t3 n3 f3 => ?_
  refine rawL_cons (n := n) s3.g (purI_move s3.op) s3.dst (dk 30 (by omega)) n3 f3 fun t4 n4 f4 => ?_
  refine rawL_cons (n := n) s4.g (purI_cutX (lo := some (.tmp 29)) (y := .tmp 30) (a := some ⟨b, o', none⟩) (q := M) (cap := cap) (i := M) (j := N) hT rfl ⟨_, rfl⟩ ⟨_, rfl⟩ (by omega) hN s4.op) s4.dst (dk 31 (by omega)) n4 f4 fun t5 n5 f5 => ?_
  have v31 : Act.eval ⟨t5, []⟩ (.tmp 31) = .slice (some ⟨b, o' + M * inf.size, none⟩) (N - M) (cap - M) := by
    have e1 := (val_ok (ds := []) f5 (.tmp 31)).v_inv (x := .slice (if cap = M then some ⟨b, o', none⟩ else (some (⟨b, o', none⟩ : Addr)).map (·.add (M * inf.size))) (N - M) (cap - M))
    rw [if_neg (by omega)] at e1
    simpa [addr_add] using e1
  have hfit2 : o' + M * inf.size + (Builtin.zeroCells z.cells (N - M)).toList.length ≤ cur.size := by
    have h2 : (M + (N - M)) * inf.size ≤ cap * inf.size := Nat.mul_le_mul_right _ (by omega)
    rw [Nat.add_mul] at h2
    omega
  have hrun := run_clearX (P := P) (o := a5) (w := w) (tmps := t5) hT.u hi hz s5.op v31 (by omega) h1 hb hfit2
  have hF : ∀ b', F b' → F b' ∧ (w.setRow b (cur.toList.take (o' + M * inf.size) ++ (Builtin.zeroCells z.cells (N - M)).toList ++ cur.toList.drop (o' + M * inf.size + (Builtin.zeroCells z.cells (N - M)).toList.length)).toArray).heap[b']? = w.heap[b']? := fun b' hb' => ⟨hb', setRow_other w b b' _ fun e => hO (e ▸ hb')⟩
  have hS : Sizes w (w.setRow b (cur.toList.take (o' + M * inf.size) ++ (Builtin.zeroCells z.cells (N - M)).toList ++ cur.toList.drop (o' + M * inf.size + (Builtin.zeroCells z.cells (N - M)).toList.length)).toArray) := fun b' cs1 t1 h1 => by
    by_cases e : b' = b
    · subst e
      rw [hb] at h1
      cases h1
      refine ⟨_, setRow_heap w b' cur _ te (0, 0) hb, ?_⟩
      have hfit3 := hfit2
      simp only [Array.length_toList] at hfit3
      simp only [List.size_toArray, List.length_append, List.length_take, List.length_drop, Array.length_toList]
      omega
    · exact ⟨cs1, by rw [setRow_other w b b' _ e]; exact h1, rfl⟩
  refine rawL_run (n := n) s5.g hrun s5.dst rfl n5 (f5.mono hF hS) (r := .j) (.j _) fun t6 n6 f6 => ?_
  unfold wpList
  exact h t6 n6 (f6.weak (Pk.all (E' := [(0, .v (.slice (some ⟨b, o', none⟩) M cap))]) ⟨rfl, trivial⟩))
end
theorem Cell.okC {F : Nat → Prop} {Λ : Lbl} {w : World} {bx : Bool} {L : List Nat} {c : Value} {x : A} (hb : x.inCell = true) (h : Cell F Λ w bx L c x) : OK F Λ w c x := by
  cases x <;> first | exact h.2 | (simp [A.inCell] at hb)
section
variable {P : Program} {n m : Nat} {K : Exit → Env → Store → Prop} {E : Env} {σ : Store}
/-- Regions 5 and 6 of slices.Delete: elements i .. j - 1 go out of a row whose cells nobody owns but it. -/
theorem T_del {α : Type} {Y : Ty α} {t e : Nat} {zs : List Value} (hT : SlT P t e Y.k) (hz : ZeroT P e zs) (hzk : zs.length = Y.k) (hm : P.follows .mixedOrders = true) {a0 a1 a2 a3 a4 a5 a6 a7 b0 b1 b2 b3 b4 b5 : Oper} {id5 id6 : Nat} {rest : Code}
    (s0 : IsOp a0 (some 20) (.move (.tmp 0))) (s1 : IsOp a1 (some 21) (.move (.tmp 1))) (s2 : IsOp a2 (some 22) (.slice t (.tmp 20) none (some (.tmp 21)) none)) (s3 : IsOp a3 (some 23) (.move (.tmp 0))) (s4 : IsOp a4 (some 24) (.move (.tmp 2))) (s5 : IsOp a5 (some 25) (.slice t (.tmp 23) (some (.tmp 24)) none none)) (s6 : IsOp a6 (some 26) (.call { callee := .builtin .append, args := #[.tmp 22, .tmp 25], argTypes := #[t, t] })) (s7 : IsOp a7 (some 0) (.assign (.tmp 26)))
    {c : Nat → Array Bool} (hc0 : c 0 = #[false, false, false, false, false, false, false, false]) (hcs : ∀ q, q < 8 → (c q).setIfInBounds q true = c (q + 1))
    (hc : ∀ q, q < 8 → q ≠ 6 → (Region.noSelect #[a0, a1, a2, a3, a4, a5, a6, a7] && (Region.ready .any #[a0, a1, a2, a3, a4, a5, a6, a7] (c q)).contains q && Region.free .any #[a0, a1, a2, a3, a4, a5, a6, a7] (c q) q) = true)
    (h6 : Region.ready .any #[a0, a1, a2, a3, a4, a5, a6, a7] (c 6) = [6]) (h8 : Region.ready .any #[a0, a1, a2, a3, a4, a5, a6, a7] (c 8) = [])
    (r0 : IsOp b0 (some 27) (.move (.tmp 0))) (r1 : IsOp b1 (some 28) (.move (.tmp 0))) (r2 : IsOp b2 (some 29) (.call { callee := .builtin .len, args := #[.tmp 28], argTypes := #[t] })) (r3 : IsOp b3 (some 30) (.move (.tmp 7))) (r4 : IsOp b4 (some 31) (.slice t (.tmp 27) (some (.tmp 29)) (some (.tmp 30)) none)) (r5 : IsOp b5 none (.call { callee := .builtin .clear, args := #[.tmp 31], argTypes := #[t] }))
    (hn33 : 33 ≤ n) {xs : List α} {i j l : Nat} (hij : i < j) (hj : j ≤ xs.length) (hσ : σ[l]? = some (.row (flat Y.enc xs))) (e0 : lk E 0 = .m [l] 0 xs.length Y.k) (e1 : lk E 1 = intA i) (e2 : lk E 2 = intA j) (e7 : lk E 7 = intA xs.length)
    (h : T P n m rest K [(0, .m [l] 0 (xs.take i ++ xs.drop j).length Y.k)] (σ.set l (.row (flat Y.enc (xs.take i ++ xs.drop j))))) :
    T P n m (.seq (.region id5 #[a0, a1, a2, a3, a4, a5, a6, a7] true) (.seq (.region id6 #[b0, b1, b2, b3, b4, b5] false) rest)) K E σ := fun F Λ w tmps Q hn hs hf hq => by
  obtain ⟨⟨inf, z, z1, z2, z3⟩, z4⟩ := hz
  have hk : inf.size = Y.k := by obtain ⟨i2, g1, g2⟩ := hT.i; rw [z1] at g1; cases g1; exact g2
  have hk0 := hT.pos
  have hrow : rowAt σ [l] = some (flat Y.enc xs) := by simp only [rowAt, hσ, Root.cells, sub]
  have hv0 := hf 0
  rw [e0] at hv0
  rcases hv0.m_inv with ⟨h0, _⟩ | ⟨b, o', cap, hL, g2, hN, hcap, cs, te, g5, g6⟩
  · omega
  simp only [Nat.add_zero] at g2 g6
  have hO : ¬ F b := fun hb => hs.notOwn hb ⟨[l], _, o', hrow, hL⟩
  have hfl : (flat Y.enc xs).length = xs.length * Y.k := flat_len Y.len xs
  have hcell : ∀ (d : Nat) y, (flat Y.enc xs)[d]? = some y → ∃ c, cs[o' + d]? = some c ∧ OK F Λ w c y := fun d y hy => by
    obtain ⟨c, k1, k2⟩ := hs.cellAt hrow hL hy
    refine ⟨c, ?_, k2.okC (cellAll (flat_cell Y xs) y (List.mem_of_getElem? hy))⟩
    simpa [World.cell?, g5] using k1
  have hNk : xs.length * Y.k ≤ cap * Y.k := Nat.mul_le_mul_right _ hN
  have hjk : j * Y.k ≤ xs.length * Y.k := Nat.mul_le_mul_right _ hj
  have hik : i * Y.k ≤ j * Y.k := Nat.mul_le_mul_right _ (by omega)
  have hsub : (xs.length - j) * Y.k = xs.length * Y.k - j * Y.k := Nat.sub_mul ..
  -- the cells that move
  obtain ⟨news, hnews⟩ : ∃ news, news = (cs.toList.drop (o' + j * Y.k)).take ((xs.length - j) * Y.k) := ⟨_, rfl⟩
  have hnl : news.length = (xs.length - j) * Y.k := by rw [hnews]; simp only [List.length_take, List.length_drop, Array.length_toList]; omega
  have hng : ∀ q, q < (xs.length - j) * Y.k → news[q]? = cs[o' + j * Y.k + q]? := fun q hq => by
    rw [hnews, List.getElem?_take_of_lt hq, List.getElem?_drop, Array.getElem?_toList]
  have hone : ∀ u ∈ news, u.oneCell' = true := fun u hu => by
    obtain ⟨q, hq⟩ := List.getElem?_of_mem hu
    have hql : q < (xs.length - j) * Y.k := by have := (List.getElem?_eq_some_iff.1 hq).1; omega
    rw [hng q hql] at hq
    have hd : j * Y.k + q < (flat Y.enc xs).length := by omega
    obtain ⟨u', k1, k2⟩ := hcell _ _ (List.getElem?_eq_getElem hd)
    rw [← Nat.add_assoc, hq] at k1
    cases k1
    exact oneCell_sc (k2.cells1 (inCell_inBox (cellAll (flat_cell Y xs) _ (List.getElem_mem hd)))).2
  have hzc : z.cells.size = Y.k := by rw [← hzk, ← z3]; simp
  obtain ⟨M, hM⟩ : ∃ M, M = i + (xs.length - j) := ⟨_, rfl⟩
  obtain ⟨zc, hzcl⟩ : ∃ zc, zc = (Builtin.zeroCells z.cells (xs.length - M)).toList := ⟨_, rfl⟩
  have hzl : zc.length = (xs.length - M) * Y.k := by rw [hzcl, Array.length_toList, size_zeroCells, hzc]
  have hzone : ∀ u ∈ zc, u.oneCell' = true := fun u hu => by
    rw [hzcl] at hu
    simp only [Builtin.zeroCells, Array.toList_map, List.mem_map] at hu
    obtain ⟨q, _, rfl⟩ := hu
    have hq : q % z.cells.size < z.cells.size := Nat.mod_lt _ (by omega)
    refine oneCell_sc (z4 _ ?_)
    rw [← z3, getElem!_pos z.cells _ hq]
    simp
  obtain ⟨cs1, hcs1⟩ : ∃ cs1, cs1 = (cs.toList.take (o' + i * Y.k) ++ news ++ cs.toList.drop (o' + i * Y.k + news.length)).toArray := ⟨_, rfl⟩
  obtain ⟨cs2, hcs2⟩ : ∃ cs2, cs2 = (cs1.toList.take (o' + M * Y.k) ++ zc ++ cs1.toList.drop (o' + M * Y.k + zc.length)).toArray := ⟨_, rfl⟩
  have hMk : M * Y.k = i * Y.k + (xs.length - j) * Y.k := by rw [hM, Nat.add_mul]
  have hNM : (xs.length - M) * Y.k = xs.length * Y.k - M * Y.k := Nat.sub_mul ..
  have hsz1 : cs1.size = cs.size := by
    rw [hcs1]
    simp only [List.size_toArray, List.length_append, List.length_take, List.length_drop, Array.length_toList]
    omega
  have hsz2 : cs2.size = cs.size := by
    rw [hcs2]
    simp only [List.size_toArray, List.length_append, List.length_take, List.length_drop, Array.length_toList]
    omega
  have hf0 : FrOK F Λ { w with drawn := w.drawn + 1 } tmps [(0, .v (.slice (some ⟨b, o', none⟩) xs.length cap)), (1, intA i), (2, intA j), (7, intA xs.length)] := by
    have hfm : FrOK F Λ { w with drawn := w.drawn + 1 } tmps E := FrOK.mono (w := w) (w' := { w with drawn := w.drawn + 1 }) (fun b hb => ⟨hb, rfl⟩) (fun b cs t h => ⟨cs, h, rfl⟩) hf
    have hfe : FrOK F Λ { w with drawn := w.drawn + 1 } tmps ((0, .v (.slice (some ⟨b, o', none⟩) xs.length cap)) :: E) := fun u => by
      simp only [lk]
      split
      · rename_i eq
        have eq : 0 = u := by simpa using eq
        subst eq
        rw [g2]
        exact .imm (.v _)
      · exact hfm u
    exact hfe.weak (Pk.all ⟨rfl, by simp [lk, e1], by simp [lk, e2], by simp [lk, e7], trivial⟩)
  refine wp_seq (wp_mono (wp_region_any hm (Q := onlyN fun a w => (Code.seq (.region id6 #[b0, b1, b2, b3, b4, b5] false) rest).wp P Q a w) ?_) fun e a w h => by cases e <;> first | exact h | exact h.elim)
  refine del5 (n := n) (w := { w with drawn := w.drawn + 1 }) hT z1 hk s0 s1 s2 s3 s4 s5 s6 s7 hc0 hcs hc h6 h8 hn hn33 (b := b) (o' := o') (N := xs.length) (cap := cap) (i := i) (j := j) (cur := cs) (te := te) g5 hij hj hN (by omega) hf0 hO hnl (fun q v hq => ?_) hone fun tmps5 n5 f5 => ?_
  · have hql : q < (xs.length - j) * Y.k := by have := (List.getElem?_eq_some_iff.1 hq).1; omega
    rw [hng q hql] at hq
    simpa [World.cell?, g5] using hq
  · rw [← hcs1] at f5 ⊢
    rw [← hM] at f5
    have hb1 : (World.setRow { w with drawn := w.drawn + 1 } b cs1).heap[b]? = some (.cells cs1 te (0, 0)) := setRow_heap _ b cs cs1 te (0, 0) g5
    refine wp_seq (wp_region_list ?_)
    refine del6 (n := n) hT z1 hk z2 r0 r1 r2 r3 r4 r5 n5 hn33 (b := b) (o' := o') (N := xs.length) (M := M) (cap := cap) (cur := cs1) (te := te) hb1 (by omega) hN (by omega) f5 hO hzcl.symm hzl hzone fun tmps6 n6 f6 => ?_
    rw [← hcs2] at f6 ⊢
    have hlen : (xs.take i ++ xs.drop j).length = M := by simp only [List.length_append, List.length_take, List.length_drop]; omega
    have hflat : flat Y.enc (xs.take i ++ xs.drop j) = (flat Y.enc xs).take (i * Y.k) ++ (flat Y.enc xs).drop (j * Y.k) := by rw [← flat_app, flat_take Y.len, flat_drop Y.len]
    have hb2 : (World.setRow (World.setRow { w with drawn := w.drawn + 1 } b cs1) b cs2).heap[b]? = some (.cells cs2 te (0, 0)) := setRow_heap _ b cs1 cs2 te (0, 0) hb1
    have hg2 : ∀ d, d < M * Y.k → cs2[o' + d]? = cs1[o' + d]? := fun d hd => by
      rw [hcs2, List.getElem?_toArray, List.append_assoc, List.getElem?_append_left (by simp only [List.length_take, Array.length_toList]; omega), List.getElem?_take_of_lt (by omega), Array.getElem?_toList]
    have hg1a : ∀ d, d < i * Y.k → cs1[o' + d]? = cs[o' + d]? := fun d hd => by
      rw [hcs1, List.getElem?_toArray, List.append_assoc, List.getElem?_append_left (by simp only [List.length_take, Array.length_toList]; omega), List.getElem?_take_of_lt (by omega), Array.getElem?_toList]
    have hg1b : ∀ q, q < (xs.length - j) * Y.k → cs1[o' + (i * Y.k + q)]? = cs[o' + (j * Y.k + q)]? := fun q hq => by
      rw [hcs1, List.getElem?_toArray, List.append_assoc, List.getElem?_append_right (by simp only [List.length_take, Array.length_toList]; omega)]
      have e : o' + (i * Y.k + q) - (cs.toList.take (o' + i * Y.k)).length = q := by simp only [List.length_take, Array.length_toList]; omega
      rw [e, List.getElem?_append_left (by omega), hng q hq, Nat.add_assoc]
    have hturn := St.turn (m := m) (w' := World.setRow (World.setRow { w with drawn := w.drawn + 1 } b cs1) b cs2) hs hσ (ys := flat Y.enc (xs.take i ++ xs.drop j)) (fun y hy => inCell_plain (cellAll (flat_cell Y _) y hy)) hL g5 hb2 hsz2 (fun b' hb' => (setRow_other _ b b' _ hb').trans (setRow_other _ b b' _ hb')) (by simp [World.setRow]) rfl rfl rfl fun d y hy => by
      have hin := cellAll (flat_cell Y _) y (List.mem_of_getElem? hy)
      have hd : d < M * Y.k := by have := (List.getElem?_eq_some_iff.1 hy).1; rwa [flat_len Y.len, hlen] at this
      rw [hflat] at hy
      rw [hg2 d hd]
      by_cases hdi : d < i * Y.k
      · rw [List.getElem?_append_left (by rw [List.length_take]; omega), List.getElem?_take_of_lt hdi] at hy
        obtain ⟨c, k1, k2⟩ := hcell d y hy
        exact ⟨c, by rw [hg1a d hdi]; exact k1, .ofCell hin k2⟩
      · rw [List.getElem?_append_right (by rw [List.length_take]; omega), List.getElem?_drop] at hy
        have e : j * Y.k + (d - ((flat Y.enc xs).take (i * Y.k)).length) = j * Y.k + (d - i * Y.k) := by rw [List.length_take]; omega
        rw [e] at hy
        obtain ⟨c, k1, k2⟩ := hcell _ y hy
        refine ⟨c, ?_, .ofCell hin k2⟩
        have := hg1b (d - i * Y.k) (by omega)
        rw [show i * Y.k + (d - i * Y.k) = d by omega] at this
        rw [this]; exact k1
    have hfE : FrOK F Λ (World.setRow (World.setRow { w with drawn := w.drawn + 1 } b cs1) b cs2) tmps6 [(0, .m [l] 0 (xs.take i ++ xs.drop j).length Y.k)] := fun u => by
      simp only [lk]
      split
      · rename_i eq
        have eq : 0 = u := by simpa using eq
        subst eq
        have := (f6 0).v_inv (x := .slice (some ⟨b, o', none⟩) M cap)
        rw [this, hlen]
        exact .m (.inr ⟨b, o', cap, hL, rfl, by omega, hcap, cs2, te, hb2, by omega⟩)
      · exact .j _
    exact h F Λ _ tmps6 Q n6 hturn.1 hfE fun e F2 Λ2 σ2 w2 tmps2 E2 hn2 hs2 hf2 hst2 hK2 => hq e F2 Λ2 σ2 w2 tmps2 E2 hn2 hs2 hf2 (hturn.2.trans hst2) hK2
end
end Go.Sep
namespace Go.Sep
open Go
/-- A list without its elements i .. j - 1. -/
def cutOut {α : Type} (xs : List α) (i j : Int) : Option (List α) := if 0 ≤ i ∧ i ≤ j ∧ j ≤ xs.length then some (xs.take i.toNat ++ xs.drop j.toNat) else none
theorem cutOut_ok {α : Type} {xs : List α} {i j : Nat} (h1 : i ≤ j) (h2 : j ≤ xs.length) : cutOut xs (i : Int) (j : Int) = some (xs.take i ++ xs.drop j) := by
  unfold cutOut; rw [if_pos (by omega)]; simp
theorem cutOut_inv {α : Type} {xs r : List α} {a b : Int} (h : cutOut xs a b = some r) : ∃ i j : Nat, a = i ∧ b = j ∧ i ≤ j ∧ j ≤ xs.length ∧ r = xs.take i ++ xs.drop j := by
  unfold cutOut at h
  split at h
  case isFalse => cases h
  rename_i h0
  cases h
  exact ⟨a.toNat, b.toNat, by omega, by omega, by omega, by omega, rfl⟩
section
variable {P : Program} {E : Env} {σ : Store} {o : Oper}
/-- s[lo:hi:max], whatever it is. -/
theorem pur_cut3J {t e k : Nat} {x lo hi mx : Operand} {L : List Nat} {a nn i j q : Nat} (hT : SlT P t e k) (hx : val E x = .m L a nn k) (hlo : val E lo = intA i) (hhi : val E hi = intA j) (hmx : val E mx = intA q) (h1 : i ≤ j) (h2 : j ≤ q) (h3 : q ≤ nn) (h : o.op = .slice t x (some lo) (some hi) (some mx)) : Pur P o E σ .j := fun F Λ w tmps hs hf => by
  have e1 := val_ok (ds := []) hf x
  rw [hx] at e1
  obtain ⟨ad, cap, hv, hc⟩ : ∃ ad cap, Act.eval ⟨tmps, []⟩ x = .slice ad nn cap ∧ nn ≤ cap := by
    rcases e1.m_inv with ⟨h0, ad, h4⟩ | ⟨b, o', cap, hL, h5, h6, h7⟩
    · exact ⟨ad, 0, by rw [h4, h0], by omega⟩
    · exact ⟨_, cap, h5, h6⟩
  have e2 := val_ok (ds := []) hf lo
  rw [hlo] at e2
  have e2 := e2.v_inv
  have e3 := val_ok (ds := []) hf hi
  rw [hhi] at e3
  have e3 := e3.v_inv
  have e4 := val_ok (ds := []) hf mx
  rw [hmx] at e4
  have e4 := e4.v_inv
  refine ⟨.slice (if q = i then ad else ad.map (·.add (i * k))) (j - i) (q - i), .j _, fun w' ha => ?_⟩
  simp only [execOp, h, hv, Option.map_some, e2, e3, e4]
  simp [Instr.sliceAt, run_underlying hT.u, Instr.slice, Instr.sliceBounds, run_sliceBound, run_sizeOf' hT.i, show (q : Int) ≤ cap by omega, show (j : Int) ≤ q by omega, show (i : Int) ≤ j by omega]
end
end Go.Sep


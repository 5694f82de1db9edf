/- The data of the program as cells, and how they are read and written. -/
import Derived.Test.YtlcpdlngbofgcaaCH
set_option linter.unusedVariables false
set_option linter.unusedSimpArgs false
namespace Go.Sep
open Go

def edge (e : Int × Int) : List A := [intA e.1, intA e.2]
theorem len_edge (e : Int × Int) : (edge e).length = 2 := rfl
instance (xs : List (Int × Int)) : Len (flat edge xs) 2 xs.length := ⟨flat_len len_edge xs⟩
abbrev edgesI (xs : List (Int × Int)) : A := .i 2 (flat edge xs)
def rows (xs : List (List Int)) : List A := xs.map fun r => .i 1 (ints r)
instance (xs : List (List Int)) : Len (rows xs) 1 xs.length := ⟨by simp [rows]⟩
theorem rows_get (xs : List (List Int)) (i : Nat) (h : i < xs.length) : (rows xs)[i * 1]? = some (.i 1 (ints (xs.getD i []))) := by
  simp [rows, h]
/-- Rows that are owned. -/
def orows (xs : List (List Int)) : List A := xs.map fun r => .o 1 (ints r)
theorem ints_len (xs : List Int) : (ints xs).length = xs.length := by simp [ints]
theorem bools_len (xs : List Bool) : (bools xs).length = xs.length := by simp [bools]
theorem rows_len (xs : List (List Int)) : (rows xs).length = xs.length := by simp [rows]
theorem orows_len (xs : List (List Int)) : (orows xs).length = xs.length := by simp [orows]

theorem firmL_ints (xs : List Int) : firmL (ints xs) = true := firmL_of fun x hx => by
  obtain ⟨z, _, rfl⟩ := List.mem_map.1 hx; rfl
theorem firmL_bools (xs : List Bool) : firmL (bools xs) = true := firmL_of fun x hx => by
  obtain ⟨z, _, rfl⟩ := List.mem_map.1 hx; rfl
theorem firmL_rows (xs : List (List Int)) : firmL (rows xs) = true := firmL_of fun x hx => by
  obtain ⟨z, _, rfl⟩ := List.mem_map.1 hx; rfl
theorem firmL_orows (xs : List (List Int)) : firmL (orows xs) = true := firmL_of fun x hx => by
  obtain ⟨z, _, rfl⟩ := List.mem_map.1 hx
  simp [firm, firmL_ints]
theorem mem_flat {α : Type} {f : α → List A} {x : A} : ∀ {xs : List α}, x ∈ flat f xs → ∃ y ∈ xs, x ∈ f y
  | [], h => by simp [flat] at h
  | y :: ys, h => by
    simp only [flat, List.mem_append] at h
    rcases h with h | h
    · exact ⟨y, by simp, h⟩
    · obtain ⟨z, h1, h2⟩ := mem_flat h
      exact ⟨z, by simp [h1], h2⟩
theorem firmL_flat {α : Type} {f : α → List A} (h : ∀ y, firmL (f y) = true) (xs : List α) : firmL (flat f xs) = true := firmL_of fun x hx => by
  obtain ⟨y, _, hy⟩ := mem_flat hx
  exact firmL_mem (h y) x hy
theorem firmL_edges (xs : List (Int × Int)) : firmL (flat edge xs) = true := firmL_flat (fun _ => rfl) xs
theorem fzL_id {xs : List A} (h : ∀ x ∈ xs, fz x = x) : fzL xs = xs := by
  rw [fzL_map]
  exact (List.map_congr_left h).trans (List.map_id _)
theorem fzL_ints (xs : List Int) : fzL (ints xs) = ints xs := fzL_id fun x hx => by
  obtain ⟨z, _, rfl⟩ := List.mem_map.1 hx; rfl
theorem fzL_bools (xs : List Bool) : fzL (bools xs) = bools xs := fzL_id fun x hx => by
  obtain ⟨z, _, rfl⟩ := List.mem_map.1 hx; rfl
theorem fzL_rows (xs : List (List Int)) : fzL (rows xs) = rows xs := fzL_id fun x hx => by
  obtain ⟨z, _, rfl⟩ := List.mem_map.1 hx; rfl
theorem fzL_flat {α : Type} {f : α → List A} (h : ∀ y, ∀ x ∈ f y, fz x = x) (xs : List α) : fzL (flat f xs) = flat f xs := fzL_id fun x hx => by
  obtain ⟨y, _, hy⟩ := mem_flat hx
  exact h y x hy
theorem fzL_edges (xs : List (Int × Int)) : fzL (flat edge xs) = flat edge xs := fzL_flat (fun y x hx => by
  simp [edge] at hx; rcases hx with rfl | rfl <;> rfl) xs
theorem fzL_orows (xs : List (List Int)) : fzL (orows xs) = rows xs := by
  rw [fzL_map, orows, rows, List.map_map]
  apply List.map_congr_left
  intro r _
  simp [fz, fzL_ints]

section
variable {P : Program} {E : Env} {σ : Store} {o : Oper}
theorem flat_seg {α : Type} [Inhabited α] {f : α → List A} {k : Nat} (hk : ∀ x, (f x).length = k) : ∀ (xs : List α) (i : Nat), i < xs.length → ((flat f xs).drop (i * k)).take k = f (xs.getD i default)
  | [], i, h => by simp at h
  | x :: xs, 0, _ => by
    simp only [flat, Nat.zero_mul, List.drop_zero, List.getD_cons_zero]
    rw [← hk x, List.take_left]
  | x :: xs, i + 1, h => by
    simp only [flat, List.getD_cons_succ]
    rw [Nat.succ_mul, Nat.add_comm, ← hk x, List.drop_append, hk x]
    simp only [List.drop_eq_nil_of_le (show (f x).length ≤ k + i * k by rw [hk]; omega), List.nil_append]
    rw [show k + i * k - k = i * k by omega]
    exact flat_seg hk xs i (by simpa using h)
theorem pur_ldK_flat {α : Type} [Inhabited α] {f : α → List A} {k : Nat} {t x} {xs : List α} {d : Nat} (h : o.op = .load t x) (i : Nat) (hk : ∀ x, (f x).length = k) (hT : AggT P t k) (hx : val E x = .q (flat f xs) d) (hd : d = i * k) (hi : i < xs.length) : Pur P o E σ (.g (f (xs.getD i default))) := by
  have := pur_ldK_q (σ := σ) hT hx (by
    rw [hd, flat_len hk, ← Nat.succ_mul]; exact Nat.mul_le_mul_right _ hi) h
  rwa [hd, flat_seg hk xs i hi] at this
theorem pur_ld_rows {t x} {xs : List (List Int)} {d i : Nat} (h : o.op = .load t x) (hT : OneT P t) (hx : val E x = .q (rows xs) d) (hd : d = i * 1) (hi : i < xs.length) : Pur P o E σ (.i 1 (ints (xs.getD i []))) :=
  pur_ld_q hT hx (by rw [hd]; exact rows_get xs i hi) h
theorem pur_ld_bools {t x} {xs : List Bool} {d i : Nat} (h : o.op = .load t x) (hT : OneT P t) (hx : val E x = .q (bools xs) d) (hd : d = i * 1) (hi : i < xs.length) : Pur P o E σ (boolA (xs.getD i false)) :=
  pur_ld_q hT hx (by rw [hd]; exact bools_get xs i hi) h
theorem pur_ld_strs {t x} {xs : List ByteArray} {d i : Nat} (h : o.op = .load t x) (hT : OneT P t) (hx : val E x = .q (strs xs) d) (hd : d = i * 1) (hi : i < xs.length) : Pur P o E σ (strA (xs.getD i default)) :=
  pur_ld_q hT hx (by rw [hd]; exact strs_get xs i hi) h
/-- Out of rows that are owned. -/
theorem pur_lde_ints {t x L} {xs : List Int} {d i : Nat} (h : o.op = .load t x) (hT : OneT P t) (hx : val E x = .e L d) (hr : rowAt σ L = some (ints xs)) (hd : d = 0 + i * 1) (hi : i < xs.length) : Pur P o E σ (intA (xs.getD i 0)) :=
  pur_ld_e (y := intA (xs.getD i 0)) hT hx hr (by rw [hd, Nat.zero_add]; exact ints_get xs i hi) h
theorem pur_lde_bools {t x L} {xs : List Bool} {d i : Nat} (h : o.op = .load t x) (hT : OneT P t) (hx : val E x = .e L d) (hr : rowAt σ L = some (bools xs)) (hd : d = 0 + i * 1) (hi : i < xs.length) : Pur P o E σ (boolA (xs.getD i false)) :=
  pur_ld_e (y := boolA (xs.getD i false)) hT hx hr (by rw [hd, Nat.zero_add]; exact bools_get xs i hi) h
end

/-! ### rows under new cells -/
theorem spl_ints (xs : List Int) (i : Nat) (z : Int) : spl (ints xs) (0 + i * 1) [intA z] = ints (xs.set i z) := by
  simp [spl, ints]
theorem spl_bools (xs : List Bool) (i : Nat) (z : Bool) : spl (bools xs) (0 + i * 1) [boolA z] = bools (xs.set i z) := by
  simp [spl, bools]
theorem spl_flat {α : Type} {f : α → List A} {k : Nat} (hk : ∀ x, (f x).length = k) (xs : List α) (i : Nat) (y : α) (hi : i < xs.length) : spl (flat f xs) (0 + i * k) (f y) = flat f (xs.set i y) := by
  rcases Nat.eq_zero_or_pos k with h0 | h0
  · have h1 : ∀ x, f x = [] := fun x => List.eq_nil_of_length_eq_zero ((hk x).trans h0)
    have h2 : ∀ ys : List α, flat f ys = [] := fun ys => by induction ys with | nil => rfl | cons y ys ih => simp [flat, h1, ih]
    simp [h1, h2, spl]
  apply List.ext_getElem?
  intro j
  have hlen : (flat f xs).length = xs.length * k := flat_len hk xs
  have hik : i * k + k ≤ xs.length * k := by rw [← Nat.succ_mul]; exact Nat.mul_le_mul_right _ hi
  rw [Nat.zero_add, spl_get _ _ _ _ (by rw [hk, hlen]; exact hik), hk]
  rcases Nat.lt_or_ge j (xs.length * k) with hj | hj
  · have hq : j / k < xs.length := Nat.div_lt_of_lt_mul (by rw [Nat.mul_comm]; exact hj)
    have hm : j % k < k := Nat.mod_lt _ h0
    have e : j = j / k * k + j % k := by rw [Nat.mul_comm]; exact (Nat.div_add_mod j k).symm
    haveI : Inhabited α := ⟨y⟩
    have g1 := flat_get hk xs (j / k) (j % k) hq hm
    have g2 := flat_get hk (xs.set i y) (j / k) (j % k) (by simpa using hq) hm
    rw [← e] at g1 g2
    rw [g1, g2]
    by_cases e2 : j / k = i
    · have hle : i * k ≤ j := by rw [← e2]; exact Nat.div_mul_le_self j k
      have hlt : j < i * k + k := by rw [e, e2]; omega
      rw [if_pos ⟨hle, hlt⟩, ← e2]
      have : (xs.set (j / k) y).getD (j / k) default = y := by simp [List.getD, hq]
      rw [this]
      congr 1
      have := Nat.mod_add_div j k
      rw [Nat.mul_comm] at this
      omega
    · rw [if_neg (fun h => e2 (by
        apply Nat.le_antisymm
        · exact Nat.lt_succ_iff.1 (Nat.div_lt_of_lt_mul (by rw [Nat.mul_comm, Nat.succ_mul]; exact h.2))
        · exact (Nat.le_div_iff_mul_le h0).2 h.1))]
      congr 2
      simp [List.getD, List.getElem?_set, Ne.symm e2]
  · rw [if_neg (by omega), List.getElem?_eq_none (by omega), List.getElem?_eq_none (by rw [flat_len hk]; simpa using hj)]
theorem zeros_int (n : Nat) : (List.range (n * 1)).map (fun j => constA ([Value.int .i64 0][j % 1]!)) = ints (List.replicate n 0) := by
  apply List.ext_getElem?
  intro j
  rcases Nat.lt_or_ge j n with h | h
  · have e : j % 1 = 0 := Nat.mod_one j
    simp [ints, h, e, constA]
  · simp [ints, h]
theorem zeros_bool (n : Nat) : (List.range (n * 1)).map (fun j => constA ([Value.bool false][j % 1]!)) = bools (List.replicate n false) := by
  apply List.ext_getElem?
  intro j
  rcases Nat.lt_or_ge j n with h | h
  · have e : j % 1 = 0 := Nat.mod_one j
    simp [bools, h, e, constA]
  · simp [bools, h]
theorem zeros_edge (n : Nat) : (List.range (n * 2)).map (fun j => constA ([Value.int .i64 0, Value.int .i64 0][j % 2]!)) = flat edge (List.replicate n (0, 0)) := by
  apply List.ext_getElem?
  intro j
  rcases Nat.lt_or_ge j (n * 2) with h | h
  · have hq : j / 2 < n := by omega
    have g := flat_get len_edge (List.replicate n (0, 0)) (j / 2) (j % 2) (by simpa using hq) (Nat.mod_lt _ (by omega))
    rw [show j / 2 * 2 + j % 2 = j by omega] at g
    rw [g]
    have : (List.replicate n ((0 : Int), (0 : Int))).getD (j / 2) default = (0, 0) := by simp [List.getD, hq]
    rw [this]
    rcases Nat.mod_two_eq_zero_or_one j with e | e <;> simp [h, e, constA, edge]
  · rw [List.getElem?_eq_none (by simpa using h), List.getElem?_eq_none (by rw [flat_len len_edge]; simpa using h)]

/-! ### struct literals, equality of structs -/
theorem foldl_cells : ∀ (vs : List Value) (k off : Nat) (cs : Array Value), off + k + vs.length ≤ cs.size → ∀ (i : Nat),
    ((vs.zipIdx k).foldl (fun cs (x : Value × Nat) => cs.setIfInBounds (off + x.2) x.1) cs)[i]? = if off + k ≤ i ∧ i < off + k + vs.length then vs[i - (off + k)]? else cs[i]?
  | [], k, off, cs, h, i => by simp only [List.zipIdx_nil, List.foldl_nil, List.length_nil]; rw [if_neg (by omega)]
  | v :: vs, k, off, cs, h, i => by
    simp only [List.length_cons] at h
    simp only [List.zipIdx_cons, List.foldl_cons]
    rw [foldl_cells vs (k + 1) off _ (by simp; omega) i]
    by_cases h1 : off + (k + 1) ≤ i ∧ i < off + (k + 1) + vs.length
    · rw [if_pos h1, if_pos (by simp; omega), show i - (off + k) = (i - (off + (k + 1))) + 1 by omega]; simp
    · rw [if_neg h1, Array.getElem?_setIfInBounds]
      by_cases e : off + k = i
      · subst e; rw [if_pos rfl, if_pos (by omega), if_pos (by simp)]; simp
      · rw [if_neg e, if_neg (by simp; omega)]
theorem foldl_size : ∀ (vs : List Value) (k off : Nat) (cs : Array Value), ((vs.zipIdx k).foldl (fun cs (x : Value × Nat) => cs.setIfInBounds (off + x.2) x.1) cs).size = cs.size
  | [], k, off, cs => rfl
  | v :: vs, k, off, cs => by simp only [List.zipIdx_cons, List.foldl_cons]; rw [foldl_size vs]; simp

/-- The fields of struct type t: where each lies, and its cells; the zero value. -/
structure BldT (P : Program) (t : Nat) (pl : List (Nat × Nat)) (zs : List Value) : Prop where
  z : ZeroT P t zs
  f : ∃ fs, P.underlying t = some (.struct fs) ∧ ∀ w, Sem.run P (fs.mapM fun f => do pure (f.offset, ← sizeOf f.type)) w = .ok pl.toArray w
def fillA (pl : List (Nat × Nat)) : List A → List (Nat × A) → Option (List A)
  | cs, [] => some cs
  | cs, (i, a) :: rest => match pl[i]? with
    | some (off, k) => if (cellsOf a).length = k ∧ off + k ≤ cs.length ∧ boxAllB (cellsOf a) = true then fillA pl (spl cs off (cellsOf a)) rest else none
    | none => none

theorem fill_ok {F Λ w} {pl : List (Nat × Nat)} {tmps : Array Value} {E : Env} (hf : FrOK F Λ w tmps E) : ∀ (parts : List (Nat × Operand)) (cs : Array Value) (as as' : List A), cs.size = as.length → (∀ (j : Nat) y, as[j]? = some y → ∃ c, cs[j]? = some c ∧ OK F Λ w c y) →
    fillA pl as (parts.map fun p => (p.1, val E p.2)) = some as' →
    ∃ cs', Instr.fill (fun i => pl[i]?) cs (parts.map fun p => (p.1, Act.eval ⟨tmps, []⟩ p.2)) = some cs' ∧ cs'.size = as'.length ∧ (∀ (j : Nat) y, as'[j]? = some y → ∃ c, cs'[j]? = some c ∧ OK F Λ w c y)
  | [], cs, as, as', hl, hc, h => by
    simp only [List.map_nil, fillA, Option.some.injEq] at h
    subst h
    exact ⟨cs, rfl, hl, hc⟩
  | (i, x) :: rest, cs, as, as', hl, hc, h => by
    simp only [List.map_cons, fillA] at h
    split at h
    case h_2 => cases h
    rename_i off k hp
    split at h
    case isFalse => cases h
    rename_i hh
    obtain ⟨h1, h2, h3⟩ := hh
    have hx := val_ok (ds := []) hf x
    have hcs := hx.cellsOf (boxAll h3)
    have hlen : (Act.eval ⟨tmps, []⟩ x).cells.size = k := by
      cases hvx : val E x with
      | g zs =>
        rw [hvx] at hx h1
        obtain ⟨vs, h5, h6, _⟩ := hx.g_inv
        simp only [Sep.cellsOf] at h1
        rw [h5]; simp [Value.cells, h6, h1]
      | _ =>
        rw [hvx] at hx h1 h3
        simp only [Sep.cellsOf] at h1 h3
        obtain ⟨h5, _⟩ := hx.cells1 (boxAll h3 _ (by simp))
        rw [h5, ← h1]; simp
    generalize hvs : Act.eval ⟨tmps, []⟩ x = v at hcs hlen
    simp only [List.map_cons, Instr.fill, hp, hvs]
    rw [if_neg (by simp [hlen]; omega)]
    refine fill_ok hf rest _ _ as' ?_ (fun j y hy => ?_) h
    · rw [← Array.foldl_toList, Array.toList_zipIdx, foldl_size, spl_len]; exact hl
    · rw [spl_get _ _ _ _ (by rw [h1]; omega)] at hy
      rw [← Array.foldl_toList, Array.toList_zipIdx, foldl_cells _ 0 off cs (by simp [hlen]; omega)]
      simp only [Nat.add_zero, Array.length_toList, hlen]
      rw [h1] at hy
      split at hy
      · rename_i h6
        rw [if_pos h6]
        obtain ⟨c, h7, h8⟩ := hcs _ y hy
        exact ⟨c, h7, h8⟩
      · rename_i h6
        rw [if_neg h6]
        exact hc j y hy

theorem pur_build {P : Program} {E : Env} {σ : Store} {o : Oper} {t} {pl : List (Nat × Nat)} {zs : List Value} {parts : List (Nat × Operand)} {as : List A} (hT : BldT P t pl zs) (h : o.op = .build t parts.toArray) (hfill : fillA pl (zs.map constA) (parts.map fun p => (p.1, val E p.2)) = some as) : Pur P o E σ (.g as) := fun F Λ w tmps hs hf => by
  obtain ⟨⟨⟨inf, z, h1, h2, h3⟩, h4⟩, fs, h5, h6⟩ := hT
  obtain ⟨cs', g1, g2, g3⟩ := fill_ok hf parts z.cells (zs.map constA) as (by rw [← h3]; simp) (fun j y hy => by
    rw [List.getElem?_map] at hy
    cases hj : zs[j]? with
    | none => simp [hj] at hy
    | some c =>
      simp [hj] at hy
      subst hy
      refine ⟨c, ?_, constA_ok c⟩
      rw [← hj, ← h3]; simp) hfill
  refine ⟨.agg cs', ?_, fun w' _ => ?_⟩
  · have : OK F Λ w (.agg cs'.toList.toArray) (.g as) := .g cs'.toList as (by simpa using g2) fun j x y hx hy => by
      obtain ⟨c, g4, g5⟩ := g3 j x hx
      have : y = c := by
        rw [Array.getElem?_toList] at hy
        rw [hy] at g4; exact Option.some.inj g4
      rw [this]; exact g5
    simpa using this
  · simp only [execOp, h, Instr.build, Sem.run_bind]
    have hz : (zeroValue t).run P w' = .ok z w' := by simp [zeroValue, typeInfo, h1, h2]
    rw [hz]
    simp only [Result.andThen_ok, run_underlying h5, h6]
    have hm : (parts.toArray.map fun (x : Nat × Operand) => match x with | (i, x) => (i, Act.eval ⟨tmps, []⟩ x)).toList = parts.map fun p => (p.1, Act.eval ⟨tmps, []⟩ p.2) := by simp
    simp only [Sem.run_bind, Result.andThen_ok, h6, hm]
    have hpl : (fun i : Nat => pl.toArray[i]?) = fun i : Nat => pl[i]? := by funext i; simp
    rw [hpl, g1]
    simp

/-- '==' at a struct of two whole numbers. -/
structure EqE (P : Program) (t : Nat) : Prop where
  g : P.eqGuardType P.depth t = false
  e : ∀ (a b : Int × Int) w, Sem.run P (binOp .eql t (.agg #[.int .i64 a.1, .int .i64 a.2]) (.agg #[.int .i64 b.1, .int .i64 b.2])) w = .ok (.bool (decide (a = b))) w
theorem edge_inv {F Λ w v} {e : Int × Int} (h : OK F Λ w v (.g (edge e))) : v = .agg #[.int .i64 e.1, .int .i64 e.2] := by
  obtain ⟨vs, rfl, hl, hi⟩ := h.g_inv
  match vs, hl with
  | [x, y], _ =>
    have h1 := (hi 0 _ x rfl rfl).v_inv
    have h2 := (hi 1 _ y rfl rfl).v_inv
    subst h1 h2
    rfl
theorem pur_eql_edge {P : Program} {E : Env} {σ : Store} {o : Oper} {t x y t'} {a b : Int × Int} (hT : EqE P t) (h : o.op = .binOp .eql t x y t') (hx : val E x = .g (edge a)) (hy : val E y = .g (edge b)) : Pur P o E σ (.v (.bool (decide (a = b)))) := fun F Λ w tmps hs hf => by
  have h1 := val_ok (ds := []) hf x
  have h2 := val_ok (ds := []) hf y
  rw [hx] at h1
  rw [hy] at h2
  refine ⟨_, .imm (.v _), fun w' _ => ?_⟩
  simp only [execOp, h, edge_inv h1, edge_inv h2, Sem.run_bind, run_eqGuard_agg w' _ t x y _ _ hT.g, Result.andThen_ok, hT.e, Sem.run_pure]
theorem mapM_fields {P : Program} : ∀ (fs : List Field) (pl : List (Nat × Nat)) (w : World), fs.map (fun f => (f.offset, (P.info? f.type).map (·.size))) = pl.map (fun p => (p.1, some p.2)) →
    Sem.run P (fs.mapM fun f => do pure (f.offset, ← sizeOf f.type)) w = .ok pl w
  | [], [], w, _ => rfl
  | [], _ :: _, w, h => by simp at h
  | _ :: _, [], w, h => by simp at h
  | f :: fs, p :: pl, w, h => by
    simp only [List.map_cons, List.cons.injEq, Prod.mk.injEq] at h
    obtain ⟨⟨h1, h2⟩, h3⟩ := h
    have hs : (sizeOf f.type).run P w = .ok p.2 w := run_sizeOf' (by simpa using h2) w
    rw [List.mapM_cons]
    simp only [Sem.run_bind, hs, Result.andThen_ok, Sem.run_pure, mapM_fields fs pl w h3, h1]
theorem BldT.of {P : Program} {t : Nat} {pl : List (Nat × Nat)} {zs : List Value} (z : ZeroT P t zs)
    (f : ((P.underlying t).map fun d => match d with | .struct fs => fs.toList.map fun f => (f.offset, (P.info? f.type).map (·.size)) | _ => []) = some (pl.map fun p => (p.1, some p.2))) (h0 : pl ≠ []) : BldT P t pl zs := by
  refine ⟨z, ?_⟩
  cases h : P.underlying t with
  | none => simp [h] at f
  | some d =>
    cases d <;> simp [h, h0] at f
    rename_i fs
    refine ⟨fs, rfl, fun w => ?_⟩
    have := mapM_fields fs.toList pl w f
    rw [← Array.toArray_toList (xs := fs), List.mapM_toArray]
    simp only [Sem.run_map, this, Result.andThen_ok]
theorem EqE.of {P : Program} {t ti : Nat} (g : P.eqGuardType P.depth t = false) (hS : P.underlying t = some (.struct (P.fieldsOf t))) (hp : P.stoodInHeld t = false) (hi : P.underlying ti = some (.int .i64))
    (hf : ((P.fieldsOf t).toList.map fun f => (decide (f.name = "_"), f.offset, f.type)) = [(false, 0, ti), (false, 1, ti)]) : EqE P t := by
  refine ⟨g, fun a b w => ?_⟩
  rw [run_eql_struct, show (10000 : Nat) = 9999 + 1 from rfl, run_equalIn_agg w 9999 t _ _ hS hp]
  generalize (P.fieldsOf t).toList = fs at hf
  rcases fs with _ | ⟨f1, _ | ⟨f2, _ | ⟨f3, r⟩⟩⟩ <;> simp at hf
  obtain ⟨⟨h1, h2, h3⟩, h4, h5, h6⟩ := hf
  have ha : ∀ w, (isAgg ti).run P w = .ok false w := fun w => by simp [isAgg, run_underlying hi]
  have he : ∀ (x y : Int) w, (Op.equalIn 9999 ti (.int .i64 x) (.int .i64 y)).run P w = .ok (x == y) w := fun x y w => run_equalIn_int w 9998 ti .i64 .i64 x y hi
  obtain ⟨a1, a2⟩ := a
  obtain ⟨b1, b2⟩ := b
  simp only [Op.eqFields, h2, h3, h5, h6]
  by_cases e1 : a1 = b1 <;> by_cases e2 : a2 = b2 <;> simp [part, ha, he, e1, e2, h1, h4]

/-! ### stores into rows of known data; make -/
section
variable {P : Program} {n m : Nat} {N : Env → Store → Prop} {E : Env} {σ : Store} {o : Oper}
theorem TOp_setF {α : Type} {f : α → List A} {k : Nat} {t : Nat} {addr x : Operand} {l d i : Nat} {xs : List α} {y : α} (hk : ∀ x, (f x).length = k) (hk0 : 0 < k) (hT : SzT P t k) (h : o.op = .store t addr x) (hdst : o.dst = none) (ha : val E addr = .e [l] d) (hd : d = 0 + i * k)
    (hr : σ[l]? = some (.row (flat f xs))) (hi : i < xs.length) (hv : cellsOf (val E x) = f y) (hc : cellAllB (f y) = true) (hN : N E (σ.set l (.row (flat f (xs.set i y))))) : TOp P n m o N E σ := by
  subst hd
  have hrow : rowAt σ [l] = some (flat f xs) := by rw [rowAt_cons, hr]; rfl
  refine TOp_storeE hT h hdst ha hrow hv (hk y) hk0 (by rw [flat_len hk, Nat.zero_add, ← Nat.succ_mul]; exact Nat.mul_le_mul_right _ hi) hc ?_
  rw [spl_flat hk xs i y hi]
  simpa [setRow, hr, Root.under, setSub] using hN
theorem TOp_setI {t : Nat} {addr x : Operand} {l d i : Nat} {xs : List Int} {y : Int} (hT : SzT P t 1) (h : o.op = .store t addr x) (hdst : o.dst = none) (ha : val E addr = .e [l] d) (hd : d = 0 + i * 1)
    (hr : σ[l]? = some (.row (ints xs))) (hi : i < xs.length) (hv : val E x = intA y) (hN : N E (σ.set l (.row (ints (xs.set i y))))) : TOp P n m o N E σ := by
  subst hd
  have hrow : rowAt σ [l] = some (ints xs) := by rw [rowAt_cons, hr]; rfl
  refine TOp_storeE (ys := [intA y]) hT h hdst ha hrow (by rw [hv]; rfl) rfl (by omega) (by rw [ints_len]; omega) rfl ?_
  rw [spl_ints]
  simpa [setRow, hr, Root.under, setSub] using hN
theorem TOp_setB {t : Nat} {addr x : Operand} {l d i : Nat} {xs : List Bool} {y : Bool} (hT : SzT P t 1) (h : o.op = .store t addr x) (hdst : o.dst = none) (ha : val E addr = .e [l] d) (hd : d = 0 + i * 1)
    (hr : σ[l]? = some (.row (bools xs))) (hi : i < xs.length) (hv : val E x = boolA y) (hN : N E (σ.set l (.row (bools (xs.set i y))))) : TOp P n m o N E σ := by
  subst hd
  have hrow : rowAt σ [l] = some (bools xs) := by rw [rowAt_cons, hr]; rfl
  refine TOp_storeE (ys := [boolA y]) hT h hdst ha hrow (by rw [hv]; rfl) rfl (by omega) (by rw [bools_len]; omega) rfl ?_
  rw [spl_bools]
  simpa [setRow, hr, Root.under, setSub] using hN
theorem TOp_makeZ {t e k kl kc : _} {x y : Operand} {nn : Nat} {zs : List Value} {by_ : Nat} {xs : List A} (hxs : (List.range (nn * k)).map (fun j => constA (zs[j % k]!)) = xs) (hT : SlT P t e k) (hz : ZeroT P e zs) (hzk : zs.length = k) (hb : (P.info? e).map (·.bytes) = some by_) (h : o.op = .makeSlice t x y) (hd : dstOK n o.dst = true)
    (hx : val E x = .v (.int kl (nn : Int))) (hy : val E y = .v (.int kc (nn : Int))) (hsz : by_ * nn ≤ 281474976710656) (hm : nn ≤ 1099511627776)
    (hN : N (put E o.dst (.m [σ.length] 0 nn k)) (σ ++ [.row xs])) : TOp P n m o N E σ :=
  TOp_make hT hz hzk hb h hd hx hy hsz hm (by rw [hxs]; exact hN)
end

/-- The end of a function that hands back what it owns: the first k roots. -/
theorem end_own {P : Program} {m : Nat} {E : Env} {σ : Store} {rs as} {Q : A → Store → Prop} (h : ResA P E σ rs as) {r} (hr : resA as = r) (k : Nat) {σ'} (hm : m ≤ k) (hσ : σ' = σ.take k) (hb : boxesE k σ' = false)
    (hn : r.names (fun L => decide (σ'.length ≤ L.headD 0)) = false) (hb2 : boxesE σ'.length σ' = false) (hq : Q r σ') : EndK P rs m Q .ret E σ := by
  subst hr
  exact ⟨as, h, [], σ', ⟨by simp, k, hm, hσ, by simp, boxesE_all hb⟩, hn, boxesE_all hb2, hq⟩
end Go.Sep

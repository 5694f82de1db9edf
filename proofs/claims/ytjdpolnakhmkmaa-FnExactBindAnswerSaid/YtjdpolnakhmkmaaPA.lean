import Derived.Test.YtjdpolnakhmkmaaCRC
import Derived.Test.YtjdpolnakhmkmaaM0
set_option linter.unusedVariables false
set_option linter.unusedSimpArgs false
namespace Go.Proofs.Ytjdpolnakhmkmaa
open Go Go.Proofs Go.Sep
theorem cond_nt {α : Type} {x y : α} : cond (!true) x y = y := rfl
theorem szIntS_b (a : List Int) (hl : a.length ≤ 9223372036854775807) (left : Int) (h0 : 0 ≤ left) (h1 : left ≤ 1048576) : ∃ r, m_laws_szIntS a left = some r ∧ (r = -1 ∨ (0 ≤ r ∧ r ≤ left ∧ a.length ≤ 1048576)) := by
 unfold m_laws_szIntS
 rw [w64_id (by omega)]
 by_cases h : left < a.length
 ·rw [cond_T' (by simp; omega)]; exact ⟨_, rfl, .inl rfl⟩
 ·rw [cond_F' (by simp; omega)]; exact ⟨_, rfl, .inr ⟨by omega, by omega, by omega⟩⟩
theorem toIntS_id (a : List Int) (hl : a.length ≤ 1048576) : m_laws_toIntS a = some a := by
 unfold m_laws_toIntS
 rw [mk_ok (by omega) (by omega), Option.bind_some, forS_fill (fun x => x) (by simp) fun n x zs hx hz => ?_]
 ·simp
 ·have hn : n < zs.length := by have := (List.getElem?_eq_some_iff.1 hx).1; omega
  rw [getI_lt hn]; simp
theorem eqIntS_self (a : List Int) : m_laws_eqIntS a a = some true := by
 unfold m_laws_eqIntS
 rw [cond_F' (by simp)]
 obtain ⟨o, h1, h2⟩ := forL_ok (xs := a) (s := ()) (f := fun (i_2 : Int) (x_i_2 : Int) (_ : Unit) => (getI a (i_2 : Int)).bind fun v_4 => cond (decide (x_i_2 ≠ v_4)) (some (.ret false)) (some (.next ())))
  (fun _ _ => True) (fun _ => False) (fun (_ : Bool) => False) trivial fun n x s hx _ => by
   rw [getI_nat, hx, Option.bind_some, cond_F' (by simp)]
   exact ⟨_, rfl, trivial⟩
 rw [h1, Option.bind_some]
 cases o with
 | inl s => rfl
 | inr r => exact h2.elim
end Go.Proofs.Ytjdpolnakhmkmaa
set_option linter.unusedVariables false
set_option linter.unusedSimpArgs false
namespace Go.Proofs.Ytjdpolnakhmkmaa
open Go Go.Proofs Go.Sep
def QM (q : Query) : Prop := q.atoms.length ≤ 9223372036854775807 ∧ q.free.length ≤ 9223372036854775807 ∧ ∀ a ∈ q.atoms, a.terms.length ≤ 9223372036854775807
def QS (q : Query) : Prop := q.atoms.length ≤ 1048576 ∧ q.free.length ≤ 1048576 ∧ ∀ a ∈ q.atoms, a.terms.length ≤ 1048576
theorem szAtom_b (a : Atom) (hl : a.terms.length ≤ 9223372036854775807) (left : Int) (h0 : 0 ≤ left) (h1 : left ≤ 1048576) : ∃ r, m_laws_szAtom a left = some r ∧ (r = -1 ∨ (0 ≤ r ∧ r ≤ left ∧ a.terms.length ≤ 1048576)) := by
 unfold m_laws_szAtom
 obtain ⟨r, h2, h3⟩ := szIntS_b a.terms hl left h0 h1
 rw [h2, Option.bind_some]
 rcases h3 with rfl | h3
 ·exact ⟨_, rfl, .inl rfl⟩
 ·rw [cond_F' (by simp; omega)]; exact ⟨_, rfl, .inr h3⟩
theorem szQuery_b (q : Query) (hq : QM q) (left : Int) (h0 : 0 ≤ left) (h1 : left ≤ 1048576) : ∃ r, m_laws_szQuery q left = some r ∧ (r = -1 ∨ (0 ≤ r ∧ r ≤ left ∧ QS q)) := by
 obtain ⟨r1, h2, h3⟩ := sz_loop (fun a : Atom => a.terms.length ≤ 1048576) (a := q.atoms) (fun x hx l => szAtom_b x (hq.2.2 x hx) l) h0 h1 hq.1
 have h2' : m_laws_szAtomS q.atoms left = some r1 := h2
 unfold m_laws_szQuery
 rw [h2', Option.bind_some]
 rcases h3 with rfl | ⟨h3, h4, h5⟩
 ·exact ⟨_, rfl, .inl rfl⟩
 ·rw [cond_F' (by simp; omega)]
  obtain ⟨r2, h6, h7⟩ := szIntS_b q.free hq.2.1 r1 h3 (by omega)
  rw [h6, Option.bind_some]
  rcases h7 with rfl | ⟨h7, h8, h9⟩
  ·exact ⟨_, rfl, .inl rfl⟩
  ·rw [cond_F' (by simp; omega)]; exact ⟨_, rfl, .inr ⟨h7, by omega, by omega, h9, h5⟩⟩
theorem toQuery_id (q : Query) (hq : QS q) : m_laws_toQuery q = some q := by
 have h1 : m_laws_toAtomS q.atoms = some q.atoms := by
  have := to_loop (b := 32) (z := (default : Atom)) (g := m_laws_toAtom) (fun x => x) (a := q.atoms) (fun x hx => by unfold m_laws_toAtom; rw [toIntS_id _ (hq.2.2 x hx)]; rfl) hq.1 (by omega)
  rw [List.map_id'] at this; exact this
 unfold m_laws_toQuery
 rw [h1, Option.bind_some, toIntS_id _ hq.2.1, Option.bind_some]
theorem eqAtom_self (a : Atom) : m_laws_eqAtom a a = some true := by
 unfold m_laws_eqAtom
 rw [cond_F' (by simp), eqIntS_self]; rfl
theorem eqQuery_self (q : Query) : m_laws_eqQuery q q = some true := by
 have h1 : m_laws_eqAtomS q.atoms q.atoms = some true := eq_loop (fun x _ => eqAtom_self x)
 unfold m_laws_eqQuery
 rw [cond_F' (by simp), h1, Option.bind_some, cond_nt, eqIntS_self]; rfl
end Go.Proofs.Ytjdpolnakhmkmaa
set_option linter.unusedVariables false
set_option linter.unusedSimpArgs false
namespace Go.Proofs.Ytjdpolnakhmkmaa
open Go Go.Proofs Go.Sep
def marks (k : Int) (n : Nat) : List Int := (List.range n).map fun (i : Nat) => k + (i : Int)
theorem marks_len (k : Int) (n : Nat) : (marks k n).length = n := by simp [marks]
theorem marks_get (k : Int) (n i : Nat) (h : i < n) : (marks k n)[i]? = some (k + i) := by simp [marks, h]
theorem markIntS_eq (a : List Int) (k : Int) (h0 : 0 ≤ k) (h1 : k + a.length ≤ 4611686018427387904) : m_laws_markIntS a k = some (k + a.length, marks k a.length) := by
 unfold m_laws_markIntS
 obtain ⟨s, h2, h3⟩ := forM_ok (m := a.length) (s := (a, k)) (f := fun (i_1 : Int) (⟨a0m, k1⟩ : (List Int) × Int) => (getI a0m (i_1 : Int)).bind fun v_3 => some ((a0m.set ((i_1 : Int)).toNat k1), (w64 (k1 + 1))))
  (fun n s => s.2 = k + n ∧ s.1.length = a.length ∧ ∀ j, j < n → s.1[j]? = some (k + (j : Int))) ⟨by simp, rfl, fun j hj => by omega⟩ fun n s hn ⟨hk, hl, hI⟩ => by
   obtain ⟨xs, c⟩ := s
   simp only at hk hl hI
   refine ⟨(xs.set n c, c + 1), ?_, by simp only; omega, by simpa using hl, fun j hj => ?_⟩
   ·show ((getI xs (n : Int)).bind fun v_3 => some ((xs.set (n : Int).toNat c), (w64 (c + 1)))) = _
    rw [getI_lt (by omega), Option.bind_some, w64_id (by omega)]; rfl
   ·simp only
    by_cases e : n = j
    ·subst e; rw [List.getElem?_set_self (by omega), hk]
    ·rw [List.getElem?_set_ne e]; exact hI j (by omega)
 rw [h2, Option.bind_some]
 obtain ⟨xs, c⟩ := s
 obtain ⟨hk, hl, hI⟩ := h3
 simp only at hk hl hI
 show some (c, xs) = _
 rw [hk]
 congr 2
 apply List.ext_getElem?
 intro j
 by_cases hj : j < a.length
 ·rw [hI j hj, marks_get _ _ _ hj]
 ·rw [List.getElem?_eq_none (by omega), List.getElem?_eq_none (by rw [marks_len]; omega)]
theorem heldIntS_eq (k : Int) (n : Nat) (h0 : 0 ≤ k) (h1 : k + n ≤ 4611686018427387904) : m_laws_heldIntS (marks k n) k = some (k + n) := by
 unfold m_laws_heldIntS
 obtain ⟨o, h2, h3⟩ := forL_ok (xs := marks k n) (s := k) (f := fun (i_1 : Int) (x_i_1 : Int) (k1 : Int) => cond (decide (x_i_1 ≠ k1)) (some (.ret (-1))) (some (.next (w64 (k1 + 1)))))
  (fun j s => s = k + j) (fun _ => False) (fun (_ : Int) => False) (by simp) fun j x s hx hI => by
   have hj : j < n := by have := (List.getElem?_eq_some_iff.1 hx).1; rwa [marks_len] at this
   rw [marks_get _ _ _ hj] at hx
   cases hx
   refine ⟨.next (s + 1), ?_, by simp only [CtlP]; omega⟩
   rw [cond_F' (by simp [hI]), w64_id (by omega)]
 rw [h2, Option.bind_some]
 cases o with
 | inl s => have := h3.resolve_right id; rw [marks_len] at this; simp only [onS, this]
 | inr r => exact h3.elim
end Go.Proofs.Ytjdpolnakhmkmaa
set_option linter.unusedVariables false
set_option linter.unusedSimpArgs false
namespace Go.Proofs.Ytjdpolnakhmkmaa
open Go Go.Proofs Go.Sep
def atomOff (a : List Atom) (n : Nat) : Nat := ((a.take n).map fun f => 1 + f.terms.length).sum
theorem atomOff_succ {a : List Atom} {n : Nat} {f : Atom} (h : a[n]? = some f) : atomOff a (n + 1) = atomOff a n + (1 + f.terms.length) := by
 obtain ⟨hn, rfl⟩ := List.getElem?_eq_some_iff.1 h
 unfold atomOff
 rw [List.take_succ_eq_append_getElem hn, List.map_append, List.sum_append]
 simp
theorem atomOff_le {a : List Atom} (hv : ∀ f ∈ a, f.terms.length ≤ 1048576) : ∀ n, n ≤ a.length → atomOff a n ≤ 1048577 * n
 | 0, _ => by simp [atomOff]
 | n + 1, h => by
  have hn : n < a.length := by omega
  have h1 := atomOff_le hv n (by omega)
  rw [atomOff_succ (List.getElem?_eq_getElem hn)]
  have := hv _ (List.getElem_mem hn)
  omega
def atomMark (c : Int) (f : Atom) : Atom := { relation := c, terms := marks (c + 1) f.terms.length }
theorem markAtomS_held {a : List Atom} (ha : a.length ≤ 1048576) (hv : ∀ f ∈ a, f.terms.length ≤ 1048576) {k : Int} (h0 : 0 ≤ k) (h1 : k ≤ 1125899906842624) : Ok (m_laws_markAtomS a k) fun r => r.1 = k + atomOff a a.length ∧ m_laws_heldAtomS r.2 k = some (k + atomOff a a.length) := by
 have hle := atomOff_le hv
 have hlt : ∀ n, n < a.length → k + atomOff a n + 1 + 1048576 ≤ 1152921504606846976 := fun n hn => by have := hle n (by omega); omega
 unfold m_laws_markAtomS
 refine .forM (m := a.length) (fun n s => s.1.length = a.length ∧ s.2 = k + atomOff a n ∧ (∀ j f, j < n → a[j]? = some f → s.1[j]? = some (atomMark (k + atomOff a j) f)) ∧ ∀ j, n ≤ j → s.1[j]? = a[j]?) ⟨rfl, by simp [atomOff], fun j f hj => by omega, fun j _ => rfl⟩ (fun n s hn hI => ?_) (fun s hI => ?_)
 ·obtain ⟨xs, c⟩ := s
  obtain ⟨hl, hc, hj, hr⟩ := hI
  simp only at hl hc hj hr ⊢
  have hx : n < xs.length := by omega
  have hxa : a[n]? = some xs[n] := by rw [← hr n (Nat.le_refl _)]; exact List.getElem?_eq_getElem hx
  have hxv := hv _ (List.mem_of_getElem? hxa)
  have hb := hlt n hn
  refine .get rfl hx ?_
  simp only [Int.toNat_natCast]
  refine .get rfl (by simpa using hx) ?_
  rw [List.getElem_set_self, w64_id (by omega)]
  simp only
  refine .eq (markIntS_eq _ _ (by omega) (by omega)) (.ret ⟨by simpa using hl, ?_, fun j f hjn hf => ?_, fun j hjn => ?_⟩)
  ·simp only; rw [atomOff_succ hxa]; omega
  ·simp only [List.set_set]
   by_cases e : n = j
   ·subst e
    rw [List.getElem?_set_self (by omega)]
    rw [hxa] at hf
    cases hf
    simp only [atomMark, hc]
   ·rw [List.getElem?_set_ne e]; exact hj j f (by omega) hf
  ·simp only [List.set_set]
   rw [List.getElem?_set_ne (by omega)]; exact hr j (by omega)
 ·obtain ⟨xs, c⟩ := s
  obtain ⟨hl, hc, hj, hr⟩ := hI
  simp only at hl hc hj hr ⊢
  refine .ret ⟨hc, ?_⟩
  show m_laws_heldAtomS xs k = _
  unfold m_laws_heldAtomS
  refine Ok.to (.forL (fun n s => s = k + atomOff a n) (fun _ => False) (fun _ => False) (by simp [atomOff]) (fun n x s hx hI => ?_) (fun s hs => .ret (by have := hs.resolve_right id; rw [this, hl])) (fun r hr => hr.elim))
  have hn : n < a.length := by have := (List.getElem?_eq_some_iff.1 hx).1; omega
  rw [hj n _ hn (List.getElem?_eq_getElem hn)] at hx
  cases hx
  subst hI
  have hb := hlt n hn
  have hxv := hv _ (List.getElem_mem hn)
  refine .cf (by simp [atomMark]) ?_
  rw [w64_id (by omega)]
  refine .eq (heldIntS_eq _ _ (by omega) (by omega)) (.cf (decide_eq_false (by omega)) (.next ?_))
  rw [atomOff_succ (List.getElem?_eq_getElem hn)]; omega
theorem markQuery_held {q : Query} (hq : QS q) : Ok (m_laws_markQuery q 1) fun r => (0 ≤ r.1 ∧ r.1 ≤ 1125899906842624) ∧ r.2.variableCount = q.variableCount ∧ m_laws_heldQuery r.2 1 = some r.1 := by
 have hle := atomOff_le hq.2.2 q.atoms.length (Nat.le_refl _)
 have h1 := hq.1
 have h2 := hq.2.1
 unfold m_laws_markQuery
 refine .bind (markAtomS_held hq.1 hq.2.2 (by omega) (by omega)) fun r hr => .eq (markIntS_eq _ _ (by omega) (by omega)) (.ret ⟨⟨by simp only; omega, by simp only; omega⟩, rfl, ?_⟩)
 unfold m_laws_heldQuery
 refine Ok.to (.eq hr.2 (.cf (decide_eq_false (by omega)) ?_))
 rw [← hr.1]
 exact .eq (heldIntS_eq _ _ (by omega) (by omega)) (.cf (decide_eq_false (by omega)) (.ret rfl))
end Go.Proofs.Ytjdpolnakhmkmaa
set_option linter.unusedVariables false
set_option linter.unusedSimpArgs false
namespace Go.Proofs.Ytjdpolnakhmkmaa
open Go Go.Proofs Go.Sep
def mapTo {α : Type} (f : α → α) (n : Nat) (l : List α) : List α := (l.take n).map f ++ l.drop n
theorem mapTo_len {α : Type} (f : α → α) (n : Nat) (l : List α) : (mapTo f n l).length = l.length := by simp [mapTo]; omega
theorem mapTo_zero {α : Type} (f : α → α) (l : List α) : mapTo f 0 l = l := by simp [mapTo]
theorem mapTo_all {α : Type} (f : α → α) (l : List α) : mapTo f l.length l = l.map f := by simp [mapTo]
theorem mapTo_at {α : Type} (f : α → α) (n : Nat) (l : List α) : (mapTo f n l)[n]? = l[n]? := by
 rw [mapTo, List.getElem?_append_right (by simp; omega)]
 rcases Nat.lt_or_ge n l.length with h | h
 ·simp [Nat.min_eq_left (Nat.le_of_lt h)]
 ·rw [List.getElem?_eq_none h, List.getElem?_eq_none (by simp; omega)]
theorem mapTo_set {α : Type} (f : α → α) (n : Nat) (l : List α) (x : α) (h : l[n]? = some x) : (mapTo f n l).set n (f x) = mapTo f (n + 1) l := by
 have hn := (List.getElem?_eq_some_iff.1 h).1
 apply List.ext_getElem?
 intro j
 rw [List.getElem?_set, mapTo_len]
 by_cases e : n = j
 ·subst e
  rw [if_pos rfl, if_pos hn, mapTo, List.getElem?_append_left (by simp; omega), List.getElem?_map, List.getElem?_take_of_lt (by omega), h]; rfl
 ·rw [if_neg e]
  simp only [mapTo]
  rcases Nat.lt_or_ge j n with g | g
  ·rw [List.getElem?_append_left (by simp; omega), List.getElem?_append_left (by simp; omega), List.getElem?_map, List.getElem?_map, List.getElem?_take_of_lt g, List.getElem?_take_of_lt (by omega)]
  ·rw [List.getElem?_append_right (by simp; omega), List.getElem?_append_right (by simp; omega), List.getElem?_drop, List.getElem?_drop]
   congr 1; simp; omega
def bindT (v x t : Int) : Int := if t = v then w64 (-1 - x) else if v < t then w64 (t - 1) else t
def bindA (v x : Int) (a : Atom) : Atom := { a with terms := a.terms.map (bindT v x) }
def bindF (v : Int) (l : List Int) : List Int := (l.filter fun t => decide (t ≠ v)).map fun t => if v < t then w64 (t - 1) else t
def bindV (q : Query) (v x : Int) : Query × Bool :=
 if (0 ≤ v ∧ v ≤ w64 (q.variableCount - 1)) ∧ 0 ≤ x ∧ x ≤ 9 then ({ variableCount := w64 (q.variableCount - 1), atoms := q.atoms.map (bindA v x), free := bindF v q.free }, true) else (q, false)
theorem bindV_QS {q : Query} (hq : QS q) (v x : Int) : QS (bindV q v x).1 := by
 unfold bindV
 split
 ·refine ⟨by simpa using hq.1, ?_, fun a ha => ?_⟩
  ·simp only [bindF, List.length_map]; exact Nat.le_trans (List.length_filter_le _ _) hq.2.1
  ·obtain ⟨b, hb, rfl⟩ := List.mem_map.1 ha
   simpa [bindA] using hq.2.2 b hb
 ·exact hq
theorem impl_copyQuery_eq {q : Query} (hq : QS q) : m_impl_copyQuery q = some q := by
 unfold m_impl_copyQuery
 refine Ok.to (.app (by have := hq.2.1; simp only [List.length_nil]; omega) (.forS (fun n s => s = q.atoms.take n) rfl (fun n a s ha hI => ?_) (fun s hs => .ret (by rw [hs, List.take_length]; rfl))))
 have hn := (List.getElem?_eq_some_iff.1 ha).1
 have h1 := hq.1
 have h2 := hq.2.2 a (List.mem_of_getElem? ha)
 subst hI
 refine .eq (a := a) (by unfold m_impl_copyAtom; rw [app_ok (by simp only [List.length_nil]; omega)]; rfl) (.app (by simp; omega) (.ret ?_))
 rw [List.take_add_one, ha]; rfl
theorem spec_l11Copy_eq {u : Nat} (hu : 1048577 < u) {q : Query} (hq : QS q) : m_spec_l11Copy u q = some q := by
 have h1 := hq.1
 unfold m_spec_l11Copy
 refine Ok.to (.app (by have := hq.2.1; simp only [List.length_nil]; omega) (.while (fun s => ∃ n : Nat, s.1 = (n : Int) ∧ n ≤ q.atoms.length ∧ s.2 = q.atoms.take n) (fun s => q.atoms.length - s.1.toNat) (fun s => s.2 = q.atoms) (fun _ => False) (by omega) ⟨0, rfl, by omega, rfl⟩ (fun ⟨i, s⟩ ⟨n, e1, e2, e3⟩ => ?_) (fun ⟨i, s⟩ hs => .ret (by simp only at hs; rw [hs]; rfl)) (fun r hr => hr.elim)))
 simp only at e1 e3
 subst e1 e3
 refine .cond (fun hc => ?_) fun hc => .brk ?_
 ·have hn : n < q.atoms.length := by simpa using hc
  have h2 := hq.2.2 _ (List.getElem_mem hn)
  refine .get rfl hn (.app (by simp only [List.length_nil]; omega) (.app (by simp; omega) (.next ⟨⟨n + 1, by simp only; rw [w64_id (by omega)]; simp, hn, ?_⟩, by simp only; rw [w64_id (by omega)]; omega⟩)))
  simp only
  rw [List.take_add_one, List.getElem?_eq_getElem hn]; rfl
 ·simp only
  rw [List.take_of_length_le]
  have := of_decide_eq_false hc; omega
theorem within_eq (n lo hi : Int) : m_impl_within n lo hi = some (decide (lo ≤ n ∧ n ≤ hi)) := by
 unfold m_impl_within; rw [← Bool.decide_and]
theorem l1In_eq (n lo hi : Int) : m_spec_l1In n lo hi = some (decide (lo ≤ n ∧ n ≤ hi)) := by
 unfold m_spec_l1In; rw [← Bool.decide_and]
theorem impl_BindVariable_eq {q : Query} (hq : QS q) (v x : Int) : m_impl_BindVariable q v x = some (bindV q v x) := by
 have hb : ∀ t, m_impl_bound t v = some (if v < t then w64 (t - 1) else t) := fun t => by
  unfold m_impl_bound
  by_cases h : v < t <;> simp [h]
 have hf2 := hq.2.1
 unfold m_impl_BindVariable
 refine Ok.to (.eq (impl_copyQuery_eq hq) (.bind (P := fun t => t = !decide ((0 ≤ v ∧ v ≤ w64 (q.variableCount - 1)) ∧ 0 ≤ x ∧ x ≤ 9)) (.eq (within_eq _ _ _) (.cond (fun h => .ret ?_) fun h => .eq (within_eq _ _ _) (.ret ?_))) fun t ht => ?_))
 ·have h : ¬ (0 ≤ v ∧ v ≤ w64 (q.variableCount - 1)) := of_decide_eq_false (by simpa only [Bool.not_eq_true'] using h)
  rw [decide_eq_false (fun g => h g.1)]; rfl
 ·have h : (0 ≤ v ∧ v ≤ w64 (q.variableCount - 1)) := by simpa using h
  simp [h]
 ·subst ht
  refine .cond (fun h => .ret ?_) fun h => ?_
  ·have h : ¬ ((0 ≤ v ∧ v ≤ w64 (q.variableCount - 1)) ∧ 0 ≤ x ∧ x ≤ 9) := of_decide_eq_false (by simpa only [Bool.not_eq_true'] using h)
   rw [bindV, if_neg h]
  ·have h : ((0 ≤ v ∧ v ≤ w64 (q.variableCount - 1)) ∧ 0 ≤ x ∧ x ≤ 9) := by simpa using h
   refine .forM (m := q.atoms.length) (fun n s => s = mapTo (bindA v x) n q.atoms) (mapTo_zero _ _).symm (fun n s hn hI => ?_) (fun s hI => ?_)
   ·subst hI
    have hx : (mapTo (bindA v x) n q.atoms)[n]? = some q.atoms[n] := by rw [mapTo_at]; exact List.getElem?_eq_getElem hn
    refine .eq (a := q.atoms[n]) (by rw [getI_nat]; exact hx) (.forM (m := q.atoms[n].terms.length) (fun k s => s = mapTo (bindT v x) k q.atoms[n].terms) (mapTo_zero _ _).symm (fun k s hk hI => ?_) (fun s hI => .ret ?_))
    ·subst hI
     have hy : (mapTo (bindT v x) k q.atoms[n].terms)[k]? = some q.atoms[n].terms[k] := by rw [mapTo_at]; exact List.getElem?_eq_getElem hk
     have hl := mapTo_len (bindT v x) k q.atoms[n].terms
     refine .eq (a := q.atoms[n].terms[k]) (by rw [getI_nat]; exact hy) (.eq (hb _) (.cond (fun hc => .eq (a := w64 (-1 - x)) rfl (.get (n := k) rfl (by rw [List.length_set, hl]; exact hk) (.ret ?_))) fun hc => .ret ?_))
     ·simp only [Int.toNat_natCast, List.set_set]
      rw [← mapTo_set _ _ _ _ (List.getElem?_eq_getElem hk)]
      congr 1
      rw [bindT, if_pos (by simpa using hc)]
     ·simp only [Int.toNat_natCast]
      rw [← mapTo_set _ _ _ _ (List.getElem?_eq_getElem hk)]
      congr 1
      rw [bindT, if_neg (of_decide_eq_false hc)]
    ·subst hI
     simp only [Int.toNat_natCast]
     rw [← mapTo_set _ _ _ _ (List.getElem?_eq_getElem hn), mapTo_all]
     rfl
   ·subst hI
    rw [mapTo_all]
    refine .forS (fun n s => s = bindF v (q.free.take n)) rfl (fun n t s ht hI => ?_) (fun s hI => .ret ?_)
    ·have e : q.free.take (n + 1) = q.free.take n ++ [t] := by rw [List.take_add_one, ht]; rfl
     have hn := (List.getElem?_eq_some_iff.1 ht).1
     have hl : (bindF v (q.free.take n)).length ≤ n := by
      simp only [bindF, List.length_map]
      exact Nat.le_trans (List.length_filter_le _ _) (by rw [List.length_take]; omega)
     subst hI
     refine .cond (fun hc => .eq (hb t) (.app (by simp; omega) (.ret ?_))) fun hc => .ret ?_
     ·rw [e, bindF, bindF, List.filter_append, List.filter_cons_of_pos (by simpa using hc), List.filter_nil, List.map_append]; rfl
     ·rw [e, bindF, bindF, List.filter_append, List.filter_cons_of_neg (by simpa using hc), List.filter_nil, List.append_nil]
    ·rw [hI, List.take_length, bindV, if_pos h]
theorem spec_BindVariable_eq {u : Nat} (hu : 1048577 < u) {q : Query} (hq : QS q) (v x : Int) : m_spec_BindVariable u q v x = some (bindV q v x) := by
 have hf1 := hq.1
 have hf2 := hq.2.1
 unfold m_spec_BindVariable
 refine Ok.to (.eq (spec_l11Copy_eq hu hq) (.bind (P := fun t => t = !decide ((0 ≤ v ∧ v ≤ w64 (q.variableCount - 1)) ∧ 0 ≤ x ∧ x ≤ 9)) (.eq (l1In_eq _ _ _) (.cond (fun h => .ret ?_) fun h => .eq (l1In_eq _ _ _) (.ret ?_))) fun t ht => ?_))
 ·have h : ¬ (0 ≤ v ∧ v ≤ w64 (q.variableCount - 1)) := of_decide_eq_false (by simpa only [Bool.not_eq_true'] using h)
  rw [decide_eq_false (fun g => h g.1)]; rfl
 ·have h : (0 ≤ v ∧ v ≤ w64 (q.variableCount - 1)) := by simpa using h
  simp [h]
 ·subst ht
  refine .cond (fun h => .ret ?_) fun h => ?_
  ·have h : ¬ ((0 ≤ v ∧ v ≤ w64 (q.variableCount - 1)) ∧ 0 ≤ x ∧ x ≤ 9) := of_decide_eq_false (by simpa only [Bool.not_eq_true'] using h)
   rw [bindV, if_neg h]
  ·have h : ((0 ≤ v ∧ v ≤ w64 (q.variableCount - 1)) ∧ 0 ≤ x ∧ x ≤ 9) := by simpa using h
   refine .while (fun s => ∃ n : Nat, s.1 = (n : Int) ∧ n ≤ q.atoms.length ∧ s.2 = mapTo (bindA v x) n q.atoms) (fun s => q.atoms.length - s.1.toNat) (fun s => s.2 = q.atoms.map (bindA v x)) (fun _ => False) (by omega) ⟨0, rfl, by omega, (mapTo_zero _ _).symm⟩ (fun ⟨i, s⟩ ⟨n, e1, e2, e3⟩ => ?_) (fun ⟨i, s⟩ hs => ?_) (fun r hr => hr.elim)
   ·simp only at e1 e3
    subst e1 e3
    have hl := mapTo_len (bindA v x) n q.atoms
    refine .cond (fun hc => ?_) fun hc => .brk ?_
    ·have hn : n < q.atoms.length := by have := of_decide_eq_true hc; omega
     have hx : (mapTo (bindA v x) n q.atoms)[n]? = some q.atoms[n] := by rw [mapTo_at]; exact List.getElem?_eq_getElem hn
     have ht := hq.2.2 _ (List.getElem_mem hn)
     refine .while (fun s => ∃ k : Nat, s.1 = (k : Int) ∧ k ≤ q.atoms[n].terms.length ∧ s.2 = (mapTo (bindA v x) n q.atoms).set n { q.atoms[n] with terms := mapTo (bindT v x) k q.atoms[n].terms }) (fun s => q.atoms[n].terms.length - s.1.toNat) (fun s => s.2 = mapTo (bindA v x) (n + 1) q.atoms) (fun _ => False) (by omega) ⟨0, rfl, by omega, by rw [mapTo_zero]; exact (list_set_same hx).symm⟩ (fun ⟨k, s⟩ ⟨k, e1, e2, e3⟩ => ?_) (fun ⟨k, s⟩ hs => .next ⟨⟨n + 1, by simp only; rw [w64_id (by omega)]; simp, hn, hs⟩, by simp only; rw [w64_id (by omega)]; omega⟩) (fun r hr => hr.elim)
     simp only at e1 e3
     subst e1 e3
     refine .get rfl (by rw [List.length_set, hl]; exact hn) ?_
     simp only [List.getElem_set_self]
     have hl2 := mapTo_len (bindT v x) k q.atoms[n].terms
     refine .cond (fun hc => ?_) fun hc => .brk ?_
     ·have hk : k < q.atoms[n].terms.length := by have := of_decide_eq_true hc; omega
      have hy : (mapTo (bindT v x) k q.atoms[n].terms)[k]? = some q.atoms[n].terms[k] := by rw [mapTo_at]; exact List.getElem?_eq_getElem hk
      have hs := mapTo_set (bindT v x) _ _ _ (List.getElem?_eq_getElem hk)
      have fin : ∀ s', s' = (mapTo (bindA v x) n q.atoms).set n { q.atoms[n] with terms := mapTo (bindT v x) (k + 1) q.atoms[n].terms } → Ok (some (Ctl.next (w64 ((k : Int) + 1), s') : Ctl (Int × List Atom) (Query × Bool))) (CtlP (fun s' => (∃ k : Nat, s'.1 = (k : Int) ∧ k ≤ q.atoms[n].terms.length ∧ s'.2 = (mapTo (bindA v x) n q.atoms).set n { q.atoms[n] with terms := mapTo (bindT v x) k q.atoms[n].terms }) ∧ q.atoms[n].terms.length - s'.1.toNat < q.atoms[n].terms.length - ((k : Int)).toNat) (fun s => s.2 = mapTo (bindA v x) (n + 1) q.atoms) (fun _ => False)) := fun s' hs' =>
       .next ⟨⟨k + 1, by simp only; rw [w64_id (by omega)]; simp, hk, hs'⟩, by simp only; rw [w64_id (by omega)]; omega⟩
      refine .eq (a := q.atoms[n].terms[k]) (by rw [getI_nat]; exact hy) (.cond (fun h1 => .cond (fun h2 => ?_) fun h2 => ?_) fun h1 => .cond (fun h2 => ?_) fun h2 => ?_)
      ·have := of_decide_eq_true h1; have := of_decide_eq_true h2; omega
      ·refine fin _ ?_
       simp only [Int.toNat_natCast, List.set_set]
       rw [← hs, bindT, if_pos (of_decide_eq_true h1)]
      ·refine fin _ ?_
       simp only [Int.toNat_natCast, List.set_set]
       rw [← hs, bindT, if_neg (of_decide_eq_false h1), if_pos (of_decide_eq_true h2)]
      ·refine fin _ ?_
       rw [← hs, bindT, if_neg (of_decide_eq_false h1), if_neg (of_decide_eq_false h2), list_set_same hy]
     ·have : k = q.atoms[n].terms.length := by have := of_decide_eq_false hc; omega
      subst this
      simp only
      rw [mapTo_all, ← mapTo_set _ _ _ _ (List.getElem?_eq_getElem hn)]
      rfl
    ·have : n = q.atoms.length := by have := of_decide_eq_false hc; omega
     subst this
     exact mapTo_all _ _
   ·simp only at hs
    subst hs
    refine .while (fun s => ∃ n : Nat, s.1 = (n : Int) ∧ n ≤ q.free.length ∧ s.2 = bindF v (q.free.take n)) (fun s => q.free.length - s.1.toNat) (fun s => s.2 = bindF v q.free) (fun _ => False) (by omega) ⟨0, rfl, by omega, rfl⟩ (fun ⟨i, s⟩ ⟨n, e1, e2, e3⟩ => ?_) (fun ⟨i, s⟩ hs => .ret ?_) (fun r hr => hr.elim)
    ·simp only at e1 e3
     subst e1 e3
     refine .cond (fun hc => ?_) fun hc => .brk ?_
     ·have hn : n < q.free.length := by simpa using hc
      have e : q.free.take (n + 1) = q.free.take n ++ [q.free[n]] := by rw [List.take_add_one, List.getElem?_eq_getElem hn]; rfl
      have hl : (bindF v (q.free.take n)).length ≤ n := by
       simp only [bindF, List.length_map]
       exact Nat.le_trans (List.length_filter_le _ _) (by rw [List.length_take]; omega)
      have fin : ∀ s', s' = bindF v (q.free.take (n + 1)) → Ok (some (Ctl.next (w64 ((n : Int) + 1), s') : Ctl (Int × List Int) (Query × Bool))) (CtlP (fun s' => (∃ n : Nat, s'.1 = (n : Int) ∧ n ≤ q.free.length ∧ s'.2 = bindF v (q.free.take n)) ∧ q.free.length - s'.1.toNat < q.free.length - ((n : Int)).toNat) (fun s => s.2 = bindF v q.free) (fun _ => False)) := fun s' hs' =>
       .next ⟨⟨n + 1, by simp only; rw [w64_id (by omega)]; simp, hn, hs'⟩, by simp only; rw [w64_id (by omega)]; omega⟩
      have h0 : (bindF v (q.free.take n)).length + 1 ≤ 1048577 := by omega
      refine .get rfl hn (.cond (fun h1 => .app (by simp only [List.length_cons, List.length_nil]; omega) (.cond (fun h2 => ?_) fun h2 => fin _ ?_)) fun h1 => .cond (fun h2 => .app (by simp only [List.length_cons, List.length_nil]; omega) (fin _ ?_)) fun h2 => fin _ ?_)
      ·have := of_decide_eq_true h1; have := of_decide_eq_true h2; omega
      ·have h1 := of_decide_eq_true h1
       rw [e, bindF, bindF, List.filter_append, List.filter_cons_of_pos (by simp; omega), List.filter_nil, List.map_append]
       simp only [List.map_cons, List.map_nil]
       rw [if_neg (by omega)]
      ·have h2 := of_decide_eq_true h2
       rw [e, bindF, bindF, List.filter_append, List.filter_cons_of_pos (by simp; omega), List.filter_nil, List.map_append]
       simp only [List.map_cons, List.map_nil]
       rw [if_pos h2]
      ·have h1 := of_decide_eq_false h1; have h2 := of_decide_eq_false h2
       rw [e, bindF, bindF, List.filter_append, List.filter_cons_of_neg (by simp; omega), List.filter_nil, List.append_nil]
     ·simp only
      rw [List.take_of_length_le]
      have := of_decide_eq_false hc; omega
    ·simp only at hs
     rw [hs, bindV, if_pos h]
end Go.Proofs.Ytjdpolnakhmkmaa
set_option linter.unusedVariables false
set_option linter.unusedSimpArgs false
namespace Go.Proofs.Ytjdpolnakhmkmaa
open Go Go.Proofs Go.Sep
def bindN (q0 : Query) (row : List Int) : Nat → Query → Query × Bool
 | 0, q => (q, true)
 | n + 1, q => if (bindV q (q0.free[n]?.getD 0) (row[n]?.getD 0)).2 then bindN q0 row n (bindV q (q0.free[n]?.getD 0) (row[n]?.getD 0)).1 else (q0, false)
theorem bindN_QS {q0 : Query} {row : List Int} (h0 : QS q0) : ∀ (n : Nat) (q : Query), QS q → QS (bindN q0 row n q).1
 | 0, q, h => h
 | n + 1, q, h => by
  simp only [bindN]
  split
  ·exact bindN_QS h0 n _ (bindV_QS h _ _)
  ·exact h0
theorem bind_loop {u : Nat} {q0 : Query} {row : List Int} {BV : Query → Int → Int → Option (Query × Bool)} {CP : Option Query} (hu : row.length < u) (hl : row.length = q0.free.length) (hr : row.length ≤ 1048576) (h0 : QS q0) (hB : ∀ q v x, QS q → BV q v x = some (bindV q v x)) (hC : CP = some q0) :
  ((whileF (R := (Query × Bool)) (fun (⟨i7, box4_variableCount, box4_atoms, box4_free⟩ : Int × Int × (List Atom) × (List Int)) => cond (decide (0 ≤ i7)) ((getI q0.free i7).bind fun v_9 => (getI row i7).bind fun v_14 => (BV ({ variableCount := box4_variableCount, atoms := box4_atoms, free := box4_free } : Query) v_9 v_14).bind fun r_19 => cond (!r_19.2) (CP.bind fun r_22 => some (.ret (r_22, false))) (some (.next ((w64 (i7 - 1)), r_19.1.variableCount, r_19.1.atoms, r_19.1.free)))) (some (.brk (i7, box4_variableCount, box4_atoms, box4_free)))) u (((row.length : Int) - 1), q0.variableCount, q0.atoms, q0.free)).bind fun O7_ => onS O7_ (fun (⟨i7, box4_variableCount, box4_atoms, box4_free⟩ : Int × Int × (List Atom) × (List Int)) => some (({ variableCount := box4_variableCount, atoms := box4_atoms, free := box4_free } : Query), true)) (fun r => some r)) = some (bindN q0 row row.length q0) := by
 refine Ok.to (.while (fun s => ∃ n : Nat, s.1 = (n : Int) - 1 ∧ n ≤ row.length ∧ QS ⟨s.2.1, s.2.2.1, s.2.2.2⟩ ∧ bindN q0 row n ⟨s.2.1, s.2.2.1, s.2.2.2⟩ = bindN q0 row row.length q0) (fun s => (s.1 + 1).toNat) (fun s => (⟨s.2.1, s.2.2.1, s.2.2.2⟩, true) = bindN q0 row row.length q0) (fun r => r = bindN q0 row row.length q0) (by simp only; omega) ⟨row.length, rfl, Nat.le_refl _, h0, rfl⟩ (fun ⟨i, c, a, f⟩ ⟨n, e1, e2, e3, e4⟩ => ?_) (fun ⟨i, c, a, f⟩ hs => .ret hs) (fun r hr => .ret hr))
 simp only at e1 e3 e4
 subst e1
 refine .cond (fun hc => ?_) fun hc => .brk ?_
 ·obtain ⟨k, rfl⟩ : ∃ k, n = k + 1 := ⟨n - 1, by have := of_decide_eq_true hc; omega⟩
  have hk : k < row.length := by omega
  have hk2 : k < q0.free.length := by omega
  refine .get (n := k) (by simp) hk2 (.get (n := k) (by simp) hk (.eq (hB _ _ _ e3) ?_))
  simp only [bindN, List.getElem?_eq_getElem hk, List.getElem?_eq_getElem hk2, Option.getD_some] at e4
  have h2 := bindV_QS e3 q0.free[k] row[k]
  generalize bindV ⟨c, a, f⟩ q0.free[k] row[k] = y at e4 h2 ⊢
  obtain ⟨y, b⟩ := y
  cases b with
  | true => exact .cf rfl (.next ⟨⟨k, by simp only; rw [w64_id (by omega)]; omega, by omega, h2, by simpa using e4⟩, by simp only; rw [w64_id (by omega)]; omega⟩)
  | false => exact .ct rfl (.eq hC (.out (by simpa using e4)))
 ·have : n = 0 := by have := of_decide_eq_false hc; omega
  subst this
  exact e4
theorem impl_BindAnswer_eq {u : Nat} (hu : 1048577 < u) {q : Query} (hq : QS q) {row : List Int} (hr : row.length ≤ 1048576) : m_impl_BindAnswer u q row = some (if row.length = q.free.length then bindN q row row.length q else (q, false)) := by
 unfold m_impl_BindAnswer
 refine Ok.to (.eq (impl_copyQuery_eq hq) (.cond (fun h => .ret ?_) fun h => ?_))
 ·rw [if_neg (by have := of_decide_eq_true h; omega)]
 ·have h : row.length = q.free.length := by have := of_decide_eq_false h; omega
  rw [if_pos h]
  exact Ok.of (bind_loop (BV := m_impl_BindVariable) (by omega) h hr hq (fun q v x h => impl_BindVariable_eq h v x) (impl_copyQuery_eq hq))
theorem spec_BindAnswer_eq {u : Nat} (hu : 1048577 < u) {q : Query} (hq : QS q) {row : List Int} (hr : row.length ≤ 1048576) : m_spec_BindAnswer u q row = some (if row.length = q.free.length then bindN q row row.length q else (q, false)) := by
 unfold m_spec_BindAnswer
 refine Ok.to (.cond (fun h => .eq (spec_l11Copy_eq hu hq) (.ret ?_)) fun h => .eq (spec_l11Copy_eq hu hq) ?_)
 ·rw [if_neg (by have := of_decide_eq_true h; omega)]
 ·have h : row.length = q.free.length := by have := of_decide_eq_false h; omega
  rw [if_pos h]
  exact Ok.of (bind_loop (BV := m_spec_BindVariable u) (by omega) h hr hq (fun q v x h => spec_BindVariable_eq hu h v x) (spec_l11Copy_eq hu hq))
theorem law_BindAnswer (q : Query) (row : List Int) (hq : QM q) (hr : row.length ≤ 9223372036854775807) : m_laws_FnExactBindAnswer 1048578 q row = some true := by
 unfold m_laws_FnExactBindAnswer
 refine Ok.to (.cond (fun _ => .ret rfl) fun hrow => ?_)
 have hrow : row.length ≤ 1048576 := by have := of_decide_eq_false hrow; omega
 obtain ⟨z, h1, h2⟩ := szQuery_b q hq 1048576 (by omega) (by omega)
 refine .eq h1 (.cond (fun _ => .ret rfl) fun hz => ?_)
 have hz' := of_decide_eq_false hz
 have h2 := h2.resolve_left (by omega)
 obtain ⟨_, _, hs⟩ := h2
 have e1 := toQuery_id q hs
 have e2 := toIntS_id row hrow
 obtain ⟨x, is, k1, k2, k3⟩ : ∃ x is, m_impl_BindAnswer 1048578 q row = some (x, is) ∧ m_spec_BindAnswer 1048578 q row = some (x, is) ∧ QS x := by
  have i1 := impl_BindAnswer_eq (u := 1048578) (by omega) hs hrow
  have i2 := spec_BindAnswer_eq (u := 1048578) (by omega) hs hrow
  have i3 : QS (if row.length = q.free.length then bindN q row row.length q else (q, false)).1 := by
   split
   ·exact bindN_QS hs _ _ hs
   ·exact hs
  generalize (if row.length = q.free.length then bindN q row row.length q else (q, false)) = y at i1 i2 i3
  exact ⟨y.1, y.2, i1, i2, i3⟩
 have ex := eqQuery_self x
 have eis : (is != is) = false := by cases is <;> rfl
 refine .eq e1 (.eq e2 (.eq k2 (.eq e1 (.eq e2 (.eq k1 (.bind (P := fun t => t = false) (.eq ex (.cf rfl (.ret eis))) fun t ht => .cf ht (.eq e1 (.eq (eqQuery_self q) (.cf rfl (.eq e2 (.eq (eqIntS_self row) (.cf rfl (.bind (markQuery_held hs) fun r hr => .eq (markIntS_eq row _ hr.1.1 (by omega)) (.bind (P := fun t => t = false) (.cf (decide_eq_false (by simp only; omega)) (.eq ex (.cf rfl (.ret eis)))) fun t ht => .cf ht (.bind (markQuery_held k3) fun r3 hr3 => ?_)))))))))))))))
 have hh : m_laws_heldQuery ({ variableCount := x.variableCount, atoms := r3.2.atoms, free := r3.2.free } : Query) 1 = some r3.1 := by rw [← hr3.2.1]; exact hr3.2.2
 exact .eq hh (.cf (decide_eq_false (by omega)) (.cf (by simp) (.eq e1 (.eq e2 (.eq k1 (.bind (P := fun t => t = false) (.eq ex (.cf rfl (.ret eis))) fun t ht => .cf ht (.eq hh (.cf (decide_eq_false (by omega)) (.cf (by simp) (.ret rfl))))))))))
end Go.Proofs.Ytjdpolnakhmkmaa

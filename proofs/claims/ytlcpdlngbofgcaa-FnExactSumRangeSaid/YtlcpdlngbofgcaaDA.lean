/- A row under a cell, taken out of it: it is a row of its own then. -/
import Derived.Test.YtlcpdlngbofgcaaCX
import Derived.Test.YtlcpdlngbofgcaaCZ
set_option linter.unusedVariables false
set_option linter.unusedSimpArgs false
namespace Go.Sep
open Go
def dtL (Λ : Lbl) (s j l : Nat) : Lbl := fun L => match L with
  | [] => Λ []
  | h :: q => if h = l then Λ (s :: j :: q) else if pre s j (h :: q) = true then none else Λ (h :: q)
def dtS (σ : Store) (s j : Nat) (xs ys : List A) : Store := σ.set s (.box (xs.set j .j)) ++ [.row ys]
section
variable {F : Nat → Prop} {Λ : Lbl} {σ : Store} {w : World} {s j k : Nat} {xs ys : List A}
theorem dtL_ok (h : St F Λ σ w) : ∀ L b o, pre s j L = false → Λ L = some (b, o) → dtL Λ s j σ.length L = some (b, o) := fun L b o hp hL => by
  cases L with
  | nil => exact hL
  | cons h0 q =>
    simp only [dtL]
    rw [if_neg (by rintro rfl; rw [h.lab _ (by simp)] at hL; cases hL), hp]
    simpa using hL
theorem rowAt_dt (hs : σ[s]? = some (.box xs)) (hx : xs[j]? = some (.o k ys)) {L zs} (h : rowAt (dtS σ s j xs ys) L = some zs) :
    (L = [s] ∧ zs = xs.set j .j) ∨ (∃ q, L = σ.length :: q ∧ rowAt σ (s :: j :: q) = some zs) ∨ (L ≠ [s] ∧ pre s j L = false ∧ L.headD 0 < σ.length ∧ rowAt σ L = some zs) := by
  have h1 : s < σ.length := (List.getElem?_eq_some_iff.1 hs).1
  have hj : j < xs.length := (List.getElem?_eq_some_iff.1 hx).1
  cases L with
  | nil => simp [rowAt] at h
  | cons h0 p =>
    simp only [dtS, rowAt] at h
    by_cases e : h0 = σ.length
    · subst e
      rw [List.getElem?_append_right (by simp)] at h
      simp only [List.length_set, Nat.sub_self, List.getElem?_cons_zero, Root.cells] at h
      refine .inr (.inl ⟨p, rfl, ?_⟩)
      simp only [rowAt, hs, Root.cells, sub, hx]; exact h
    · by_cases hlt : h0 < σ.length
      · rw [List.getElem?_append_left (by simpa using hlt), List.getElem?_set] at h
        by_cases es : s = h0
        · subst es
          rw [if_pos rfl, if_pos h1] at h
          simp only [Root.cells] at h
          cases p with
          | nil => simp only [sub, Option.some.injEq] at h; exact .inl ⟨rfl, h.symm⟩
          | cons i q =>
            by_cases ei : j = i
            · subst ei
              simp only [sub, List.getElem?_set_self hj] at h
              cases h
            · refine .inr (.inr ⟨by simp, by simp [pre]; omega, hlt, ?_⟩)
              simp only [sub, List.getElem?_set_ne ei] at h
              simpa only [rowAt, hs, Root.cells, sub] using h
        · rw [if_neg es] at h
          refine .inr (.inr ⟨by simp; omega, ?_, hlt, by simpa only [rowAt] using h⟩)
          cases p with
          | nil => rfl
          | cons i q => simp [pre]; omega
      · rw [List.getElem?_eq_none (by simp; omega)] at h
        cases h
theorem St.detach (h : St F Λ σ w) (hs : σ[s]? = some (.box xs)) (hx : xs[j]? = some (.o k ys)) (hb : nmS (pre s j) σ = false) : St F (dtL Λ s j σ.length) (dtS σ s j xs ys) w := by
  have hj : j < xs.length := (List.getElem?_eq_some_iff.1 hx).1
  have hls : s < σ.length := (List.getElem?_eq_some_iff.1 hs).1
  have hrs : rowAt σ [s] = some xs := by simp only [rowAt, hs, Root.cells, sub]
  have hsb : isBox σ [s] = true := by simp [isBox, hs]
  have hbx : isBox (dtS σ s j xs ys) [s] = true := by
    simp only [isBox, dtS]; rw [List.getElem?_append_left (by simpa using hls), List.getElem?_set_self hls]
  have e1 : dtL Λ s j σ.length [s] = Λ [s] := by simp only [dtL]; rw [if_neg (by omega)]; simp [pre]
  have e2 : ∀ q, dtL Λ s j σ.length (σ.length :: q) = Λ (s :: j :: q) := fun q => by simp [dtL]
  have e3 : ∀ L : List Nat, pre s j L = false → L.headD 0 < σ.length → dtL Λ s j σ.length L = Λ L := fun L hp hl => by
    cases L with
    | nil => rfl
    | cons h0 q => simp only [dtL]; rw [if_neg (by simp at hl; omega), hp]; simp
  have key : ∀ L zs, rowAt (dtS σ s j xs ys) L = some zs → ∃ L0 us, rowAt σ L0 = some us ∧ dtL Λ s j σ.length L = Λ L0 ∧ ((L = L0 ∧ L.headD 0 < σ.length ∧ pre s j L = false) ∨ ∃ q, L = σ.length :: q ∧ L0 = s :: j :: q) := fun L zs hz => by
    rcases rowAt_dt hs hx hz with ⟨rfl, rfl⟩ | ⟨q, rfl, h1⟩ | ⟨h1, h2, h3, h4⟩
    · exact ⟨[s], xs, hrs, e1, .inl ⟨rfl, by simpa using hls, by simp [pre]⟩⟩
    · exact ⟨_, zs, h1, e2 q, .inr ⟨q, rfl, rfl⟩⟩
    · exact ⟨L, zs, h4, e3 L h2 h3, .inl ⟨rfl, h3, h2⟩⟩
  refine ⟨fun L zs hz => ?_, fun L zs L' zs' b o o' g1 g2 g3 g4 => ?_, h.old, fun L hL => ?_⟩
  · rcases rowAt_dt hs hx hz with ⟨rfl, rfl⟩ | ⟨q, rfl, h1⟩ | ⟨h1, h2, h3, h4⟩
    · rw [e1, hbx]
      rcases h.row _ _ hrs with ⟨_, h5⟩ | ⟨b, o, cs, t, h5, h6, h7, h8⟩
      · subst h5; simp at hj
      · refine .inr ⟨b, o, cs, t, h5, h6, h7, fun i x hi => ?_⟩
        by_cases ei : j = i
        · subst ei
          rw [List.getElem?_set_self hj] at hi; cases hi
          obtain ⟨c, g1, _⟩ := h8 j _ hx
          exact ⟨c, g1, trivial⟩
        · rw [List.getElem?_set_ne ei] at hi
          obtain ⟨c, g1, g2⟩ := h8 i x hi
          rw [hsb] at g2
          refine ⟨c, g1, g2.relabel (pre s j) (dtL_ok h) (by simp [pre]; omega) fun _ => ?_⟩
          exact namesL_false (nmS_box hb xs (List.mem_of_getElem? hs)) x (List.mem_of_getElem? hi)
    · rw [e2 q]
      have hib : isBox (dtS σ s j xs ys) (σ.length :: q) = false := by
        cases q with
        | nil => simp [isBox, dtS]
        | cons => rfl
      rw [hib]
      refine (h.row _ _ h1).imp id fun ⟨b, o, cs, t, g1, g2, g3, g4⟩ => ⟨b, o, cs, t, g1, g2, g3, fun i x hi => (g4 i x hi).imp fun c hc => ⟨hc.1, ?_⟩⟩
      have h5 := hc.2
      rw [isBox_deep] at h5
      exact h5.unbox fun a n k v hv => hv.imp id fun ⟨b, o, cap, k1, k2⟩ => ⟨b, o, cap, by rw [List.cons_append, e2]; simpa using k1, k2⟩
    · rw [e3 L h2 h3]
      have hib : isBox (dtS σ s j xs ys) L = isBox σ L := by
        match L, h1, h3 with
        | [], _, _ => rfl
        | [h0], h1, h3 =>
          have hn : s ≠ h0 := fun e => h1 (by rw [e])
          simp only [List.headD_cons] at h3
          simp only [isBox, dtS]
          rw [List.getElem?_append_left (by simpa using h3), List.getElem?_set_ne hn]
        | _ :: _ :: _, _, _ => rfl
      rw [hib]
      refine (h.row _ _ h4).imp id fun ⟨b, o, cs, t, g1, g2, g3, g4⟩ => ⟨b, o, cs, t, g1, g2, g3, fun i x hi => (g4 i x hi).imp fun c hc => ⟨hc.1, ?_⟩⟩
      by_cases hbL : isBox σ L = true
      · match L, hbL, h4, hc.2 with
        | [h0], hbL, h4, h5 =>
          refine h5.relabel (pre s j) (dtL_ok h) ?_ fun _ => ?_
          · have : h0 ≠ s := fun e => h1 (by rw [e])
            simp [pre, this]
          · simp only [isBox] at hbL
            split at hbL
            · rename_i us2 hu
              simp only [rowAt, hu, Root.cells, sub, Option.some.injEq] at h4
              subst h4
              exact namesL_false (nmS_box hb us2 (List.mem_of_getElem? hu)) x (List.mem_of_getElem? hi)
            · cases hbL
        | [], hbL, _, _ => cases hbL
        | _ :: _ :: _, hbL, _, _ => cases hbL
      · have hbf : isBox σ L = false := by simpa using hbL
        have h5 := hc.2
        rw [hbf] at h5 ⊢
        refine h5.unbox fun a n k v hv => hv.imp id fun ⟨b, o, cap, k1, k2⟩ => ⟨b, o, cap, dtL_ok h _ _ _ ?_ k1, k2⟩
        match L, h1, h2 with
        | [], _, _ => rfl
        | [h0], h1, _ =>
          have : h0 ≠ s := fun e => h1 (by rw [e])
          simp [pre, this]
        | h0 :: i0 :: q, _, h2 => simpa [pre] using h2
  · obtain ⟨A0, us, a1, a2, a3⟩ := key _ _ g1
    obtain ⟨B0, us', b1, b2, b3⟩ := key _ _ g2
    rw [a2] at g3; rw [b2] at g4
    have := h.apart _ _ _ _ _ _ _ a1 b1 g3 g4
    subst this
    rcases a3 with ⟨rfl, a4, a5⟩ | ⟨q, rfl, rfl⟩
    · rcases b3 with ⟨rfl, _, _⟩ | ⟨q, rfl, rfl⟩
      · rfl
      · simp [pre] at a5
    · rcases b3 with ⟨rfl, b4, b5⟩ | ⟨q', rfl, e⟩
      · simp [pre] at b5
      · simp only [List.cons.injEq, true_and] at e; rw [e]
  · have hlen : (dtS σ s j xs ys).length = σ.length + 1 := by simp [dtS]
    rw [hlen] at hL
    cases L with
    | nil => simp at hL
    | cons h0 q =>
      simp only [List.headD_cons] at hL
      simp only [dtL]; rw [if_neg (by omega)]
      split
      · rfl
      · exact h.lab _ (by simp; omega)
theorem Step.detach {m : Nat} (h : St F Λ σ w) (hs : σ[s]? = some (.box xs)) (hx : xs[j]? = some (.o k ys)) (hms : m ≤ s) : Step m F Λ σ w F (dtL Λ s j σ.length) (dtS σ s j xs ys) w := by
  have hls : s < σ.length := (List.getElem?_eq_some_iff.1 hs).1
  have hrs : rowAt σ [s] = some xs := by simp only [rowAt, hs, Root.cells, sub]
  have e3 : ∀ L : List Nat, pre s j L = false → L.headD 0 < σ.length → dtL Λ s j σ.length L = Λ L := fun L hp hl => by
    cases L with
    | nil => rfl
    | cons h0 q => simp only [dtL]; rw [if_neg (by simp at hl; omega), hp]; simp
  exact { os := rfl, tape := rfl, output := rfl, size := Nat.le_refl _, sizes := Sizes.refl _, keep := fun _ _ _ => rfl, mono := fun _ h => h, new := fun _ h => .inl h
          own := fun b ⟨L, zs, o, g1, g2⟩ => by
            rcases rowAt_dt hs hx g1 with ⟨rfl, rfl⟩ | ⟨q, rfl, h1⟩ | ⟨h1, h2, h3, h4⟩
            · exact .inl ⟨[s], xs, o, hrs, by rw [e3 _ (by simp [pre]) (by simpa using hls)] at g2; exact g2⟩
            · exact .inl ⟨_, zs, o, h1, by simpa [dtL] using g2⟩
            · exact .inl ⟨L, zs, o, h4, by rw [e3 L h2 h3] at g2; exact g2⟩
          len := by simp [dtS]; omega
          boxes := fun a us ha hu => by
            have hal : a < σ.length := (List.getElem?_eq_some_iff.1 hu).1
            exact ⟨e3 [a] (by simp [pre]) (by simpa using hal), us, by simp only [dtS]; rw [List.getElem?_append_left (by simpa using hal), List.getElem?_set_ne (by omega)]; exact hu⟩
          kept := fun L b o ha hL => by
            refine dtL_ok h L b o ?_ hL
            match L, ha with
            | [], _ => rfl
            | [_], _ => rfl
            | h0 :: i0 :: q, ha =>
              simp only [List.headD_cons] at ha
              simp [pre]; omega }
end
section
variable {P : Program} {n m : Nat} {N : Env → Store → Prop} {E : Env} {σ : Store} {ops : Array Oper} {os : List Oper} {o : Oper}
/-- Slots that do not name what lies under a cell; slot d is the row there. -/
def dtE (s j l : Nat) (E : Env) (d : Nat) (nn k : Nat) : Env → Prop
  | [] => True
  | (t, a) :: E' => ((t = d ∧ a = .m [l] 0 nn k) ∨ (lk E t = a ∧ a.names (pre s j) = false)) ∧ dtE s j l E d nn k E'
theorem TO_detach (s j d : Nat) {nn k : Nat} {xs ys : List A} {E' : Env} (hs : σ[s]? = some (.box xs)) (hx : xs[j]? = some (.o k ys)) (hd : lk E d = .m [s, j] 0 nn k) (hms : m ≤ s) (hb : nmS (pre s j) σ = false) (hE : dtE s j σ.length E d nn k E')
    (h : TO P n m ops os N E' (σ.set s (.box (xs.set j .j)) ++ [.row ys])) : TO P n m ops os N E σ := fun F Λ w tmps Q hn hst hf hq => by
  refine h F _ w tmps Q hn (hst.detach hs hx hb) (fun t => ?_) fun F2 Λ2 σ2 w2 tmps2 E2 hn2 hs2 hf2 hst2 hN => hq F2 Λ2 σ2 w2 tmps2 E2 hn2 hs2 hf2 ((Step.detach hst hs hx hms).trans hst2) hN
  have key : ∀ {E' : Env}, dtE s j σ.length E d nn k E' → ∀ t, lk E' t = .j ∨ (t = d ∧ lk E' t = .m [σ.length] 0 nn k) ∨ (lk E t = lk E' t ∧ (lk E' t).names (pre s j) = false) := fun {E'} => by
    induction E' with
    | nil => intro _ t; exact .inl rfl
    | cons p E' ih =>
      intro hh t
      obtain ⟨u, a⟩ := p
      simp only [lk]
      split
      · rename_i e
        have e : u = t := by simpa using e
        subst e
        rcases hh.1 with ⟨h1, h2⟩ | ⟨h1, h2⟩
        · exact .inr (.inl ⟨h1, h2⟩)
        · exact .inr (.inr ⟨h1, h2⟩)
      · exact ih hh.2 t
  rcases key hE t with h1 | ⟨rfl, h1⟩ | ⟨h1, h2⟩
  · rw [h1]; exact .j _
  · rw [h1]
    have h3 := hf t
    rw [hd] at h3
    have h4 := h3.m_inv
    exact .m (h4.imp id fun ⟨b, o, cap, k1, k2⟩ => ⟨b, o, cap, by simpa [dtL] using k1, k2⟩)
  · rw [← h1]
    refine (hf t).relabel (pre s j) (dtL_ok hst) (by rw [h1]; exact h2)
/-- A store into an element that is open. -/
theorem TOp_setH {α : Type} {T : Ty α} {t k' : Nat} {addr x : Operand} {l d i off : Nat} {xs : List α} {v : α} {zs ys : List A} (hT : SzT P t k') (hk0 : 0 < k') (h : o.op = .store t addr x) (hdst : o.dst = none) (ha : val E addr = .e [l] d) (hd : d = i * T.k + off) (hr : σ[l]? = some (.box (spl (flat T.own xs) (i * T.k) zs))) (hzl : zs.length = T.k)
    (hv : xs[i]? = some v) (hys : cellsOf (val E x) = ys) (hyl : ys.length = k') (ho : off + k' ≤ T.k) (hc : boxAllB ys = true) (hN : N E (σ.set l (.box (spl (flat T.own xs) (i * T.k) (spl zs off ys))))) : TOp P n m o N E σ := by
  subst hd
  have hi := (List.getElem?_eq_some_iff.1 hv).1
  have hk : i * T.k + T.k ≤ (flat T.own xs).length := by rw [flat_len T.lenO, ← Nat.succ_mul]; exact Nat.mul_le_mul_right _ hi
  have hl0 : (spl (flat T.own xs) (i * T.k) zs).length = (flat T.own xs).length := spl_len ..
  have hrow : rowAt σ [l] = some (spl (flat T.own xs) (i * T.k) zs) := by simp only [rowAt, hr, Root.cells, sub]
  have hbx : isBox σ [l] = true := by simp [isBox, hr]
  refine store_row hT h hdst hrow hys hyl hk0 (show i * T.k + off + k' ≤ (spl (flat T.own xs) (i * T.k) zs).length by omega) (fun y hy => by rw [hbx, if_pos rfl]; exact boxAll hc y hy) (boxAll hc) (fun F Λ w tmps hs hf => ?_) ?_
  · have e1 := val_ok (ds := []) hf addr
    rw [ha] at e1
    exact e1.e_inv
  · have hcut : ((spl (flat T.own xs) (i * T.k) zs).drop (i * T.k)).take zs.length = zs := by
      apply List.ext_getElem?
      intro q
      rcases Nat.lt_or_ge q zs.length with hq | hq
      · rw [List.getElem?_take_of_lt hq, List.getElem?_drop, spl_get _ _ _ _ (by omega), if_pos (by omega)]; congr 1; omega
      · rw [List.getElem?_eq_none (by rw [List.length_take]; omega), List.getElem?_eq_none hq]
    have e : spl (spl (flat T.own xs) (i * T.k) zs) (i * T.k + off) ys = spl (flat T.own xs) (i * T.k) (spl zs off ys) := by
      rw [spl_in _ zs ys (i * T.k) off hcut (by omega) (by omega)]
      apply List.ext_getElem?
      intro q
      have hl2 : (spl zs off ys).length = zs.length := spl_len ..
      rw [spl_get (spl zs off ys) (spl (flat T.own xs) (i * T.k) zs) (i * T.k) q (by omega), spl_get (spl zs off ys) (flat T.own xs) (i * T.k) q (by omega)]
      split
      · rfl
      · rename_i hq
        rw [spl_get zs (flat T.own xs) (i * T.k) q (by omega), if_neg (by omega)]
    rw [e]
    simpa [setRow, hr, Root.under, setSub] using hN
theorem open_T {α : Type} {T : Ty α} {xs : List α} {i off : Nat} {v : α} {y : A} (hv : xs[i]? = some v) (ho : off < T.k) : (flat T.own xs).set (i * T.k + off) y = spl (flat T.own xs) (i * T.k) ((T.own v).set off y) := by
  have hi := (List.getElem?_eq_some_iff.1 hv).1
  have hk : i * T.k + T.k ≤ (flat T.own xs).length := by rw [flat_len T.lenO, ← Nat.succ_mul]; exact Nat.mul_le_mul_right _ hi
  have hcut := flat_cut T.lenO (off := 0) (k' := T.k) hv (by omega)
  rw [Nat.add_zero, List.drop_zero, List.take_of_length_le (Nat.le_of_eq (T.lenO v))] at hcut
  have := spl_in (flat T.own xs) (T.own v) [y] (i * T.k) off (by rw [T.lenO]; exact hcut) (by rw [T.lenO]; exact hk) (by rw [T.lenO]; exact ho)
  exact this
end
end Go.Sep

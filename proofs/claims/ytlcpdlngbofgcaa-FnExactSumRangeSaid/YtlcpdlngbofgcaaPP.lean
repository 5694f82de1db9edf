/- The values of a column, block by block. -/
import Derived.Test.YtlcpdlngbofgcaaPO
set_option linter.unusedVariables false
set_option linter.unusedSimpArgs false
namespace Go.Proofs.Ytlcpdlngbofgcaa
open Go Go.Proofs Go.Sep
def valF (d : Database) (c : Int) (x : Int) : Int := (d.facts.getD x.toNat default).values.getD c.toNat 0
def relF (d : Database) (x : Int) : Int := (d.facts.getD x.toNat default).relation
theorem valF_at {d : Database} {r c : Int} (hok : ColOK d r c) {j : Nat} (hj : j < d.facts.length) (hr : d.facts[j].relation = r) (hs : d.facts[j].values.length ≤ 1048576) : getI d.facts[j].values c = some (valF d c (j : Int)) ∧ pickV d r c (j : Int) = [valF d c (j : Int)] ∧ 0 ≤ valF d c (j : Int) ∧ valF d c (j : Int) ≤ 9 := by
  obtain ⟨v, h1, h2⟩ := val_at hok (x := (j : Int)) (getI_lt hj) hr hs
  obtain ⟨n, hc, hv⟩ := getI_inv h1
  have e : valF d c (j : Int) = v := by
    subst hc
    simp [valF, List.getD, hj, hv]
  rw [e]
  obtain ⟨_, _, _, _, _, h5⟩ := hok.1.fact j _ (List.getElem?_eq_getElem hj)
  exact ⟨h1, h2, h5 v (List.mem_of_getElem? hv)⟩
theorem relF_at {d : Database} {j : Nat} (hj : j < d.facts.length) : relF d (j : Int) = d.facts[j].relation := by
  simp [relF, List.getD, hj]
def valsOf (d : Database) (r c : Int) : List (List Int) := ((blocksOf d).filter fun b => decide (relF d (b.headD 0) = r)).map fun b => b.map (valF d c)
theorem l27Vals_eq {u : Nat} {d : Database} {r c : Int} (hok : ColOK d r c) (hs : DbS d) (hu : 1048577 < u) : m_spec_l27Vals u d r c = some (valsOf d r c) := by
  unfold m_spec_l27Vals
  rw [spec_Blocks_eq hok.1 hs hu, Option.bind_some]
  have hfew := hok.1.few
  have hbl := blocksOf_len d
  obtain ⟨s, h1, h2⟩ := forS_ok (xs := blocksOf d) (s := ([] : List (List Int))) (f := fun (i_3 : Int) (x_i_3 : (List Int)) (out7 : (List (List Int))) => (getI x_i_3 0).bind fun v_5 => (getI d.facts v_5).bind fun v_10 => cond (decide (v_10.relation ≠ r)) (some out7) ((whileF (R := (List (List Int))) (fun (⟨l10, k11⟩ : (List Int) × Int) => cond (decide (k11 < (x_i_3.length : Int))) ((getI x_i_3 k11).bind fun v_18 => (getI d.facts v_18).bind fun v_23 => (getI v_23.values c).bind fun v_28 => (app 8 l10 ([v_28] : (List Int))).bind fun us_33 => some (.next (us_33, (w64 (k11 + 1))))) (some (.brk (l10, k11)))) u (([] : (List Int)), 0)).bind fun O16_ => onS O16_ (fun (⟨l10, k11⟩ : (List Int) × Int) => (app 24 out7 ([l10] : (List (List Int)))).bind fun us_35 => some us_35) (fun r => none)))
    (fun n s => s = (((blocksOf d).take n).filter fun b => decide (relF d (b.headD 0) = r)).map fun b => b.map (valF d c)) rfl fun n b out hx hI => by
      have hb := List.mem_of_getElem? hx
      have hn : n < (blocksOf d).length := (List.getElem?_eq_some_iff.1 hx).1
      obtain ⟨x0, hx0⟩ : ∃ x0, x0 ∈ b := List.exists_mem_of_ne_nil b (blocksOf_ne b hb)
      obtain ⟨i, _, hi, _, _, hh, _⟩ := blocksOf_mem hb hx0
      have hhd : b.headD 0 = (i : Int) := by cases b with | nil => cases hx0 | cons y ys => simpa using hh
      have hlo : out.length ≤ n := by rw [hI, List.length_map]; exact Nat.le_trans (List.length_filter_le ..) (by simp; omega)
      have hbl2 : b.length ≤ 14 := by
        obtain ⟨i', _, _, rfl⟩ := mem_blocksOf hb
        rw [castL_len]; exact Nat.le_trans (List.length_filter_le ..) (by simp; omega)
      have hz : getI b 0 = b[0]? := getI_nat b 0
      rw [hz, hh, Option.bind_some, getI_lt hi, Option.bind_some, List.take_add_one, hx]
      by_cases hr : d.facts[i].relation = r
      · rw [cond_F' (by simp [hr])]
        obtain ⟨o, h3, h4⟩ := while_ok (f := fun (⟨l10, k11⟩ : (List Int) × Int) => cond (decide (k11 < (b.length : Int))) ((getI b k11).bind fun v_18 => (getI d.facts v_18).bind fun v_23 => (getI v_23.values c).bind fun v_28 => (app 8 l10 ([v_28] : (List Int))).bind fun us_33 => some (Ctl.next (R := List (List Int)) (us_33, (w64 (k11 + 1))))) (some (.brk (l10, k11))))
          (fun (s : List Int × Int) => ∃ m : Nat, s.2 = (m : Int) ∧ m ≤ b.length ∧ s.1 = (b.take m).map (valF d c)) (fun (s : List Int × Int) => b.length - s.2.toNat) (fun (s : List Int × Int) => s.1 = b.map (valF d c)) (fun (_ : List (List Int)) => False)
          (fun ⟨l, k⟩ ⟨m, hk, hm, hl⟩ => by
            simp only at hk hl
            subst hk
            by_cases h : m < b.length
            · obtain ⟨i', j, _, hj, hxj, hh', hkj⟩ := blocksOf_mem hb (List.getElem_mem h)
              have h9 : (i' : Int) = (i : Int) := by rw [hh] at hh'; simpa using hh'.symm
              have : i' = i := by omega
              subst this
              rw [keyN_at hj, keyN_at hi] at hkj
              have hrj : d.facts[j].relation = r := (congrArg Prod.fst hkj).trans hr
              have hv := valF_at hok hj hrj (hs.2.2.2 _ (List.getElem_mem hj))
              have hll : l.length ≤ m := by rw [hl]; simp; omega
              simp only
              rw [cond_T' (by simpa using h), getI_lt h, Option.bind_some, hxj, getI_lt hj, Option.bind_some, hv.1, Option.bind_some, app_ok (by simp; omega), Option.bind_some, w64_id (by omega)]
              refine ⟨_, rfl, ⟨m + 1, by simp, h, ?_⟩, by simp only; omega⟩
              simp only
              rw [List.take_add_one, List.getElem?_eq_getElem h, hl, hxj]; simp
            · simp only
              rw [cond_F' (by simpa using h)]
              have e : m = b.length := by omega
              exact ⟨_, rfl, by simp only [CtlP]; rw [hl, e, List.take_length]⟩)
          u (([] : List Int), 0) (by show b.length - (0 : Int).toNat < u; omega) ⟨0, rfl, by omega, rfl⟩
        rw [h3, Option.bind_some]
        cases o with
        | inr q => exact h4.elim
        | inl q =>
          obtain ⟨l, k⟩ := q
          simp only [SumP] at h4
          subst h4
          simp only [onS]
          rw [app_ok (by simp; omega)]
          refine ⟨_, rfl, ?_⟩
          have hp : decide (relF d (b.headD 0) = r) = true := by rw [hhd, relF_at hi]; simpa using hr
          have hf : (Option.toList (some b)).filter (fun b => decide (relF d (b.headD 0) = r)) = [b] := by
            show List.filter _ [b] = [b]
            simp only [List.filter, hp]
          rw [List.filter_append, List.map_append, hf, hI]; rfl
      · rw [cond_T' (by simpa using hr)]
        refine ⟨_, rfl, ?_⟩
        have hp : decide (relF d (b.headD 0) = r) = false := by rw [hhd, relF_at hi]; simpa using hr
        have hf : (Option.toList (some b)).filter (fun b => decide (relF d (b.headD 0) = r)) = [] := by
          show List.filter _ [b] = []
          simp only [List.filter, hp]
        rw [List.filter_append, List.map_append, hf, hI]; simp
  rw [h1, Option.bind_some, h2, List.take_length]; rfl
end Go.Proofs.Ytlcpdlngbofgcaa

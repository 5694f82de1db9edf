import Derived.Test.YtjdpolnakhmkmaaM1
import Derived.Test.YtjdpolnakhmkmaaM2
import Derived.Test.YtjdpolnakhmkmaaM3
set_option linter.unusedVariables false
set_option linter.unusedSimpArgs false
set_option maxRecDepth 4000
namespace Go.Proofs.Ytjdpolnakhmkmaa
open Go Go.Proofs Go.Sep
set_option maxHeartbeats 1000000 in
theorem m_impl_SelectFacts_ok (db0 : Database) (indices1 : (List Int)) (r : (Database × Bool)) (H : m_impl_SelectFacts db0 indices1 = some r) : FnV prg 172 [(.g (tDatabase.enc db0)), (sl tInt indices1)] (.t [(.g (tDatabase.enc r.1)), (boolA r.2)]) := by
  unfold m_impl_SelectFacts at H
  refine fnV_of_T Try.func172 rfl rfl (Nat.le_of_ble_eq_true rfl) ?_
  refine te [(0, (.g (tDatabase.enc db0))), (1, (sl tInt indices1))] rfl ?_
  refine sr ?_
  refine TO_cons rfl (TOp_box rfl (boxAll rfl) rfl rfl ?_)
  refine TO_cons rfl (TOp_alloc zero48 rfl rfl ?_)
  refine pv tb 1 rfl ?_
  refine TO_nil ?_
  refine T_seq ?_
  obtain ⟨t20_1, J_1, H_2⟩ := bind_inv H
  refine T_cutX (fun x => t20_1 = x) (fun (t20_1 : Bool) => [(1, (sl tInt indices1)), (2, (.b 0 0)), (4, (.b 1 0)), (20, (boolA t20_1))]) (fun (t20_1 : Bool) => [.box [(sl tRelation db0.relations), (sl tFact db0.facts)], .box [.n, .n]]) ?_ ?_
  ·replace H := J_1
   refine T_region ?_
   obtain ⟨r_3, h_4, H⟩ := bind_inv H
   refine pv tb 1 rfl ?_
   refine TO_cons rfl (TOp_callV (call_static ent117 rfl) (m_impl_IsValidDatabase_ok _ _ h_4) rfl rfl rfl ?_)
   refine pv tb 2 rfl ?_
   refine TO_split (t := (!r_3)) 13 rfl (fun g_5 => ?_) (fun g_5 => ?_)
   ·replace H := cond_t g_5 H
    refine pv tb 7 rfl ?_
    refine TO_nil ?_
    exact joined true (w0 2) (some_inj H).symm
   ·replace H := cond_f g_5 H
    refine pv tb 3 rfl ?_
    refine TO_on rfl rfl (by decide) rfl rfl (TOp_pure (pur_lenT (T := tFact) sl46 rfl rfl) rfl ?_)
    obtain ⟨r_6, h_7, H⟩ := bind_inv H
    refine TO_on rfl rfl (by decide) rfl rfl (TOp_callV (call_static ent184 rfl) (m_impl_areIndices_ok _ _ _ h_7) rfl rfl rfl ?_)
    refine pv tb 2 rfl ?_
    refine TO_nil ?_
    exact joined (!r_6) (w0 2) (some_inj H).symm
  ·rintro _ rfl
   replace H := H_2
   refine T_cond (t := t20_1) rfl (fun c_8 => ?_) (fun c_8 => ?_)
   ·replace H := cond_t c_8 H
    refine sr ?_
    refine Tp rfl rfl (pur_build bld48 rfl rfl) rfl ?_
    refine TO_cons rfl (TOp_storeB sz48 rfl rfl rfl rfl rfl rfl rfl (by decide) (lb rfl) rfl ?_)
    refine TO_st (σ' := [.box [(sl tRelation db0.relations), (sl tFact db0.facts)], .box [.n, .n]]) rfl ?_
    refine pv tb 1 rfl ?_
    refine TO_nil ?_
    refine T_boxle (xs := [.n, .n]) (ys := [(sl tRelation []), (sl tFact [])]) 1 rfl (leCons leN (leCons leN leNil)) ?_
    refine T_st (σ' := [.box [(sl tRelation db0.relations), (sl tFact db0.facts)], .box [(sl tRelation []), (sl tFact [])]]) rfl ?_
    refine T_ret ?_
    refine then_ret ?_
    obtain rfl := some_inj H
    refine end_ret (.cellK rfl agg48 rfl (lb rfl) (.tmp .nil)) rfl rfl ⟨?_, rfl⟩
    rfl
   ·replace H := cond_f c_8 H
    refine T_skip ?_
    refine sr ?_
    obtain ⟨r_9, h_10, H⟩ := bind_inv H
    refine pv tb 1 rfl ?_
    refine TO_cons rfl (TOp_callO (call_static ent107 rfl) rfl (m_impl_copyDatabase_enc _ _ h_10) rfl rfl rfl ?_)
    refine toe [(1, (sl tInt indices1)), (2, (.b 0 0)), (4, (.b 1 0)), (22, (.g (tDatabase.enc db0))), (23, (.g [(.m [2] 0 r_9.relations.length tRelation.k), (.m [3] 0 r_9.facts.length tFact.k)]))] rfl ?_
    refine TO_st (σ' := [.box [(sl tRelation db0.relations), (sl tFact db0.facts)], .box [.n, .n], .row (flat tRelation.enc r_9.relations), .row (flat tFact.enc r_9.facts)]) rfl ?_
    refine TO_cons rfl (TOp_alloc zero48 rfl rfl ?_)
    refine TO_cons rfl (TOp_storeB sz48 rfl rfl rfl rfl rfl rfl rfl (by decide) (lb rfl) rfl ?_)
    refine TO_st (σ' := [.box [(sl tRelation db0.relations), (sl tFact db0.facts)], .box [.n, .n], .row (flat tRelation.enc r_9.relations), .row (flat tFact.enc r_9.facts), .box [(.m [2] 0 r_9.relations.length tRelation.k), (.m [3] 0 r_9.facts.length tFact.k)]]) rfl ?_
    refine TO_nil ?_
    refine sr ?_
    refine pv tb 2 rfl ?_
    refine Tp rfl rfl (pur_build bld48 rfl rfl) rfl ?_
    refine TO_cons rfl (TOp_alloc zero48 rfl rfl ?_)
    refine TO_cons rfl (TOp_storeB sz48 rfl rfl rfl rfl rfl rfl rfl (by decide) (lb rfl) rfl ?_)
    refine TO_st (σ' := [.box [(sl tRelation db0.relations), (sl tFact db0.facts)], .box [.n, .n], .row (flat tRelation.enc r_9.relations), .row (flat tFact.enc r_9.facts), .box [(.m [2] 0 r_9.relations.length tRelation.k), (.m [3] 0 r_9.facts.length tFact.k)], .box [(.m [2] 0 r_9.relations.length tRelation.k), .n]]) rfl ?_
    refine TO_nil ?_
    refine T_seq ?_
    refine sr ?_
    refine pv tb 1 rfl ?_
    refine Tp rfl rfl (pur_lenT (T := tInt) sl23 rfl rfl) rfl ?_
    refine pv tb 1 rfl ?_
    refine TO_nil ?_
    refine T_row0 ?_
    refine T_boxle (xs := [(.m [2] 0 r_9.relations.length tRelation.k), .n]) (ys := [(.m [2] 0 r_9.relations.length tRelation.k), (.m [6] 0 ([] : (List Fact)).length tFact.k)]) 5 rfl (leCons (leR rfl) (leCons leM leNil)) ?_
    refine T_st (σ' := [.box [(sl tRelation db0.relations), (sl tFact db0.facts)], .box [.n, .n], .row (flat tRelation.enc r_9.relations), .row (flat tFact.enc r_9.facts), .box [(.m [2] 0 r_9.relations.length tRelation.k), (.m [3] 0 r_9.facts.length tFact.k)], .box [(.m [2] 0 r_9.relations.length tRelation.k), (.m [6] 0 ([] : (List Fact)).length tFact.k)], .row (flat tFact.enc ([] : (List Fact)))]) rfl ?_
    obtain ⟨O12_, L12_, N12_⟩ := bind_inv H
    clear H
    obtain ⟨B12_, hb12, L12_⟩ := gen_forS L12_
    refine T_block ?_
    refine T_loopX (fun k => fun (⟨t_11, box5_facts⟩ : Nat × (List Fact)) => k = indices1.length - t_11 ∧ forS B12_ (indices1.drop t_11) (t_11 : Int) box5_facts = some O12_) (fun (⟨t_11, box5_facts⟩ : Nat × (List Fact)) => [(4, (.b 1 0)), (6, (.b 4 0)), (7, (.b 5 0)), (27, (sl tInt indices1)), (28, (intA (indices1.length : Int))), (29, (intA (t_11 : Int)))]) (fun (⟨t_11, box5_facts⟩ : Nat × (List Fact)) => [.box [(sl tRelation db0.relations), (sl tFact db0.facts)], .box [.n, .n], .row (flat tRelation.enc r_9.relations), .row (flat tFact.enc r_9.facts), .box [(.m [2] 0 r_9.relations.length tRelation.k), (.m [3] 0 r_9.facts.length tFact.k)], .box [(.m [2] 0 r_9.relations.length tRelation.k), (.m [6] 0 box5_facts.length tFact.k)], .row (flat tFact.enc box5_facts)]) _ (0, ([] : (List Fact))) (w0 7) ⟨rfl, L12_⟩ ?_
    rintro _ ⟨t_11, box5_facts⟩ ⟨rfl, L12_⟩
    refine T_fact (len_sl (T := tInt) (.tmp 27) rfl) (fun hl12 => ?_)
    refine sr ?_
    refine pv tb 1 rfl ?_
    refine TO_nil ?_
    refine T_seq ?_
    refine T_cond (t := decide ((t_11 : Int) < (indices1.length : Int))) rfl (fun d12 => ?_) (fun d12 => ?_)
    ·replace d12 := of_decide_eq_true d12
     obtain ⟨x_t_11, hx_t_11⟩ : ∃ v, (indices1)[t_11]? = some v := ⟨_, List.getElem?_eq_getElem (by omega)⟩
     obtain ⟨C12_, H, K12_⟩ := forS_step L12_ hx_t_11
     rw [hb12] at H
     refine T_skip ?_
     refine T_seq ?_
     refine T_block ?_
     refine sr ?_
     refine Tp rfl rfl (pur_ixT (T := tInt) sl23 rfl rfl rfl hx_t_11 rfl) rfl ?_
     refine Tp rfl rfl (pur_ldT (T := tInt) (i := t_11) (off := 0) rfl one3 rfl rfl hx_t_11 rfl) rfl ?_
     refine pv tb 1 rfl ?_
     refine TO_nil ?_
     obtain ⟨v_13, h_14, H⟩ := bind_inv H
     obtain ⟨n_15, hz_16, hv_17⟩ := getI_inv h_14
     obtain ⟨us_18, h_19, H⟩ := bind_inv H
     refine T_pad ?_
     refine T_pad ?_
     refine T_regionPh 7 10 mixed rfl (by kernel_rfl) ?_
     refine pa tb [0, 1, 2, 3, 4] 5 rfl (by kernel_rfl) rfl ?_
     refine tf 5 rfl (pur_ixM (T := tFact) sl46 rfl rfl hz_16 hv_17 rfl) rfl rfl (by kernel_rfl) ?_
     refine t1 6 (by kernel_rfl) rfl rfl (TOp_pure (pur_ldEK (f := tFact.enc) (k := tFact.k) (i := n_15) (off := 0) tFact.len rfl agg65 rfl rfl rfl hv_17 (by decide) rfl) rfl ?_)
     refine t1 7 (by kernel_rfl) rfl rfl (TOp_lit (nn := 1) (k := 2) sl46 zero65 rfl rfl rfl rfl (by decide) ?_)
     refine tmw 7 9 (by decide) (lb rfl) rfl rfl (lb rfl) rfl ?_
     refine t1 8 (by kernel_rfl) rfl rfl (TOp_appY (T := tFact) (f := tFact.enc) (xs := box5_facts) (ys := ([v_13] : (List Fact))) tFact.len sl46 zero65 rfl bytes65 (by decide) rfl rfl rfl rfl (src_mT (f := tFact.enc) tFact.len rfl rfl (flat_cell tFact _)) (flat_cell tFact _) h_19 ?_)
     refine tmw 8 10 (by decide) (lb rfl) rfl rfl (lb rfl) rfl ?_
     refine tae [(4, (.b 1 0)), (6, (.b 4 0)), (7, (.b 5 0)), (27, (sl tInt indices1)), (28, (intA (indices1.length : Int))), (29, (intA (t_11 : Int))), (41, (.m [8] 0 us_18.length tFact.k))] rfl ?_
     refine TA_st (σ' := [.dead, .dead, .row (flat tRelation.enc r_9.relations), .row (flat tFact.enc r_9.facts), .dead, .dead, .dead, .row (flat tFact.enc ([v_13] : (List Fact))), .row (flat tFact.enc us_18), .dead, .dead]) rfl ?_
     refine pa tb [9] 0 rfl (by kernel_rfl) rfl ?_
     refine TA_nil (by kernel_rfl) ?_
     refine TA_st (σ' := [.box [(sl tRelation db0.relations), (sl tFact db0.facts)], .box [.n, .n], .row (flat tRelation.enc r_9.relations), .row (flat tFact.enc r_9.facts), .box [(.m [2] 0 r_9.relations.length tRelation.k), (.m [3] 0 r_9.facts.length tFact.k)], .box [(.m [2] 0 r_9.relations.length tRelation.k), (.m [6] 0 box5_facts.length tFact.k)], .dead, .row (flat tFact.enc ([v_13] : (List Fact))), .row (flat tFact.enc us_18), .dead, .dead]) rfl ?_
     refine tmv 6 8 (by decide) (lb rfl) rfl rfl (lb rfl) ?_
     refine TA_st (σ' := [.box [(sl tRelation db0.relations), (sl tFact db0.facts)], .box [.n, .n], .row (flat tRelation.enc r_9.relations), .row (flat tFact.enc r_9.facts), .box [(.m [2] 0 r_9.relations.length tRelation.k), (.m [3] 0 r_9.facts.length tFact.k)], .box [(.m [2] 0 r_9.relations.length tRelation.k), .j], .row (flat tFact.enc us_18), .row (flat tFact.enc ([v_13] : (List Fact))), .dead, .dead, .dead]) rfl ?_
     refine t1 10 (by kernel_rfl) rfl rfl (TOp_storeB sz46 rfl rfl rfl rfl rfl rfl rfl (by decide) (lb rfl) rfl ?_)
     refine TA_st (σ' := [.box [(sl tRelation db0.relations), (sl tFact db0.facts)], .box [.n, .n], .row (flat tRelation.enc r_9.relations), .row (flat tFact.enc r_9.facts), .box [(.m [2] 0 r_9.relations.length tRelation.k), (.m [3] 0 r_9.facts.length tFact.k)], .box [(.m [2] 0 r_9.relations.length tRelation.k), (.m [6] 0 us_18.length tFact.k)], .row (flat tFact.enc us_18), .row (flat tFact.enc ([v_13] : (List Fact))), .dead, .dead, .dead]) rfl ?_
     refine TA_nil (by kernel_rfl) ?_
     refine T_region ?_
     refine Tp rfl rfl (pur_add rfl rfl rfl (fits64 (by omega) (by omega))) rfl ?_
     refine pv tb 1 rfl ?_
     refine TO_nil ?_
     obtain rfl := some_inj H
     exact again (indices1.length - (t_11 + 1)) (t_11 + 1, us_18) (by omega) (w0 7) ⟨rfl, K12_⟩
    ·replace d12 := of_decide_eq_false d12
     obtain rfl := forS_end L12_ (by omega)
     refine T_exit ?_
     refine then_exit ?_
     refine then_exit ?_
     refine block_exit ?_
     replace H := N12_
     refine sr ?_
     refine pv tb 1 rfl ?_
     refine TO_cons rfl (TOp_storeB sz48 rfl rfl rfl rfl rfl rfl rfl (by decide) (lb rfl) rfl ?_)
     refine TO_st (σ' := [.box [(sl tRelation db0.relations), (sl tFact db0.facts)], .box [(.m [2] 0 r_9.relations.length tRelation.k), (.m [6] 0 box5_facts.length tFact.k)], .row (flat tRelation.enc r_9.relations), .row (flat tFact.enc r_9.facts), .box [(.m [2] 0 r_9.relations.length tRelation.k), (.m [3] 0 r_9.facts.length tFact.k)], .box [(.m [2] 0 r_9.relations.length tRelation.k), (.m [6] 0 box5_facts.length tFact.k)], .row (flat tFact.enc box5_facts)]) rfl ?_
     refine pv tb 1 rfl ?_
     refine TO_nil ?_
     refine T_frzB 2 (E' := [(4, (.b 1 0)), (5, (boolA true))]) (σ' := [.box [(sl tRelation db0.relations), (sl tFact db0.facts)], .box [(sl tRelation r_9.relations), (.m [6] 0 box5_facts.length tFact.k)], .dead, .row (flat tFact.enc r_9.facts), .box [(sl tRelation r_9.relations), (.m [3] 0 r_9.facts.length tFact.k)], .box [(sl tRelation r_9.relations), (.m [6] 0 box5_facts.length tFact.k)], .row (flat tFact.enc box5_facts)]) rfl (lb rfl) ?_ ?_ ?_
     ·exact ⟨(.keep rfl), (.keep rfl), trivial⟩
     ·exact ⟨(fzK rfl), (fzC fz1E (fzC (.keep rfl) fzN)), trivial, rfl, (fzC fz1E (fzC (.keep rfl) fzN)), (fzC fz1E (fzC (.keep rfl) fzN)), rfl, trivial⟩
     refine T_frzB 6 (E' := [(4, (.b 1 0)), (5, (boolA true))]) (σ' := [.box [(sl tRelation db0.relations), (sl tFact db0.facts)], .box [(sl tRelation r_9.relations), (sl tFact box5_facts)], .dead, .row (flat tFact.enc r_9.facts), .box [(sl tRelation r_9.relations), (.m [3] 0 r_9.facts.length tFact.k)], .box [(sl tRelation r_9.relations), (sl tFact box5_facts)], .dead]) rfl (lb rfl) ?_ ?_ ?_
     ·exact ⟨(.keep rfl), (.keep rfl), trivial⟩
     ·exact ⟨(fzK rfl), (fzC (.keep rfl) (fzC fz1E fzN)), trivial, rfl, (fzK rfl), (fzC (.keep rfl) (fzC fz1E fzN)), trivial, trivial⟩
     refine T_ret ?_
     obtain rfl := some_inj H
     refine end_ret (.cellK rfl agg48 rfl (lb rfl) (.tmp .nil)) rfl rfl ⟨?_, rfl⟩
     rfl
def fSel : (Option (Option Nat)) × Fact → List A
  | (none, x) => tFact.own x
  | (some none, x) => [intA x.relation, .j]
  | (some (some r), x) => [intA x.relation, .m [r] 0 x.values.length tInt.k]
theorem fSel_len : ∀ y, (fSel y).length = tFact.k
  | (none, x) => tFact.lenO x
  | (some none, x) => rfl
  | (some (some r), x) => rfl
theorem asc_of {l : List Int} {n : Int} (h : m_impl_areIndices l n = some true) : ∀ (j : Nat) a b, l[j]? = some a → l[j + 1]? = some b → a < b := by
  unfold m_impl_areIndices at h
  obtain ⟨o, h1, h2⟩ := bind_inv h
  cases o with
  | inr r =>
    exfalso
    simp only [onS, Option.some.injEq] at h2
    subst h2
    have key : ∀ (f : Int → Int → Unit → Option (Ctl Unit Bool)) (hf : ∀ i x, f i x () ≠ some (.ret true)) (xs : List Int) (i : Int), forL f xs i () ≠ some (.inr true) := fun f hf xs => by
      induction xs with
      | nil => intro i h; cases h
      | cons y ys ih =>
        intro i h
        simp only [forL] at h
        cases e : f i y () with
        | none => rw [e] at h; cases h
        | some c =>
          rw [e] at h
          cases c with
          | next s => exact ih _ h
          | brk s => cases h
          | ret r => simp only [Option.bind_some, Option.some.injEq, Sum.inr.injEq] at h; subst h; exact hf i y e
    refine key _ (fun i x hh => ?_) _ _ h1
    obtain ⟨t, _, h4⟩ := bind_inv hh
    cases t <;> cases h4
  | inl s =>
    have key := forL_allN (fun i x s hh => by
      obtain ⟨t, _, h4⟩ := bind_inv hh
      cases t <;> cases h4) l 0 h1
    intro j a b ha hb
    have h3 := key (j + 1) b hb
    obtain ⟨t, h4, h5⟩ := bind_inv h3
    cases t with
    | true => cases h5
    | false =>
      obtain ⟨w, h6, h7⟩ := bind_inv h4
      cases w with
      | false => cases h7
      | true =>
        have h8 : (cond (decide (0 < ((0 : Int) + ((j + 1 : Nat) : Int)))) ((getI l ((0 : Int) + ((j + 1 : Nat) : Int) - 1)).bind fun v_9 => some (decide (b ≤ v_9))) (some false)) = some false := h7
        rw [decide_eq_true (show 0 < (0 : Int) + ((j + 1 : Nat) : Int) by omega)] at h8
        have e : (0 : Int) + ((j + 1 : Nat) : Int) - 1 = (j : Int) := by omega
        rw [e] at h8
        have hj : j < l.length := (List.getElem?_eq_some_iff.1 ha).1
        rw [show cond true ((getI l (j : Int)).bind fun v_9 => some (decide (b ≤ v_9))) (some false) = (getI l (j : Int)).bind fun v_9 => some (decide (b ≤ v_9)) from rfl, getI_lt hj] at h8
        simp only [Option.bind_some, Option.some.injEq, decide_eq_false_iff_not] at h8
        have := (List.getElem?_eq_some_iff.1 ha).2
        omega
theorem asc_lt {l : List Int} (h : ∀ (j : Nat) a b, l[j]? = some a → l[j + 1]? = some b → a < b) : ∀ (k i : Nat) a b, l[i]? = some a → l[i + 1 + k]? = some b → a < b
  | 0, i, a, b, ha, hb => h i a b ha hb
  | k + 1, i, a, b, ha, hb => by
    have hl : i + 1 + k < l.length := by have := (List.getElem?_eq_some_iff.1 hb).1; omega
    have h1 := asc_lt h k i a _ ha (List.getElem?_eq_getElem hl)
    have h2 := h (i + 1 + k) _ b (List.getElem?_eq_getElem hl) hb
    omega
set_option maxHeartbeats 1000000 in
theorem m_impl_SelectFacts_own (db0 : Database) (indices1 : (List Int)) (r : (Database × Bool)) (H : m_impl_SelectFacts db0 indices1 = some r) : FnO prg 172 [(.g (tDatabase.enc db0)), (sl tInt indices1)] (.t [(.g [(.m [0] 0 r.1.relations.length tRelation.k), (.m [1] 0 r.1.facts.length tFact.k)]), (boolA r.2)]) [.row (flat tRelation.own r.1.relations), .row (flat tFact.own r.1.facts)] := by
  unfold m_impl_SelectFacts at H
  refine fnO_of_T Try.func172 rfl rfl (Nat.le_of_ble_eq_true rfl) ?_
  refine te [(0, (.g (tDatabase.enc db0))), (1, (sl tInt indices1))] rfl ?_
  refine sr ?_
  refine TO_cons rfl (TOp_box rfl (boxAll rfl) rfl rfl ?_)
  refine TO_cons rfl (TOp_alloc zero48 rfl rfl ?_)
  refine pv tb 1 rfl ?_
  refine TO_nil ?_
  refine T_seq ?_
  obtain ⟨t20_1, J_1, H_2⟩ := bind_inv H
  have hasc : t20_1 = false → m_impl_areIndices indices1 (db0.facts.length : Int) = some true := fun e => by
    subst e
    obtain ⟨a, _, h2⟩ := bind_inv J_1
    cases a with
    | false => cases h2
    | true =>
      obtain ⟨b, h3, h4⟩ := bind_inv h2
      cases b with
      | false => cases h4
      | true => exact h3
  refine T_cutX (fun x => t20_1 = x) (fun (t20_1 : Bool) => [(1, (sl tInt indices1)), (2, (.b 0 0)), (4, (.b 1 0)), (20, (boolA t20_1))]) (fun (t20_1 : Bool) => [.box [(sl tRelation db0.relations), (sl tFact db0.facts)], .box [.n, .n]]) ?_ ?_
  ·replace H := J_1
   refine T_region ?_
   obtain ⟨r_3, h_4, H⟩ := bind_inv H
   refine pv tb 1 rfl ?_
   refine TO_cons rfl (TOp_callV (call_static ent117 rfl) (m_impl_IsValidDatabase_ok _ _ h_4) rfl rfl rfl ?_)
   refine pv tb 2 rfl ?_
   refine TO_split (t := (!r_3)) 13 rfl (fun g_5 => ?_) (fun g_5 => ?_)
   ·replace H := cond_t g_5 H
    refine pv tb 7 rfl ?_
    refine TO_nil ?_
    exact joined true (w0 2) (some_inj H).symm
   ·replace H := cond_f g_5 H
    refine pv tb 3 rfl ?_
    refine TO_on rfl rfl (by decide) rfl rfl (TOp_pure (pur_lenT (T := tFact) sl46 rfl rfl) rfl ?_)
    obtain ⟨r_6, h_7, H⟩ := bind_inv H
    refine TO_on rfl rfl (by decide) rfl rfl (TOp_callV (call_static ent184 rfl) (m_impl_areIndices_ok _ _ _ h_7) rfl rfl rfl ?_)
    refine pv tb 2 rfl ?_
    refine TO_nil ?_
    exact joined (!r_6) (w0 2) (some_inj H).symm
  ·rintro _ rfl
   replace H := H_2
   refine T_cond (t := t20_1) rfl (fun c_8 => ?_) (fun c_8 => ?_)
   ·replace H := cond_t c_8 H
    refine sr ?_
    refine Tp rfl rfl (pur_build bld48 rfl rfl) rfl ?_
    refine TO_cons rfl (TOp_storeB sz48 rfl rfl rfl rfl rfl rfl rfl (by decide) (lb rfl) rfl ?_)
    refine TO_st (σ' := [.box [(sl tRelation db0.relations), (sl tFact db0.facts)], .box [.n, .n]]) rfl ?_
    refine pv tb 1 rfl ?_
    refine TO_nil ?_
    refine T_row0 ?_
    refine T_row0 ?_
    refine T_boxle (xs := [.n, .n]) (ys := [(.m [2] 0 ([] : (List Relation)).length tRelation.k), (.m [3] 0 ([] : (List Fact)).length tFact.k)]) 1 rfl (leCons leM (leCons leM leNil)) ?_
    refine T_st (σ' := [.box [(sl tRelation db0.relations), (sl tFact db0.facts)], .box [(.m [2] 0 ([] : (List Relation)).length tRelation.k), (.m [3] 0 ([] : (List Fact)).length tFact.k)], .row (flat tRelation.own ([] : (List Relation))), .row (flat tFact.own ([] : (List Fact)))]) rfl ?_
    refine T_ret ?_
    refine then_ret ?_
    obtain rfl := some_inj H
    exact end_pick (.cellK rfl agg48 rfl (lb rfl) (.tmp .nil)) rfl [2, 3] (by decide) rfl rfl rfl rfl rfl rfl
   ·replace H := cond_f c_8 H
    have hA := asc_lt (asc_of (hasc c_8))
    refine T_skip ?_
    refine sr ?_
    obtain ⟨r_9, h_10, H⟩ := bind_inv H
    refine pv tb 1 rfl ?_
    refine TO_cons rfl (TOp_callO (call_static ent107 rfl) rfl (m_impl_copyDatabase_own _ _ h_10) rfl rfl rfl ?_)
    refine toe [(1, (sl tInt indices1)), (2, (.b 0 0)), (4, (.b 1 0)), (22, (.g (tDatabase.enc db0))), (23, (.g [(.m [2] 0 r_9.relations.length tRelation.k), (.m [3] 0 r_9.facts.length tFact.k)]))] rfl ?_
    refine TO_st (σ' := [.box [(sl tRelation db0.relations), (sl tFact db0.facts)], .box [.n, .n], .row (flat tRelation.own r_9.relations), .row (flat tFact.own r_9.facts)]) rfl ?_
    refine TO_cons rfl (TOp_alloc zero48 rfl rfl ?_)
    refine TO_cons rfl (TOp_storeB sz48 rfl rfl rfl rfl rfl rfl rfl (by decide) (lb rfl) rfl ?_)
    refine TO_st (σ' := [.box [(sl tRelation db0.relations), (sl tFact db0.facts)], .box [.n, .n], .row (flat tRelation.own r_9.relations), .row (flat tFact.own r_9.facts), .box [(.m [2] 0 r_9.relations.length tRelation.k), (.m [3] 0 r_9.facts.length tFact.k)]]) rfl ?_
    refine TO_nil ?_
    refine sr ?_
    refine pv tb 2 rfl ?_
    refine Tp rfl rfl (pur_build bld48 rfl rfl) rfl ?_
    refine TO_cons rfl (TOp_alloc zero48 rfl rfl ?_)
    refine TO_cons rfl (TOp_storeB sz48 rfl rfl rfl rfl rfl rfl rfl (by decide) (lb rfl) rfl ?_)
    refine TO_st (σ' := [.box [(sl tRelation db0.relations), (sl tFact db0.facts)], .box [.n, .n], .row (flat tRelation.own r_9.relations), .row (flat tFact.own r_9.facts), .box [(.m [2] 0 r_9.relations.length tRelation.k), (.m [3] 0 r_9.facts.length tFact.k)], .box [(.m [2] 0 r_9.relations.length tRelation.k), .n]]) rfl ?_
    refine TO_nil ?_
    refine T_seq ?_
    refine sr ?_
    refine pv tb 1 rfl ?_
    refine Tp rfl rfl (pur_lenT (T := tInt) sl23 rfl rfl) rfl ?_
    refine pv tb 1 rfl ?_
    refine TO_nil ?_
    refine T_row0 ?_
    refine T_boxle (xs := [(.m [2] 0 r_9.relations.length tRelation.k), .n]) (ys := [(.m [2] 0 r_9.relations.length tRelation.k), (.m [6] 0 ([] : (List Fact)).length tFact.k)]) 5 rfl (leCons (leR rfl) (leCons leM leNil)) ?_
    refine T_st (σ' := [.box [(sl tRelation db0.relations), (sl tFact db0.facts)], .box [.n, .n], .row (flat tRelation.own r_9.relations), .row (flat fSel (r_9.facts.map fun x => (none, x))), .box [(.m [2] 0 r_9.relations.length tRelation.k), (.m [3] 0 r_9.facts.length tFact.k)], .box [(.m [2] 0 r_9.relations.length tRelation.k), (.m [6] 0 ([] : (List Fact)).length tFact.k)], .row (flat tFact.own ([] : (List Fact)))]) (by rw [flat_none (g := tFact.own) (fun _ => rfl)]; rfl) ?_
    obtain ⟨O12_, L12_, N12_⟩ := bind_inv H
    clear H
    obtain ⟨B12_, hb12, L12_⟩ := gen_forS L12_
    refine T_block ?_
    refine T_loopX (fun k => fun (⟨t_11, box5_facts, ys⟩ : Nat × (List Fact) × List ((Option (Option Nat)) × Fact)) => k = indices1.length - t_11 ∧ forS B12_ (indices1.drop t_11) (t_11 : Int) box5_facts = some O12_ ∧ ys.map Prod.snd = r_9.facts ∧ (∀ y ∈ ys, y.1 = none ∨ y.1 = some none) ∧ ∀ (j : Nat) y, ys[j]? = some y → y.1 ≠ none → ∃ t', t' < t_11 ∧ indices1[t']? = some (j : Int)) (fun (⟨t_11, box5_facts, ys⟩ : Nat × (List Fact) × List ((Option (Option Nat)) × Fact)) => [(4, (.b 1 0)), (6, (.b 4 0)), (7, (.b 5 0)), (27, (sl tInt indices1)), (28, (intA (indices1.length : Int))), (29, (intA (t_11 : Int)))]) (fun (⟨t_11, box5_facts, ys⟩ : Nat × (List Fact) × List ((Option (Option Nat)) × Fact)) => [.box [(sl tRelation db0.relations), (sl tFact db0.facts)], .box [.n, .n], .row (flat tRelation.own r_9.relations), .row (flat fSel ys), .box [(.m [2] 0 r_9.relations.length tRelation.k), (.m [3] 0 r_9.facts.length tFact.k)], .box [(.m [2] 0 r_9.relations.length tRelation.k), (.m [6] 0 box5_facts.length tFact.k)], .row (flat tFact.own box5_facts)]) _ (0, ([] : (List Fact)), r_9.facts.map fun x => (none, x)) (w0 7) ⟨rfl, L12_, by rw [List.map_map]; exact List.map_id _, fun y hy => .inl (by obtain ⟨x, _, rfl⟩ := List.mem_map.1 hy; rfl), fun j y hj hn => absurd (by obtain ⟨x, _, rfl⟩ := List.mem_map.1 (List.mem_of_getElem? hj); rfl) hn⟩ ?_
    rintro _ ⟨t_11, box5_facts, ys⟩ ⟨rfl, L12_, hys, hcl, htk⟩
    refine T_fact (len_sl (T := tInt) (.tmp 27) rfl) (fun hl12 => ?_)
    refine sr ?_
    refine pv tb 1 rfl ?_
    refine TO_nil ?_
    refine T_seq ?_
    refine T_cond (t := decide ((t_11 : Int) < (indices1.length : Int))) rfl (fun d12 => ?_) (fun d12 => ?_)
    ·replace d12 := of_decide_eq_true d12
     obtain ⟨x_t_11, hx_t_11⟩ : ∃ v, (indices1)[t_11]? = some v := ⟨_, List.getElem?_eq_getElem (by omega)⟩
     obtain ⟨C12_, H, K12_⟩ := forS_step L12_ hx_t_11
     rw [hb12] at H
     refine T_skip ?_
     refine T_seq ?_
     refine T_block ?_
     refine sr ?_
     refine Tp rfl rfl (pur_ixT (T := tInt) sl23 rfl rfl rfl hx_t_11 rfl) rfl ?_
     refine Tp rfl rfl (pur_ldT (T := tInt) (i := t_11) (off := 0) rfl one3 rfl rfl hx_t_11 rfl) rfl ?_
     refine pv tb 1 rfl ?_
     refine TO_nil ?_
     obtain ⟨v_13, h_14, H⟩ := bind_inv H
     obtain ⟨n_15, hz_16, hv_17⟩ := getI_inv h_14
     obtain ⟨us_18, h_19, H⟩ := bind_inv H
     have hyl : n_15 < ys.length := by
       have := (List.getElem?_eq_some_iff.1 hv_17).1
       rw [← hys, List.length_map] at this; exact this
     have hy : ys[n_15]? = some (none, v_13) := by
       have e1 : (ys.map Prod.snd)[n_15]? = some v_13 := by rw [hys]; exact hv_17
       rw [List.getElem?_map, List.getElem?_eq_getElem hyl] at e1
       have e2 : (ys[n_15]).2 = v_13 := by simpa using e1
       have e3 : (ys[n_15]).1 = none := by
         cases e3 : (ys[n_15]).1 with
         | none => rfl
         | some q =>
           exfalso
           obtain ⟨t', h1, h2⟩ := htk n_15 _ (List.getElem?_eq_getElem hyl) (by rw [e3]; simp)
           have := hA (t_11 - t' - 1) t' _ x_t_11 h2 (by rw [show t' + 1 + (t_11 - t' - 1) = t_11 by omega]; exact hx_t_11)
           omega
       rw [List.getElem?_eq_getElem hyl]
       congr 1
       exact Prod.ext e3 e2
     have hcn : ∀ (p : List Nat → Bool), namesL p (flat fSel ys) = false := fun p => namesL_flatF fun y hy => by
       obtain ⟨a, x⟩ := y
       rcases hcl _ hy with e | e <;> (simp only at e; subst e; rfl)
     have hcn7 : ∀ (p : List Nat → Bool), p [7] = false → namesL p (flat fSel (ys.set n_15 (some (some 7), v_13))) = false := fun p hp => namesL_flatF fun y hy => by
       rcases List.mem_or_eq_of_mem_set hy with hy | rfl
       · obtain ⟨a, x⟩ := y
         rcases hcl _ hy with e | e <;> (simp only at e; subst e; rfl)
       · simp only [fSel, namesL, A.names, hp, Bool.or_self]
     refine T_take (f := fSel) (k := tFact.k) 3 n_15 1 (us := flat tInt.own v_13.values) (nn := v_13.values.length) (kk := tInt.k) fSel_len rfl hy rfl rfl (flat_len tInt.lenO _) tInt.pos (lb rfl) rfl (nms_box rfl (nms_box rfl (nms_row (nms_box (hcn _) (nms_box rfl (nms_box rfl (nms_row nms_nil))))))) ?_
     refine te [(4, (.b 1 0)), (6, (.b 4 0)), (7, (.b 5 0)), (9, (intA x_t_11)), (27, (sl tInt indices1)), (28, (intA (indices1.length : Int))), (29, (intA (t_11 : Int)))] rfl ?_
     refine T_pad ?_
     refine T_st (σ' := [.box [(sl tRelation db0.relations), (sl tFact db0.facts)], .box [.n, .n], .row (flat tRelation.own r_9.relations), .box (flat fSel (ys.set n_15 (some (some 7), v_13))), .box [(.m [2] 0 r_9.relations.length tRelation.k), (.m [3] 0 r_9.facts.length tFact.k)], .box [(.m [2] 0 r_9.relations.length tRelation.k), (.m [6] 0 box5_facts.length tFact.k)], .row (flat tFact.own box5_facts), .row (flat tInt.own v_13.values), .dead]) rfl ?_
     refine T_regionPhk (fun l => l != 3) 7 10 mixed rfl (by kernel_rfl) ?_
     refine pa tb [0, 1, 2, 3, 4] 5 rfl (by kernel_rfl) rfl ?_
     refine tf 5 rfl (pur_ixM (T := tFact) sl46 rfl rfl hz_16 hv_17 rfl) rfl rfl (by kernel_rfl) ?_
     refine t1 6 (by kernel_rfl) rfl rfl (TOp_pure (pur_ldEK (f := fSel) (k := tFact.k) (i := n_15) (off := 0) (xs := ys.set n_15 (some (some 7), v_13)) fSel_len rfl agg65 rfl rfl rfl (List.getElem?_set_self hyl) (by decide) rfl) rfl ?_)
     refine tae [(4, (.b 1 0)), (6, (.b 4 0)), (7, (.b 5 0)), (27, (sl tInt indices1)), (28, (intA (indices1.length : Int))), (29, (intA (t_11 : Int))), (34, (.m [6] 0 box5_facts.length tFact.k)), (39, (.g [(intA v_13.relation), (.m [7] 0 v_13.values.length tInt.k)]))] rfl ?_
     refine TA_st (σ' := [.dead, .dead, .row (flat tRelation.own r_9.relations), .box (flat fSel (ys.set n_15 (some (some 7), v_13))), .dead, .dead, .row (flat tFact.own box5_facts), .row (flat tInt.own v_13.values), .dead]) rfl ?_
     refine t1 7 (by kernel_rfl) rfl rfl (TOp_litB (nn := 1) (k := 2) sl46 zero65 rfl rfl rfl rfl (by decide) ?_)
     refine TA_st (σ' := [.dead, .dead, .row (flat tRelation.own r_9.relations), .box (flat fSel (ys.set n_15 (some (some 7), v_13))), .dead, .dead, .row (flat tFact.own box5_facts), .row (flat tInt.own v_13.values), .dead, .box [(intA v_13.relation), (.m [7] 0 v_13.values.length tInt.k)]]) rfl ?_
     refine tmw 8 6 (by decide) (lb rfl) rfl rfl (lb rfl) (noNm_dead (noNm_dead (noNm_row (noNm_box (hcn7 _ rfl) rfl)))) ?_
     refine t1 8 (by kernel_rfl) rfl rfl (TOp_boxify 8 rfl (lb rfl) (TOp_appB (T := tFact) (xs := box5_facts) (v := v_13) sl46 zero65 rfl bytes65 (by decide) rfl rfl rfl rfl rfl rfl rfl rfl h_19 (lb rfl) ?_))
     refine tae [(4, (.b 1 0)), (6, (.b 4 0)), (7, (.b 5 0)), (27, (sl tInt indices1)), (28, (intA (indices1.length : Int))), (29, (intA (t_11 : Int))), (41, .m [10] 0 (box5_facts.length + 1) tFact.k)] rfl ?_
     refine TA_st (σ' := [.dead, .dead, .row (flat tRelation.own r_9.relations), .box (flat fSel (ys.set n_15 (some (some 7), v_13))), .dead, .dead, .dead, .row (flat tInt.own v_13.values), .dead, .box [(intA v_13.relation), (.m [7] 0 v_13.values.length tInt.k)], .box (flat tFact.own box5_facts ++ [(intA v_13.relation), (.m [7] 0 v_13.values.length tInt.k)])]) rfl ?_
     refine TA_absorbA (pr := flat tFact.own box5_facts) 10 1 7 rfl rfl rfl (by decide) tInt.pos (flat_len tInt.lenO _) (lb rfl) (lb rfl) rfl (nms_dead (nms_dead (nms_row (nms_box (hcn7 _ rfl) (nms_dead (nms_dead (nms_dead (nms_row (nms_dead (nms_box rfl (nms_box (namesA namesL_own rfl) nms_nil))))))))))) ?_
     refine TA_st (σ' := [.dead, .dead, .row (flat tRelation.own r_9.relations), .box (flat fSel (ys.set n_15 (some (some 7), v_13))), .dead, .dead, .dead, .dead, .dead, .box [(intA v_13.relation), (.m [7] 0 v_13.values.length tInt.k)], .box (flat tFact.own box5_facts ++ [(intA v_13.relation), .o tInt.k (flat tInt.own v_13.values)])]) rfl ?_
     refine TA_rowifyT (T := tFact) (xs := box5_facts) (v := v_13) 10 rfl rfl h_19 (lb rfl) ?_
     refine TA_st (σ' := [.dead, .dead, .row (flat tRelation.own r_9.relations), .box (flat fSel (ys.set n_15 (some (some 7), v_13))), .dead, .dead, .dead, .dead, .dead, .box [(intA v_13.relation), (.m [7] 0 v_13.values.length tInt.k)], .row (flat tFact.own us_18)]) rfl ?_
     refine TA_kill 9 (lb rfl) ?_
     refine TA_st (σ' := [.dead, .dead, .row (flat tRelation.own r_9.relations), .box (flat fSel (ys.set n_15 (some (some 7), v_13))), .dead, .dead, .dead, .dead, .dead, .dead, .row (flat tFact.own us_18)]) rfl ?_
     refine TA_env (E' := [(4, (.b 1 0)), (6, (.b 4 0)), (7, (.b 5 0)), (27, (sl tInt indices1)), (28, (intA (indices1.length : Int))), (29, (intA (t_11 : Int))), (41, .m [10] 0 us_18.length tFact.k)]) ⟨rfl, rfl, rfl, rfl, rfl, rfl, (congrArg (fun q => A.m [10] 0 q tFact.k) (app_len h_19)), trivial⟩ ?_
     refine pa tb [9] 0 rfl (by kernel_rfl) rfl ?_
     refine TA_nil (by kernel_rfl) ?_
     refine TA_st (σ' := [.box [(sl tRelation db0.relations), (sl tFact db0.facts)], .box [.n, .n], .row (flat tRelation.own r_9.relations), .box (flat fSel (ys.set n_15 (some (some 7), v_13))), .box [(.m [2] 0 r_9.relations.length tRelation.k), (.m [3] 0 r_9.facts.length tFact.k)], .box [(.m [2] 0 r_9.relations.length tRelation.k), (.m [6] 0 box5_facts.length tFact.k)], .dead, .dead, .dead, .dead, .row (flat tFact.own us_18)]) rfl ?_
     refine t1 10 (by kernel_rfl) rfl rfl (TOp_storeB sz46 rfl rfl rfl rfl rfl rfl rfl (by decide) (lb rfl) rfl ?_)
     refine TA_st (σ' := [.box [(sl tRelation db0.relations), (sl tFact db0.facts)], .box [.n, .n], .row (flat tRelation.own r_9.relations), .box (flat fSel (ys.set n_15 (some (some 7), v_13))), .box [(.m [2] 0 r_9.relations.length tRelation.k), (.m [3] 0 r_9.facts.length tFact.k)], .box [(.m [2] 0 r_9.relations.length tRelation.k), (.m [10] 0 us_18.length tFact.k)], .dead, .dead, .dead, .dead, .row (flat tFact.own us_18)]) rfl ?_
     refine TA_nil (by kernel_rfl) ?_
     refine T_gone (f := fSel) (k := tFact.k) 3 n_15 1 fSel_len rfl hyl (by decide) rfl (fun y hy => ?_) (lb rfl) ?_
     ·rcases List.mem_or_eq_of_mem_set hy with hy | rfl
      · obtain ⟨a, x⟩ := y
        rcases hcl _ hy with e | e <;> (simp only at e; subst e; rfl)
      · rfl
     refine te [(4, (.b 1 0)), (6, (.b 4 0)), (7, (.b 5 0)), (27, (sl tInt indices1)), (28, (intA (indices1.length : Int))), (29, (intA (t_11 : Int)))] rfl ?_
     refine T_move' 6 10 (by decide) (lb rfl) rfl rfl (lb rfl) ?_
     refine te [(4, (.b 1 0)), (6, (.b 4 0)), (7, (.b 5 0)), (27, (sl tInt indices1)), (28, (intA (indices1.length : Int))), (29, (intA (t_11 : Int)))] rfl ?_
     refine T_st (σ' := [.box [(sl tRelation db0.relations), (sl tFact db0.facts)], .box [.n, .n], .row (flat tRelation.own r_9.relations), .row (flat fSel (ys.set n_15 (some none, v_13))), .box [(.m [2] 0 r_9.relations.length tRelation.k), (.m [3] 0 r_9.facts.length tFact.k)], .box [(.m [2] 0 r_9.relations.length tRelation.k), (.m [6] 0 us_18.length tFact.k)], .row (flat tFact.own us_18), .dead, .dead, .dead, .dead]) rfl ?_
     refine T_region ?_
     refine Tp rfl rfl (pur_add rfl rfl rfl (fits64 (by omega) (by omega))) rfl ?_
     refine pv tb 1 rfl ?_
     refine TO_nil ?_
     obtain rfl := some_inj H
     refine again (indices1.length - (t_11 + 1)) (t_11 + 1, us_18, ys.set n_15 (some none, v_13)) (by omega) (w0 7) ⟨rfl, K12_, ?_, fun y hy => ?_, fun j y hj hn => ?_⟩
     · rw [← hys, List.map_set]
       apply List.ext_getElem?
       intro q
       by_cases e : n_15 = q
       · subst e
         rw [List.getElem?_set_self (by simpa using hyl), List.getElem?_map, hy]; rfl
       · rw [List.getElem?_set_ne e]
     · rcases List.mem_or_eq_of_mem_set hy with hy | rfl
       · exact hcl y hy
       · exact .inr rfl
     · by_cases e : n_15 = j
       · subst e; exact ⟨t_11, by omega, by rw [hx_t_11, hz_16]⟩
       · rw [List.getElem?_set_ne e] at hj
         obtain ⟨t', h1, h2⟩ := htk j y hj hn
         exact ⟨t', by omega, h2⟩
    ·replace d12 := of_decide_eq_false d12
     obtain rfl := forS_end L12_ (by omega)
     refine T_exit ?_
     refine then_exit ?_
     refine then_exit ?_
     refine block_exit ?_
     replace H := N12_
     refine sr ?_
     refine pv tb 1 rfl ?_
     refine TO_cons rfl (TOp_storeB sz48 rfl rfl rfl rfl rfl rfl rfl (by decide) (lb rfl) rfl ?_)
     refine TO_st (σ' := [.box [(sl tRelation db0.relations), (sl tFact db0.facts)], .box [(.m [2] 0 r_9.relations.length tRelation.k), (.m [6] 0 box5_facts.length tFact.k)], .row (flat tRelation.own r_9.relations), .row (flat fSel ys), .box [(.m [2] 0 r_9.relations.length tRelation.k), (.m [3] 0 r_9.facts.length tFact.k)], .box [(.m [2] 0 r_9.relations.length tRelation.k), (.m [6] 0 box5_facts.length tFact.k)], .row (flat tFact.own box5_facts)]) rfl ?_
     refine pv tb 1 rfl ?_
     refine TO_nil ?_
     refine T_ret ?_
     obtain rfl := some_inj H
     exact end_pick (.cellK rfl agg48 rfl (lb rfl) (.tmp .nil)) rfl [2, 6] (by decide) rfl rfl rfl rfl rfl rfl


set_option maxHeartbeats 1000000 in
theorem m_impl_withoutFacts_own (db0 : Database) (indices1 : (List Int)) (r : Database) (H : m_impl_withoutFacts db0 indices1 = some r) : FnO prg 129 [(.g (tDatabase.enc db0)), (sl tInt indices1)] (.g [(.m [0] 0 r.relations.length tRelation.k), (.m [1] 0 r.facts.length tFact.k)]) [.row (flat tRelation.own r.relations), .row (flat tFact.own r.facts)] := by
  unfold m_impl_withoutFacts at H
  refine fnO_of_T Try.func129 rfl rfl (Nat.le_of_ble_eq_true rfl) ?_
  refine te [(0, (.g (tDatabase.enc db0))), (1, (sl tInt indices1))] rfl ?_
  refine sr ?_
  refine TO_cons rfl (TOp_box rfl (boxAll rfl) rfl rfl ?_)
  refine TO_cons rfl (TOp_alloc zero48 rfl rfl ?_)
  refine TO_nil ?_
  refine sr ?_
  refine TO_cons rfl (TOp_lit (nn := 0) (k := 1) sl23 zero3 rfl rfl rfl rfl (by decide) ?_)
  refine TO_st (σ' := [.box [(sl tRelation db0.relations), (sl tFact db0.facts)], .box [.n, .n], .row (flat tInt.enc ([] : (List Int)))]) rfl ?_
  refine pv tb 1 rfl ?_
  refine TO_nil ?_
  refine T_seq ?_
  refine sr ?_
  refine pv tb 2 rfl ?_
  refine Tp rfl rfl (pur_lenT (T := tFact) sl46 rfl rfl) rfl ?_
  refine pv tb 1 rfl ?_
  refine TO_nil ?_
  obtain ⟨_, h_3, H⟩ := bind_inv H
  replace h_3 := gN_inv h_3
  obtain ⟨O2_, L2_, N2_⟩ := bind_inv H
  clear H
  obtain ⟨B2_, hb2, L2_⟩ := gen_forM L2_
  refine T_block ?_
  refine T_loopX (fun k => fun (⟨t_1, all5⟩ : Int × (List Int)) => k = ((db0.facts.length : Int) - t_1).toNat ∧ 0 ≤ t_1 ∧ forM B2_ ((db0.facts.length : Int) - t_1).toNat t_1 all5 = some O2_) (fun (⟨t_1, all5⟩ : Int × (List Int)) => [(1, (sl tInt indices1)), (2, (.b 0 0)), (4, (.b 1 0)), (5, (.m [2] 0 all5.length tInt.k)), (12, (intA (db0.facts.length : Int))), (13, (intA (t_1 : Int)))]) (fun (⟨t_1, all5⟩ : Int × (List Int)) => [.box [(sl tRelation db0.relations), (sl tFact db0.facts)], .box [.n, .n], .row (flat tInt.enc all5)]) _ (0, ([] : (List Int))) (w0 3) ⟨rfl, Int.le_refl _, L2_⟩ ?_
  rintro _ ⟨t_1, all5⟩ ⟨rfl, hi2, L2_⟩
  refine sr ?_
  refine pv tb 1 rfl ?_
  refine TO_nil ?_
  refine T_seq ?_
  refine T_cond (t := decide ((t_1 : Int) < (db0.facts.length : Int))) rfl (fun d2 => ?_) (fun d2 => ?_)
  ·replace d2 := of_decide_eq_true d2
   obtain ⟨C2_, H, K2_⟩ := forM_step L2_ d2
   rw [hb2] at H
   refine T_skip ?_
   refine T_seq ?_
   refine T_block ?_
   refine sr ?_
   refine pv tb 2 rfl ?_
   refine TO_nil ?_
   refine T_region ?_
   refine pv tb 2 rfl ?_
   refine TO_cons rfl (TOp_lit (nn := 1) (k := 1) sl23 zero3 rfl rfl rfl rfl (by decide) ?_)
   refine TO_st (σ' := [.box [(sl tRelation db0.relations), (sl tFact db0.facts)], .box [.n, .n], .row (flat tInt.enc all5), .row (flat tInt.enc ([(t_1 : Int)] : (List Int)))]) rfl ?_
   obtain ⟨us_4, h_5, H⟩ := bind_inv H
   refine TO_cons rfl (TOp_appZ (T := tInt) (f := tInt.enc) (xs := all5) (ys := ([(t_1 : Int)] : (List Int))) tInt.len sl23 zero3 rfl bytes3 (by decide) rfl rfl rfl rfl (src_mT (f := tInt.enc) tInt.len rfl rfl (flat_cell tInt _)) (flat_cell tInt _) h_5 (lb rfl) ?_)
   refine toe [(1, (sl tInt indices1)), (2, (.b 0 0)), (4, (.b 1 0)), (6, (intA (t_1 : Int))), (12, (intA (db0.facts.length : Int))), (13, (intA (t_1 : Int))), (17, (intA (t_1 : Int))), (18, (.m [3] 0 ([(t_1 : Int)] : (List Int)).length tInt.k)), (19, (.m [2] 0 us_4.length tInt.k))] rfl ?_
   refine TO_st (σ' := [.box [(sl tRelation db0.relations), (sl tFact db0.facts)], .box [.n, .n], .row (flat tInt.enc us_4), .row (flat tInt.enc ([(t_1 : Int)] : (List Int))), .dead]) rfl ?_
   refine pv tb 1 rfl ?_
   refine TO_nil ?_
   refine T_region ?_
   refine Tp rfl rfl (pur_add rfl rfl rfl (fits64 (by omega) (by omega))) rfl ?_
   refine pv tb 1 rfl ?_
   refine TO_nil ?_
   obtain rfl := some_inj H
   exact again ((db0.facts.length : Int) - (t_1 + 1)).toNat (t_1 + 1, us_4) (by omega) (w0 3) ⟨rfl, by omega, K2_⟩
  ·replace d2 := of_decide_eq_false d2
   obtain rfl := forM_end L2_ (by omega)
   refine T_exit ?_
   refine then_exit ?_
   refine then_exit ?_
   refine block_exit ?_
   replace H := N2_
   obtain ⟨r_6, h_7, H⟩ := bind_inv H
   obtain ⟨r_8, h_9, H⟩ := bind_inv H
   refine T_pad ?_
   refine T_pad ?_
   refine T_pad ?_
   refine T_pad ?_
   refine T_pad ?_
   refine T_cutX (fun (_ : Unit) => True) (fun _ => [(4, (.b 1 0)), (7, (.b 8 0))]) (fun _ => [.box [(sl tRelation db0.relations), (sl tFact db0.facts)], .box [.n, .n], .dead, .row (flat tRelation.own r_8.1.relations), .row (flat tFact.own r_8.1.facts), .dead, .dead, .dead, .box [(.m [3] 0 r_8.1.relations.length tRelation.k), (.m [4] 0 r_8.1.facts.length tFact.k)]]) ?_ ?_
   ·skip
    refine T_regionP 2 mixed rfl ?_
    refine TA_have 2 #[true, true, true, true, true, true, true, true, true, false, false] [(4, (.b 1 0)), (7, (.b 8 0)), (27, (.g [(.m [5] 0 r_8.1.relations.length tRelation.k), (.m [6] 0 r_8.1.facts.length tFact.k)])), (28, (boolA r_8.2))] [.dead, .dead, .dead, .dead, .dead, .row (flat tRelation.own r_8.1.relations), .row (flat tFact.own r_8.1.facts), .dead, .box [.n, .n]] ?_ (fun hj0_7 => ?_)
    ·skip
     refine t1 9 (by kernel_rfl) rfl rfl (TOp_storeB sz48 rfl rfl rfl rfl rfl rfl rfl (by decide) (lb rfl) rfl ?_)
     refine TA_st (σ' := [.dead, .dead, .dead, .dead, .dead, .row (flat tRelation.own r_8.1.relations), .row (flat tFact.own r_8.1.facts), .dead, .box [(.m [5] 0 r_8.1.relations.length tRelation.k), (.m [6] 0 r_8.1.facts.length tFact.k)]]) rfl ?_
     refine pa tb [10] 0 rfl (by kernel_rfl) rfl ?_
     refine TA_ghost (E' := [(4, (.b 1 0)), (7, (.b 8 0))]) (σ' := [.dead, .dead, .dead, .row (flat tRelation.own r_8.1.relations), .dead, .dead, .row (flat tFact.own r_8.1.facts), .dead, .box [(.m [3] 0 r_8.1.relations.length tRelation.k), (.m [6] 0 r_8.1.facts.length tFact.k)]]) (Ghost.move 3 5 (by decide) (lb rfl) rfl rfl (lb rfl) (Ghost.weak (WeakL.to 9 (lb rfl) rfl rfl rfl rfl ⟨leR rfl, leR rfl, trivial⟩))) ?_
     refine TA_ghost (E' := [(4, (.b 1 0)), (7, (.b 8 0))]) (σ' := [.dead, .dead, .dead, .row (flat tRelation.own r_8.1.relations), .row (flat tFact.own r_8.1.facts), .dead, .dead, .dead, .box [(.m [3] 0 r_8.1.relations.length tRelation.k), (.m [4] 0 r_8.1.facts.length tFact.k)]]) (Ghost.move 4 6 (by decide) (lb rfl) rfl rfl (lb rfl) (Ghost.weak (WeakL.to 9 (lb rfl) rfl rfl rfl rfl ⟨leR rfl, leR rfl, trivial⟩))) ?_
     exact TA_nil (by kernel_rfl) (joined () (w0 9) trivial)
    refine TA_have 6 #[true, true, true, true, false, false, false, false, true, false, false] [(4, (.b 1 0)), (7, (.b 8 0)), (22, (.g (tDatabase.enc db0))), (25, (sl tInt r_6))] [.dead, .dead, .dead, .dead, .dead, .dead, .dead, .dead, .box [.n, .n]] ?_ (fun hj1_7 => ?_)
    ·skip
     refine t1 4 (by kernel_rfl) rfl rfl (TOp_callO (call_static ent172 rfl) rfl (m_impl_SelectFacts_own _ _ _ h_9) rfl rfl rfl ?_)
     refine tae [(4, (.b 1 0)), (7, (.b 8 0)), (22, (.g (tDatabase.enc db0))), (25, (sl tInt r_6)), (26, (.t [(.g [(.m [9] 0 r_8.1.relations.length tRelation.k), (.m [10] 0 r_8.1.facts.length tFact.k)]), (boolA r_8.2)]))] rfl ?_
     refine TA_st (σ' := [.dead, .dead, .dead, .dead, .dead, .dead, .dead, .dead, .box [.n, .n], .row (flat tRelation.own r_8.1.relations), .row (flat tFact.own r_8.1.facts)]) rfl ?_
     refine TA_ghost (E' := [(4, (.b 1 0)), (7, (.b 8 0)), (22, (.g (tDatabase.enc db0))), (25, (sl tInt r_6)), (26, (.t [(.g [(.m [5] 0 r_8.1.relations.length tRelation.k), (.m [10] 0 r_8.1.facts.length tFact.k)]), (boolA r_8.2)]))]) (σ' := [.dead, .dead, .dead, .dead, .dead, .row (flat tRelation.own r_8.1.relations), .dead, .dead, .box [.n, .n], .dead, .row (flat tFact.own r_8.1.facts)]) (Ghost.move 5 9 (by decide) (lb rfl) rfl rfl (lb rfl) (Ghost.weak (WeakL.to 11 (lb rfl) rfl rfl rfl rfl ⟨leR rfl, leR rfl, leR rfl, leR rfl, leR rfl, trivial⟩))) ?_
     refine TA_ghost (E' := [(4, (.b 1 0)), (7, (.b 8 0)), (22, (.g (tDatabase.enc db0))), (25, (sl tInt r_6)), (26, (.t [(.g [(.m [5] 0 r_8.1.relations.length tRelation.k), (.m [6] 0 r_8.1.facts.length tFact.k)]), (boolA r_8.2)]))]) (σ' := [.dead, .dead, .dead, .dead, .dead, .row (flat tRelation.own r_8.1.relations), .row (flat tFact.own r_8.1.facts), .dead, .box [.n, .n]]) (Ghost.move 6 10 (by decide) (lb rfl) rfl rfl (lb rfl) (Ghost.weak (WeakL.to 9 (lb rfl) rfl rfl rfl rfl ⟨leR rfl, leR rfl, leR rfl, leR rfl, leR rfl, trivial⟩))) ?_
     refine pa tb [5, 6, 7] 2 rfl (by kernel_rfl) rfl ?_
     exact tj hj0_7 rfl (w0 9)
    refine pa tb [0, 1, 2] 8 rfl (by kernel_rfl) rfl ?_
    refine TA_ghost (E' := [(1, (sl tInt indices1)), (2, (.b 0 0)), (4, (.b 1 0)), (5, (.m [2] 0 all5.length tInt.k)), (22, (.g (tDatabase.enc db0))), (23, (.m [2] 0 all5.length tInt.k)), (24, (sl tInt indices1))]) (σ' := [.dead, .dead, .row (flat tInt.enc all5), .dead, .dead, .dead, .dead, .dead]) (Ghost.weak (WeakL.to 8 (lb rfl) rfl rfl rfl rfl ⟨leR rfl, leR rfl, leR rfl, leR rfl, leR rfl, leR rfl, leR rfl, trivial⟩)) ?_
    refine TA_frz1 2 (E' := [(1, (sl tInt indices1)), (2, (.b 0 0)), (4, (.b 1 0)), (5, (sl tInt all5)), (22, (.g (tDatabase.enc db0))), (23, (sl tInt all5)), (24, (sl tInt indices1))]) rfl rfl (lb rfl) ⟨(.keep rfl), (.keep rfl), (.keep rfl), fz1E, (.keep rfl), fz1E, (.keep rfl), trivial⟩ ?_
    refine TA_st (σ' := [.dead, .dead, .dead, .dead, .dead, .dead, .dead, .dead]) rfl ?_
    refine TA_all [3, 8] (by kernel_rfl) (by decide) ⟨?_, ?_, trivial⟩
    ·skip
     refine ⟨_, rfl, rfl, (TOp_callV (call_static ent130 rfl) (m_impl_without_ok _ _ _ h_7) rfl rfl rfl ?_)⟩
     refine TA_all [4, 8] (by kernel_rfl) (by decide) ⟨?_, ?_, trivial⟩
     ·skip
      refine ⟨_, rfl, rfl, (TOp_callO (call_static ent172 rfl) rfl (m_impl_SelectFacts_own _ _ _ h_9) rfl rfl rfl ?_)⟩
      refine tae [(1, (sl tInt indices1)), (2, (.b 0 0)), (4, (.b 1 0)), (5, (sl tInt all5)), (22, (.g (tDatabase.enc db0))), (23, (sl tInt all5)), (24, (sl tInt indices1)), (25, (sl tInt r_6)), (26, (.t [(.g [(.m [8] 0 r_8.1.relations.length tRelation.k), (.m [9] 0 r_8.1.facts.length tFact.k)]), (boolA r_8.2)]))] rfl ?_
      refine TA_st (σ' := [.dead, .dead, .dead, .dead, .dead, .dead, .dead, .dead, .row (flat tRelation.own r_8.1.relations), .row (flat tFact.own r_8.1.facts)]) rfl ?_
      refine TA_ghost (E' := [(1, (sl tInt indices1)), (2, (.b 0 0)), (4, (.b 1 0)), (5, (sl tInt all5)), (22, (.g (tDatabase.enc db0))), (23, (sl tInt all5)), (24, (sl tInt indices1)), (25, (sl tInt r_6)), (26, (.t [(.g [(.m [5] 0 r_8.1.relations.length tRelation.k), (.m [9] 0 r_8.1.facts.length tFact.k)]), (boolA r_8.2)]))]) (σ' := [.dead, .dead, .dead, .dead, .dead, .row (flat tRelation.own r_8.1.relations), .dead, .dead, .dead, .row (flat tFact.own r_8.1.facts)]) (Ghost.move 5 8 (by decide) (lb rfl) rfl rfl (lb rfl) (Ghost.weak (WeakL.to 10 (lb rfl) rfl rfl rfl rfl ⟨leR rfl, leR rfl, leR rfl, leR rfl, leR rfl, leR rfl, leR rfl, leR rfl, leR rfl, trivial⟩))) ?_
      refine TA_ghost (E' := [(1, (sl tInt indices1)), (2, (.b 0 0)), (4, (.b 1 0)), (5, (sl tInt all5)), (22, (.g (tDatabase.enc db0))), (23, (sl tInt all5)), (24, (sl tInt indices1)), (25, (sl tInt r_6)), (26, (.t [(.g [(.m [5] 0 r_8.1.relations.length tRelation.k), (.m [6] 0 r_8.1.facts.length tFact.k)]), (boolA r_8.2)]))]) (σ' := [.dead, .dead, .dead, .dead, .dead, .row (flat tRelation.own r_8.1.relations), .row (flat tFact.own r_8.1.facts), .dead]) (Ghost.move 6 9 (by decide) (lb rfl) rfl rfl (lb rfl) (Ghost.weak (WeakL.to 8 (lb rfl) rfl rfl rfl rfl ⟨leR rfl, leR rfl, leR rfl, leR rfl, leR rfl, leR rfl, leR rfl, leR rfl, leR rfl, trivial⟩))) ?_
      refine pa tb [5, 6, 7] 3 rfl (by kernel_rfl) rfl ?_
      refine t1 8 (by kernel_rfl) rfl rfl (TOp_alloc zero48 rfl rfl ?_)
      refine tae [(4, (.b 1 0)), (7, (.b 8 0)), (27, (.g [(.m [5] 0 r_8.1.relations.length tRelation.k), (.m [6] 0 r_8.1.facts.length tFact.k)])), (28, (boolA r_8.2))] rfl ?_
      refine TA_st (σ' := [.dead, .dead, .dead, .dead, .dead, .row (flat tRelation.own r_8.1.relations), .row (flat tFact.own r_8.1.facts), .dead, .box [.n, .n]]) rfl ?_
      exact tj hj0_7 rfl (w0 9)
     ·skip
      refine ⟨_, rfl, rfl, (TOp_alloc zero48 rfl rfl ?_)⟩
      exact tj hj1_7 rfl (w0 9)
    ·skip
     refine ⟨_, rfl, rfl, (TOp_alloc zero48 rfl rfl ?_)⟩
     refine t1 3 (by kernel_rfl) rfl rfl (TOp_callV (call_static ent130 rfl) (m_impl_without_ok _ _ _ h_7) rfl rfl rfl ?_)
     exact tj hj1_7 rfl (w0 9)
   ·rintro _ _
    refine sr ?_
    refine pv tb 1 rfl ?_
    refine TO_cons rfl (TOp_storeB sz48 rfl rfl rfl rfl rfl rfl rfl (by decide) (lb rfl) rfl ?_)
    refine TO_st (σ' := [.box [(sl tRelation db0.relations), (sl tFact db0.facts)], .box [(.m [3] 0 r_8.1.relations.length tRelation.k), (.m [4] 0 r_8.1.facts.length tFact.k)], .dead, .row (flat tRelation.own r_8.1.relations), .row (flat tFact.own r_8.1.facts), .dead, .dead, .dead, .box [(.m [3] 0 r_8.1.relations.length tRelation.k), (.m [4] 0 r_8.1.facts.length tFact.k)]]) rfl ?_
    refine TO_nil ?_
    refine T_ret ?_
    obtain rfl := some_inj H
    exact end_pick (.cellK rfl agg48 rfl (lb rfl) .nil) rfl [3, 4] (by decide) rfl rfl rfl rfl rfl rfl
theorem m_impl_withoutFacts_ok (db0 : Database) (indices1 : (List Int)) (r : Database) (H : m_impl_withoutFacts db0 indices1 = some r) : FnV prg 129 [(.g (tDatabase.enc db0)), (sl tInt indices1)] (.g (tDatabase.enc r)) := (m_impl_withoutFacts_own db0 indices1 r H).frz (frzOK_g (frz_cons (frzT (T := tRelation) rfl) (frz_cons (frzT (T := tFact) rfl) frz_nil)).1 (frz_cons (frzT (T := tRelation) rfl) (frz_cons (frzT (T := tFact) rfl) frz_nil)).2)

set_option maxHeartbeats 1000000 in
theorem m_impl_ResolveConflict_own (db0 : Database) (fact1 : Fact) (r : (Database × Bool)) (H : m_impl_ResolveConflict db0 fact1 = some r) : FnO prg 60 [(.g (tDatabase.enc db0)), (.g (tFact.enc fact1))] (.t [(.g [(.m [0] 0 r.1.relations.length tRelation.k), (.m [1] 0 r.1.facts.length tFact.k)]), (boolA r.2)]) [.row (flat tRelation.own r.1.relations), .row (flat tFact.own r.1.facts)] := by
  unfold m_impl_ResolveConflict at H
  refine fnO_of_T Try.func60 rfl rfl (Nat.le_of_ble_eq_true rfl) ?_
  refine te [(0, (.g (tDatabase.enc db0))), (1, (.g (tFact.enc fact1)))] rfl ?_
  refine sr ?_
  refine TO_cons rfl (TOp_box rfl (boxAll rfl) rfl rfl ?_)
  refine TO_cons rfl (TOp_box rfl (boxAll rfl) rfl rfl ?_)
  refine TO_cons rfl (TOp_alloc zero48 rfl rfl ?_)
  refine pv tb 1 rfl ?_
  refine TO_nil ?_
  refine T_seq ?_
  refine sr ?_
  obtain ⟨r_1, h_2, H⟩ := bind_inv H
  refine pv tb 2 rfl ?_
  refine TO_cons rfl (TOp_callV (call_static ent49 rfl) (m_impl_ContainsFact_ok _ _ _ h_2) rfl rfl rfl ?_)
  refine pv tb 1 rfl ?_
  refine TO_nil ?_
  refine T_cond (t := (!r_1)) rfl (fun c_3 => ?_) (fun c_3 => ?_)
  ·replace H := cond_t c_3 H
   refine sr ?_
   obtain ⟨r_4, h_5, H⟩ := bind_inv H
   refine pv tb 1 rfl ?_
   refine TO_cons rfl (TOp_callO (call_static ent107 rfl) rfl (m_impl_copyDatabase_own _ _ h_5) rfl rfl rfl ?_)
   refine toe [(2, (.b 0 0)), (3, (.b 1 0)), (4, (.b 2 0)), (10, (boolA (!r_1))), (11, (.g (tDatabase.enc db0))), (12, (.g [(.m [3] 0 r_4.relations.length tRelation.k), (.m [4] 0 r_4.facts.length tFact.k)]))] rfl ?_
   refine TO_st (σ' := [.box [(sl tRelation db0.relations), (sl tFact db0.facts)], .box [(intA fact1.relation), (sl tInt fact1.values)], .box [.n, .n], .row (flat tRelation.own r_4.relations), .row (flat tFact.own r_4.facts)]) rfl ?_
   refine TO_cons rfl (TOp_storeB sz48 rfl rfl rfl rfl rfl rfl rfl (by decide) (lb rfl) rfl ?_)
   refine TO_st (σ' := [.box [(sl tRelation db0.relations), (sl tFact db0.facts)], .box [(intA fact1.relation), (sl tInt fact1.values)], .box [(.m [3] 0 r_4.relations.length tRelation.k), (.m [4] 0 r_4.facts.length tFact.k)], .row (flat tRelation.own r_4.relations), .row (flat tFact.own r_4.facts)]) rfl ?_
   refine pv tb 1 rfl ?_
   refine TO_nil ?_
   refine T_ret ?_
   refine then_ret ?_
   obtain rfl := some_inj H
   exact end_pick (.cellK rfl agg48 rfl (lb rfl) (.tmp .nil)) rfl [3, 4] (by decide) rfl rfl rfl rfl rfl rfl
  ·replace H := cond_f c_3 H
   refine T_skip ?_
   refine sr ?_
   obtain ⟨r_6, h_7, H⟩ := bind_inv H
   refine pv tb 2 rfl ?_
   refine TO_cons rfl (TOp_callV (call_static ent106 rfl) (m_impl_FactIndex_ok _ _ _ h_7) rfl rfl rfl ?_)
   refine pv tb 1 rfl ?_
   refine TO_nil ?_
   obtain ⟨r_8, h_9, H⟩ := bind_inv H
   obtain ⟨r_10, h_11, H⟩ := bind_inv H
   obtain ⟨r_12, h_13, H⟩ := bind_inv H
   refine T_pad ?_
   refine T_pad ?_
   refine T_pad ?_
   refine T_pad ?_
   refine T_pad ?_
   refine T_cutX (fun (_ : Unit) => True) (fun _ => [(4, (.b 2 0)), (5, (boolA true))]) (fun _ => [.box [(sl tRelation db0.relations), (sl tFact db0.facts)], .box [(intA fact1.relation), (sl tInt fact1.values)], .box [(.m [3] 0 r_12.relations.length tRelation.k), (.m [4] 0 r_12.facts.length tFact.k)], .row (flat tRelation.own r_12.relations), .row (flat tFact.own r_12.facts)]) ?_ ?_
   ·skip
    refine T_regionPh 3 8 mixed rfl (by kernel_rfl) ?_
    refine TA_have 2 #[true, true, true, true, true, true, false, false] [(4, (.b 2 0)), (16, (.g (tDatabase.enc db0))), (19, (sl tInt r_8)), (21, (sl tInt ([r_6] : (List Int))))] [.dead, .dead, .dead, .dead, .dead, .dead, .dead, .dead] ?_ (fun hj0_4 => ?_)
    ·skip
     refine t1 6 (by kernel_rfl) rfl rfl (TOp_callV (call_static ent130 rfl) (m_impl_without_ok _ _ _ h_11) rfl rfl rfl ?_)
     refine t1 7 (by kernel_rfl) rfl rfl (TOp_callO (call_static ent129 rfl) rfl (m_impl_withoutFacts_own _ _ _ h_13) rfl rfl rfl ?_)
     refine tae [(4, (.b 2 0)), (16, (.g (tDatabase.enc db0))), (19, (sl tInt r_8)), (21, (sl tInt ([r_6] : (List Int)))), (22, (sl tInt r_10)), (23, (.g [(.m [8] 0 r_12.relations.length tRelation.k), (.m [9] 0 r_12.facts.length tFact.k)]))] rfl ?_
     refine TA_st (σ' := [.dead, .dead, .dead, .dead, .dead, .dead, .dead, .dead, .row (flat tRelation.own r_12.relations), .row (flat tFact.own r_12.facts)]) rfl ?_
     refine tmw 6 8 (by decide) (lb rfl) rfl rfl (lb rfl) rfl ?_
     refine tmw 7 9 (by decide) (lb rfl) rfl rfl (lb rfl) rfl ?_
     refine TA_nil (by kernel_rfl) ?_
     refine TA_st (σ' := [.box [(sl tRelation db0.relations), (sl tFact db0.facts)], .box [(intA fact1.relation), (sl tInt fact1.values)], .box [.n, .n], .dead, .dead, .dead, .row (flat tRelation.own r_12.relations), .row (flat tFact.own r_12.facts), .dead, .dead]) rfl ?_
     refine t1 8 (by kernel_rfl) rfl rfl (TOp_storeB sz48 rfl rfl rfl rfl rfl rfl rfl (by decide) (lb rfl) rfl ?_)
     refine TA_st (σ' := [.box [(sl tRelation db0.relations), (sl tFact db0.facts)], .box [(intA fact1.relation), (sl tInt fact1.values)], .box [(.m [6] 0 r_12.relations.length tRelation.k), (.m [7] 0 r_12.facts.length tFact.k)], .dead, .dead, .dead, .row (flat tRelation.own r_12.relations), .row (flat tFact.own r_12.facts), .dead, .dead]) rfl ?_
     refine pa tb [9] 0 rfl (by kernel_rfl) rfl ?_
     refine TA_ghost (E' := [(4, (.b 2 0)), (5, (boolA true))]) (σ' := [.box [(sl tRelation db0.relations), (sl tFact db0.facts)], .box [(intA fact1.relation), (sl tInt fact1.values)], .box [(.m [3] 0 r_12.relations.length tRelation.k), (.m [7] 0 r_12.facts.length tFact.k)], .row (flat tRelation.own r_12.relations), .dead, .dead, .dead, .row (flat tFact.own r_12.facts), .dead, .dead]) (Ghost.move 3 6 (by decide) (lb rfl) rfl rfl (lb rfl) (Ghost.weak (WeakL.to 10 (lb rfl) rfl rfl rfl rfl ⟨leR rfl, leR rfl, trivial⟩))) ?_
     refine TA_ghost (E' := [(4, (.b 2 0)), (5, (boolA true))]) (σ' := [.box [(sl tRelation db0.relations), (sl tFact db0.facts)], .box [(intA fact1.relation), (sl tInt fact1.values)], .box [(.m [3] 0 r_12.relations.length tRelation.k), (.m [4] 0 r_12.facts.length tFact.k)], .row (flat tRelation.own r_12.relations), .row (flat tFact.own r_12.facts), .dead, .dead, .dead, .dead, .dead]) (Ghost.move 4 7 (by decide) (lb rfl) rfl rfl (lb rfl) (Ghost.weak (WeakL.to 10 (lb rfl) rfl rfl rfl rfl ⟨leR rfl, leR rfl, trivial⟩))) ?_
     exact TA_nil (by kernel_rfl) (joined () (w0 5) trivial)
    refine pa tb [0, 1, 2, 4] 4 rfl (by kernel_rfl) rfl ?_
    refine TA_all [3, 5] (by kernel_rfl) (by decide) ⟨?_, ?_, trivial⟩
    ·skip
     refine ⟨_, rfl, rfl, (TOp_callV (call_static ent105 rfl) (m_impl_BlockOf_ok _ _ _ h_9) rfl rfl rfl ?_)⟩
     refine t1 5 (by kernel_rfl) rfl rfl (TOp_lit (nn := 1) (k := 1) sl23 zero3 rfl rfl rfl rfl (by decide) ?_)
     refine tmw 5 8 (by decide) (lb rfl) rfl rfl (lb rfl) rfl ?_
     refine TA_ghost (E' := [(2, (.b 0 0)), (4, (.b 2 0)), (6, (intA r_6)), (16, (.g (tDatabase.enc db0))), (17, (.g (tDatabase.enc db0))), (18, (intA r_6)), (19, (sl tInt r_8)), (20, (intA r_6)), (21, (.m [5] 0 ([r_6] : (List Int)).length tInt.k))]) (σ' := [.dead, .dead, .dead, .dead, .dead, .row (flat tInt.enc ([r_6] : (List Int))), .dead, .dead, .dead]) (Ghost.weak (WeakL.to 9 (lb rfl) rfl rfl rfl rfl ⟨leR rfl, leR rfl, leR rfl, leR rfl, leR rfl, leR rfl, leR rfl, leR rfl, leR rfl, trivial⟩)) ?_
     refine TA_frz1 5 (E' := [(2, (.b 0 0)), (4, (.b 2 0)), (6, (intA r_6)), (16, (.g (tDatabase.enc db0))), (17, (.g (tDatabase.enc db0))), (18, (intA r_6)), (19, (sl tInt r_8)), (20, (intA r_6)), (21, (sl tInt ([r_6] : (List Int))))]) rfl rfl (lb rfl) ⟨(.keep rfl), (.keep rfl), (.keep rfl), (.keep rfl), (.keep rfl), (.keep rfl), (.keep rfl), (.keep rfl), fz1E, trivial⟩ ?_
     refine TA_st (σ' := [.dead, .dead, .dead, .dead, .dead, .dead, .dead, .dead, .dead]) rfl ?_
     exact tj hj0_4 rfl (w0 8)
    ·skip
     refine ⟨_, rfl, rfl, (TOp_lit (nn := 1) (k := 1) sl23 zero3 rfl rfl rfl rfl (by decide) ?_)⟩
     refine tmw 5 8 (by decide) (lb rfl) rfl rfl (lb rfl) rfl ?_
     refine t1 3 (by kernel_rfl) rfl rfl (TOp_callV (call_static ent105 rfl) (m_impl_BlockOf_ok _ _ _ h_9) rfl rfl rfl ?_)
     refine TA_ghost (E' := [(2, (.b 0 0)), (4, (.b 2 0)), (6, (intA r_6)), (16, (.g (tDatabase.enc db0))), (17, (.g (tDatabase.enc db0))), (18, (intA r_6)), (19, (sl tInt r_8)), (20, (intA r_6)), (21, (.m [5] 0 ([r_6] : (List Int)).length tInt.k))]) (σ' := [.dead, .dead, .dead, .dead, .dead, .row (flat tInt.enc ([r_6] : (List Int))), .dead, .dead, .dead]) (Ghost.weak (WeakL.to 9 (lb rfl) rfl rfl rfl rfl ⟨leR rfl, leR rfl, leR rfl, leR rfl, leR rfl, leR rfl, leR rfl, leR rfl, leR rfl, trivial⟩)) ?_
     refine TA_frz1 5 (E' := [(2, (.b 0 0)), (4, (.b 2 0)), (6, (intA r_6)), (16, (.g (tDatabase.enc db0))), (17, (.g (tDatabase.enc db0))), (18, (intA r_6)), (19, (sl tInt r_8)), (20, (intA r_6)), (21, (sl tInt ([r_6] : (List Int))))]) rfl rfl (lb rfl) ⟨(.keep rfl), (.keep rfl), (.keep rfl), (.keep rfl), (.keep rfl), (.keep rfl), (.keep rfl), (.keep rfl), fz1E, trivial⟩ ?_
     refine TA_st (σ' := [.dead, .dead, .dead, .dead, .dead, .dead, .dead, .dead, .dead]) rfl ?_
     exact tj hj0_4 rfl (w0 8)
   ·rintro _ _
    refine T_ret ?_
    obtain rfl := some_inj H
    exact end_pick (.cellK rfl agg48 rfl (lb rfl) (.tmp .nil)) rfl [3, 4] (by decide) rfl rfl rfl rfl rfl rfl
theorem m_impl_ResolveConflict_ok (db0 : Database) (fact1 : Fact) (r : (Database × Bool)) (H : m_impl_ResolveConflict db0 fact1 = some r) : FnV prg 60 [(.g (tDatabase.enc db0)), (.g (tFact.enc fact1))] (.t [(.g (tDatabase.enc r.1)), (boolA r.2)]) := (m_impl_ResolveConflict_own db0 fact1 r H).frz (frzOK_t (frz_cons (frzOK_g (frz_cons (frzT (T := tRelation) rfl) (frz_cons (frzT (T := tFact) rfl) frz_nil)).1 (frz_cons (frzT (T := tRelation) rfl) (frz_cons (frzT (T := tFact) rfl) frz_nil)).2) (frz_cons (frz_loose rfl) frz_nil)).1 (frz_cons (frzOK_g (frz_cons (frzT (T := tRelation) rfl) (frz_cons (frzT (T := tFact) rfl) frz_nil)).1 (frz_cons (frzT (T := tRelation) rfl) (frz_cons (frzT (T := tFact) rfl) frz_nil)).2) (frz_cons (frz_loose rfl) frz_nil)).2)

set_option maxHeartbeats 1000000 in
theorem m_slices_Delete_Simpl_Fact_impl_Fact_x (s0 : List Fact) (i1 j2 : Int) (r : List Fact) (H : m_slices_Delete_Simpl_Fact_impl_Fact s0 i1 j2 = some r) : FnS prg 160 [(.m [0] 0 s0.length tFact.k), (intA i1), (intA j2)] [.row (flat tFact.enc s0)] (.m [0] 0 r.length tFact.k) [.row (flat tFact.enc r)] := by
  unfold m_slices_Delete_Simpl_Fact_impl_Fact at H
  obtain ⟨i, j, rfl, rfl, h1, h2, rfl⟩ := cutOut_inv H
  refine fnS_of_T Try.func160 rfl rfl (lb rfl) ?_
  refine te [(0, (.m [0] 0 s0.length tFact.k)), (1, (intA (i : Int))), (2, (intA (j : Int)))] rfl ?_
  refine sr ?_
  refine Tp rfl rfl (pur_assign rfl) rfl ?_
  refine TO_nil ?_
  refine te [(0, (.m [0] 0 s0.length tFact.k)), (1, (intA (i : Int))), (2, (intA (j : Int)))] rfl ?_
  refine sr ?_
  refine Tp rfl rfl (pur_move rfl) rfl ?_
  refine Tp rfl rfl (pur_move rfl) rfl ?_
  refine Tp rfl rfl (pur_move rfl) rfl ?_
  refine Tp rfl rfl (pur_move rfl) rfl ?_
  refine Tp rfl rfl (pur_len_m sl46 rfl rfl) rfl ?_
  refine Tp rfl rfl (pur_cut3J (i := i) (j := j) (q := s0.length) sl46 rfl rfl rfl rfl h1 h2 (Nat.le_refl _) rfl) rfl ?_
  refine TO_nil ?_
  refine te [(0, (.m [0] 0 s0.length tFact.k)), (1, (intA (i : Int))), (2, (intA (j : Int)))] rfl ?_
  refine T_seq ?_
  refine sr ?_
  refine Tp rfl rfl (pur_move rfl) rfl ?_
  refine Tp rfl rfl (pur_move rfl) rfl ?_
  refine Tp rfl rfl (pur_eql rfl rfl rfl) rfl ?_
  refine TO_nil ?_
  refine te [(0, (.m [0] 0 s0.length tFact.k)), (1, (intA (i : Int))), (2, (intA (j : Int))), (16, (boolA (decide ((i : Int) = (j : Int)))))] rfl ?_
  refine T_cond (t := decide ((i : Int) = (j : Int))) rfl (fun c => ?_) (fun c => ?_)
  ·have e : i = j := by have := of_decide_eq_true c; omega
   subst e
   refine sr ?_
   refine Tp rfl rfl (pur_move rfl) rfl ?_
   refine Tp rfl rfl (pur_assign rfl) rfl ?_
   refine TO_nil ?_
   refine te [(6, (.m [0] 0 s0.length tFact.k))] rfl ?_
   refine T_ret ?_
   refine then_ret ?_
   rw [List.take_append_drop]
   exact end_pickX (.tmp .nil) rfl [0] (by decide) (lb rfl) rfl (lb rfl) rfl rfl rfl rfl rfl rfl
  ·have hij : i < j := by have := of_decide_eq_false c; omega
   refine T_skip ?_
   refine te [(0, (.m [0] 0 s0.length tFact.k)), (1, (intA (i : Int))), (2, (intA (j : Int)))] rfl ?_
   refine sr ?_
   refine Tp rfl rfl (pur_move rfl) rfl ?_
   refine Tp rfl rfl (pur_len_m sl46 rfl rfl) rfl ?_
   refine Tp rfl rfl (pur_assign rfl) rfl ?_
   refine TO_nil ?_
   refine te [(0, (.m [0] 0 s0.length tFact.k)), (1, (intA (i : Int))), (2, (intA (j : Int))), (7, (intA (s0.length : Int)))] rfl ?_
   refine T_del (Y := tFact) (i := i) (j := j) (l := 0) sl46 zero65 rfl mixed ⟨rfl, rfl, rfl⟩ ⟨rfl, rfl, rfl⟩ ⟨rfl, rfl, rfl⟩ ⟨rfl, rfl, rfl⟩ ⟨rfl, rfl, rfl⟩ ⟨rfl, rfl, rfl⟩ ⟨rfl, rfl, rfl⟩ ⟨rfl, rfl, rfl⟩
    (c := fun q => #[decide (0 < q), decide (1 < q), decide (2 < q), decide (3 < q), decide (4 < q), decide (5 < q), decide (6 < q), decide (7 < q)]) (by decide) (by decide)
    (fun q h1 h2 => match q, h1, h2 with | 0, _, _ => (by kernel_rfl) | 1, _, _ => (by kernel_rfl) | 2, _, _ => (by kernel_rfl) | 3, _, _ => (by kernel_rfl) | 4, _, _ => (by kernel_rfl) | 5, _, _ => (by kernel_rfl) | 6, _, h => absurd rfl h | 7, _, _ => (by kernel_rfl) | _ + 8, h, _ => absurd h (by omega))
    (by kernel_rfl) (by kernel_rfl) ⟨rfl, rfl, rfl⟩ ⟨rfl, rfl, rfl⟩ ⟨rfl, rfl, rfl⟩ ⟨rfl, rfl, rfl⟩ ⟨rfl, rfl, rfl⟩ ⟨rfl, rfl, rfl⟩ (by decide) hij h2 rfl rfl rfl rfl rfl ?_
   refine sr ?_
   refine Tp rfl rfl (pur_move rfl) rfl ?_
   refine Tp rfl rfl (pur_assign rfl) rfl ?_
   refine TO_nil ?_
   refine te [(6, (.m [0] 0 (s0.take i ++ s0.drop j).length tFact.k))] rfl ?_
   refine T_ret ?_
   exact end_pickX (.tmp .nil) rfl [0] (by decide) (lb rfl) rfl (lb rfl) rfl rfl rfl rfl rfl rfl


set_option maxHeartbeats 1000000 in
theorem m_slices_Delete_Simpl_Fact_impl_Fact_xo (s0 : List Fact) (i1 j2 : Int) (r : List Fact) (H : m_slices_Delete_Simpl_Fact_impl_Fact s0 i1 j2 = some r) : FnS prg 160 [(.m [0] 0 s0.length tFact.k), (intA i1), (intA j2)] [.row (flat tFact.own s0)] (.m [1] 0 r.length tFact.k) [.dead, .row (flat tFact.own r)] := by
  unfold m_slices_Delete_Simpl_Fact_impl_Fact at H
  obtain ⟨i, j, rfl, rfl, h1, h2, rfl⟩ := cutOut_inv H
  refine fnS_of_T Try.func160 rfl rfl (lb rfl) ?_
  refine te [(0, (.m [0] 0 s0.length tFact.k)), (1, (intA (i : Int))), (2, (intA (j : Int)))] rfl ?_
  refine sr ?_
  refine Tp rfl rfl (pur_assign rfl) rfl ?_
  refine TO_nil ?_
  refine te [(0, (.m [0] 0 s0.length tFact.k)), (1, (intA (i : Int))), (2, (intA (j : Int)))] rfl ?_
  refine sr ?_
  refine Tp rfl rfl (pur_move rfl) rfl ?_
  refine Tp rfl rfl (pur_move rfl) rfl ?_
  refine Tp rfl rfl (pur_move rfl) rfl ?_
  refine Tp rfl rfl (pur_move rfl) rfl ?_
  refine Tp rfl rfl (pur_len_m sl46 rfl rfl) rfl ?_
  refine Tp rfl rfl (pur_cut3J (i := i) (j := j) (q := s0.length) sl46 rfl rfl rfl rfl h1 h2 (Nat.le_refl _) rfl) rfl ?_
  refine TO_nil ?_
  refine te [(0, (.m [0] 0 s0.length tFact.k)), (1, (intA (i : Int))), (2, (intA (j : Int)))] rfl ?_
  refine T_seq ?_
  refine sr ?_
  refine Tp rfl rfl (pur_move rfl) rfl ?_
  refine Tp rfl rfl (pur_move rfl) rfl ?_
  refine Tp rfl rfl (pur_eql rfl rfl rfl) rfl ?_
  refine TO_nil ?_
  refine te [(0, (.m [0] 0 s0.length tFact.k)), (1, (intA (i : Int))), (2, (intA (j : Int))), (16, (boolA (decide ((i : Int) = (j : Int)))))] rfl ?_
  refine T_cond (t := decide ((i : Int) = (j : Int))) rfl (fun c => ?_) (fun c => ?_)
  ·have e : i = j := by have := of_decide_eq_true c; omega
   subst e
   refine T_pad ?_
   refine T_move' 1 0 (by decide) (lb rfl) rfl rfl (lb rfl) ?_
   refine te [(0, (.m [1] 0 s0.length tFact.k))] rfl ?_
   refine T_st (σ' := [.dead, .row (flat tFact.own s0)]) rfl ?_
   refine sr ?_
   refine Tp rfl rfl (pur_move rfl) rfl ?_
   refine Tp rfl rfl (pur_assign rfl) rfl ?_
   refine TO_nil ?_
   refine te [(6, (.m [1] 0 s0.length tFact.k))] rfl ?_
   refine T_ret ?_
   refine then_ret ?_
   rw [List.take_append_drop]
   exact end_pickX (.tmp .nil) rfl [0, 1] (by decide) (lb rfl) rfl (lb rfl) rfl rfl rfl rfl rfl rfl
  ·have hij : i < j := by have := of_decide_eq_false c; omega
   refine T_skip ?_
   refine te [(0, (.m [0] 0 s0.length tFact.k)), (1, (intA (i : Int))), (2, (intA (j : Int)))] rfl ?_
   refine sr ?_
   refine Tp rfl rfl (pur_move rfl) rfl ?_
   refine Tp rfl rfl (pur_len_m sl46 rfl rfl) rfl ?_
   refine Tp rfl rfl (pur_assign rfl) rfl ?_
   refine TO_nil ?_
   refine te [(0, (.m [0] 0 s0.length tFact.k)), (1, (intA (i : Int))), (2, (intA (j : Int))), (7, (intA (s0.length : Int)))] rfl ?_
   refine T_delO (Y := tFact) (i := i) (j := j) (l := 0) sl46 zero65 rfl mixed ⟨rfl, rfl, rfl⟩ ⟨rfl, rfl, rfl⟩ ⟨rfl, rfl, rfl⟩ ⟨rfl, rfl, rfl⟩ ⟨rfl, rfl, rfl⟩ ⟨rfl, rfl, rfl⟩ ⟨rfl, rfl, rfl⟩ ⟨rfl, rfl, rfl⟩
    (c := fun q => #[decide (0 < q), decide (1 < q), decide (2 < q), decide (3 < q), decide (4 < q), decide (5 < q), decide (6 < q), decide (7 < q)]) (by decide) (by decide)
    (fun q h1 h2 => match q, h1, h2 with | 0, _, _ => (by kernel_rfl) | 1, _, _ => (by kernel_rfl) | 2, _, _ => (by kernel_rfl) | 3, _, _ => (by kernel_rfl) | 4, _, _ => (by kernel_rfl) | 5, _, _ => (by kernel_rfl) | 6, _, h => absurd rfl h | 7, _, _ => (by kernel_rfl) | _ + 8, h, _ => absurd h (by omega))
    (by kernel_rfl) (by kernel_rfl) ⟨rfl, rfl, rfl⟩ ⟨rfl, rfl, rfl⟩ ⟨rfl, rfl, rfl⟩ ⟨rfl, rfl, rfl⟩ ⟨rfl, rfl, rfl⟩ ⟨rfl, rfl, rfl⟩ (by decide) hij h2 rfl rfl rfl rfl rfl ?_
   refine sr ?_
   refine Tp rfl rfl (pur_move rfl) rfl ?_
   refine Tp rfl rfl (pur_assign rfl) rfl ?_
   refine TO_nil ?_
   refine te [(6, (.m [1] 0 (s0.take i ++ s0.drop j).length tFact.k))] rfl ?_
   refine T_ret ?_
   exact end_pickX (.tmp .nil) rfl [0, 1] (by decide) (lb rfl) rfl (lb rfl) rfl rfl rfl rfl rfl rfl


set_option maxHeartbeats 1000000 in
theorem m_impl_DeleteFact_own (db0 : Database) (fact1 : Fact) (r : (Database × Bool)) (H : m_impl_DeleteFact db0 fact1 = some r) : FnO prg 108 [(.g (tDatabase.enc db0)), (.g (tFact.enc fact1))] (.t [(.g [(.m [0] 0 r.1.relations.length tRelation.k), (.m [1] 0 r.1.facts.length tFact.k)]), (boolA r.2)]) [.row (flat tRelation.own r.1.relations), .row (flat tFact.own r.1.facts)] := by
  unfold m_impl_DeleteFact at H
  refine fnO_of_T Try.func108 rfl rfl (Nat.le_of_ble_eq_true rfl) ?_
  refine te [(0, (.g (tDatabase.enc db0))), (1, (.g (tFact.enc fact1)))] rfl ?_
  refine sr ?_
  refine TO_cons rfl (TOp_box rfl (boxAll rfl) rfl rfl ?_)
  refine TO_cons rfl (TOp_box rfl (boxAll rfl) rfl rfl ?_)
  refine TO_cons rfl (TOp_alloc zero48 rfl rfl ?_)
  refine pv tb 1 rfl ?_
  refine TO_nil ?_
  refine sr ?_
  obtain ⟨r_1, h_2, H⟩ := bind_inv H
  refine pv tb 1 rfl ?_
  refine TO_cons rfl (TOp_callO (call_static ent107 rfl) rfl (m_impl_copyDatabase_own _ _ h_2) rfl rfl rfl ?_)
  refine toe [(2, (.b 0 0)), (3, (.b 1 0)), (4, (.b 2 0)), (8, (.g (tDatabase.enc db0))), (9, (.g [(.m [3] 0 r_1.relations.length tRelation.k), (.m [4] 0 r_1.facts.length tFact.k)]))] rfl ?_
  refine TO_st (σ' := [.box [(sl tRelation db0.relations), (sl tFact db0.facts)], .box [(intA fact1.relation), (sl tInt fact1.values)], .box [.n, .n], .row (flat tRelation.own r_1.relations), .row (flat tFact.own r_1.facts)]) rfl ?_
  refine TO_cons rfl (TOp_alloc zero48 rfl rfl ?_)
  refine TO_cons rfl (TOp_storeB sz48 rfl rfl rfl rfl rfl rfl rfl (by decide) (lb rfl) rfl ?_)
  refine TO_st (σ' := [.box [(sl tRelation db0.relations), (sl tFact db0.facts)], .box [(intA fact1.relation), (sl tInt fact1.values)], .box [.n, .n], .row (flat tRelation.own r_1.relations), .row (flat tFact.own r_1.facts), .box [(.m [3] 0 r_1.relations.length tRelation.k), (.m [4] 0 r_1.facts.length tFact.k)]]) rfl ?_
  refine TO_nil ?_
  refine T_seq ?_
  refine sr ?_
  obtain ⟨r_3, h_4, H⟩ := bind_inv H
  refine pv tb 2 rfl ?_
  refine TO_cons rfl (TOp_callV (call_static ent49 rfl) (m_impl_ContainsFact_ok _ _ _ h_4) rfl rfl rfl ?_)
  refine pv tb 1 rfl ?_
  refine TO_nil ?_
  refine T_cond (t := (!r_3)) rfl (fun c_5 => ?_) (fun c_5 => ?_)
  ·replace H := cond_t c_5 H
   refine sr ?_
   refine pv tb 1 rfl ?_
   refine TO_cons rfl (TOp_storeB sz48 rfl rfl rfl rfl rfl rfl rfl (by decide) (lb rfl) rfl ?_)
   refine TO_st (σ' := [.box [(sl tRelation db0.relations), (sl tFact db0.facts)], .box [(intA fact1.relation), (sl tInt fact1.values)], .box [(.m [3] 0 r_1.relations.length tRelation.k), (.m [4] 0 r_1.facts.length tFact.k)], .row (flat tRelation.own r_1.relations), .row (flat tFact.own r_1.facts), .box [(.m [3] 0 r_1.relations.length tRelation.k), (.m [4] 0 r_1.facts.length tFact.k)]]) rfl ?_
   refine pv tb 1 rfl ?_
   refine TO_nil ?_
   refine T_ret ?_
   refine then_ret ?_
   obtain rfl := some_inj H
   exact end_pick (.cellK rfl agg48 rfl (lb rfl) (.tmp .nil)) rfl [3, 4] (by decide) rfl rfl rfl rfl rfl rfl
  ·replace H := cond_f c_5 H
   refine T_skip ?_
   refine sr ?_
   obtain ⟨r_6, h_7, H⟩ := bind_inv H
   refine pv tb 2 rfl ?_
   refine TO_cons rfl (TOp_callV (call_static ent106 rfl) (m_impl_FactIndex_ok _ _ _ h_7) rfl rfl rfl ?_)
   refine pv tb 1 rfl ?_
   refine TO_nil ?_
   refine sr ?_
   obtain ⟨r_8, h_9, H⟩ := bind_inv H
   refine pv tb 5 rfl ?_
   refine TO_cons rfl (TOp_callS [4] (call_static ent160 rfl) (by decide) rfl rfl rfl rfl rfl rfl (m_slices_Delete_Simpl_Fact_impl_Fact_xo _ _ _ _ h_9) rfl rfl ?_)
   refine toe [(4, (.b 2 0)), (6, (.b 5 0)), (7, (intA r_6)), (18, (.b 5 1)), (20, (intA r_6)), (21, (intA r_6)), (22, (intA (w64 (r_6 + 1)))), (23, (.m [6] 0 r_8.length tFact.k))] rfl ?_
   refine TO_st (σ' := [.box [(sl tRelation db0.relations), (sl tFact db0.facts)], .box [(intA fact1.relation), (sl tInt fact1.values)], .box [.n, .n], .row (flat tRelation.own r_1.relations), .dead, .box [(.m [3] 0 r_1.relations.length tRelation.k), (.m [4] 0 r_1.facts.length tFact.k)], .row (flat tFact.own r_8)]) rfl ?_
   refine pv tb 1 rfl ?_
   refine TO_cons rfl (TOp_storeB sz46 rfl rfl rfl rfl rfl rfl rfl (by decide) (lb rfl) rfl ?_)
   refine TO_st (σ' := [.box [(sl tRelation db0.relations), (sl tFact db0.facts)], .box [(intA fact1.relation), (sl tInt fact1.values)], .box [.n, .n], .row (flat tRelation.own r_1.relations), .dead, .box [(.m [3] 0 r_1.relations.length tRelation.k), (.m [6] 0 r_8.length tFact.k)], .row (flat tFact.own r_8)]) rfl ?_
   refine TO_nil ?_
   refine sr ?_
   refine pv tb 1 rfl ?_
   refine TO_cons rfl (TOp_storeB sz48 rfl rfl rfl rfl rfl rfl rfl (by decide) (lb rfl) rfl ?_)
   refine TO_st (σ' := [.box [(sl tRelation db0.relations), (sl tFact db0.facts)], .box [(intA fact1.relation), (sl tInt fact1.values)], .box [(.m [3] 0 r_1.relations.length tRelation.k), (.m [6] 0 r_8.length tFact.k)], .row (flat tRelation.own r_1.relations), .dead, .box [(.m [3] 0 r_1.relations.length tRelation.k), (.m [6] 0 r_8.length tFact.k)], .row (flat tFact.own r_8)]) rfl ?_
   refine pv tb 1 rfl ?_
   refine TO_nil ?_
   refine T_ret ?_
   obtain rfl := some_inj H
   exact end_pick (.cellK rfl agg48 rfl (lb rfl) (.tmp .nil)) rfl [3, 6] (by decide) rfl rfl rfl rfl rfl rfl
theorem m_impl_DeleteFact_ok (db0 : Database) (fact1 : Fact) (r : (Database × Bool)) (H : m_impl_DeleteFact db0 fact1 = some r) : FnV prg 108 [(.g (tDatabase.enc db0)), (.g (tFact.enc fact1))] (.t [(.g (tDatabase.enc r.1)), (boolA r.2)]) := (m_impl_DeleteFact_own db0 fact1 r H).frz (frzOK_t (frz_cons (frzOK_g (frz_cons (frzT (T := tRelation) rfl) (frz_cons (frzT (T := tFact) rfl) frz_nil)).1 (frz_cons (frzT (T := tRelation) rfl) (frz_cons (frzT (T := tFact) rfl) frz_nil)).2) (frz_cons (frz_loose rfl) frz_nil)).1 (frz_cons (frzOK_g (frz_cons (frzT (T := tRelation) rfl) (frz_cons (frzT (T := tFact) rfl) frz_nil)).1 (frz_cons (frzT (T := tRelation) rfl) (frz_cons (frzT (T := tFact) rfl) frz_nil)).2) (frz_cons (frz_loose rfl) frz_nil)).2)

set_option maxHeartbeats 1000000 in
theorem m_slices_Insert_Simpl_Fact_impl_Fact_xo (s0 : List Fact) (i1 : Int) (v2 : List Fact) (r : List Fact) (H : m_slices_Insert_Simpl_Fact_impl_Fact s0 i1 v2 = some r) : FnS prg 174 [(.m [0] 0 s0.length tFact.k), (intA i1), (.m [1] 0 v2.length tFact.k)] [.row (flat tFact.own s0), .row (flat tFact.own v2)] (.m [2] 0 r.length tFact.k) [.dead, .dead, .row (flat tFact.own r)] := by
  unfold m_slices_Insert_Simpl_Fact_impl_Fact at H
  obtain ⟨i, rfl, h1, h2, h3, rfl⟩ := insAt_inv H
  clear H
  have hk0 : 0 < tFact.k := (sl46).pos
  obtain ⟨⟨inf, z, z1, z2, z3⟩, z4⟩ := (zero65 : ZeroT prg 65 [.int .i64 0, .slice none 0 0])
  have hk : inf.size = tFact.k := by obtain ⟨i2, g1, g2⟩ := (sl46).i; rw [z1] at g1; cases g1; exact g2
  have hby : inf.bytes = 32 := by have := (bytes65); rw [z1] at this; simpa using this
  have hzc : z.cells.size = tFact.k := by rw [show tFact.k = ([.int .i64 0, .slice none 0 0] : List Value).length from rfl, ← z3]; simp
  have h63 : s0.length + v2.length ≤ 140737488355328 := by omega
  have hik : i * tFact.k ≤ s0.length * tFact.k := Nat.mul_le_mul_right _ h1
  have hxl : (flat tFact.own s0).length = s0.length * tFact.k := flat_len tFact.lenO s0
  have hvl : (flat tFact.own v2).length = v2.length * tFact.k := flat_len tFact.lenO v2
  have hadd : (s0.length + v2.length) * tFact.k = s0.length * tFact.k + v2.length * tFact.k := Nat.add_mul ..
  have rowV : ∀ {F Λ w} {v : Value}, St F Λ [.row (flat tFact.own s0), .row (flat tFact.own v2)] w → OK F Λ w v (.m [1] 0 v2.length tFact.k) → ∃ bv ov cv csv tv, Λ [1] = some (bv, ov) ∧ v = .slice (some ⟨bv, ov, none⟩) v2.length cv ∧ w.heap[bv]? = some (.cells csv tv (0, 0)) ∧ ov + v2.length * tFact.k ≤ csv.size ∧ v2.length ≤ cv ∧ bv < w.heap.size ∧ RowCells F Λ w 1 (flat tFact.own v2) ((csv.toList.drop ov).take (v2.length * tFact.k)) := fun {F Λ w v} hs hv => by
   rcases hv.m_inv with ⟨h0, _⟩ | ⟨b, o1, cap, hL, g2, hN, hcap, cs, tv, g5, g6⟩
   ·omega
   ·have hle : v2.length * tFact.k ≤ cap * tFact.k := Nat.mul_le_mul_right _ hN
    refine ⟨b, o1, cap, cs, tv, hL, by simpa using g2, g5, by omega, hN, (Array.getElem?_eq_some_iff.1 g5).1, ?_⟩
    rw [← hvl]; exact hs.rowCells (l := 1) rfl hL g5 (by omega)
  refine fnS_of_T Try.func174 rfl rfl (lb rfl) ?_
  refine te [(0, (.m [0] 0 s0.length tFact.k)), (1, (intA (i : Int))), (2, (.m [1] 0 v2.length tFact.k))] rfl ?_
  refine sr ?_
  refine Tp rfl rfl (pur_assign rfl) rfl ?_
  refine TO_nil ?_
  refine te [(0, (.m [0] 0 s0.length tFact.k)), (1, (intA (i : Int))), (2, (.m [1] 0 v2.length tFact.k))] rfl ?_
  refine sr ?_
  refine Tp rfl rfl (pur_move rfl) rfl ?_
  refine Tp rfl rfl (pur_move rfl) rfl ?_
  refine Tp rfl rfl (pur_cutM (i := i) (j := s0.length) (lo := some (.tmp 11)) (hi := none) sl46 rfl ⟨_, rfl⟩ rfl h1 (Nat.le_refl _) rfl) rfl ?_
  refine TO_nil ?_
  refine te [(0, (.m [0] 0 s0.length tFact.k)), (1, (intA (i : Int))), (2, (.m [1] 0 v2.length tFact.k))] rfl ?_
  refine sr ?_
  refine Tp rfl rfl (pur_move rfl) rfl ?_
  refine Tp rfl rfl (pur_len_m sl46 rfl rfl) rfl ?_
  refine Tp rfl rfl (pur_assign rfl) rfl ?_
  refine TO_nil ?_
  refine te [(0, (.m [0] 0 s0.length tFact.k)), (1, (intA (i : Int))), (2, (.m [1] 0 v2.length tFact.k)), (7, (intA (v2.length : Int)))] rfl ?_
  refine T_seq ?_
  refine sr ?_
  refine Tp rfl rfl (pur_move rfl) rfl ?_
  refine Tp rfl rfl (pur_eql rfl rfl rfl) rfl ?_
  refine TO_nil ?_
  refine te [(0, (.m [0] 0 s0.length tFact.k)), (1, (intA (i : Int))), (2, (.m [1] 0 v2.length tFact.k)), (7, (intA (v2.length : Int))), (16, (boolA (decide ((v2.length : Int) = (0 : Int)))))] rfl ?_
  refine T_cond (t := decide ((v2.length : Int) = (0 : Int))) rfl (fun c => ?_) (fun c => ?_)
  ·exact absurd (of_decide_eq_true c) (by omega)
  refine T_skip ?_
  refine te [(0, (.m [0] 0 s0.length tFact.k)), (1, (intA (i : Int))), (2, (.m [1] 0 v2.length tFact.k)), (7, (intA (v2.length : Int)))] rfl ?_
  refine sr ?_
  refine Tp rfl rfl (pur_move rfl) rfl ?_
  refine Tp rfl rfl (pur_len_m sl46 rfl rfl) rfl ?_
  refine Tp rfl rfl (pur_assign rfl) rfl ?_
  refine TO_nil ?_
  refine te [(0, (.m [0] 0 s0.length tFact.k)), (1, (intA (i : Int))), (2, (.m [1] 0 v2.length tFact.k)), (7, (intA (v2.length : Int))), (8, (intA (s0.length : Int)))] rfl ?_
  refine T_seq ?_
  refine sr ?_
  refine Tp rfl rfl (pur_move rfl) rfl ?_
  refine Tp rfl rfl (pur_move rfl) rfl ?_
  refine Tp rfl rfl (pur_eql rfl rfl rfl) rfl ?_
  refine TO_nil ?_
  refine te [(0, (.m [0] 0 s0.length tFact.k)), (1, (intA (i : Int))), (2, (.m [1] 0 v2.length tFact.k)), (7, (intA (v2.length : Int))), (8, (intA (s0.length : Int))), (22, (boolA (decide ((i : Int) = (s0.length : Int)))))] rfl ?_
  refine T_cond (t := decide ((i : Int) = (s0.length : Int))) rfl (fun c2 => ?_) (fun c2 => ?_)
  ·have ei : i = s0.length := by have := of_decide_eq_true c2; omega
   refine fun F Λ w t0 Q n0 hs hf hq => ?_
   obtain ⟨bv, ov, cv, csv, tv, hLv, gv, hbv, hfv, hcv, hbvs, hvc⟩ := rowV hs (hf 2)
   have hvone := hvc.one
   have hvfirst : ∀ w1 : World, w1.heap = w.heap → _ := cut_first (P := prg) (k := tFact.k) (n := v2.length) (cap := cv) hbv hfv
   have hvget : ∀ j, j < v2.length * tFact.k → _ := cut_get (o' := ov) (q := v2.length * tFact.k) (cs := csv)
   obtain ⟨vc, hvcd⟩ : ∃ vc, vc = (csv.toList.drop ov).take (v2.length * tFact.k) := ⟨_, rfl⟩
   rw [← hvcd] at hvc hvone hvfirst hvget
   have hvcl : vc.length = v2.length * tFact.k := by rw [hvc.1, hvl]
   have hO : ∀ b, (∀ o1, Λ [0] ≠ some (b, o1)) ∨ True := fun b => .inr trivial
   have H : ∃ (ad : Option Addr) (cap : Nat) (w1 : World) (b2 o2 cap2 : Nat) (cs2 : Array Value) (t2 : TypeId) (xc : List Value), t0.getD 0 undef = .slice ad s0.length cap ∧ (∀ (t : Array Value) (o : Oper), o.op = .call { callee := .builtin .append, args := #[.tmp 23, .tmp 24], argTypes := #[46, 46] } → Act.eval ⟨t, []⟩ (.tmp 23) = .slice ad s0.length cap → Act.eval ⟨t, []⟩ (.tmp 24) = .slice (some ⟨bv, ov, none⟩) v2.length cv → (execOp (Act.eval ⟨t, []⟩) o).run prg w = .ok (.value (.slice (some ⟨b2, o2, none⟩) (s0.length + v2.length) cap2)) w1) ∧ RowCells F Λ w 0 (flat tFact.own s0) xc ∧ ((∃ o1, Λ [0] = some (b2, o1)) ∨ w.heap.size ≤ b2) ∧ w1.heap[b2]? = some (.cells cs2 t2 (0, 0)) ∧ (∀ b1, b1 < w.heap.size → (∀ o1, Λ [0] ≠ some (b1, o1)) → w1.heap[b1]? = w.heap[b1]?) ∧ Sizes w w1 ∧ w.heap.size ≤ w1.heap.size ∧ w1.os = w.os ∧ w1.tape = w.tape ∧ w1.output = w.output ∧ (∀ d, d < (s0.length + v2.length) * tFact.k → cs2[o2 + d]? = (xc.take (i * tFact.k) ++ vc ++ xc.drop (i * tFact.k))[d]?) ∧ s0.length + v2.length ≤ cap2 ∧ cap2 ≤ maxLen ∧ o2 + cap2 * tFact.k ≤ cs2.size := by
    have grow : ∀ (ad : Option Addr) (cap : Nat) (xc : List Value), t0.getD 0 undef = .slice ad s0.length cap → RowCells F Λ w 0 (flat tFact.own s0) xc → (Builtin.firstCells tFact.k s0.length (.slice ad s0.length cap)).run prg w.drew = .ok xc.toArray w.drew → cap < s0.length + v2.length → ∃ (ad : Option Addr) (cap : Nat) (w1 : World) (b2 o2 cap2 : Nat) (cs2 : Array Value) (t2 : TypeId) (xc : List Value), t0.getD 0 undef = .slice ad s0.length cap ∧ (∀ (t : Array Value) (o : Oper), o.op = .call { callee := .builtin .append, args := #[.tmp 23, .tmp 24], argTypes := #[46, 46] } → Act.eval ⟨t, []⟩ (.tmp 23) = .slice ad s0.length cap → Act.eval ⟨t, []⟩ (.tmp 24) = .slice (some ⟨bv, ov, none⟩) v2.length cv → (execOp (Act.eval ⟨t, []⟩) o).run prg w = .ok (.value (.slice (some ⟨b2, o2, none⟩) (s0.length + v2.length) cap2)) w1) ∧ RowCells F Λ w 0 (flat tFact.own s0) xc ∧ ((∃ o1, Λ [0] = some (b2, o1)) ∨ w.heap.size ≤ b2) ∧ w1.heap[b2]? = some (.cells cs2 t2 (0, 0)) ∧ (∀ b1, b1 < w.heap.size → (∀ o1, Λ [0] ≠ some (b1, o1)) → w1.heap[b1]? = w.heap[b1]?) ∧ Sizes w w1 ∧ w.heap.size ≤ w1.heap.size ∧ w1.os = w.os ∧ w1.tape = w.tape ∧ w1.output = w.output ∧ (∀ d, d < (s0.length + v2.length) * tFact.k → cs2[o2 + d]? = (xc.take (i * tFact.k) ++ vc ++ xc.drop (i * tFact.k))[d]?) ∧ s0.length + v2.length ≤ cap2 ∧ cap2 ≤ maxLen ∧ o2 + cap2 * tFact.k ≤ cs2.size := fun ad cap xc e0 hxc hold hg => by
     have hge := grownCap_ge w (s0.length + v2.length) cap 65
     have hcm : grownCap w (s0.length + v2.length) cap 65 ≤ maxLen := grownCap_le_maxLen w (s0.length + v2.length) cap 65 (by simp only [maxLen]; omega)
     have hxcl : xc.length = s0.length * tFact.k := by rw [hxc.1, hxl]
     refine ⟨ad, cap, _, w.heap.size, 0, _, _, 65, xc, e0, fun t o ho v1 v3 => run_appN (sl46).u z1 z2 ho v1 v3 (by rw [hk]; exact hold) (by rw [hk]; exact hvfirst w.drew rfl) hg (by omega) (by rw [hby]; exact growslice_fits hg h3), hxc, .inr (Nat.le_refl _), Go.heap_alloc_new w.drew _, fun b1 hb1 _ => by first | exact Go.heap_alloc_old w.drew _ hb1 | exact Go.heap_alloc_old w.drew _ b1 hb1, Sizes.alloc w.drew _, by simp, rfl, rfl, rfl, fun d hd => ?_, hge, hcm, ?_⟩
     ·rw [Nat.zero_add, Array.getElem?_append_left (by simp; omega), List.append_toArray, List.getElem?_toArray, ei]
      rw [List.take_of_length_le (by omega), List.drop_eq_nil_of_le (by omega), List.append_nil]
     ·simp only [Array.size_append, List.size_toArray, size_zeroCells, hzc, hxcl, hvcl]
      have hx : s0.length * tFact.k + v2.length * tFact.k + (grownCap w (s0.length + v2.length) cap 65 - (s0.length + v2.length)) * tFact.k = grownCap w (s0.length + v2.length) cap 65 * tFact.k := by rw [← Nat.add_mul, ← Nat.add_mul]; congr 1; omega
      omega
    rcases (hf 0).m_inv with ⟨hz, ad, g1⟩ | ⟨b, o1, cap, hL, g2, hN, hcap, cs, te, g5, g6⟩
    ·have e0 : s0 = [] := List.eq_nil_of_length_eq_zero hz
     exact grow ad 0 [] (by rw [hz]; exact g1) (by rw [e0]; exact .nil) (by rw [hz]; exact firstCells_zero w.drew _ ad 0) (by omega)
    ·simp only [Nat.add_zero] at g2 g6
     have hNk : s0.length * tFact.k ≤ cap * tFact.k := Nat.mul_le_mul_right _ hN
     have hrc := hs.rowCells (l := 0) rfl hL g5 (by omega)
     rw [hxl] at hrc
     by_cases hg : cap < s0.length + v2.length
     ·exact grow _ cap _ g2 hrc (cut_first (P := prg) (k := tFact.k) (n := s0.length) (cap := cap) g5 (by omega) w.drew rfl) hg
     ·have hfit : o1 + s0.length * inf.size + vc.length ≤ cs.size := by rw [hk, hvcl]; have := Nat.mul_le_mul_right tFact.k (show s0.length + v2.length ≤ cap by omega); omega
      refine ⟨_, cap, _, b, o1, cap, _, te, _, g2, fun t o ho v1 v3 => run_appX (sl46).u z1 ho v1 v3 (by rw [hk]; exact hvfirst w rfl) hvone g5 (by omega) hfit, hrc, .inl ⟨o1, hL⟩, (insAt_row g5 hfit).1, fun b1 _ hb1 => setRow_other w b b1 _ fun e => hb1 o1 (e ▸ hL), Sizes.one g5 (insAt_row g5 hfit).1 (insAt_row g5 hfit).2 fun b1 e => setRow_other w b b1 _ e, by simp [World.setRow], rfl, rfl, rfl, fun d hd => ?_, by omega, hcap, by rw [(insAt_row g5 hfit).2]; omega⟩
      have hxcl : ((cs.toList.drop o1).take (s0.length * tFact.k)).length = s0.length * tFact.k := by rw [hrc.1, hxl]
      have := insE (L0 := cs.toList) (o := o1) (xc := (cs.toList.drop o1).take (s0.length * tFact.k)) (vc := vc) (fun d hd => by rw [cut_get d (by omega), Array.getElem?_toList]) (by rw [hk] at hfit; rw [hxcl, Array.length_toList]; exact hfit) d (by rw [hxcl, hvcl]; omega)
      rw [List.getElem?_toArray, hk, ei, List.take_of_length_le (Nat.le_of_eq hxcl), List.drop_eq_nil_of_le (Nat.le_of_eq hxcl), List.append_nil]
      rw [hxcl] at this; exact this
   obtain ⟨ad, cap, w1, b2, o2, cap2, cs2, t2, xc, e0, hrun, a1, a2, a3, a4, a5, a6, a7, a8, a9, a10, a11, a12, a13⟩ := H
   have hturn := St.ins (Y := tFact) (m := 2) hs (l := 0) (r := 1) rfl rfl (by decide) h1 a1 hvc a2 a3 a4 a5 a6 a7 a8 a9 a10 a11 a12 a13
   have f0 := ((hf.know 2 gv).know 0 e0).weak (Pk.all (E' := [(0, .v (.slice ad s0.length cap)), (2, (.v (.slice (some ⟨bv, ov, none⟩) v2.length cv)))]) ⟨rfl, rfl, trivial⟩)
   refine wp_seq_list ?_
   refine rawL_cons rfl (purI_move rfl) rfl rfl n0 f0 fun t1 n1 f1 => ?_
   refine rawL_cons rfl (purI_move rfl) rfl rfl n1 f1 fun t2 n2 f2 => ?_
   refine rawL_run rfl (hrun t2 _ rfl ((val_ok (ds := []) f2 (.tmp 23)).v_inv (x := .slice ad s0.length cap)) ((val_ok (ds := []) f2 (.tmp 24)).v_inv (x := .slice (some ⟨bv, ov, none⟩) v2.length cv))) rfl rfl n2 (f2.vals (F' := F) (Λ' := Λ) (w' := w1) rfl) (r := .v (.slice (some ⟨b2, o2, none⟩) (s0.length + v2.length) cap2)) (.imm (.v _)) fun t3 n3 f3 => ?_
   refine rawL_cons rfl (purI_assign rfl) rfl rfl n3 f3 fun t4 n4 f4 => ?_
   refine rawL_nil ?_
   have f5 := f4.weak (Pk.all (E' := [(6, .v (.slice (some ⟨b2, o2, none⟩) (s0.length + v2.length) cap2))]) ⟨rfl, trivial⟩)
   refine T_ret (E := [(6, .m [2] 0 (s0.take i ++ v2 ++ s0.drop i).length tFact.k)]) (σ := [.dead, .dead, .row (flat tFact.own (s0.take i ++ v2 ++ s0.drop i))]) ?_ F _ w1 t4 Q n4 hturn.1.1 (f5.one hturn.2) fun e F2 Λ2 σ2 w2 tmps2 E2 hn2 hs2 hf2 hst2 hK2 => hq e F2 Λ2 σ2 w2 tmps2 E2 hn2 hs2 hf2 (hturn.1.2.trans hst2) hK2
   exact then_ret (end_pickX (.tmp .nil) rfl [0, 1, 2] (by decide) (lb rfl) rfl (lb rfl) rfl rfl rfl rfl rfl rfl)
  ·have hi : i < s0.length := by have := of_decide_eq_false c2; omega
   refine T_skip ?_
   refine fun F Λ w t0 Q n0 hs hf hq => ?_
   obtain ⟨bv, ov, cv, csv, tv, hLv, gv, hbv, hfv, hcv, hbvs, hvc⟩ := rowV hs (hf 2)
   have hvone := hvc.one
   have hvfirst : ∀ w1 : World, w1.heap = w.heap → _ := cut_first (P := prg) (k := tFact.k) (n := v2.length) (cap := cv) hbv hfv
   have hvget : ∀ j, j < v2.length * tFact.k → _ := cut_get (o' := ov) (q := v2.length * tFact.k) (cs := csv)
   obtain ⟨vc, hvcd⟩ : ∃ vc, vc = (csv.toList.drop ov).take (v2.length * tFact.k) := ⟨_, rfl⟩
   rw [← hvcd] at hvc hvone hvfirst hvget
   have hvcl : vc.length = v2.length * tFact.k := by rw [hvc.1, hvl]
   have hO : ∀ b, (∀ o1, Λ [0] ≠ some (b, o1)) ∨ True := fun b => .inr trivial
   rcases (hf 0).m_inv with ⟨hz, _⟩ | ⟨b, o1, cap, hL, g2, hN, hcap, cs, tw, g5, g6⟩
   ·omega
   simp only [Nat.add_zero] at g2 g6
   have hNk : s0.length * tFact.k ≤ cap * tFact.k := Nat.mul_le_mul_right _ hN
   have hrc := hs.rowCells (l := 0) rfl hL g5 (by omega)
   rw [hxl] at hrc
   have hbs : b < w.heap.size := (Array.getElem?_eq_some_iff.1 g5).1
   have hbv2 : bv ≠ b := fun e => by subst e; have := hs.apart [1] _ [0] _ _ _ _ rfl rfl hLv hL; simp at this
   have hxone := hrc.one
   have hxfirst : ∀ w1 : World, w1.heap = w.heap → _ := cut_first (P := prg) (o' := o1) (k := tFact.k) (n := i) (cap := cap) g5 (by omega)
   obtain ⟨xc, hxcd⟩ : ∃ xc, xc = (cs.toList.drop o1).take (s0.length * tFact.k) := ⟨_, rfl⟩
   have hxget : ∀ j, j < s0.length * tFact.k → xc[j]? = cs[o1 + j]? := fun j hj => by rw [hxcd]; exact cut_get j hj
   rw [← hxcd] at hrc hxone
   have hxcl : xc.length = s0.length * tFact.k := by rw [hrc.1, hxl]
   have hdl : (xc.drop (i * tFact.k)).length = (s0.length - i) * tFact.k := by rw [List.length_drop, hxcl, Nat.sub_mul]
   have hdone : ∀ u ∈ xc.drop (i * tFact.k), u.oneCell' = true := fun u hu => hxone u (List.mem_of_mem_drop hu)
   have him : (i + v2.length) * tFact.k = i * tFact.k + v2.length * tFact.k := Nat.add_mul ..
   have hnik : (s0.length - i) * tFact.k = s0.length * tFact.k - i * tFact.k := Nat.sub_mul ..
   have hw1 : Fits .i64 ((s0.length : Int) + (v2.length : Int)) ((s0.length + v2.length : Nat) : Int) := by show _ = IntKind.i64.wrap _; rw [IntKind.wrap_i64]; omega
   have hw2 : Fits .i64 (((s0.length + v2.length : Nat) : Int) - (i : Int)) ((s0.length + v2.length - i : Nat) : Int) := by show _ = IntKind.i64.wrap _; rw [IntKind.wrap_i64]; omega
   have hw3 : Fits .i64 ((i : Int) + (v2.length : Int)) ((i + v2.length : Nat) : Int) := by show _ = IntKind.i64.wrap _; rw [IntKind.wrap_i64]; omega
   have f0 := ((hf.know 2 gv).know 0 g2).weak (Pk.all (E' := [(0, .v (.slice (some ⟨b, o1, none⟩) s0.length cap)), (1, intA (i : Int)), (2, (.v (.slice (some ⟨bv, ov, none⟩) v2.length cv))), (7, intA (v2.length : Int)), (8, intA (s0.length : Int))]) ⟨rfl, rfl, rfl, rfl, rfl, trivial⟩)
   refine wp_seq (wp_seq_list ?_)
   refine rawL_cons rfl (purI_move rfl) rfl rfl n0 f0 fun t1 n1 f1 => ?_
   refine rawL_cons rfl (purI_move rfl) rfl rfl n1 f1 fun t2 n2 f2 => ?_
   refine rawL_cons rfl (purI_add (c := ((s0.length + v2.length : Nat) : Int)) rfl rfl rfl hw1) rfl rfl n2 f2 fun t3 n3 f3 => ?_
   refine rawL_cons rfl (purI_move rfl) rfl rfl n3 f3 fun t4 n4 f4 => ?_
   refine rawL_cons rfl (purI_capX (a := some ⟨b, o1, none⟩) (q := s0.length) (cap := cap) sl46 rfl rfl) rfl rfl n4 f4 fun t5 n5 f5 => ?_
   refine rawL_cons rfl (purI_gtr (a := ((s0.length + v2.length : Nat) : Int)) (b := (cap : Int)) rfl rfl rfl) rfl rfl n5 f5 fun t6 n6 f6 => ?_
   refine rawL_nil ?_
   have v31 : Act.eval ⟨t6, []⟩ (.tmp 31) = .bool (decide ((cap : Int) < ((s0.length + v2.length : Nat) : Int))) := (val_ok (ds := []) f6 (.tmp 31)).v_inv (x := .bool (decide ((cap : Int) < ((s0.length + v2.length : Nat) : Int))))
   have f106 := f6.weak (Pk.all (E' := [(0, .v (.slice (some ⟨b, o1, none⟩) s0.length cap)), (1, intA (i : Int)), (2, (.v (.slice (some ⟨bv, ov, none⟩) v2.length cv))), (7, intA (v2.length : Int)), (8, intA (s0.length : Int))]) ⟨rfl, rfl, rfl, rfl, rfl, trivial⟩)
   replace f6 := f106
   by_cases hg : cap < s0.length + v2.length
   ·rw [decide_eq_true (show (cap : Int) < ((s0.length + v2.length : Nat) : Int) by omega)] at v31
    refine wp_cond_true v31 ?_
    refine wp_seq_list ?_
    refine rawL_cons rfl (purI_move rfl) rfl rfl n6 f6 fun t7 n7 f7 => ?_
    refine rawL_cons rfl (purI_move rfl) rfl rfl n7 f7 fun t8 n8 f8 => ?_
    refine rawL_cons rfl (purI_cutA (lo := none) (y := .tmp 33) (b := b) (oo := o1) (q := s0.length) (cap := cap) (i := 0) (j := i) sl46 rfl rfl ⟨_, rfl⟩ (by omega) (by omega) (by omega) rfl) rfl rfl n8 f8 fun t9 n9 f9 => ?_
    refine rawL_cons rfl (purI_move rfl) rfl rfl n9 f9 fun t10 n10 f10 => ?_
    refine rawL_cons rfl (purI_move rfl) rfl rfl n10 f10 fun t11 n11 f11 => ?_
    refine rawL_cons rfl (purI_add (c := ((s0.length + v2.length : Nat) : Int)) rfl rfl rfl hw1) rfl rfl n11 f11 fun t12 n12 f12 => ?_
    refine rawL_cons rfl (purI_move rfl) rfl rfl n12 f12 fun t13 n13 f13 => ?_
    refine rawL_cons rfl (purI_sub (c := ((s0.length + v2.length - i : Nat) : Int)) rfl rfl rfl hw2) rfl rfl n13 f13 fun t14 n14 f14 => ?_
    have v34 : Act.eval ⟨t14, []⟩ (.tmp 34) = .slice (some ⟨b, o1 + 0 * tFact.k, none⟩) (i - 0) (cap - 0) := (val_ok (ds := []) f14 (.tmp 34)).v_inv (x := .slice (some ⟨b, o1 + 0 * tFact.k, none⟩) (i - 0) (cap - 0))
    rw [Nat.zero_mul, Nat.add_zero, Nat.sub_zero, Nat.sub_zero] at v34
    have v39 : Act.eval ⟨t14, []⟩ (.tmp 39) = .int .i64 ((s0.length + v2.length - i : Nat) : Int) := (val_ok (ds := []) f14 (.tmp 39)).v_inv (x := .int .i64 ((s0.length + v2.length - i : Nat) : Int))
    have hin : i + (s0.length + v2.length - i) = s0.length + v2.length := by omega
    have hrun : ∀ o : Oper, o.op = .call { callee := .builtin .append, args := #[.tmp 34, .tmp 39], argTypes := #[46, 3] } → _ := fun o ho => run_appZ (P := prg) (w := w) (tmps := t14) (kn := .i64) (sl46).u (by kernel_rfl) z1 z2 ho v34 v39 (by rw [hk]; exact hxfirst w.drew rfl) (by omega) (by omega) (by omega) (by omega) (by rw [hby]; omega) (by rw [hin, hby]; exact growslice_fits hg h3)
    rw [hin] at hrun
    have hge := grownCap_ge w (s0.length + v2.length) cap 65
    have hcm : grownCap w (s0.length + v2.length) cap 65 ≤ maxLen := grownCap_le_maxLen w (s0.length + v2.length) cap 65 (by simp only [maxLen]; omega)
    generalize grownCap w (s0.length + v2.length) cap 65 = G at hrun hge hcm
    obtain ⟨cur0, hcur0⟩ : ∃ cur0, cur0 = ((cs.toList.drop o1).take (i * tFact.k)).toArray ++ Builtin.zeroCells z.cells (s0.length + v2.length - i) ++ Builtin.zeroCells z.cells (G - (s0.length + v2.length)) := ⟨_, rfl⟩
    rw [← hcur0] at hrun
    have hol : ((cs.toList.drop o1).take (i * tFact.k)).length = i * tFact.k := by simp only [List.length_take, List.length_drop, Array.length_toList]; omega
    have hsz0 : cur0.size = G * tFact.k := by
     rw [hcur0]; simp only [Array.size_append, List.size_toArray, size_zeroCells, hzc, hol, ← Nat.add_mul]; congr 1; omega
    have hGk : (s0.length + v2.length) * tFact.k ≤ G * tFact.k := Nat.mul_le_mul_right _ hge
    have h00 : ∀ d, d < i * tFact.k → cur0.toList[d]? = xc[d]? := fun d hd => by
     rw [Array.getElem?_toList, hcur0, Array.getElem?_append_left (by simp only [Array.size_append, List.size_toArray, hol]; omega), Array.getElem?_append_left (by simp only [List.size_toArray, hol]; omega), List.getElem?_toArray, cut_get d hd, hxget d (by omega)]
    obtain ⟨W1, hW1⟩ : ∃ W1, W1 = w.drew.alloc (.cells cur0 65) := ⟨_, rfl⟩
    rw [← hW1] at hrun
    have hn1 : W1.heap[w.heap.size]? = some (.cells cur0 65 (0, 0)) := by rw [hW1]; exact Go.heap_alloc_new w.drew _
    have ho1 : ∀ b1, b1 < w.heap.size → W1.heap[b1]? = w.heap[b1]? := fun b1 hb1 => by rw [hW1]; first | exact Go.heap_alloc_old w.drew _ hb1 | exact Go.heap_alloc_old w.drew _ b1 hb1
    have hss1 : W1.heap.size = w.heap.size + 1 := by rw [hW1]; simp
    have hos1 : W1.os = w.os ∧ W1.tape = w.tape ∧ W1.output = w.output := by rw [hW1]; exact ⟨rfl, rfl, rfl⟩
    refine rawL_run rfl (hrun _ rfl) rfl rfl n14 (f14.vals (F' := F) (Λ' := Λ) (w' := W1) rfl) (r := .v (.slice (some ⟨w.heap.size, 0, none⟩) (s0.length + v2.length) G)) (.imm (.v _)) fun t15 n15 f15 => ?_
    refine rawL_cons rfl (purI_assign rfl) rfl rfl n15 f15 fun t16 n16 f16 => ?_
    refine rawL_nil ?_
    have f116 := f16.weak (Pk.all (E' := [(9, .v (.slice (some ⟨w.heap.size, 0, none⟩) (s0.length + v2.length) G)), (0, .v (.slice (some ⟨b, o1, none⟩) s0.length cap)), (1, intA (i : Int)), (2, (.v (.slice (some ⟨bv, ov, none⟩) v2.length cv))), (7, intA (v2.length : Int)), (8, intA (s0.length : Int))]) ⟨rfl, rfl, rfl, rfl, rfl, rfl, trivial⟩)
    replace f16 := f116
    refine wp_seq_list ?_
    refine rawL_cons rfl (purI_move rfl) rfl rfl n16 f16 fun t17 n17 f17 => ?_
    refine rawL_cons rfl (purI_move rfl) rfl rfl n17 f17 fun t18 n18 f18 => ?_
    refine rawL_cons rfl (purI_cutA1 (lo := some (.tmp 42)) (b := w.heap.size) (oo := 0) (q := s0.length + v2.length) (cap := G) (i := i) sl46 rfl ⟨_, rfl⟩ (by omega) hge (by omega) rfl) rfl rfl n18 f18 fun t19 n19 f19 => ?_
    refine rawL_cons rfl (purI_move rfl) rfl rfl n19 f19 fun t20 n20 f20 => ?_
    have v43 : Act.eval ⟨t20, []⟩ (.tmp 43) = .slice (some ⟨w.heap.size, 0 + i * tFact.k, none⟩) (s0.length + v2.length - i) (G - i) := (val_ok (ds := []) f20 (.tmp 43)).v_inv (x := .slice (some ⟨w.heap.size, 0 + i * tFact.k, none⟩) (s0.length + v2.length - i) (G - i))
    rw [Nat.zero_add] at v43
    have v44 : Act.eval ⟨t20, []⟩ (.tmp 44) = .slice (some ⟨bv, ov, none⟩) v2.length cv := (val_ok (ds := []) f20 (.tmp 44)).v_inv (x := .slice (some ⟨bv, ov, none⟩) v2.length cv)
    have hfit1 : i * tFact.k + vc.length ≤ cur0.size := by rw [hvcl, hsz0]; omega
    have hrun : ∀ o : Oper, o.op = .call { callee := .builtin .copy, args := #[.tmp 43, .tmp 44], argTypes := #[46, 46] } → _ := fun o ho => run_copyX (P := prg) (w := W1) (tmps := t20) (q := v2.length) (cs := vc) (sl46).u z1 ho v43 v44 (by omega) hn1 (by rw [hk]; exact hvcl) (fun j x hj => by
     have hjl : j < v2.length * tFact.k := by have := (List.getElem?_eq_some_iff.1 hj).1; omega
     rw [addr_add]; simp only [World.cell?, ho1 bv hbvs, hbv]; rw [← hvget j hjl]; exact hj) hfit1 hvone
    have hrow1 := insAt_row hn1 hfit1
    obtain ⟨cur1, hcur1⟩ : ∃ cur1, cur1 = (cur0.toList.take (i * tFact.k) ++ vc ++ cur0.toList.drop (i * tFact.k + vc.length)).toArray := ⟨_, rfl⟩
    rw [← hcur1] at hrun hrow1
    obtain ⟨W2, hW2⟩ : ∃ W2, W2 = W1.setRow w.heap.size cur1 := ⟨_, rfl⟩
    rw [← hW2] at hrun hrow1
    have ho2 : ∀ b1, b1 < w.heap.size → W2.heap[b1]? = w.heap[b1]? := fun b1 hb1 => by rw [hW2, setRow_other _ _ _ _ (by omega)]; exact ho1 b1 hb1
    have hss2 : W2.heap.size = w.heap.size + 1 := by rw [hW2]; simpa [World.setRow] using hss1
    have hos2 : W2.os = w.os ∧ W2.tape = w.tape ∧ W2.output = w.output := by rw [hW2]; exact hos1
    refine rawL_run rfl (hrun _ rfl) rfl rfl n20 (f20.vals (F' := F) (Λ' := Λ) (w' := W2) rfl) (r := .v (goInt v2.length)) (.imm (.v _)) fun t21 n21 f21 => ?_
    refine rawL_nil ?_
    have f121 := f21.weak (Pk.all (E' := [(9, .v (.slice (some ⟨w.heap.size, 0, none⟩) (s0.length + v2.length) G)), (0, .v (.slice (some ⟨b, o1, none⟩) s0.length cap)), (1, intA (i : Int)), (2, (.v (.slice (some ⟨bv, ov, none⟩) v2.length cv))), (7, intA (v2.length : Int)), (8, intA (s0.length : Int))]) ⟨rfl, rfl, rfl, rfl, rfl, rfl, trivial⟩)
    replace f21 := f121
    refine wp_seq_draw mixed ?_
    replace f21 := f21.vals (F' := F) (Λ' := Λ) (w' := { W2 with drawn := W2.drawn + 1 }) rfl
    refine raw_first 0 rfl (purI_move rfl) rfl rfl rfl (by kernel_rfl) n21 f21 fun t22 n22 f22 => ?_
    refine raw_first 1 rfl (purI_move rfl) rfl rfl rfl (by kernel_rfl) n22 f22 fun t23 n23 f23 => ?_
    refine raw_first 2 rfl (purI_move rfl) rfl rfl rfl (by kernel_rfl) n23 f23 fun t24 n24 f24 => ?_
    refine raw_first 3 rfl (purI_add (c := ((i + v2.length : Nat) : Int)) rfl rfl rfl hw3) rfl rfl rfl (by kernel_rfl) n24 f24 fun t25 n25 f25 => ?_
    refine raw_first 4 rfl (purI_cutA1 (lo := some (.tmp 49)) (b := w.heap.size) (oo := 0) (q := s0.length + v2.length) (cap := G) (i := i + v2.length) sl46 rfl ⟨_, rfl⟩ (by omega) hge (by omega) rfl) rfl rfl rfl (by kernel_rfl) n25 f25 fun t26 n26 f26 => ?_
    refine raw_first 5 rfl (purI_move rfl) rfl rfl rfl (by kernel_rfl) n26 f26 fun t27 n27 f27 => ?_
    refine raw_first 6 rfl (purI_move rfl) rfl rfl rfl (by kernel_rfl) n27 f27 fun t28 n28 f28 => ?_
    refine raw_first 7 rfl (purI_cutA1 (lo := some (.tmp 52)) (b := b) (oo := o1) (q := s0.length) (cap := cap) (i := i) sl46 rfl ⟨_, rfl⟩ h1 hN (by omega) rfl) rfl rfl rfl (by kernel_rfl) n28 f28 fun t29 n29 f29 => ?_
    have v50 : Act.eval ⟨t29, []⟩ (.tmp 50) = .slice (some ⟨w.heap.size, 0 + (i + v2.length) * tFact.k, none⟩) (s0.length + v2.length - (i + v2.length)) (G - (i + v2.length)) := (val_ok (ds := []) f29 (.tmp 50)).v_inv (x := .slice (some ⟨w.heap.size, 0 + (i + v2.length) * tFact.k, none⟩) (s0.length + v2.length - (i + v2.length)) (G - (i + v2.length)))
    rw [Nat.zero_add] at v50
    have v53 : Act.eval ⟨t29, []⟩ (.tmp 53) = .slice (some ⟨b, o1 + i * tFact.k, none⟩) (s0.length - i) (cap - i) := (val_ok (ds := []) f29 (.tmp 53)).v_inv (x := .slice (some ⟨b, o1 + i * tFact.k, none⟩) (s0.length - i) (cap - i))
    have hfit2 : (i + v2.length) * tFact.k + (xc.drop (i * tFact.k)).length ≤ cur1.size := by rw [hrow1.2, hsz0, hdl, him]; omega
    have hrun : ∀ o : Oper, o.op = .call { callee := .builtin .copy, args := #[.tmp 50, .tmp 53], argTypes := #[46, 46] } → _ := fun o ho => run_copyX (P := prg) (w := { W2 with drawn := W2.drawn + 1 }) (tmps := t29) (q := s0.length - i) (cs := xc.drop (i * tFact.k)) (cur := cur1) (te := 65) (sl46).u z1 ho v50 v53 (by omega) hrow1.1 (by rw [hk]; exact hdl) (fun j x hj => by
     have hjl : j < (s0.length - i) * tFact.k := by have := (List.getElem?_eq_some_iff.1 hj).1; omega
     rw [List.getElem?_drop, hxget _ (by omega)] at hj
     rw [addr_add]; simp only [World.cell?, ho2 b hbs, g5]; rw [Nat.add_assoc]; exact hj) hfit2 hdone
    have hrow2 := insAt_row (w := { W2 with drawn := W2.drawn + 1 }) hrow1.1 hfit2
    obtain ⟨cur2, hcur2⟩ : ∃ cur2, cur2 = (cur1.toList.take ((i + v2.length) * tFact.k) ++ xc.drop (i * tFact.k) ++ cur1.toList.drop ((i + v2.length) * tFact.k + (xc.drop (i * tFact.k)).length)).toArray := ⟨_, rfl⟩
    rw [← hcur2] at hrun hrow2
    obtain ⟨W3, hW3⟩ : ∃ W3, W3 = World.setRow { W2 with drawn := W2.drawn + 1 } w.heap.size cur2 := ⟨_, rfl⟩
    rw [← hW3] at hrun hrow2
    have ho3 : ∀ b1, b1 < w.heap.size → W3.heap[b1]? = w.heap[b1]? := fun b1 hb1 => by rw [hW3, setRow_other _ _ _ _ (by omega)]; exact ho2 b1 hb1
    have hss3 : W3.heap.size = w.heap.size + 1 := by rw [hW3]; simpa [World.setRow] using hss2
    have hos3 : W3.os = w.os ∧ W3.tape = w.tape ∧ W3.output = w.output := by rw [hW3]; exact hos2
    refine raw_one 8 (by kernel_rfl) rfl rfl rfl rfl n29 (hrun _ rfl) (f29.vals (F' := F) (Λ' := Λ) (w' := W3) rfl) (r := .v (goInt (s0.length - i : Nat))) (.imm (.v _)) fun t30 n30 f30 => ?_
    refine raw_nil (by kernel_rfl) ?_
    have f130 := f30.weak (Pk.all (E' := [(9, .v (.slice (some ⟨w.heap.size, 0, none⟩) (s0.length + v2.length) G))]) ⟨rfl, trivial⟩)
    replace f30 := f130
    have hturn := St.ins (Y := tFact) (m := 2) (w' := W3) hs (l := 0) (r := 1) (b2 := w.heap.size) (o2 := 0) (cap2 := G) rfl rfl (by decide) h1 hrc hvc (.inr (Nat.le_refl _)) hrow2.1 (fun b1 hb1 _ => ho3 b1 hb1) (Sizes.same ho3) (by omega) hos3.1 hos3.2.1 hos3.2.2 (fun d hd => by
     have := insB (L0 := cur0.toList) (xc := xc) (vc := vc) (a := i * tFact.k) (q := (i + v2.length) * tFact.k) h00 (by omega) (by rw [hxcl, hvcl, ← hadd, show cur0.toList.length = G * tFact.k from (Array.length_toList (xs := cur0)).trans hsz0]; exact hGk) (by rw [him, hvcl]) d (by rw [hxcl, hvcl, ← hadd]; exact hd)
     rw [Nat.zero_add, hcur2, List.getElem?_toArray, hcur1]; exact this) hge hcm (by rw [hrow2.2, hrow1.2, hsz0]; omega)
    refine T_fin (m := 2) (E := [(9, .m [2] 0 (s0.take i ++ v2 ++ s0.drop i).length tFact.k)]) (σ := [.dead, .dead, .row (flat tFact.own (s0.take i ++ v2 ++ s0.drop i))]) ?_ n30 hturn.1.1 (f30.one hturn.2) (fun F2 Λ2 σ2 w2 tmps2 E2 hn2 hs2 hf2 hst2 hK2 => hq .ret F2 Λ2 σ2 w2 tmps2 E2 hn2 hs2 hf2 (hturn.1.2.trans hst2) hK2)
    refine sr ?_
    refine Tp rfl rfl (pur_move rfl) rfl ?_
    refine Tp rfl rfl (pur_assign rfl) rfl ?_
    refine TO_nil ?_
    refine te [(6, (.m [2] 0 (s0.take i ++ v2 ++ s0.drop i).length tFact.k))] rfl ?_
    refine T_ret ?_
    exact ⟨rfl, end_pickX (.tmp .nil) rfl [0, 1, 2] (by decide) (lb rfl) rfl (lb rfl) rfl rfl rfl rfl rfl rfl⟩
   ·rw [decide_eq_false (show ¬ (cap : Int) < ((s0.length + v2.length : Nat) : Int) by omega)] at v31
    have hroom : s0.length + v2.length ≤ cap := by omega
    refine wp_cond_false v31 (wp_skip ?_)
    refine wp_seq_list ?_
    refine rawL_cons rfl (purI_move rfl) rfl rfl n6 f6 fun t7 n7 f7 => ?_
    refine rawL_cons rfl (purI_move rfl) rfl rfl n7 f7 fun t8 n8 f8 => ?_
    refine rawL_cons rfl (purI_move rfl) rfl rfl n8 f8 fun t9 n9 f9 => ?_
    refine rawL_cons rfl (purI_add (c := ((s0.length + v2.length : Nat) : Int)) rfl rfl rfl hw1) rfl rfl n9 f9 fun t10 n10 f10 => ?_
    refine rawL_cons rfl (purI_cutA (lo := none) (y := .tmp 59) (b := b) (oo := o1) (q := s0.length) (cap := cap) (i := 0) (j := s0.length + v2.length) sl46 rfl rfl ⟨_, rfl⟩ (by omega) hroom (by omega) rfl) rfl rfl n10 f10 fun t11 n11 f11 => ?_
    refine rawL_cons rfl (purI_assign rfl) rfl rfl n11 f11 fun t12 n12 f12 => ?_
    refine rawL_nil ?_
    have f112 := f12.weak (Pk.all (E' := [(0, .v (.slice (some ⟨b, o1 + 0 * tFact.k, none⟩) (s0.length + v2.length - 0) (cap - 0))), (1, intA (i : Int)), (2, (.v (.slice (some ⟨bv, ov, none⟩) v2.length cv))), (7, intA (v2.length : Int)), (8, intA (s0.length : Int))]) ⟨rfl, rfl, rfl, rfl, rfl, trivial⟩)
    rw [Nat.zero_mul, Nat.add_zero, Nat.sub_zero, Nat.sub_zero] at f112
    replace f12 := f112
    refine wp_seq (wp_seq_list ?_)
    refine rawL_cons rfl (purI_move rfl) rfl rfl n12 f12 fun t13 n13 f13 => ?_
    refine rawL_cons rfl (purI_move rfl) rfl rfl n13 f13 fun t14 n14 f14 => ?_
    refine rawL_cons rfl (purI_move rfl) rfl rfl n14 f14 fun t15 n15 f15 => ?_
    refine rawL_cons rfl (purI_move rfl) rfl rfl n15 f15 fun t16 n16 f16 => ?_
    refine rawL_cons rfl (purI_add (c := ((i + v2.length : Nat) : Int)) rfl rfl rfl hw3) rfl rfl n16 f16 fun t17 n17 f17 => ?_
    refine rawL_cons rfl (purI_cutA1 (lo := some (.tmp 65)) (b := b) (oo := o1) (q := s0.length + v2.length) (cap := cap) (i := i + v2.length) sl46 rfl ⟨_, rfl⟩ (by omega) hroom (by omega) rfl) rfl rfl n17 f17 fun t18 n18 f18 => ?_
    have v61 : Act.eval ⟨t18, []⟩ (.tmp 61) = .slice (some ⟨bv, ov, none⟩) v2.length cv := (val_ok (ds := []) f18 (.tmp 61)).v_inv (x := .slice (some ⟨bv, ov, none⟩) v2.length cv)
    have v66 : Act.eval ⟨t18, []⟩ (.tmp 66) = .slice (some ⟨b, o1 + (i + v2.length) * tFact.k, none⟩) (s0.length + v2.length - (i + v2.length)) (cap - (i + v2.length)) := (val_ok (ds := []) f18 (.tmp 66)).v_inv (x := .slice (some ⟨b, o1 + (i + v2.length) * tFact.k, none⟩) (s0.length + v2.length - (i + v2.length)) (cap - (i + v2.length)))
    have hcsz : cs.size ≠ 0 := by have := Nat.mul_pos (show 0 < cap by omega) hk0; omega
    have hrun : ∀ o : Oper, o.op = .call { callee := .value (.func 185), args := #[.tmp 61, .tmp 66], argTypes := #[46, 46] } → _ := fun o ho => run_overX (P := prg) (w := w) (tmps := t18) (tr := 4) (sl46).u z1 ho Try.func185 (by kernel_rfl) (by kernel_rfl) (by kernel_rfl) (by kernel_rfl) v61 v66 hbv2 hbv g5 hcsz
    refine rawL_run rfl (hrun _ rfl) rfl rfl n18 f18 (r := .v (.bool false)) (.imm (.v _)) fun t19 n19 f19 => ?_
    refine rawL_cons rfl (purI_not (b := false) rfl rfl) rfl rfl n19 f19 fun t20 n20 f20 => ?_
    refine rawL_nil ?_
    have v68 : Act.eval ⟨t20, []⟩ (.tmp 68) = .bool true := (val_ok (ds := []) f20 (.tmp 68)).v_inv (x := .bool true)
    have f120 := f20.weak (Pk.all (E' := [(0, .v (.slice (some ⟨b, o1, none⟩) (s0.length + v2.length) cap)), (1, intA (i : Int)), (2, (.v (.slice (some ⟨bv, ov, none⟩) v2.length cv))), (7, intA (v2.length : Int)), (8, intA (s0.length : Int))]) ⟨rfl, rfl, rfl, rfl, rfl, trivial⟩)
    replace f20 := f120
    refine wp_cond_true v68 ?_
    refine wp_seq_draw mixed ?_
    replace f20 := f20.vals (F' := F) (Λ' := Λ) (w' := { w with drawn := w.drawn + 1 }) rfl
    refine raw_first 0 rfl (purI_move rfl) rfl rfl rfl (by kernel_rfl) n20 f20 fun t21 n21 f21 => ?_
    refine raw_first 1 rfl (purI_move rfl) rfl rfl rfl (by kernel_rfl) n21 f21 fun t22 n22 f22 => ?_
    refine raw_first 2 rfl (purI_move rfl) rfl rfl rfl (by kernel_rfl) n22 f22 fun t23 n23 f23 => ?_
    refine raw_first 3 rfl (purI_add (c := ((i + v2.length : Nat) : Int)) rfl rfl rfl hw3) rfl rfl rfl (by kernel_rfl) n23 f23 fun t24 n24 f24 => ?_
    refine raw_first 4 rfl (purI_cutA1 (lo := some (.tmp 72)) (b := b) (oo := o1) (q := s0.length + v2.length) (cap := cap) (i := i + v2.length) sl46 rfl ⟨_, rfl⟩ (by omega) hroom (by omega) rfl) rfl rfl rfl (by kernel_rfl) n24 f24 fun t25 n25 f25 => ?_
    refine raw_first 5 rfl (purI_move rfl) rfl rfl rfl (by kernel_rfl) n25 f25 fun t26 n26 f26 => ?_
    refine raw_first 6 rfl (purI_move rfl) rfl rfl rfl (by kernel_rfl) n26 f26 fun t27 n27 f27 => ?_
    refine raw_first 7 rfl (purI_cutA1 (lo := some (.tmp 75)) (b := b) (oo := o1) (q := s0.length + v2.length) (cap := cap) (i := i) sl46 rfl ⟨_, rfl⟩ (by omega) hroom (by omega) rfl) rfl rfl rfl (by kernel_rfl) n27 f27 fun t28 n28 f28 => ?_
    have v73 : Act.eval ⟨t28, []⟩ (.tmp 73) = .slice (some ⟨b, o1 + (i + v2.length) * tFact.k, none⟩) (s0.length + v2.length - (i + v2.length)) (cap - (i + v2.length)) := (val_ok (ds := []) f28 (.tmp 73)).v_inv (x := .slice (some ⟨b, o1 + (i + v2.length) * tFact.k, none⟩) (s0.length + v2.length - (i + v2.length)) (cap - (i + v2.length)))
    have v76 : Act.eval ⟨t28, []⟩ (.tmp 76) = .slice (some ⟨b, o1 + i * tFact.k, none⟩) (s0.length + v2.length - i) (cap - i) := (val_ok (ds := []) f28 (.tmp 76)).v_inv (x := .slice (some ⟨b, o1 + i * tFact.k, none⟩) (s0.length + v2.length - i) (cap - i))
    have hck : (s0.length + v2.length) * tFact.k ≤ cap * tFact.k := Nat.mul_le_mul_right _ hroom
    have hfit1 : o1 + (i + v2.length) * tFact.k + (xc.drop (i * tFact.k)).length ≤ cs.size := by rw [hdl, him]; omega
    have hrun : ∀ o : Oper, o.op = .call { callee := .builtin .copy, args := #[.tmp 73, .tmp 76], argTypes := #[46, 46] } → _ := fun o ho => run_copyX (P := prg) (w := { w with drawn := w.drawn + 1 }) (tmps := t28) (q := s0.length - i) (cs := xc.drop (i * tFact.k)) (cur := cs) (te := tw) (sl46).u z1 ho v73 v76 (by omega) g5 (by rw [hk]; exact hdl) (fun j x hj => by
     have hjl : j < (s0.length - i) * tFact.k := by have := (List.getElem?_eq_some_iff.1 hj).1; omega
     rw [List.getElem?_drop, hxget _ (by omega)] at hj
     rw [addr_add]; simp only [World.cell?, g5]; rw [Nat.add_assoc]; exact hj) hfit1 hdone
    have hrow1 := insAt_row (w := { w with drawn := w.drawn + 1 }) g5 hfit1
    obtain ⟨cur1, hcur1⟩ : ∃ cur1, cur1 = (cs.toList.take (o1 + (i + v2.length) * tFact.k) ++ xc.drop (i * tFact.k) ++ cs.toList.drop (o1 + (i + v2.length) * tFact.k + (xc.drop (i * tFact.k)).length)).toArray := ⟨_, rfl⟩
    rw [← hcur1] at hrun hrow1
    obtain ⟨W2, hW2⟩ : ∃ W2, W2 = World.setRow { w with drawn := w.drawn + 1 } b cur1 := ⟨_, rfl⟩
    rw [← hW2] at hrun hrow1
    have ho2 : ∀ b1, b1 ≠ b → W2.heap[b1]? = w.heap[b1]? := fun b1 hb1 => by rw [hW2, setRow_other _ _ _ _ hb1]
    have hss2 : W2.heap.size = w.heap.size := by rw [hW2]; simp [World.setRow]
    have hos2 : W2.os = w.os ∧ W2.tape = w.tape ∧ W2.output = w.output := by rw [hW2]; exact ⟨rfl, rfl, rfl⟩
    refine raw_one 8 (by kernel_rfl) rfl rfl rfl rfl n28 (hrun _ rfl) (f28.vals (F' := F) (Λ' := Λ) (w' := W2) rfl) (r := .v (goInt (s0.length - i : Nat))) (.imm (.v _)) fun t29 n29 f29 => ?_
    refine raw_nil (by kernel_rfl) ?_
    have f129 := f29.weak (Pk.all (E' := [(0, .v (.slice (some ⟨b, o1, none⟩) (s0.length + v2.length) cap)), (1, intA (i : Int)), (2, (.v (.slice (some ⟨bv, ov, none⟩) v2.length cv))), (7, intA (v2.length : Int)), (8, intA (s0.length : Int))]) ⟨rfl, rfl, rfl, rfl, rfl, trivial⟩)
    replace f29 := f129
    refine wp_seq_list ?_
    refine rawL_cons rfl (purI_move rfl) rfl rfl n29 f29 fun t30 n30 f30 => ?_
    refine rawL_cons rfl (purI_move rfl) rfl rfl n30 f30 fun t31 n31 f31 => ?_
    refine rawL_cons rfl (purI_cutA1 (lo := some (.tmp 79)) (b := b) (oo := o1) (q := s0.length + v2.length) (cap := cap) (i := i) sl46 rfl ⟨_, rfl⟩ (by omega) hroom (by omega) rfl) rfl rfl n31 f31 fun t32 n32 f32 => ?_
    refine rawL_cons rfl (purI_move rfl) rfl rfl n32 f32 fun t33 n33 f33 => ?_
    have v80 : Act.eval ⟨t33, []⟩ (.tmp 80) = .slice (some ⟨b, o1 + i * tFact.k, none⟩) (s0.length + v2.length - i) (cap - i) := (val_ok (ds := []) f33 (.tmp 80)).v_inv (x := .slice (some ⟨b, o1 + i * tFact.k, none⟩) (s0.length + v2.length - i) (cap - i))
    have v81 : Act.eval ⟨t33, []⟩ (.tmp 81) = .slice (some ⟨bv, ov, none⟩) v2.length cv := (val_ok (ds := []) f33 (.tmp 81)).v_inv (x := .slice (some ⟨bv, ov, none⟩) v2.length cv)
    have hfit2 : o1 + i * tFact.k + vc.length ≤ cur1.size := by rw [hrow1.2, hvcl]; omega
    have hrun : ∀ o : Oper, o.op = .call { callee := .builtin .copy, args := #[.tmp 80, .tmp 81], argTypes := #[46, 46] } → _ := fun o ho => run_copyX (P := prg) (w := W2) (tmps := t33) (q := v2.length) (cs := vc) (cur := cur1) (te := tw) (sl46).u z1 ho v80 v81 (by omega) hrow1.1 (by rw [hk]; exact hvcl) (fun j x hj => by
     have hjl : j < v2.length * tFact.k := by have := (List.getElem?_eq_some_iff.1 hj).1; omega
     rw [addr_add]; simp only [World.cell?, ho2 bv hbv2, hbv]; rw [← hvget j hjl]; exact hj) hfit2 hvone
    have hrow2 := insAt_row hrow1.1 hfit2
    obtain ⟨cur2, hcur2⟩ : ∃ cur2, cur2 = (cur1.toList.take (o1 + i * tFact.k) ++ vc ++ cur1.toList.drop (o1 + i * tFact.k + vc.length)).toArray := ⟨_, rfl⟩
    rw [← hcur2] at hrun hrow2
    obtain ⟨W3, hW3⟩ : ∃ W3, W3 = World.setRow W2 b cur2 := ⟨_, rfl⟩
    rw [← hW3] at hrun hrow2
    have ho3 : ∀ b1, b1 ≠ b → W3.heap[b1]? = w.heap[b1]? := fun b1 hb1 => by rw [hW3, setRow_other _ _ _ _ hb1]; exact ho2 b1 hb1
    have hss3 : W3.heap.size = w.heap.size := by rw [hW3]; simpa [World.setRow] using hss2
    have hos3 : W3.os = w.os ∧ W3.tape = w.tape ∧ W3.output = w.output := by rw [hW3]; exact hos2
    refine rawL_run rfl (hrun _ rfl) rfl rfl n33 (f33.vals (F' := F) (Λ' := Λ) (w' := W3) rfl) (r := .v (goInt v2.length)) (.imm (.v _)) fun t34 n34 f34 => ?_
    refine rawL_nil ?_
    have f134 := f34.weak (Pk.all (E' := [(0, .v (.slice (some ⟨b, o1, none⟩) (s0.length + v2.length) cap))]) ⟨rfl, trivial⟩)
    replace f34 := f134
    have hturn := St.ins (Y := tFact) (m := 2) (w' := W3) hs (l := 0) (r := 1) (b2 := b) (o2 := o1) (cap2 := cap) rfl rfl (by decide) h1 hrc hvc (.inl ⟨o1, hL⟩) hrow2.1 (fun b1 hb1 h => ho3 b1 fun e => h o1 (e ▸ hL)) (Sizes.one g5 hrow2.1 (by rw [hrow2.2, hrow1.2]) ho3) (by omega) hos3.1 hos3.2.1 hos3.2.2 (fun d hd => by
     have := insC (L0 := cs.toList) (xc := xc) (vc := vc) (o := o1) (a := i * tFact.k) (q := o1 + (i + v2.length) * tFact.k) (fun d hd => by rw [Array.getElem?_toList]; exact (hxget d (by omega)).symm) (by omega) (by rw [hxcl, hvcl, show cs.toList.length = cs.size from Array.length_toList (xs := cs)]; omega) (by rw [him, hvcl]; omega) d (by rw [hxcl, hvcl, ← hadd]; exact hd)
     rw [hcur2, List.getElem?_toArray, hcur1]; exact this) hroom hcap (by rw [hrow2.2, hrow1.2]; omega)
    refine T_fin (m := 2) (E := [(0, .m [2] 0 (s0.take i ++ v2 ++ s0.drop i).length tFact.k)]) (σ := [.dead, .dead, .row (flat tFact.own (s0.take i ++ v2 ++ s0.drop i))]) ?_ n34 hturn.1.1 (f34.one hturn.2) (fun F2 Λ2 σ2 w2 tmps2 E2 hn2 hs2 hf2 hst2 hK2 => hq .ret F2 Λ2 σ2 w2 tmps2 E2 hn2 hs2 hf2 (hturn.1.2.trans hst2) hK2)
    refine sr ?_
    refine Tp rfl rfl (pur_move rfl) rfl ?_
    refine Tp rfl rfl (pur_assign rfl) rfl ?_
    refine TO_nil ?_
    refine te [(6, (.m [2] 0 (s0.take i ++ v2 ++ s0.drop i).length tFact.k))] rfl ?_
    refine T_ret ?_
    exact ⟨rfl, end_pickX (.tmp .nil) rfl [0, 1, 2] (by decide) (lb rfl) rfl (lb rfl) rfl rfl rfl rfl rfl rfl⟩

end Go.Proofs.Ytjdpolnakhmkmaa

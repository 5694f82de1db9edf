import Derived.Test.YtjdpolnakhmkmaaM1
import Derived.Test.YtjdpolnakhmkmaaM2
import Derived.Test.YtjdpolnakhmkmaaM4
import Derived.Test.YtjdpolnakhmkmaaM5
set_option linter.unusedVariables false
set_option linter.unusedSimpArgs false
set_option maxRecDepth 4000
namespace Go.Proofs.Ytjdpolnakhmkmaa
open Go Go.Proofs Go.Sep
set_option maxHeartbeats 1000000 in
theorem m_slices_Insert_Simpl_Fact_impl_Fact_xo (s0 : List Fact) (i1 : Int) (v2 : List Fact) (r : List Fact) (H : m_slices_Insert_Simpl_Fact_impl_Fact s0 i1 v2 = some r) : FnS prg 174 [(.m [0] 0 s0.length tFact.k), (intA i1), (.m [1] 0 v2.length tFact.k)] [.row (flat tFact.own s0), .row (flat tFact.own v2)] (.m [2] 0 r.length tFact.k) [.dead, .dead, .row (flat tFact.own r)] := by
  unfold m_slices_Insert_Simpl_Fact_impl_Fact at H
  obtain ⟨i, rfl, h1, h2, h3, rfl⟩ := insAt_inv H
  clear H
  have hk0 : 0 < tFact.k := (sl46).pos
  obtain ⟨⟨inf, z, z1, z2, z3⟩, z4⟩ := (zero65 : ZeroT prg 65 [.int .i64 0, .slice none 0 0])
  have hk : inf.size = tFact.k := by obtain ⟨i2, g1, g2⟩ := (sl46).i; rw [z1] at g1; cases g1; exact g2
  have hby : inf.bytes = 32 := by have := (bytes65); rw [z1] at this; simpa using this
  have hzc : z.cells.size = tFact.k := by rw [show tFact.k = ([.int .i64 0, .slice none 0 0] : List Value).length from rfl, ← z3]; simp
  have h63 : s0.length + v2.length ≤ 140737488355328 := by omega
  have hik : i * tFact.k ≤ s0.length * tFact.k := Nat.mul_le_mul_right _ h1
  have hxl : (flat tFact.own s0).length = s0.length * tFact.k := flat_len tFact.lenO s0
  have hvl : (flat tFact.own v2).length = v2.length * tFact.k := flat_len tFact.lenO v2
  have hadd : (s0.length + v2.length) * tFact.k = s0.length * tFact.k + v2.length * tFact.k := Nat.add_mul ..
  have rowV : ∀ {F Λ w} {v : Value}, St F Λ [.row (flat tFact.own s0), .row (flat tFact.own v2)] w → OK F Λ w v (.m [1] 0 v2.length tFact.k) → ∃ bv ov cv csv tv, Λ [1] = some (bv, ov) ∧ v = .slice (some ⟨bv, ov, none⟩) v2.length cv ∧ w.heap[bv]? = some (.cells csv tv (0, 0)) ∧ ov + v2.length * tFact.k ≤ csv.size ∧ v2.length ≤ cv ∧ bv < w.heap.size ∧ RowCells F Λ w 1 (flat tFact.own v2) ((csv.toList.drop ov).take (v2.length * tFact.k)) := fun {F Λ w v} hs hv => by
   rcases hv.m_inv with ⟨h0, _⟩ | ⟨b, o1, cap, hL, g2, hN, hcap, cs, tv, g5, g6⟩
   ·omega
   ·have hle : v2.length * tFact.k ≤ cap * tFact.k := Nat.mul_le_mul_right _ hN
    refine ⟨b, o1, cap, cs, tv, hL, by simpa using g2, g5, by omega, hN, (Array.getElem?_eq_some_iff.1 g5).1, ?_⟩
    rw [← hvl]; exact hs.rowCells (l := 1) rfl hL g5 (by omega)
  refine fnS_of_T Try.func174 rfl rfl (lb rfl) ?_
  refine te [(0, (.m [0] 0 s0.length tFact.k)), (1, (intA (i : Int))), (2, (.m [1] 0 v2.length tFact.k))] rfl ?_
  refine sr ?_
  refine Tp rfl rfl (pur_assign rfl) rfl ?_
  refine TO_nil ?_
  refine te [(0, (.m [0] 0 s0.length tFact.k)), (1, (intA (i : Int))), (2, (.m [1] 0 v2.length tFact.k))] rfl ?_
  refine sr ?_
  refine Tp rfl rfl (pur_move rfl) rfl ?_
  refine Tp rfl rfl (pur_move rfl) rfl ?_
  refine Tp rfl rfl (pur_cutM (i := i) (j := s0.length) (lo := some (.tmp 11)) (hi := none) sl46 rfl ⟨_, rfl⟩ rfl h1 (Nat.le_refl _) rfl) rfl ?_
  refine TO_nil ?_
  refine te [(0, (.m [0] 0 s0.length tFact.k)), (1, (intA (i : Int))), (2, (.m [1] 0 v2.length tFact.k))] rfl ?_
  refine sr ?_
  refine Tp rfl rfl (pur_move rfl) rfl ?_
  refine Tp rfl rfl (pur_len_m sl46 rfl rfl) rfl ?_
  refine Tp rfl rfl (pur_assign rfl) rfl ?_
  refine TO_nil ?_
  refine te [(0, (.m [0] 0 s0.length tFact.k)), (1, (intA (i : Int))), (2, (.m [1] 0 v2.length tFact.k)), (7, (intA (v2.length : Int)))] rfl ?_
  refine T_seq ?_
  refine sr ?_
  refine Tp rfl rfl (pur_move rfl) rfl ?_
  refine Tp rfl rfl (pur_eql rfl rfl rfl) rfl ?_
  refine TO_nil ?_
  refine te [(0, (.m [0] 0 s0.length tFact.k)), (1, (intA (i : Int))), (2, (.m [1] 0 v2.length tFact.k)), (7, (intA (v2.length : Int))), (16, (boolA (decide ((v2.length : Int) = (0 : Int)))))] rfl ?_
  refine T_cond (t := decide ((v2.length : Int) = (0 : Int))) rfl (fun c => ?_) (fun c => ?_)
  ·exact absurd (of_decide_eq_true c) (by omega)
  refine T_skip ?_
  refine te [(0, (.m [0] 0 s0.length tFact.k)), (1, (intA (i : Int))), (2, (.m [1] 0 v2.length tFact.k)), (7, (intA (v2.length : Int)))] rfl ?_
  refine sr ?_
  refine Tp rfl rfl (pur_move rfl) rfl ?_
  refine Tp rfl rfl (pur_len_m sl46 rfl rfl) rfl ?_
  refine Tp rfl rfl (pur_assign rfl) rfl ?_
  refine TO_nil ?_
  refine te [(0, (.m [0] 0 s0.length tFact.k)), (1, (intA (i : Int))), (2, (.m [1] 0 v2.length tFact.k)), (7, (intA (v2.length : Int))), (8, (intA (s0.length : Int)))] rfl ?_
  refine T_seq ?_
  refine sr ?_
  refine Tp rfl rfl (pur_move rfl) rfl ?_
  refine Tp rfl rfl (pur_move rfl) rfl ?_
  refine Tp rfl rfl (pur_eql rfl rfl rfl) rfl ?_
  refine TO_nil ?_
  refine te [(0, (.m [0] 0 s0.length tFact.k)), (1, (intA (i : Int))), (2, (.m [1] 0 v2.length tFact.k)), (7, (intA (v2.length : Int))), (8, (intA (s0.length : Int))), (22, (boolA (decide ((i : Int) = (s0.length : Int)))))] rfl ?_
  refine T_cond (t := decide ((i : Int) = (s0.length : Int))) rfl (fun c2 => ?_) (fun c2 => ?_)
  ·have ei : i = s0.length := by have := of_decide_eq_true c2; omega
   refine fun F Λ w t0 Q n0 hs hf hq => ?_
   obtain ⟨bv, ov, cv, csv, tv, hLv, gv, hbv, hfv, hcv, hbvs, hvc⟩ := rowV hs (hf 2)
   have hvone := hvc.one
   have hvfirst : ∀ w1 : World, w1.heap = w.heap → _ := cut_first (P := prg) (k := tFact.k) (n := v2.length) (cap := cv) hbv hfv
   have hvget : ∀ j, j < v2.length * tFact.k → _ := cut_get (o' := ov) (q := v2.length * tFact.k) (cs := csv)
   obtain ⟨vc, hvcd⟩ : ∃ vc, vc = (csv.toList.drop ov).take (v2.length * tFact.k) := ⟨_, rfl⟩
   rw [← hvcd] at hvc hvone hvfirst hvget
   have hvcl : vc.length = v2.length * tFact.k := by rw [hvc.1, hvl]
   have hO : ∀ b, (∀ o1, Λ [0] ≠ some (b, o1)) ∨ True := fun b => .inr trivial
   have H : ∃ (ad : Option Addr) (cap : Nat) (w1 : World) (b2 o2 cap2 : Nat) (cs2 : Array Value) (t2 : TypeId) (xc : List Value), t0.getD 0 undef = .slice ad s0.length cap ∧ (∀ (t : Array Value) (o : Oper), o.op = .call { callee := .builtin .append, args := #[.tmp 23, .tmp 24], argTypes := #[46, 46] } → Act.eval ⟨t, []⟩ (.tmp 23) = .slice ad s0.length cap → Act.eval ⟨t, []⟩ (.tmp 24) = .slice (some ⟨bv, ov, none⟩) v2.length cv → (execOp (Act.eval ⟨t, []⟩) o).run prg w = .ok (.value (.slice (some ⟨b2, o2, none⟩) (s0.length + v2.length) cap2)) w1) ∧ RowCells F Λ w 0 (flat tFact.own s0) xc ∧ ((∃ o1, Λ [0] = some (b2, o1)) ∨ w.heap.size ≤ b2) ∧ w1.heap[b2]? = some (.cells cs2 t2 (0, 0)) ∧ (∀ b1, b1 < w.heap.size → (∀ o1, Λ [0] ≠ some (b1, o1)) → w1.heap[b1]? = w.heap[b1]?) ∧ Sizes w w1 ∧ w.heap.size ≤ w1.heap.size ∧ w1.os = w.os ∧ w1.tape = w.tape ∧ w1.output = w.output ∧ (∀ d, d < (s0.length + v2.length) * tFact.k → cs2[o2 + d]? = (xc.take (i * tFact.k) ++ vc ++ xc.drop (i * tFact.k))[d]?) ∧ s0.length + v2.length ≤ cap2 ∧ cap2 ≤ maxLen ∧ o2 + cap2 * tFact.k ≤ cs2.size := by
    have grow : ∀ (ad : Option Addr) (cap : Nat) (xc : List Value), t0.getD 0 undef = .slice ad s0.length cap → RowCells F Λ w 0 (flat tFact.own s0) xc → (Builtin.firstCells tFact.k s0.length (.slice ad s0.length cap)).run prg w.drew = .ok xc.toArray w.drew → cap < s0.length + v2.length → ∃ (ad : Option Addr) (cap : Nat) (w1 : World) (b2 o2 cap2 : Nat) (cs2 : Array Value) (t2 : TypeId) (xc : List Value), t0.getD 0 undef = .slice ad s0.length cap ∧ (∀ (t : Array Value) (o : Oper), o.op = .call { callee := .builtin .append, args := #[.tmp 23, .tmp 24], argTypes := #[46, 46] } → Act.eval ⟨t, []⟩ (.tmp 23) = .slice ad s0.length cap → Act.eval ⟨t, []⟩ (.tmp 24) = .slice (some ⟨bv, ov, none⟩) v2.length cv → (execOp (Act.eval ⟨t, []⟩) o).run prg w = .ok (.value (.slice (some ⟨b2, o2, none⟩) (s0.length + v2.length) cap2)) w1) ∧ RowCells F Λ w 0 (flat tFact.own s0) xc ∧ ((∃ o1, Λ [0] = some (b2, o1)) ∨ w.heap.size ≤ b2) ∧ w1.heap[b2]? = some (.cells cs2 t2 (0, 0)) ∧ (∀ b1, b1 < w.heap.size → (∀ o1, Λ [0] ≠ some (b1, o1)) → w1.heap[b1]? = w.heap[b1]?) ∧ Sizes w w1 ∧ w.heap.size ≤ w1.heap.size ∧ w1.os = w.os ∧ w1.tape = w.tape ∧ w1.output = w.output ∧ (∀ d, d < (s0.length + v2.length) * tFact.k → cs2[o2 + d]? = (xc.take (i * tFact.k) ++ vc ++ xc.drop (i * tFact.k))[d]?) ∧ s0.length + v2.length ≤ cap2 ∧ cap2 ≤ maxLen ∧ o2 + cap2 * tFact.k ≤ cs2.size := fun ad cap xc e0 hxc hold hg => by
     have hge := grownCap_ge w (s0.length + v2.length) cap 65
     have hcm : grownCap w (s0.length + v2.length) cap 65 ≤ maxLen := grownCap_le_maxLen w (s0.length + v2.length) cap 65 (by simp only [maxLen]; omega)
     have hxcl : xc.length = s0.length * tFact.k := by rw [hxc.1, hxl]
     refine ⟨ad, cap, _, w.heap.size, 0, _, _, 65, xc, e0, fun t o ho v1 v3 => run_appN (sl46).u z1 z2 ho v1 v3 (by rw [hk]; exact hold) (by rw [hk]; exact hvfirst w.drew rfl) hg (by omega) (by rw [hby]; exact growslice_fits hg h3), hxc, .inr (Nat.le_refl _), Go.heap_alloc_new w.drew _, fun b1 hb1 _ => by first | exact Go.heap_alloc_old w.drew _ hb1 | exact Go.heap_alloc_old w.drew _ b1 hb1, Sizes.alloc w.drew _, by simp, rfl, rfl, rfl, fun d hd => ?_, hge, hcm, ?_⟩
     ·rw [Nat.zero_add, Array.getElem?_append_left (by simp; omega), List.append_toArray, List.getElem?_toArray, ei]
      rw [List.take_of_length_le (by omega), List.drop_eq_nil_of_le (by omega), List.append_nil]
     ·simp only [Array.size_append, List.size_toArray, size_zeroCells, hzc, hxcl, hvcl]
      have hx : s0.length * tFact.k + v2.length * tFact.k + (grownCap w (s0.length + v2.length) cap 65 - (s0.length + v2.length)) * tFact.k = grownCap w (s0.length + v2.length) cap 65 * tFact.k := by rw [← Nat.add_mul, ← Nat.add_mul]; congr 1; omega
      omega
    rcases (hf 0).m_inv with ⟨hz, ad, g1⟩ | ⟨b, o1, cap, hL, g2, hN, hcap, cs, te, g5, g6⟩
    ·have e0 : s0 = [] := List.eq_nil_of_length_eq_zero hz
     exact grow ad 0 [] (by rw [hz]; exact g1) (by rw [e0]; exact .nil) (by rw [hz]; exact firstCells_zero w.drew _ ad 0) (by omega)
    ·simp only [Nat.add_zero] at g2 g6
     have hNk : s0.length * tFact.k ≤ cap * tFact.k := Nat.mul_le_mul_right _ hN
     have hrc := hs.rowCells (l := 0) rfl hL g5 (by omega)
     rw [hxl] at hrc
     by_cases hg : cap < s0.length + v2.length
     ·exact grow _ cap _ g2 hrc (cut_first (P := prg) (k := tFact.k) (n := s0.length) (cap := cap) g5 (by omega) w.drew rfl) hg
     ·have hfit : o1 + s0.length * inf.size + vc.length ≤ cs.size := by rw [hk, hvcl]; have := Nat.mul_le_mul_right tFact.k (show s0.length + v2.length ≤ cap by omega); omega
      refine ⟨_, cap, _, b, o1, cap, _, te, _, g2, fun t o ho v1 v3 => run_appX (sl46).u z1 ho v1 v3 (by rw [hk]; exact hvfirst w rfl) hvone g5 (by omega) hfit, hrc, .inl ⟨o1, hL⟩, (insAt_row g5 hfit).1, fun b1 _ hb1 => setRow_other w b b1 _ fun e => hb1 o1 (e ▸ hL), Sizes.one g5 (insAt_row g5 hfit).1 (insAt_row g5 hfit).2 fun b1 e => setRow_other w b b1 _ e, by simp [World.setRow], rfl, rfl, rfl, fun d hd => ?_, by omega, hcap, by rw [(insAt_row g5 hfit).2]; omega⟩
      have hxcl : ((cs.toList.drop o1).take (s0.length * tFact.k)).length = s0.length * tFact.k := by rw [hrc.1, hxl]
      have := insE (L0 := cs.toList) (o := o1) (xc := (cs.toList.drop o1).take (s0.length * tFact.k)) (vc := vc) (fun d hd => by rw [cut_get d (by omega), Array.getElem?_toList]) (by rw [hk] at hfit; rw [hxcl, Array.length_toList]; exact hfit) d (by rw [hxcl, hvcl]; omega)
      rw [List.getElem?_toArray, hk, ei, List.take_of_length_le (Nat.le_of_eq hxcl), List.drop_eq_nil_of_le (Nat.le_of_eq hxcl), List.append_nil]
      rw [hxcl] at this; exact this
   obtain ⟨ad, cap, w1, b2, o2, cap2, cs2, t2, xc, e0, hrun, a1, a2, a3, a4, a5, a6, a7, a8, a9, a10, a11, a12, a13⟩ := H
   have hturn := St.ins (Y := tFact) (m := 2) hs (l := 0) (r := 1) rfl rfl (by decide) h1 a1 hvc a2 a3 a4 a5 a6 a7 a8 a9 a10 a11 a12 a13
   have f0 := ((hf.know 2 gv).know 0 e0).weak (Pk.all (E' := [(0, .v (.slice ad s0.length cap)), (2, (.v (.slice (some ⟨bv, ov, none⟩) v2.length cv)))]) ⟨rfl, rfl, trivial⟩)
   refine wp_seq_list ?_
   refine rawL_cons rfl (purI_move rfl) rfl rfl n0 f0 fun t1 n1 f1 => ?_
   refine rawL_cons rfl (purI_move rfl) rfl rfl n1 f1 fun t2 n2 f2 => ?_
   refine rawL_run rfl (hrun t2 _ rfl ((val_ok (ds := []) f2 (.tmp 23)).v_inv (x := .slice ad s0.length cap)) ((val_ok (ds := []) f2 (.tmp 24)).v_inv (x := .slice (some ⟨bv, ov, none⟩) v2.length cv))) rfl rfl n2 (f2.vals (F' := F) (Λ' := Λ) (w' := w1) rfl) (r := .v (.slice (some ⟨b2, o2, none⟩) (s0.length + v2.length) cap2)) (.imm (.v _)) fun t3 n3 f3 => ?_
   refine rawL_cons rfl (purI_assign rfl) rfl rfl n3 f3 fun t4 n4 f4 => ?_
   refine rawL_nil ?_
   have f5 := f4.weak (Pk.all (E' := [(6, .v (.slice (some ⟨b2, o2, none⟩) (s0.length + v2.length) cap2))]) ⟨rfl, trivial⟩)
   refine T_ret (E := [(6, .m [2] 0 (s0.take i ++ v2 ++ s0.drop i).length tFact.k)]) (σ := [.dead, .dead, .row (flat tFact.own (s0.take i ++ v2 ++ s0.drop i))]) ?_ F _ w1 t4 Q n4 hturn.1.1 (f5.one hturn.2) fun e F2 Λ2 σ2 w2 tmps2 E2 hn2 hs2 hf2 hst2 hK2 => hq e F2 Λ2 σ2 w2 tmps2 E2 hn2 hs2 hf2 (hturn.1.2.trans hst2) hK2
   exact then_ret (end_pickX (.tmp .nil) rfl [0, 1, 2] (by decide) (lb rfl) rfl (lb rfl) rfl rfl rfl rfl rfl rfl)
  ·have hi : i < s0.length := by have := of_decide_eq_false c2; omega
   refine T_skip ?_
   refine fun F Λ w t0 Q n0 hs hf hq => ?_
   obtain ⟨bv, ov, cv, csv, tv, hLv, gv, hbv, hfv, hcv, hbvs, hvc⟩ := rowV hs (hf 2)
   have hvone := hvc.one
   have hvfirst : ∀ w1 : World, w1.heap = w.heap → _ := cut_first (P := prg) (k := tFact.k) (n := v2.length) (cap := cv) hbv hfv
   have hvget : ∀ j, j < v2.length * tFact.k → _ := cut_get (o' := ov) (q := v2.length * tFact.k) (cs := csv)
   obtain ⟨vc, hvcd⟩ : ∃ vc, vc = (csv.toList.drop ov).take (v2.length * tFact.k) := ⟨_, rfl⟩
   rw [← hvcd] at hvc hvone hvfirst hvget
   have hvcl : vc.length = v2.length * tFact.k := by rw [hvc.1, hvl]
   have hO : ∀ b, (∀ o1, Λ [0] ≠ some (b, o1)) ∨ True := fun b => .inr trivial
   rcases (hf 0).m_inv with ⟨hz, _⟩ | ⟨b, o1, cap, hL, g2, hN, hcap, cs, tw, g5, g6⟩
   ·omega
   simp only [Nat.add_zero] at g2 g6
   have hNk : s0.length * tFact.k ≤ cap * tFact.k := Nat.mul_le_mul_right _ hN
   have hrc := hs.rowCells (l := 0) rfl hL g5 (by omega)
   rw [hxl] at hrc
   have hbs : b < w.heap.size := (Array.getElem?_eq_some_iff.1 g5).1
   have hbv2 : bv ≠ b := fun e => by subst e; have := hs.apart [1] _ [0] _ _ _ _ rfl rfl hLv hL; simp at this
   have hxone := hrc.one
   have hxfirst : ∀ w1 : World, w1.heap = w.heap → _ := cut_first (P := prg) (o' := o1) (k := tFact.k) (n := i) (cap := cap) g5 (by omega)
   obtain ⟨xc, hxcd⟩ : ∃ xc, xc = (cs.toList.drop o1).take (s0.length * tFact.k) := ⟨_, rfl⟩
   have hxget : ∀ j, j < s0.length * tFact.k → xc[j]? = cs[o1 + j]? := fun j hj => by rw [hxcd]; exact cut_get j hj
   rw [← hxcd] at hrc hxone
   have hxcl : xc.length = s0.length * tFact.k := by rw [hrc.1, hxl]
   have hdl : (xc.drop (i * tFact.k)).length = (s0.length - i) * tFact.k := by rw [List.length_drop, hxcl, Nat.sub_mul]
   have hdone : ∀ u ∈ xc.drop (i * tFact.k), u.oneCell' = true := fun u hu => hxone u (List.mem_of_mem_drop hu)
   have him : (i + v2.length) * tFact.k = i * tFact.k + v2.length * tFact.k := Nat.add_mul ..
   have hnik : (s0.length - i) * tFact.k = s0.length * tFact.k - i * tFact.k := Nat.sub_mul ..
   have hw1 : Fits .i64 ((s0.length : Int) + (v2.length : Int)) ((s0.length + v2.length : Nat) : Int) := by show _ = IntKind.i64.wrap _; rw [IntKind.wrap_i64]; omega
   have hw2 : Fits .i64 (((s0.length + v2.length : Nat) : Int) - (i : Int)) ((s0.length + v2.length - i : Nat) : Int) := by show _ = IntKind.i64.wrap _; rw [IntKind.wrap_i64]; omega
   have hw3 : Fits .i64 ((i : Int) + (v2.length : Int)) ((i + v2.length : Nat) : Int) := by show _ = IntKind.i64.wrap _; rw [IntKind.wrap_i64]; omega
   have f0 := ((hf.know 2 gv).know 0 g2).weak (Pk.all (E' := [(0, .v (.slice (some ⟨b, o1, none⟩) s0.length cap)), (1, intA (i : Int)), (2, (.v (.slice (some ⟨bv, ov, none⟩) v2.length cv))), (7, intA (v2.length : Int)), (8, intA (s0.length : Int))]) ⟨rfl, rfl, rfl, rfl, rfl, trivial⟩)
   refine wp_seq (wp_seq_list ?_)
   refine rawL_cons rfl (purI_move rfl) rfl rfl n0 f0 fun t1 n1 f1 => ?_
   refine rawL_cons rfl (purI_move rfl) rfl rfl n1 f1 fun t2 n2 f2 => ?_
   refine rawL_cons rfl (purI_add (c := ((s0.length + v2.length : Nat) : Int)) rfl rfl rfl hw1) rfl rfl n2 f2 fun t3 n3 f3 => ?_
   refine rawL_cons rfl (purI_move rfl) rfl rfl n3 f3 fun t4 n4 f4 => ?_
   refine rawL_cons rfl (purI_capX (a := some ⟨b, o1, none⟩) (q := s0.length) (cap := cap) sl46 rfl rfl) rfl rfl n4 f4 fun t5 n5 f5 => ?_
   refine rawL_cons rfl (purI_gtr (a := ((s0.length + v2.length : Nat) : Int)) (b := (cap : Int)) rfl rfl rfl) rfl rfl n5 f5 fun t6 n6 f6 => ?_
   refine rawL_nil ?_
   have v31 : Act.eval ⟨t6, []⟩ (.tmp 31) = .bool (decide ((cap : Int) < ((s0.length + v2.length : Nat) : Int))) := (val_ok (ds := []) f6 (.tmp 31)).v_inv (x := .bool (decide ((cap : Int) < ((s0.length + v2.length : Nat) : Int))))
   have f106 := f6.weak (Pk.all (E' := [(0, .v (.slice (some ⟨b, o1, none⟩) s0.length cap)), (1, intA (i : Int)), (2, (.v (.slice (some ⟨bv, ov, none⟩) v2.length cv))), (7, intA (v2.length : Int)), (8, intA (s0.length : Int))]) ⟨rfl, rfl, rfl, rfl, rfl, trivial⟩)
   replace f6 := f106
   by_cases hg : cap < s0.length + v2.length
   ·rw [decide_eq_true (show (cap : Int) < ((s0.length + v2.length : Nat) : Int) by omega)] at v31
    refine wp_cond_true v31 ?_
    refine wp_seq_list ?_
    refine rawL_cons rfl (purI_move rfl) rfl rfl n6 f6 fun t7 n7 f7 => ?_
    refine rawL_cons rfl (purI_move rfl) rfl rfl n7 f7 fun t8 n8 f8 => ?_
    refine rawL_cons rfl (purI_cutA (lo := none) (y := .tmp 33) (b := b) (oo := o1) (q := s0.length) (cap := cap) (i := 0) (j := i) sl46 rfl rfl ⟨_, rfl⟩ (by omega) (by omega) (by omega) rfl) rfl rfl n8 f8 fun t9 n9 f9 => ?_
    refine rawL_cons rfl (purI_move rfl) rfl rfl n9 f9 fun t10 n10 f10 => ?_
    refine rawL_cons rfl (purI_move rfl) rfl rfl n10 f10 fun t11 n11 f11 => ?_
    refine rawL_cons rfl (purI_add (c := ((s0.length + v2.length : Nat) : Int)) rfl rfl rfl hw1) rfl rfl n11 f11 fun t12 n12 f12 => ?_
    refine rawL_cons rfl (purI_move rfl) rfl rfl n12 f12 fun t13 n13 f13 => ?_
    refine rawL_cons rfl (purI_sub (c := ((s0.length + v2.length - i : Nat) : Int)) rfl rfl rfl hw2) rfl rfl n13 f13 fun t14 n14 f14 => ?_
    have v34 : Act.eval ⟨t14, []⟩ (.tmp 34) = .slice (some ⟨b, o1 + 0 * tFact.k, none⟩) (i - 0) (cap - 0) := (val_ok (ds := []) f14 (.tmp 34)).v_inv (x := .slice (some ⟨b, o1 + 0 * tFact.k, none⟩) (i - 0) (cap - 0))
    rw [Nat.zero_mul, Nat.add_zero, Nat.sub_zero, Nat.sub_zero] at v34
    have v39 : Act.eval ⟨t14, []⟩ (.tmp 39) = .int .i64 ((s0.length + v2.length - i : Nat) : Int) := (val_ok (ds := []) f14 (.tmp 39)).v_inv (x := .int .i64 ((s0.length + v2.length - i : Nat) : Int))
    have hin : i + (s0.length + v2.length - i) = s0.length + v2.length := by omega
    have hrun : ∀ o : Oper, o.op = .call { callee := .builtin .append, args := #[.tmp 34, .tmp 39], argTypes := #[46, 3] } → _ := fun o ho => run_appZ (P := prg) (w := w) (tmps := t14) (kn := .i64) (sl46).u (by kernel_rfl) z1 z2 ho v34 v39 (by rw [hk]; exact hxfirst w.drew rfl) (by omega) (by omega) (by omega) (by omega) (by rw [hby]; omega) (by rw [hin, hby]; exact growslice_fits hg h3)
    rw [hin] at hrun
    have hge := grownCap_ge w (s0.length + v2.length) cap 65
    have hcm : grownCap w (s0.length + v2.length) cap 65 ≤ maxLen := grownCap_le_maxLen w (s0.length + v2.length) cap 65 (by simp only [maxLen]; omega)
    generalize grownCap w (s0.length + v2.length) cap 65 = G at hrun hge hcm
    obtain ⟨cur0, hcur0⟩ : ∃ cur0, cur0 = ((cs.toList.drop o1).take (i * tFact.k)).toArray ++ Builtin.zeroCells z.cells (s0.length + v2.length - i) ++ Builtin.zeroCells z.cells (G - (s0.length + v2.length)) := ⟨_, rfl⟩
    rw [← hcur0] at hrun
    have hol : ((cs.toList.drop o1).take (i * tFact.k)).length = i * tFact.k := by simp only [List.length_take, List.length_drop, Array.length_toList]; omega
    have hsz0 : cur0.size = G * tFact.k := by
     rw [hcur0]; simp only [Array.size_append, List.size_toArray, size_zeroCells, hzc, hol, ← Nat.add_mul]; congr 1; omega
    have hGk : (s0.length + v2.length) * tFact.k ≤ G * tFact.k := Nat.mul_le_mul_right _ hge
    have h00 : ∀ d, d < i * tFact.k → cur0.toList[d]? = xc[d]? := fun d hd => by
     rw [Array.getElem?_toList, hcur0, Array.getElem?_append_left (by simp only [Array.size_append, List.size_toArray, hol]; omega), Array.getElem?_append_left (by simp only [List.size_toArray, hol]; omega), List.getElem?_toArray, cut_get d hd, hxget d (by omega)]
    obtain ⟨W1, hW1⟩ : ∃ W1, W1 = w.drew.alloc (.cells cur0 65) := ⟨_, rfl⟩
    rw [← hW1] at hrun
    have hn1 : W1.heap[w.heap.size]? = some (.cells cur0 65 (0, 0)) := by rw [hW1]; exact Go.heap_alloc_new w.drew _
    have ho1 : ∀ b1, b1 < w.heap.size → W1.heap[b1]? = w.heap[b1]? := fun b1 hb1 => by rw [hW1]; first | exact Go.heap_alloc_old w.drew _ hb1 | exact Go.heap_alloc_old w.drew _ b1 hb1
    have hss1 : W1.heap.size = w.heap.size + 1 := by rw [hW1]; simp
    have hos1 : W1.os = w.os ∧ W1.tape = w.tape ∧ W1.output = w.output := by rw [hW1]; exact ⟨rfl, rfl, rfl⟩
    refine rawL_run rfl (hrun _ rfl) rfl rfl n14 (f14.vals (F' := F) (Λ' := Λ) (w' := W1) rfl) (r := .v (.slice (some ⟨w.heap.size, 0, none⟩) (s0.length + v2.length) G)) (.imm (.v _)) fun t15 n15 f15 => ?_
    refine rawL_cons rfl (purI_assign rfl) rfl rfl n15 f15 fun t16 n16 f16 => ?_
    refine rawL_nil ?_
    have f116 := f16.weak (Pk.all (E' := [(9, .v (.slice (some ⟨w.heap.size, 0, none⟩) (s0.length + v2.length) G)), (0, .v (.slice (some ⟨b, o1, none⟩) s0.length cap)), (1, intA (i : Int)), (2, (.v (.slice (some ⟨bv, ov, none⟩) v2.length cv))), (7, intA (v2.length : Int)), (8, intA (s0.length : Int))]) ⟨rfl, rfl, rfl, rfl, rfl, rfl, trivial⟩)
    replace f16 := f116
    refine wp_seq_list ?_
    refine rawL_cons rfl (purI_move rfl) rfl rfl n16 f16 fun t17 n17 f17 => ?_
    refine rawL_cons rfl (purI_move rfl) rfl rfl n17 f17 fun t18 n18 f18 => ?_
    refine rawL_cons rfl (purI_cutA1 (lo := some (.tmp 42)) (b := w.heap.size) (oo := 0) (q := s0.length + v2.length) (cap := G) (i := i) sl46 rfl ⟨_, rfl⟩ (by omega) hge (by omega) rfl) rfl rfl n18 f18 fun t19 n19 f19 => ?_
    refine rawL_cons rfl (purI_move rfl) rfl rfl n19 f19 fun t20 n20 f20 => ?_
    have v43 : Act.eval ⟨t20, []⟩ (.tmp 43) = .slice (some ⟨w.heap.size, 0 + i * tFact.k, none⟩) (s0.length + v2.length - i) (G - i) := (val_ok (ds := []) f20 (.tmp 43)).v_inv (x := .slice (some ⟨w.heap.size, 0 + i * tFact.k, none⟩) (s0.length + v2.length - i) (G - i))
    rw [Nat.zero_add] at v43
    have v44 : Act.eval ⟨t20, []⟩ (.tmp 44) = .slice (some ⟨bv, ov, none⟩) v2.length cv := (val_ok (ds := []) f20 (.tmp 44)).v_inv (x := .slice (some ⟨bv, ov, none⟩) v2.length cv)
    have hfit1 : i * tFact.k + vc.length ≤ cur0.size := by rw [hvcl, hsz0]; omega
    have hrun : ∀ o : Oper, o.op = .call { callee := .builtin .copy, args := #[.tmp 43, .tmp 44], argTypes := #[46, 46] } → _ := fun o ho => run_copyX (P := prg) (w := W1) (tmps := t20) (q := v2.length) (cs := vc) (sl46).u z1 ho v43 v44 (by omega) hn1 (by rw [hk]; exact hvcl) (fun j x hj => by
     have hjl : j < v2.length * tFact.k := by have := (List.getElem?_eq_some_iff.1 hj).1; omega
     rw [addr_add]; simp only [World.cell?, ho1 bv hbvs, hbv]; rw [← hvget j hjl]; exact hj) hfit1 hvone
    have hrow1 := insAt_row hn1 hfit1
    obtain ⟨cur1, hcur1⟩ : ∃ cur1, cur1 = (cur0.toList.take (i * tFact.k) ++ vc ++ cur0.toList.drop (i * tFact.k + vc.length)).toArray := ⟨_, rfl⟩
    rw [← hcur1] at hrun hrow1
    obtain ⟨W2, hW2⟩ : ∃ W2, W2 = W1.setRow w.heap.size cur1 := ⟨_, rfl⟩
    rw [← hW2] at hrun hrow1
    have ho2 : ∀ b1, b1 < w.heap.size → W2.heap[b1]? = w.heap[b1]? := fun b1 hb1 => by rw [hW2, setRow_other _ _ _ _ (by omega)]; exact ho1 b1 hb1
    have hss2 : W2.heap.size = w.heap.size + 1 := by rw [hW2]; simpa [World.setRow] using hss1
    have hos2 : W2.os = w.os ∧ W2.tape = w.tape ∧ W2.output = w.output := by rw [hW2]; exact hos1
    refine rawL_run rfl (hrun _ rfl) rfl rfl n20 (f20.vals (F' := F) (Λ' := Λ) (w' := W2) rfl) (r := .v (goInt v2.length)) (.imm (.v _)) fun t21 n21 f21 => ?_
    refine rawL_nil ?_
    have f121 := f21.weak (Pk.all (E' := [(9, .v (.slice (some ⟨w.heap.size, 0, none⟩) (s0.length + v2.length) G)), (0, .v (.slice (some ⟨b, o1, none⟩) s0.length cap)), (1, intA (i : Int)), (2, (.v (.slice (some ⟨bv, ov, none⟩) v2.length cv))), (7, intA (v2.length : Int)), (8, intA (s0.length : Int))]) ⟨rfl, rfl, rfl, rfl, rfl, rfl, trivial⟩)
    replace f21 := f121
    refine wp_seq_draw mixed ?_
    replace f21 := f21.vals (F' := F) (Λ' := Λ) (w' := { W2 with drawn := W2.drawn + 1 }) rfl
    refine raw_first 0 rfl (purI_move rfl) rfl rfl rfl (by kernel_rfl) n21 f21 fun t22 n22 f22 => ?_
    refine raw_first 1 rfl (purI_move rfl) rfl rfl rfl (by kernel_rfl) n22 f22 fun t23 n23 f23 => ?_
    refine raw_first 2 rfl (purI_move rfl) rfl rfl rfl (by kernel_rfl) n23 f23 fun t24 n24 f24 => ?_
    refine raw_first 3 rfl (purI_add (c := ((i + v2.length : Nat) : Int)) rfl rfl rfl hw3) rfl rfl rfl (by kernel_rfl) n24 f24 fun t25 n25 f25 => ?_
    refine raw_first 4 rfl (purI_cutA1 (lo := some (.tmp 49)) (b := w.heap.size) (oo := 0) (q := s0.length + v2.length) (cap := G) (i := i + v2.length) sl46 rfl ⟨_, rfl⟩ (by omega) hge (by omega) rfl) rfl rfl rfl (by kernel_rfl) n25 f25 fun t26 n26 f26 => ?_
    refine raw_first 5 rfl (purI_move rfl) rfl rfl rfl (by kernel_rfl) n26 f26 fun t27 n27 f27 => ?_
    refine raw_first 6 rfl (purI_move rfl) rfl rfl rfl (by kernel_rfl) n27 f27 fun t28 n28 f28 => ?_
    refine raw_first 7 rfl (purI_cutA1 (lo := some (.tmp 52)) (b := b) (oo := o1) (q := s0.length) (cap := cap) (i := i) sl46 rfl ⟨_, rfl⟩ h1 hN (by omega) rfl) rfl rfl rfl (by kernel_rfl) n28 f28 fun t29 n29 f29 => ?_
    have v50 : Act.eval ⟨t29, []⟩ (.tmp 50) = .slice (some ⟨w.heap.size, 0 + (i + v2.length) * tFact.k, none⟩) (s0.length + v2.length - (i + v2.length)) (G - (i + v2.length)) := (val_ok (ds := []) f29 (.tmp 50)).v_inv (x := .slice (some ⟨w.heap.size, 0 + (i + v2.length) * tFact.k, none⟩) (s0.length + v2.length - (i + v2.length)) (G - (i + v2.length)))
    rw [Nat.zero_add] at v50
    have v53 : Act.eval ⟨t29, []⟩ (.tmp 53) = .slice (some ⟨b, o1 + i * tFact.k, none⟩) (s0.length - i) (cap - i) := (val_ok (ds := []) f29 (.tmp 53)).v_inv (x := .slice (some ⟨b, o1 + i * tFact.k, none⟩) (s0.length - i) (cap - i))
    have hfit2 : (i + v2.length) * tFact.k + (xc.drop (i * tFact.k)).length ≤ cur1.size := by rw [hrow1.2, hsz0, hdl, him]; omega
    have hrun : ∀ o : Oper, o.op = .call { callee := .builtin .copy, args := #[.tmp 50, .tmp 53], argTypes := #[46, 46] } → _ := fun o ho => run_copyX (P := prg) (w := { W2 with drawn := W2.drawn + 1 }) (tmps := t29) (q := s0.length - i) (cs := xc.drop (i * tFact.k)) (cur := cur1) (te := 65) (sl46).u z1 ho v50 v53 (by omega) hrow1.1 (by rw [hk]; exact hdl) (fun j x hj => by
     have hjl : j < (s0.length - i) * tFact.k := by have := (List.getElem?_eq_some_iff.1 hj).1; omega
     rw [List.getElem?_drop, hxget _ (by omega)] at hj
     rw [addr_add]; simp only [World.cell?, ho2 b hbs, g5]; rw [Nat.add_assoc]; exact hj) hfit2 hdone
    have hrow2 := insAt_row (w := { W2 with drawn := W2.drawn + 1 }) hrow1.1 hfit2
    obtain ⟨cur2, hcur2⟩ : ∃ cur2, cur2 = (cur1.toList.take ((i + v2.length) * tFact.k) ++ xc.drop (i * tFact.k) ++ cur1.toList.drop ((i + v2.length) * tFact.k + (xc.drop (i * tFact.k)).length)).toArray := ⟨_, rfl⟩
    rw [← hcur2] at hrun hrow2
    obtain ⟨W3, hW3⟩ : ∃ W3, W3 = World.setRow { W2 with drawn := W2.drawn + 1 } w.heap.size cur2 := ⟨_, rfl⟩
    rw [← hW3] at hrun hrow2
    have ho3 : ∀ b1, b1 < w.heap.size → W3.heap[b1]? = w.heap[b1]? := fun b1 hb1 => by rw [hW3, setRow_other _ _ _ _ (by omega)]; exact ho2 b1 hb1
    have hss3 : W3.heap.size = w.heap.size + 1 := by rw [hW3]; simpa [World.setRow] using hss2
    have hos3 : W3.os = w.os ∧ W3.tape = w.tape ∧ W3.output = w.output := by rw [hW3]; exact hos2
    refine raw_one 8 (by kernel_rfl) rfl rfl rfl rfl n29 (hrun _ rfl) (f29.vals (F' := F) (Λ' := Λ) (w' := W3) rfl) (r := .v (goInt (s0.length - i : Nat))) (.imm (.v _)) fun t30 n30 f30 => ?_
    refine raw_nil (by kernel_rfl) ?_
    have f130 := f30.weak (Pk.all (E' := [(9, .v (.slice (some ⟨w.heap.size, 0, none⟩) (s0.length + v2.length) G))]) ⟨rfl, trivial⟩)
    replace f30 := f130
    have hturn := St.ins (Y := tFact) (m := 2) (w' := W3) hs (l := 0) (r := 1) (b2 := w.heap.size) (o2 := 0) (cap2 := G) rfl rfl (by decide) h1 hrc hvc (.inr (Nat.le_refl _)) hrow2.1 (fun b1 hb1 _ => ho3 b1 hb1) (Sizes.same ho3) (by omega) hos3.1 hos3.2.1 hos3.2.2 (fun d hd => by
     have := insB (L0 := cur0.toList) (xc := xc) (vc := vc) (a := i * tFact.k) (q := (i + v2.length) * tFact.k) h00 (by omega) (by rw [hxcl, hvcl, ← hadd, show cur0.toList.length = G * tFact.k from (Array.length_toList (xs := cur0)).trans hsz0]; exact hGk) (by rw [him, hvcl]) d (by rw [hxcl, hvcl, ← hadd]; exact hd)
     rw [Nat.zero_add, hcur2, List.getElem?_toArray, hcur1]; exact this) hge hcm (by rw [hrow2.2, hrow1.2, hsz0]; omega)
    refine T_fin (m := 2) (E := [(9, .m [2] 0 (s0.take i ++ v2 ++ s0.drop i).length tFact.k)]) (σ := [.dead, .dead, .row (flat tFact.own (s0.take i ++ v2 ++ s0.drop i))]) ?_ n30 hturn.1.1 (f30.one hturn.2) (fun F2 Λ2 σ2 w2 tmps2 E2 hn2 hs2 hf2 hst2 hK2 => hq .ret F2 Λ2 σ2 w2 tmps2 E2 hn2 hs2 hf2 (hturn.1.2.trans hst2) hK2)
    refine sr ?_
    refine Tp rfl rfl (pur_move rfl) rfl ?_
    refine Tp rfl rfl (pur_assign rfl) rfl ?_
    refine TO_nil ?_
    refine te [(6, (.m [2] 0 (s0.take i ++ v2 ++ s0.drop i).length tFact.k))] rfl ?_
    refine T_ret ?_
    exact ⟨rfl, end_pickX (.tmp .nil) rfl [0, 1, 2] (by decide) (lb rfl) rfl (lb rfl) rfl rfl rfl rfl rfl rfl⟩
   ·rw [decide_eq_false (show ¬ (cap : Int) < ((s0.length + v2.length : Nat) : Int) by omega)] at v31
    have hroom : s0.length + v2.length ≤ cap := by omega
    refine wp_cond_false v31 (wp_skip ?_)
    refine wp_seq_list ?_
    refine rawL_cons rfl (purI_move rfl) rfl rfl n6 f6 fun t7 n7 f7 => ?_
    refine rawL_cons rfl (purI_move rfl) rfl rfl n7 f7 fun t8 n8 f8 => ?_
    refine rawL_cons rfl (purI_move rfl) rfl rfl n8 f8 fun t9 n9 f9 => ?_
    refine rawL_cons rfl (purI_add (c := ((s0.length + v2.length : Nat) : Int)) rfl rfl rfl hw1) rfl rfl n9 f9 fun t10 n10 f10 => ?_
    refine rawL_cons rfl (purI_cutA (lo := none) (y := .tmp 59) (b := b) (oo := o1) (q := s0.length) (cap := cap) (i := 0) (j := s0.length + v2.length) sl46 rfl rfl ⟨_, rfl⟩ (by omega) hroom (by omega) rfl) rfl rfl n10 f10 fun t11 n11 f11 => ?_
    refine rawL_cons rfl (purI_assign rfl) rfl rfl n11 f11 fun t12 n12 f12 => ?_
    refine rawL_nil ?_
    have f112 := f12.weak (Pk.all (E' := [(0, .v (.slice (some ⟨b, o1 + 0 * tFact.k, none⟩) (s0.length + v2.length - 0) (cap - 0))), (1, intA (i : Int)), (2, (.v (.slice (some ⟨bv, ov, none⟩) v2.length cv))), (7, intA (v2.length : Int)), (8, intA (s0.length : Int))]) ⟨rfl, rfl, rfl, rfl, rfl, trivial⟩)
    rw [Nat.zero_mul, Nat.add_zero, Nat.sub_zero, Nat.sub_zero] at f112
    replace f12 := f112
    refine wp_seq (wp_seq_list ?_)
    refine rawL_cons rfl (purI_move rfl) rfl rfl n12 f12 fun t13 n13 f13 => ?_
    refine rawL_cons rfl (purI_move rfl) rfl rfl n13 f13 fun t14 n14 f14 => ?_
    refine rawL_cons rfl (purI_move rfl) rfl rfl n14 f14 fun t15 n15 f15 => ?_
    refine rawL_cons rfl (purI_move rfl) rfl rfl n15 f15 fun t16 n16 f16 => ?_
    refine rawL_cons rfl (purI_add (c := ((i + v2.length : Nat) : Int)) rfl rfl rfl hw3) rfl rfl n16 f16 fun t17 n17 f17 => ?_
    refine rawL_cons rfl (purI_cutA1 (lo := some (.tmp 65)) (b := b) (oo := o1) (q := s0.length + v2.length) (cap := cap) (i := i + v2.length) sl46 rfl ⟨_, rfl⟩ (by omega) hroom (by omega) rfl) rfl rfl n17 f17 fun t18 n18 f18 => ?_
    have v61 : Act.eval ⟨t18, []⟩ (.tmp 61) = .slice (some ⟨bv, ov, none⟩) v2.length cv := (val_ok (ds := []) f18 (.tmp 61)).v_inv (x := .slice (some ⟨bv, ov, none⟩) v2.length cv)
    have v66 : Act.eval ⟨t18, []⟩ (.tmp 66) = .slice (some ⟨b, o1 + (i + v2.length) * tFact.k, none⟩) (s0.length + v2.length - (i + v2.length)) (cap - (i + v2.length)) := (val_ok (ds := []) f18 (.tmp 66)).v_inv (x := .slice (some ⟨b, o1 + (i + v2.length) * tFact.k, none⟩) (s0.length + v2.length - (i + v2.length)) (cap - (i + v2.length)))
    have hcsz : cs.size ≠ 0 := by have := Nat.mul_pos (show 0 < cap by omega) hk0; omega
    have hrun : ∀ o : Oper, o.op = .call { callee := .value (.func 185), args := #[.tmp 61, .tmp 66], argTypes := #[46, 46] } → _ := fun o ho => run_overX (P := prg) (w := w) (tmps := t18) (tr := 4) (sl46).u z1 ho Try.func185 (by kernel_rfl) (by kernel_rfl) (by kernel_rfl) (by kernel_rfl) v61 v66 hbv2 hbv g5 hcsz
    refine rawL_run rfl (hrun _ rfl) rfl rfl n18 f18 (r := .v (.bool false)) (.imm (.v _)) fun t19 n19 f19 => ?_
    refine rawL_cons rfl (purI_not (b := false) rfl rfl) rfl rfl n19 f19 fun t20 n20 f20 => ?_
    refine rawL_nil ?_
    have v68 : Act.eval ⟨t20, []⟩ (.tmp 68) = .bool true := (val_ok (ds := []) f20 (.tmp 68)).v_inv (x := .bool true)
    have f120 := f20.weak (Pk.all (E' := [(0, .v (.slice (some ⟨b, o1, none⟩) (s0.length + v2.length) cap)), (1, intA (i : Int)), (2, (.v (.slice (some ⟨bv, ov, none⟩) v2.length cv))), (7, intA (v2.length : Int)), (8, intA (s0.length : Int))]) ⟨rfl, rfl, rfl, rfl, rfl, trivial⟩)
    replace f20 := f120
    refine wp_cond_true v68 ?_
    refine wp_seq_draw mixed ?_
    replace f20 := f20.vals (F' := F) (Λ' := Λ) (w' := { w with drawn := w.drawn + 1 }) rfl
    refine raw_first 0 rfl (purI_move rfl) rfl rfl rfl (by kernel_rfl) n20 f20 fun t21 n21 f21 => ?_
    refine raw_first 1 rfl (purI_move rfl) rfl rfl rfl (by kernel_rfl) n21 f21 fun t22 n22 f22 => ?_
    refine raw_first 2 rfl (purI_move rfl) rfl rfl rfl (by kernel_rfl) n22 f22 fun t23 n23 f23 => ?_
    refine raw_first 3 rfl (purI_add (c := ((i + v2.length : Nat) : Int)) rfl rfl rfl hw3) rfl rfl rfl (by kernel_rfl) n23 f23 fun t24 n24 f24 => ?_
    refine raw_first 4 rfl (purI_cutA1 (lo := some (.tmp 72)) (b := b) (oo := o1) (q := s0.length + v2.length) (cap := cap) (i := i + v2.length) sl46 rfl ⟨_, rfl⟩ (by omega) hroom (by omega) rfl) rfl rfl rfl (by kernel_rfl) n24 f24 fun t25 n25 f25 => ?_
    refine raw_first 5 rfl (purI_move rfl) rfl rfl rfl (by kernel_rfl) n25 f25 fun t26 n26 f26 => ?_
    refine raw_first 6 rfl (purI_move rfl) rfl rfl rfl (by kernel_rfl) n26 f26 fun t27 n27 f27 => ?_
    refine raw_first 7 rfl (purI_cutA1 (lo := some (.tmp 75)) (b := b) (oo := o1) (q := s0.length + v2.length) (cap := cap) (i := i) sl46 rfl ⟨_, rfl⟩ (by omega) hroom (by omega) rfl) rfl rfl rfl (by kernel_rfl) n27 f27 fun t28 n28 f28 => ?_
    have v73 : Act.eval ⟨t28, []⟩ (.tmp 73) = .slice (some ⟨b, o1 + (i + v2.length) * tFact.k, none⟩) (s0.length + v2.length - (i + v2.length)) (cap - (i + v2.length)) := (val_ok (ds := []) f28 (.tmp 73)).v_inv (x := .slice (some ⟨b, o1 + (i + v2.length) * tFact.k, none⟩) (s0.length + v2.length - (i + v2.length)) (cap - (i + v2.length)))
    have v76 : Act.eval ⟨t28, []⟩ (.tmp 76) = .slice (some ⟨b, o1 + i * tFact.k, none⟩) (s0.length + v2.length - i) (cap - i) := (val_ok (ds := []) f28 (.tmp 76)).v_inv (x := .slice (some ⟨b, o1 + i * tFact.k, none⟩) (s0.length + v2.length - i) (cap - i))
    have hck : (s0.length + v2.length) * tFact.k ≤ cap * tFact.k := Nat.mul_le_mul_right _ hroom
    have hfit1 : o1 + (i + v2.length) * tFact.k + (xc.drop (i * tFact.k)).length ≤ cs.size := by rw [hdl, him]; omega
    have hrun : ∀ o : Oper, o.op = .call { callee := .builtin .copy, args := #[.tmp 73, .tmp 76], argTypes := #[46, 46] } → _ := fun o ho => run_copyX (P := prg) (w := { w with drawn := w.drawn + 1 }) (tmps := t28) (q := s0.length - i) (cs := xc.drop (i * tFact.k)) (cur := cs) (te := tw) (sl46).u z1 ho v73 v76 (by omega) g5 (by rw [hk]; exact hdl) (fun j x hj => by
     have hjl : j < (s0.length - i) * tFact.k := by have := (List.getElem?_eq_some_iff.1 hj).1; omega
     rw [List.getElem?_drop, hxget _ (by omega)] at hj
     rw [addr_add]; simp only [World.cell?, g5]; rw [Nat.add_assoc]; exact hj) hfit1 hdone
    have hrow1 := insAt_row (w := { w with drawn := w.drawn + 1 }) g5 hfit1
    obtain ⟨cur1, hcur1⟩ : ∃ cur1, cur1 = (cs.toList.take (o1 + (i + v2.length) * tFact.k) ++ xc.drop (i * tFact.k) ++ cs.toList.drop (o1 + (i + v2.length) * tFact.k + (xc.drop (i * tFact.k)).length)).toArray := ⟨_, rfl⟩
    rw [← hcur1] at hrun hrow1
    obtain ⟨W2, hW2⟩ : ∃ W2, W2 = World.setRow { w with drawn := w.drawn + 1 } b cur1 := ⟨_, rfl⟩
    rw [← hW2] at hrun hrow1
    have ho2 : ∀ b1, b1 ≠ b → W2.heap[b1]? = w.heap[b1]? := fun b1 hb1 => by rw [hW2, setRow_other _ _ _ _ hb1]
    have hss2 : W2.heap.size = w.heap.size := by rw [hW2]; simp [World.setRow]
    have hos2 : W2.os = w.os ∧ W2.tape = w.tape ∧ W2.output = w.output := by rw [hW2]; exact ⟨rfl, rfl, rfl⟩
    refine raw_one 8 (by kernel_rfl) rfl rfl rfl rfl n28 (hrun _ rfl) (f28.vals (F' := F) (Λ' := Λ) (w' := W2) rfl) (r := .v (goInt (s0.length - i : Nat))) (.imm (.v _)) fun t29 n29 f29 => ?_
    refine raw_nil (by kernel_rfl) ?_
    have f129 := f29.weak (Pk.all (E' := [(0, .v (.slice (some ⟨b, o1, none⟩) (s0.length + v2.length) cap)), (1, intA (i : Int)), (2, (.v (.slice (some ⟨bv, ov, none⟩) v2.length cv))), (7, intA (v2.length : Int)), (8, intA (s0.length : Int))]) ⟨rfl, rfl, rfl, rfl, rfl, trivial⟩)
    replace f29 := f129
    refine wp_seq_list ?_
    refine rawL_cons rfl (purI_move rfl) rfl rfl n29 f29 fun t30 n30 f30 => ?_
    refine rawL_cons rfl (purI_move rfl) rfl rfl n30 f30 fun t31 n31 f31 => ?_
    refine rawL_cons rfl (purI_cutA1 (lo := some (.tmp 79)) (b := b) (oo := o1) (q := s0.length + v2.length) (cap := cap) (i := i) sl46 rfl ⟨_, rfl⟩ (by omega) hroom (by omega) rfl) rfl rfl n31 f31 fun t32 n32 f32 => ?_
    refine rawL_cons rfl (purI_move rfl) rfl rfl n32 f32 fun t33 n33 f33 => ?_
    have v80 : Act.eval ⟨t33, []⟩ (.tmp 80) = .slice (some ⟨b, o1 + i * tFact.k, none⟩) (s0.length + v2.length - i) (cap - i) := (val_ok (ds := []) f33 (.tmp 80)).v_inv (x := .slice (some ⟨b, o1 + i * tFact.k, none⟩) (s0.length + v2.length - i) (cap - i))
    have v81 : Act.eval ⟨t33, []⟩ (.tmp 81) = .slice (some ⟨bv, ov, none⟩) v2.length cv := (val_ok (ds := []) f33 (.tmp 81)).v_inv (x := .slice (some ⟨bv, ov, none⟩) v2.length cv)
    have hfit2 : o1 + i * tFact.k + vc.length ≤ cur1.size := by rw [hrow1.2, hvcl]; omega
    have hrun : ∀ o : Oper, o.op = .call { callee := .builtin .copy, args := #[.tmp 80, .tmp 81], argTypes := #[46, 46] } → _ := fun o ho => run_copyX (P := prg) (w := W2) (tmps := t33) (q := v2.length) (cs := vc) (cur := cur1) (te := tw) (sl46).u z1 ho v80 v81 (by omega) hrow1.1 (by rw [hk]; exact hvcl) (fun j x hj => by
     have hjl : j < v2.length * tFact.k := by have := (List.getElem?_eq_some_iff.1 hj).1; omega
     rw [addr_add]; simp only [World.cell?, ho2 bv hbv2, hbv]; rw [← hvget j hjl]; exact hj) hfit2 hvone
    have hrow2 := insAt_row hrow1.1 hfit2
    obtain ⟨cur2, hcur2⟩ : ∃ cur2, cur2 = (cur1.toList.take (o1 + i * tFact.k) ++ vc ++ cur1.toList.drop (o1 + i * tFact.k + vc.length)).toArray := ⟨_, rfl⟩
    rw [← hcur2] at hrun hrow2
    obtain ⟨W3, hW3⟩ : ∃ W3, W3 = World.setRow W2 b cur2 := ⟨_, rfl⟩
    rw [← hW3] at hrun hrow2
    have ho3 : ∀ b1, b1 ≠ b → W3.heap[b1]? = w.heap[b1]? := fun b1 hb1 => by rw [hW3, setRow_other _ _ _ _ hb1]; exact ho2 b1 hb1
    have hss3 : W3.heap.size = w.heap.size := by rw [hW3]; simpa [World.setRow] using hss2
    have hos3 : W3.os = w.os ∧ W3.tape = w.tape ∧ W3.output = w.output := by rw [hW3]; exact hos2
    refine rawL_run rfl (hrun _ rfl) rfl rfl n33 (f33.vals (F' := F) (Λ' := Λ) (w' := W3) rfl) (r := .v (goInt v2.length)) (.imm (.v _)) fun t34 n34 f34 => ?_
    refine rawL_nil ?_
    have f134 := f34.weak (Pk.all (E' := [(0, .v (.slice (some ⟨b, o1, none⟩) (s0.length + v2.length) cap))]) ⟨rfl, trivial⟩)
    replace f34 := f134
    have hturn := St.ins (Y := tFact) (m := 2) (w' := W3) hs (l := 0) (r := 1) (b2 := b) (o2 := o1) (cap2 := cap) rfl rfl (by decide) h1 hrc hvc (.inl ⟨o1, hL⟩) hrow2.1 (fun b1 hb1 h => ho3 b1 fun e => h o1 (e ▸ hL)) (Sizes.one g5 hrow2.1 (by rw [hrow2.2, hrow1.2]) ho3) (by omega) hos3.1 hos3.2.1 hos3.2.2 (fun d hd => by
     have := insC (L0 := cs.toList) (xc := xc) (vc := vc) (o := o1) (a := i * tFact.k) (q := o1 + (i + v2.length) * tFact.k) (fun d hd => by rw [Array.getElem?_toList]; exact (hxget d (by omega)).symm) (by omega) (by rw [hxcl, hvcl, show cs.toList.length = cs.size from Array.length_toList (xs := cs)]; omega) (by rw [him, hvcl]; omega) d (by rw [hxcl, hvcl, ← hadd]; exact hd)
     rw [hcur2, List.getElem?_toArray, hcur1]; exact this) hroom hcap (by rw [hrow2.2, hrow1.2]; omega)
    refine T_fin (m := 2) (E := [(0, .m [2] 0 (s0.take i ++ v2 ++ s0.drop i).length tFact.k)]) (σ := [.dead, .dead, .row (flat tFact.own (s0.take i ++ v2 ++ s0.drop i))]) ?_ n34 hturn.1.1 (f34.one hturn.2) (fun F2 Λ2 σ2 w2 tmps2 E2 hn2 hs2 hf2 hst2 hK2 => hq .ret F2 Λ2 σ2 w2 tmps2 E2 hn2 hs2 hf2 (hturn.1.2.trans hst2) hK2)
    refine sr ?_
    refine Tp rfl rfl (pur_move rfl) rfl ?_
    refine Tp rfl rfl (pur_assign rfl) rfl ?_
    refine TO_nil ?_
    refine te [(6, (.m [2] 0 (s0.take i ++ v2 ++ s0.drop i).length tFact.k))] rfl ?_
    refine T_ret ?_
    exact ⟨rfl, end_pickX (.tmp .nil) rfl [0, 1, 2] (by decide) (lb rfl) rfl (lb rfl) rfl rfl rfl rfl rfl rfl⟩


set_option maxHeartbeats 1000000 in
theorem m_impl_InsertFact_own (u : Nat) (db0 : Database) (fact1 : Fact) (r : (Database × Bool)) (H : m_impl_InsertFact u db0 fact1 = some r) : FnO prg 134 [(.g (tDatabase.enc db0)), (.g (tFact.enc fact1))] (.t [(.g [(.m [0] 0 r.1.relations.length tRelation.k), (.m [1] 0 r.1.facts.length tFact.k)]), (boolA r.2)]) [.row (flat tRelation.own r.1.relations), .row (flat tFact.own r.1.facts)] := by
  unfold m_impl_InsertFact at H
  refine fnO_of_T Try.func134 rfl rfl (Nat.le_of_ble_eq_true rfl) ?_
  refine te [(0, (.g (tDatabase.enc db0))), (1, (.g (tFact.enc fact1)))] rfl ?_
  refine sr ?_
  refine TO_cons rfl (TOp_box rfl (boxAll rfl) rfl rfl ?_)
  refine TO_cons rfl (TOp_box rfl (boxAll rfl) rfl rfl ?_)
  refine TO_cons rfl (TOp_alloc zero48 rfl rfl ?_)
  refine pv tb 1 rfl ?_
  refine TO_nil ?_
  refine sr ?_
  obtain ⟨r_1, h_2, H⟩ := bind_inv H
  refine pv tb 1 rfl ?_
  refine TO_cons rfl (TOp_callO (call_static ent107 rfl) rfl (m_impl_copyDatabase_own _ _ h_2) rfl rfl rfl ?_)
  refine toe [(2, (.b 0 0)), (3, (.b 1 0)), (4, (.b 2 0)), (8, (.g (tDatabase.enc db0))), (9, (.g [(.m [3] 0 r_1.relations.length tRelation.k), (.m [4] 0 r_1.facts.length tFact.k)]))] rfl ?_
  refine TO_st (σ' := [.box [(sl tRelation db0.relations), (sl tFact db0.facts)], .box [(intA fact1.relation), (sl tInt fact1.values)], .box [.n, .n], .row (flat tRelation.own r_1.relations), .row (flat tFact.own r_1.facts)]) rfl ?_
  refine TO_cons rfl (TOp_alloc zero48 rfl rfl ?_)
  refine TO_cons rfl (TOp_storeB sz48 rfl rfl rfl rfl rfl rfl rfl (by decide) (lb rfl) rfl ?_)
  refine TO_st (σ' := [.box [(sl tRelation db0.relations), (sl tFact db0.facts)], .box [(intA fact1.relation), (sl tInt fact1.values)], .box [.n, .n], .row (flat tRelation.own r_1.relations), .row (flat tFact.own r_1.facts), .box [(.m [3] 0 r_1.relations.length tRelation.k), (.m [4] 0 r_1.facts.length tFact.k)]]) rfl ?_
  refine TO_nil ?_
  refine T_seq ?_
  obtain ⟨t31_3, J_3, H_4⟩ := bind_inv H
  refine T_cutX (fun x => t31_3 = x) (fun (t31_3 : Bool) => [(2, (.b 0 0)), (3, (.b 1 0)), (4, (.b 2 0)), (6, (.b 5 0)), (31, (boolA t31_3))]) (fun (t31_3 : Bool) => [.box [(sl tRelation db0.relations), (sl tFact db0.facts)], .box [(intA fact1.relation), (sl tInt fact1.values)], .box [.n, .n], .row (flat tRelation.own r_1.relations), .row (flat tFact.own r_1.facts), .box [(.m [3] 0 r_1.relations.length tRelation.k), (.m [4] 0 r_1.facts.length tFact.k)]]) ?_ ?_
  ·replace H := J_3
   refine T_region ?_
   obtain ⟨r_5, h_6, H⟩ := bind_inv H
   refine pv tb 1 rfl ?_
   refine TO_cons rfl (TOp_callV (call_static ent117 rfl) (m_impl_IsValidDatabase_ok _ _ h_6) rfl rfl rfl ?_)
   refine pv tb 2 rfl ?_
   refine TO_split (t := (!r_5)) 13 rfl (fun g_7 => ?_) (fun g_7 => ?_)
   ·replace H := cond_t g_7 H
    refine pv tb 18 rfl ?_
    refine TO_nil ?_
    exact joined true (w0 6) (some_inj H).symm
   ·replace H := cond_f g_7 H
    obtain ⟨r_8, h_9, H⟩ := bind_inv H
    refine pv tb 3 rfl ?_
    refine TO_on rfl rfl (by decide) rfl rfl (TOp_callV (call_static ent166 rfl) (m_impl_isFact_ok _ _ _ h_9) rfl rfl rfl ?_)
    refine pv tb 3 rfl ?_
    refine TO_split (t := (!r_8)) 20 rfl (fun g_10 => ?_) (fun g_10 => ?_)
    ·replace H := cond_t g_10 H
     refine pv tb 8 rfl ?_
     refine toe [(2, (.b 0 0)), (3, (.b 1 0)), (4, (.b 2 0)), (6, (.b 5 0)), (26, (boolA true)), (28, (.v undef))] rfl ?_
     refine pv tb 3 rfl ?_
     refine TO_nil ?_
     exact joined true (w0 6) (some_inj H).symm
    ·replace H := cond_f g_10 H
     obtain ⟨r_11, h_12, H⟩ := bind_inv H
     refine pv tb 2 rfl ?_
     refine TO_on rfl rfl (by decide) rfl rfl (TOp_callV (call_static ent106 rfl) (m_impl_FactIndex_ok _ _ _ h_12) rfl rfl rfl ?_)
     refine pv tb 3 rfl ?_
     refine TO_split (t := decide (0 ≤ r_11)) 26 rfl (fun g_13 => ?_) (fun g_13 => ?_)
     ·replace H := cond_t g_13 H
      refine pv tb 5 rfl ?_
      refine TO_nil ?_
      exact joined true (w0 6) (some_inj H).symm
     ·replace H := cond_f g_13 H
      refine pv tb 2 rfl ?_
      refine TO_on rfl rfl (by decide) rfl rfl (TOp_pure (pur_lenT (T := tFact) sl46 rfl rfl) rfl ?_)
      refine pv tb 2 rfl ?_
      refine TO_nil ?_
      exact joined (decide ((db0.facts.length : Int) = 14)) (w0 6) (some_inj H).symm
  ·rintro _ rfl
   replace H := H_4
   refine T_cond (t := t31_3) rfl (fun c_14 => ?_) (fun c_14 => ?_)
   ·replace H := cond_t c_14 H
    refine sr ?_
    refine pv tb 1 rfl ?_
    refine TO_cons rfl (TOp_storeB sz48 rfl rfl rfl rfl rfl rfl rfl (by decide) (lb rfl) rfl ?_)
    refine TO_st (σ' := [.box [(sl tRelation db0.relations), (sl tFact db0.facts)], .box [(intA fact1.relation), (sl tInt fact1.values)], .box [(.m [3] 0 r_1.relations.length tRelation.k), (.m [4] 0 r_1.facts.length tFact.k)], .row (flat tRelation.own r_1.relations), .row (flat tFact.own r_1.facts), .box [(.m [3] 0 r_1.relations.length tRelation.k), (.m [4] 0 r_1.facts.length tFact.k)]]) rfl ?_
    refine pv tb 1 rfl ?_
    refine TO_nil ?_
    refine T_ret ?_
    refine then_ret ?_
    obtain rfl := some_inj H
    exact end_pick (.cellK rfl agg48 rfl (lb rfl) (.tmp .nil)) rfl [3, 4] (by decide) rfl rfl rfl rfl rfl rfl
   ·replace H := cond_f c_14 H
    refine T_skip ?_
    refine sr ?_
    refine pv tb 1 rfl ?_
    refine TO_nil ?_
    obtain ⟨O15_, L15_, N15_⟩ := bind_inv H
    clear H
    obtain ⟨B15_, hb15, L15_⟩ := gen_whileF L15_
    refine T_cutX (fun (x : Int) => O15_ = .inl x) (fun (at7 : Int) => [(3, (.b 1 0)), (4, (.b 2 0)), (6, (.b 5 0)), (7, (intA at7))]) (fun (at7 : Int) => [.box [(sl tRelation db0.relations), (sl tFact db0.facts)], .box [(intA fact1.relation), (sl tInt fact1.values)], .box [.n, .n], .row (flat tRelation.own r_1.relations), .row (flat tFact.own r_1.facts), .box [(.m [3] 0 r_1.relations.length tRelation.k), (.m [4] 0 r_1.facts.length tFact.k)]]) ?_ ?_
    ·skip
     refine T_block ?_
     refine T_loopX (fun k => fun (at7 : Int) => whileF B15_ k at7 = some O15_) (fun (at7 : Int) => [(2, (.b 0 0)), (3, (.b 1 0)), (4, (.b 2 0)), (6, (.b 5 0)), (7, (intA at7))]) (fun (at7 : Int) => [.box [(sl tRelation db0.relations), (sl tFact db0.facts)], .box [(intA fact1.relation), (sl tInt fact1.values)], .box [.n, .n], .row (flat tRelation.own r_1.relations), .row (flat tFact.own r_1.facts), .box [(.m [3] 0 r_1.relations.length tRelation.k), (.m [4] 0 r_1.facts.length tFact.k)]]) u 0 (w0 6) L15_ ?_
     rintro _ at7 L15_
     obtain ⟨k15, rfl, C15_, H, K15_⟩ := while_step L15_
     rw [hb15] at H
     refine T_seq ?_
     obtain ⟨t47_16, J_16, H_17⟩ := bind_inv H
     refine T_cutX (fun x => t47_16 = x) (fun (t47_16 : Bool) => [(2, (.b 0 0)), (3, (.b 1 0)), (4, (.b 2 0)), (6, (.b 5 0)), (7, (intA at7)), (47, (boolA t47_16))]) (fun (t47_16 : Bool) => [.box [(sl tRelation db0.relations), (sl tFact db0.facts)], .box [(intA fact1.relation), (sl tInt fact1.values)], .box [.n, .n], .row (flat tRelation.own r_1.relations), .row (flat tFact.own r_1.facts), .box [(.m [3] 0 r_1.relations.length tRelation.k), (.m [4] 0 r_1.facts.length tFact.k)]]) ?_ ?_
     ·replace H := J_16
      refine T_regionD mixed (by kernel_rfl) ?_
      refine pq tb 3 rfl ?_
      refine TQ_pure rfl (pur_lenT (T := tFact) sl46 rfl rfl) rfl ?_
      refine pq tb 2 rfl ?_
      refine TQ_split (t := decide (at7 < (db0.facts.length : Int))) 38 rfl (fun g_18 => ?_) (fun g_18 => ?_)
      ·replace H := cond_t g_18 H
       obtain ⟨v_19, h_20, H⟩ := bind_inv H
       obtain ⟨n_21, hz_22, hv_23⟩ := getI_inv h_20
       refine pq tb 3 rfl ?_
       refine TQ_on rfl rfl (by decide) rfl (pur_ixT (T := tFact) sl46 rfl rfl hz_22 hv_23 rfl) rfl ?_
       refine TQ_on rfl rfl (by decide) rfl (pur_ldTK (T := tFact) (i := n_21) (off := 0) rfl agg65 rfl rfl hv_23 (by decide) rfl) rfl ?_
       obtain ⟨r_24, h_25, H⟩ := bind_inv H
       refine pq tb 1 rfl ?_
       refine TQ_onV rfl rfl (by decide) rfl (call_static ent152 rfl) (m_impl_CompareFacts_ok _ _ _ h_25) rfl rfl ?_
       refine pq tb 2 rfl ?_
       refine TQ_nil ?_
       exact joined (decide (r_24 < 0)) (w0 6) (some_inj H).symm
      ·replace H := cond_f g_18 H
       refine pq tb 9 rfl ?_
       refine TQ_nil ?_
       exact joined false (w0 6) (some_inj H).symm
     ·rintro _ rfl
      replace H := H_17
      refine T_cond (t := t47_16) rfl (fun c_26 => ?_) (fun c_26 => ?_)
      ·replace H := cond_t c_26 H
       refine T_skip ?_
       refine T_block ?_
       refine T_region ?_
       refine pv tb 3 rfl ?_
       refine TO_nil ?_
       obtain rfl := some_inj H
       exact again k15 (w64 (at7 + 1)) (Nat.lt_succ_self _) (w0 6) K15_
      ·replace H := cond_f c_26 H
       refine T_exit ?_
       refine then_exit ?_
       refine then_exit ?_
       refine block_exit ?_
       obtain rfl := some_inj H
       obtain rfl := some_inj K15_
       exact joined at7 (w0 6) rfl
    ·rintro at7 rfl
     replace H := onS_l N15_
     obtain ⟨us_27, h_28, H⟩ := bind_inv H
     obtain ⟨r_29, h_30, H⟩ := bind_inv H
     refine T_pad ?_
     refine T_pad ?_
     refine T_cutX (fun (_ : Unit) => True) (fun _ => [(4, (.b 2 0)), (6, (.b 5 0))]) (fun _ => [.box [(sl tRelation db0.relations), (sl tFact db0.facts)], .box [(intA fact1.relation), (sl tInt fact1.values)], .box [.n, .n], .row (flat tRelation.own r_1.relations), .row (flat tFact.own r_29), .box [(.m [3] 0 r_1.relations.length tRelation.k), (.m [4] 0 r_29.length tFact.k)]]) ?_ ?_
     ·skip
      refine T_regionP 4 mixed rfl ?_
      refine TA_have 3 #[true, true, true, true, true, true, true, true, true, true, true, false, false, false] [(4, (.b 2 0)), (6, (.b 5 0)), (51, (.m [4] 0 r_1.facts.length tFact.k)), (52, (intA at7)), (60, (.m [8] 0 1 tFact.k))] [.dead, .dead, .dead, .row (flat tRelation.own r_1.relations), .row (flat tFact.own r_1.facts), .box [(.m [3] 0 r_1.relations.length tRelation.k), (.m [4] 0 r_1.facts.length tFact.k)], .row (flat tInt.enc us_27), .dead, .box [(intA fact1.relation), (.m [6] 0 us_27.length tInt.k)]] ?_ (fun hj0_7 => ?_)
      ·skip
       refine tae [(4, (.b 2 0)), (6, (.b 5 0)), (51, (.m [4] 0 r_1.facts.length tFact.k)), (52, (intA at7)), (60, (.m [8] 0 1 tFact.k))] rfl ?_
       refine TA_st (σ' := [.dead, .dead, .dead, .row (flat tRelation.own r_1.relations), .row (flat tFact.own r_1.facts), .box [(.m [3] 0 r_1.relations.length tRelation.k), (.m [4] 0 r_1.facts.length tFact.k)], .row (flat tInt.enc us_27), .dead, .box [(intA fact1.relation), (.m [6] 0 us_27.length tInt.k)]]) rfl ?_
       refine TA_absorbA (pr := []) 8 1 6 rfl rfl rfl (by decide) tInt.pos (flat_len tInt.len _) (lb rfl) (lb rfl) rfl (nms_dead (nms_dead (nms_dead (nms_row (nms_row (nms_box rfl (nms_row (nms_dead (nms_box rfl nms_nil))))))))) ?_
       refine TA_st (σ' := [.dead, .dead, .dead, .row (flat tRelation.own r_1.relations), .row (flat tFact.own r_1.facts), .box [(.m [3] 0 r_1.relations.length tRelation.k), (.m [4] 0 r_1.facts.length tFact.k)], .dead, .dead, .box [(intA fact1.relation), .o tInt.k (flat tInt.enc us_27)]]) rfl ?_
       refine TA_rowifyT (T := tFact) (xs := []) (us := ([({ relation := fact1.relation, values := us_27 } : Fact)] : List Fact)) (v := ({ relation := fact1.relation, values := us_27 } : Fact)) 8 rfl rfl (app_ok (b := 32) (xs := []) (ys := ([({ relation := fact1.relation, values := us_27 } : Fact)] : List Fact)) (show (0 + 1) * 32 ≤ 140737488355328 by decide)) (lb rfl) ?_
       refine tae [(4, (.b 2 0)), (6, (.b 5 0)), (51, (.m [4] 0 r_1.facts.length tFact.k)), (52, (intA at7)), (60, (.m [8] 0 ([({ relation := fact1.relation, values := us_27 } : Fact)] : List Fact).length tFact.k))] rfl ?_
       refine TA_st (σ' := [.dead, .dead, .dead, .row (flat tRelation.own r_1.relations), .row (flat tFact.own r_1.facts), .box [(.m [3] 0 r_1.relations.length tRelation.k), (.m [4] 0 r_1.facts.length tFact.k)], .dead, .dead, .row (flat tFact.own ([({ relation := fact1.relation, values := us_27 } : Fact)] : List Fact))]) rfl ?_
       refine t1 11 (by kernel_rfl) rfl rfl (TOp_callS [4, 8] (call_static ent174 rfl) (by decide) rfl rfl rfl rfl rfl rfl (m_slices_Insert_Simpl_Fact_impl_Fact_xo _ _ _ _ h_30) rfl rfl ?_)
       refine tmv 4 9 (by decide) (lb rfl) rfl rfl (lb rfl) ?_
       refine TA_st (σ' := [.dead, .dead, .dead, .row (flat tRelation.own r_1.relations), .row (flat tFact.own r_29), .box [(.m [3] 0 r_1.relations.length tRelation.k), .j], .dead, .dead, .dead, .dead]) rfl ?_
       refine tae [(4, (.b 2 0)), (6, (.b 5 0)), (52, (intA at7)), (61, (.m [4] 0 r_29.length tFact.k))] rfl ?_
       refine TA_st (σ' := [.dead, .dead, .dead, .row (flat tRelation.own r_1.relations), .row (flat tFact.own r_29), .box [(.m [3] 0 r_1.relations.length tRelation.k), .j], .dead, .dead, .dead, .dead]) rfl ?_
       refine pa tb [12] 1 rfl (by kernel_rfl) rfl ?_
       refine t1 13 (by kernel_rfl) rfl rfl (TOp_storeB sz46 rfl rfl rfl rfl rfl rfl rfl (by decide) (lb rfl) rfl ?_)
       refine TA_st (σ' := [.dead, .dead, .dead, .row (flat tRelation.own r_1.relations), .row (flat tFact.own r_29), .box [(.m [3] 0 r_1.relations.length tRelation.k), (.m [4] 0 r_29.length tFact.k)], .dead, .dead, .dead, .dead]) rfl ?_
       exact TA_nil (by kernel_rfl) (joined () (w0 6) trivial)
      refine TA_have 4 #[true, true, true, true, true, true, true, true, true, true, false, false, false, false] [(4, (.b 2 0)), (6, (.b 5 0)), (51, (.m [4] 0 r_1.facts.length tFact.k)), (52, (intA at7)), (59, (.g [(intA fact1.relation), (.m [6] 0 us_27.length tInt.k)]))] [.dead, .dead, .dead, .row (flat tRelation.own r_1.relations), .row (flat tFact.own r_1.facts), .box [(.m [3] 0 r_1.relations.length tRelation.k), (.m [4] 0 r_1.facts.length tFact.k)], .row (flat tInt.enc us_27), .dead] ?_ (fun hj1_7 => ?_)
      ·skip
       refine t1 10 (by kernel_rfl) rfl rfl (TOp_litB (nn := 1) (k := 2) sl46 zero65 rfl rfl rfl rfl (by decide) ?_)
       refine TA_st (σ' := [.dead, .dead, .dead, .row (flat tRelation.own r_1.relations), .row (flat tFact.own r_1.facts), .box [(.m [3] 0 r_1.relations.length tRelation.k), (.m [4] 0 r_1.facts.length tFact.k)], .row (flat tInt.enc us_27), .dead, .box [(intA fact1.relation), (.m [6] 0 us_27.length tInt.k)]]) rfl ?_
       exact tj hj0_7 rfl (w0 9)
      refine TA_have 6 #[true, true, true, true, true, true, true, true, false, false, false, false, false, false] [(4, (.b 2 0)), (6, (.b 5 0)), (51, (.m [4] 0 r_1.facts.length tFact.k)), (52, (intA at7)), (54, (intA fact1.relation)), (55, (.m [6] 0 ([] : (List Int)).length tInt.k)), (57, (sl tInt fact1.values))] [.dead, .dead, .dead, .row (flat tRelation.own r_1.relations), .row (flat tFact.own r_1.facts), .box [(.m [3] 0 r_1.relations.length tRelation.k), (.m [4] 0 r_1.facts.length tFact.k)], .row (flat tInt.enc ([] : (List Int))), .dead] ?_ (fun hj2_7 => ?_)
      ·skip
       refine t1 8 (by kernel_rfl) rfl rfl (TOp_appY (T := tInt) (f := tInt.enc) (xs := ([] : (List Int))) (ys := fact1.values) tInt.len sl23 zero3 rfl bytes3 (by decide) rfl rfl rfl rfl (src_T (T := tInt) rfl) (flat_cell tInt _) h_28 ?_)
       refine tmw 6 8 (by decide) (lb rfl) rfl rfl (lb rfl) rfl ?_
       refine tf 9 rfl (pur_build bld65 rfl rfl) rfl rfl (by kernel_rfl) ?_
       exact tj hj1_7 rfl (w0 8)
      refine pa tb [0, 2, 3, 4, 6, 7] 8 rfl (by kernel_rfl) rfl ?_
      refine TA_all [1, 5] (by kernel_rfl) (by decide) ⟨?_, ?_, trivial⟩
      ·skip
       refine ⟨_, rfl, rfl, (TOp_pure (pur_ld_b one46 rfl rfl rfl rfl) rfl ?_)⟩
       refine t1 5 (by kernel_rfl) rfl rfl (TOp_lit (nn := 0) (k := 1) sl23 zero3 rfl rfl rfl rfl (by decide) ?_)
       refine tmw 6 8 (by decide) (lb rfl) rfl rfl (lb rfl) rfl ?_
       exact tj hj2_7 rfl (w0 8)
      ·skip
       refine ⟨_, rfl, rfl, (TOp_lit (nn := 0) (k := 1) sl23 zero3 rfl rfl rfl rfl (by decide) ?_)⟩
       refine tmw 6 8 (by decide) (lb rfl) rfl rfl (lb rfl) rfl ?_
       refine TA_all [1, 8] (by kernel_rfl) (by decide) ⟨?_, ?_, trivial⟩
       ·skip
        refine ⟨_, rfl, rfl, (TOp_pure (pur_ld_b one46 rfl rfl rfl rfl) rfl ?_)⟩
        exact tj hj2_7 rfl (w0 8)
       ·skip
        refine ⟨_, rfl, rfl, (TOp_appY (T := tInt) (f := tInt.enc) (xs := ([] : (List Int))) (ys := fact1.values) tInt.len sl23 zero3 rfl bytes3 (by decide) rfl rfl rfl rfl (src_T (T := tInt) rfl) (flat_cell tInt _) h_28 ?_)⟩
        refine tmw 6 9 (by decide) (lb rfl) rfl rfl (lb rfl) rfl ?_
        refine tae [(4, (.b 2 0)), (6, (.b 5 0)), (50, (.b 5 1)), (52, (intA at7)), (54, (intA fact1.relation)), (58, (.m [6] 0 us_27.length tInt.k))] rfl ?_
        refine TA_st (σ' := [.dead, .dead, .dead, .row (flat tRelation.own r_1.relations), .row (flat tFact.own r_1.facts), .box [(.m [3] 0 r_1.relations.length tRelation.k), (.m [4] 0 r_1.facts.length tFact.k)], .row (flat tInt.enc us_27), .dead, .dead, .dead]) rfl ?_
        refine tf 9 rfl (pur_build bld65 rfl rfl) rfl rfl (by kernel_rfl) ?_
        refine TA_all [1, 10] (by kernel_rfl) (by decide) ⟨?_, ?_, trivial⟩
        ·skip
         refine ⟨_, rfl, rfl, (TOp_pure (pur_ld_b one46 rfl rfl rfl rfl) rfl ?_)⟩
         exact tj hj1_7 rfl (w0 8)
        ·skip
         refine ⟨_, rfl, rfl, (TOp_ghost (E' := [(4, (.b 2 0)), (6, (.b 5 0)), (50, (.b 5 1)), (52, (intA at7)), (54, (intA fact1.relation)), (58, (.m [6] 0 us_27.length tInt.k)), (59, (.g [(intA fact1.relation), (.m [6] 0 us_27.length tInt.k)]))]) (σ' := [.dead, .dead, .dead, .row (flat tRelation.own r_1.relations), .row (flat tFact.own r_1.facts), .box [(.m [3] 0 r_1.relations.length tRelation.k), (.m [4] 0 r_1.facts.length tFact.k)], .row (flat tInt.enc us_27), .dead]) (by exact Ghost.weak (w0 8)) (TOp_litB (nn := 1) (k := 2) sl46 zero65 rfl rfl rfl rfl (by decide) ?_))⟩
         refine TA_st (σ' := [.dead, .dead, .dead, .row (flat tRelation.own r_1.relations), .row (flat tFact.own r_1.facts), .box [(.m [3] 0 r_1.relations.length tRelation.k), (.m [4] 0 r_1.facts.length tFact.k)], .row (flat tInt.enc us_27), .dead, .box [(intA fact1.relation), (.m [6] 0 us_27.length tInt.k)]]) rfl ?_
         refine t1 1 (by kernel_rfl) rfl rfl (TOp_pure (pur_ld_b one46 rfl rfl rfl rfl) rfl ?_)
         exact tj hj0_7 rfl (w0 9)
     ·rintro _ _
      refine sr ?_
      refine pv tb 1 rfl ?_
      refine TO_cons rfl (TOp_storeB sz48 rfl rfl rfl rfl rfl rfl rfl (by decide) (lb rfl) rfl ?_)
      refine TO_st (σ' := [.box [(sl tRelation db0.relations), (sl tFact db0.facts)], .box [(intA fact1.relation), (sl tInt fact1.values)], .box [(.m [3] 0 r_1.relations.length tRelation.k), (.m [4] 0 r_29.length tFact.k)], .row (flat tRelation.own r_1.relations), .row (flat tFact.own r_29), .box [(.m [3] 0 r_1.relations.length tRelation.k), (.m [4] 0 r_29.length tFact.k)]]) rfl ?_
      refine pv tb 1 rfl ?_
      refine TO_nil ?_
      refine T_ret ?_
      obtain rfl := some_inj H
      exact end_pick (.cellK rfl agg48 rfl (lb rfl) (.tmp .nil)) rfl [3, 4] (by decide) rfl rfl rfl rfl rfl rfl
theorem m_impl_InsertFact_ok (u : Nat) (db0 : Database) (fact1 : Fact) (r : (Database × Bool)) (H : m_impl_InsertFact u db0 fact1 = some r) : FnV prg 134 [(.g (tDatabase.enc db0)), (.g (tFact.enc fact1))] (.t [(.g (tDatabase.enc r.1)), (boolA r.2)]) := (m_impl_InsertFact_own u db0 fact1 r H).frz (frzOK_t (frz_cons (frzOK_g (frz_cons (frzT (T := tRelation) rfl) (frz_cons (frzT (T := tFact) rfl) frz_nil)).1 (frz_cons (frzT (T := tRelation) rfl) (frz_cons (frzT (T := tFact) rfl) frz_nil)).2) (frz_cons (frz_loose rfl) frz_nil)).1 (frz_cons (frzOK_g (frz_cons (frzT (T := tRelation) rfl) (frz_cons (frzT (T := tFact) rfl) frz_nil)).1 (frz_cons (frzT (T := tRelation) rfl) (frz_cons (frzT (T := tFact) rfl) frz_nil)).2) (frz_cons (frz_loose rfl) frz_nil)).2)

set_option maxHeartbeats 1000000 in
theorem m_impl_ApplyEdit_own (u : Nat) (db0 : Database) (edit1 : Edit) (r : (Database × Bool)) (H : m_impl_ApplyEdit u db0 edit1 = some r) : FnO prg 72 [(.g (tDatabase.enc db0)), (.g (tEdit.enc edit1))] (.t [(.g [(.m [0] 0 r.1.relations.length tRelation.k), (.m [1] 0 r.1.facts.length tFact.k)]), (boolA r.2)]) [.row (flat tRelation.own r.1.relations), .row (flat tFact.own r.1.facts)] := by
  unfold m_impl_ApplyEdit at H
  refine fnO_of_T Try.func72 rfl rfl (Nat.le_of_ble_eq_true rfl) ?_
  refine te [(0, (.g (tDatabase.enc db0))), (1, (.g (tEdit.enc edit1)))] rfl ?_
  refine sr ?_
  refine TO_cons rfl (TOp_box rfl (boxAll rfl) rfl rfl ?_)
  refine TO_cons rfl (TOp_box rfl (boxAll rfl) rfl rfl ?_)
  refine TO_cons rfl (TOp_alloc zero48 rfl rfl ?_)
  refine pv tb 1 rfl ?_
  refine TO_nil ?_
  refine T_seq ?_
  refine sr ?_
  refine pv tb 2 rfl ?_
  refine TO_nil ?_
  refine T_block ?_
  refine sr ?_
  refine pv tb 2 rfl ?_
  refine TO_nil ?_
  refine T_cond (t := decide (edit1.kind = 1)) rfl (fun c_1 => ?_) (fun c_1 => ?_)
  ·replace H := cond_t c_1 H
   refine sr ?_
   obtain ⟨r_2, h_3, H⟩ := bind_inv H
   refine pv tb 3 rfl ?_
   refine TO_cons rfl (TOp_callO (call_static ent134 rfl) rfl (m_impl_InsertFact_own u _ _ _ h_3) rfl rfl rfl ?_)
   refine toe [(2, (.b 0 0)), (3, (.b 1 0)), (4, (.b 2 0)), (7, (intA edit1.kind)), (8, (boolA (decide (edit1.kind = 1)))), (10, (.g (tDatabase.enc db0))), (11, (.b 1 1)), (12, (.g (tFact.enc edit1.fact))), (13, (.t [(.g [(.m [3] 0 r_2.1.relations.length tRelation.k), (.m [4] 0 r_2.1.facts.length tFact.k)]), (boolA r_2.2)]))] rfl ?_
   refine TO_st (σ' := [.box [(sl tRelation db0.relations), (sl tFact db0.facts)], .box [(intA edit1.kind), (intA edit1.fact.relation), (sl tInt edit1.fact.values)], .box [.n, .n], .row (flat tRelation.own r_2.1.relations), .row (flat tFact.own r_2.1.facts)]) rfl ?_
   refine pv tb 2 rfl ?_
   refine TO_cons rfl (TOp_storeB sz48 rfl rfl rfl rfl rfl rfl rfl (by decide) (lb rfl) rfl ?_)
   refine TO_st (σ' := [.box [(sl tRelation db0.relations), (sl tFact db0.facts)], .box [(intA edit1.kind), (intA edit1.fact.relation), (sl tInt edit1.fact.values)], .box [(.m [3] 0 r_2.1.relations.length tRelation.k), (.m [4] 0 r_2.1.facts.length tFact.k)], .row (flat tRelation.own r_2.1.relations), .row (flat tFact.own r_2.1.facts)]) rfl ?_
   refine pv tb 1 rfl ?_
   refine TO_nil ?_
   refine T_ret ?_
   refine block_ret ?_
   refine then_ret ?_
   obtain rfl := some_inj H
   exact end_pick (.cellK rfl agg48 rfl (lb rfl) (.tmp .nil)) rfl [3, 4] (by decide) rfl rfl rfl rfl rfl rfl
  ·replace H := cond_f c_1 H
   refine sr ?_
   refine pv tb 2 rfl ?_
   refine TO_nil ?_
   refine T_cond (t := decide (edit1.kind = 2)) rfl (fun c_4 => ?_) (fun c_4 => ?_)
   ·replace H := cond_t c_4 H
    refine sr ?_
    obtain ⟨r_5, h_6, H⟩ := bind_inv H
    refine pv tb 3 rfl ?_
    refine TO_cons rfl (TOp_callO (call_static ent108 rfl) rfl (m_impl_DeleteFact_own _ _ _ h_6) rfl rfl rfl ?_)
    refine toe [(2, (.b 0 0)), (3, (.b 1 0)), (4, (.b 2 0)), (7, (intA edit1.kind)), (16, (boolA (decide (edit1.kind = 2)))), (18, (.g (tDatabase.enc db0))), (19, (.b 1 1)), (20, (.g (tFact.enc edit1.fact))), (21, (.t [(.g [(.m [3] 0 r_5.1.relations.length tRelation.k), (.m [4] 0 r_5.1.facts.length tFact.k)]), (boolA r_5.2)]))] rfl ?_
    refine TO_st (σ' := [.box [(sl tRelation db0.relations), (sl tFact db0.facts)], .box [(intA edit1.kind), (intA edit1.fact.relation), (sl tInt edit1.fact.values)], .box [.n, .n], .row (flat tRelation.own r_5.1.relations), .row (flat tFact.own r_5.1.facts)]) rfl ?_
    refine pv tb 2 rfl ?_
    refine TO_cons rfl (TOp_storeB sz48 rfl rfl rfl rfl rfl rfl rfl (by decide) (lb rfl) rfl ?_)
    refine TO_st (σ' := [.box [(sl tRelation db0.relations), (sl tFact db0.facts)], .box [(intA edit1.kind), (intA edit1.fact.relation), (sl tInt edit1.fact.values)], .box [(.m [3] 0 r_5.1.relations.length tRelation.k), (.m [4] 0 r_5.1.facts.length tFact.k)], .row (flat tRelation.own r_5.1.relations), .row (flat tFact.own r_5.1.facts)]) rfl ?_
    refine pv tb 1 rfl ?_
    refine TO_nil ?_
    refine T_ret ?_
    refine block_ret ?_
    refine then_ret ?_
    obtain rfl := some_inj H
    exact end_pick (.cellK rfl agg48 rfl (lb rfl) (.tmp .nil)) rfl [3, 4] (by decide) rfl rfl rfl rfl rfl rfl
   ·replace H := cond_f c_4 H
    refine sr ?_
    refine pv tb 2 rfl ?_
    refine TO_nil ?_
    refine T_cond (t := decide (edit1.kind = 3)) rfl (fun c_7 => ?_) (fun c_7 => ?_)
    ·replace H := cond_t c_7 H
     refine sr ?_
     obtain ⟨r_8, h_9, H⟩ := bind_inv H
     refine pv tb 3 rfl ?_
     refine TO_cons rfl (TOp_callO (call_static ent60 rfl) rfl (m_impl_ResolveConflict_own _ _ _ h_9) rfl rfl rfl ?_)
     refine toe [(2, (.b 0 0)), (3, (.b 1 0)), (4, (.b 2 0)), (24, (boolA (decide (edit1.kind = 3)))), (26, (.g (tDatabase.enc db0))), (27, (.b 1 1)), (28, (.g (tFact.enc edit1.fact))), (29, (.t [(.g [(.m [3] 0 r_8.1.relations.length tRelation.k), (.m [4] 0 r_8.1.facts.length tFact.k)]), (boolA r_8.2)]))] rfl ?_
     refine TO_st (σ' := [.box [(sl tRelation db0.relations), (sl tFact db0.facts)], .box [(intA edit1.kind), (intA edit1.fact.relation), (sl tInt edit1.fact.values)], .box [.n, .n], .row (flat tRelation.own r_8.1.relations), .row (flat tFact.own r_8.1.facts)]) rfl ?_
     refine pv tb 2 rfl ?_
     refine TO_cons rfl (TOp_storeB sz48 rfl rfl rfl rfl rfl rfl rfl (by decide) (lb rfl) rfl ?_)
     refine TO_st (σ' := [.box [(sl tRelation db0.relations), (sl tFact db0.facts)], .box [(intA edit1.kind), (intA edit1.fact.relation), (sl tInt edit1.fact.values)], .box [(.m [3] 0 r_8.1.relations.length tRelation.k), (.m [4] 0 r_8.1.facts.length tFact.k)], .row (flat tRelation.own r_8.1.relations), .row (flat tFact.own r_8.1.facts)]) rfl ?_
     refine pv tb 1 rfl ?_
     refine TO_nil ?_
     refine T_ret ?_
     refine block_ret ?_
     refine then_ret ?_
     obtain rfl := some_inj H
     exact end_pick (.cellK rfl agg48 rfl (lb rfl) (.tmp .nil)) rfl [3, 4] (by decide) rfl rfl rfl rfl rfl rfl
    ·replace H := cond_f c_7 H
     refine T_skip ?_
     refine sr ?_
     obtain ⟨r_10, h_11, H⟩ := bind_inv H
     refine pv tb 1 rfl ?_
     refine TO_cons rfl (TOp_callO (call_static ent107 rfl) rfl (m_impl_copyDatabase_own _ _ h_11) rfl rfl rfl ?_)
     refine toe [(2, (.b 0 0)), (4, (.b 2 0)), (32, (.g (tDatabase.enc db0))), (33, (.g [(.m [3] 0 r_10.relations.length tRelation.k), (.m [4] 0 r_10.facts.length tFact.k)]))] rfl ?_
     refine TO_st (σ' := [.box [(sl tRelation db0.relations), (sl tFact db0.facts)], .box [(intA edit1.kind), (intA edit1.fact.relation), (sl tInt edit1.fact.values)], .box [.n, .n], .row (flat tRelation.own r_10.relations), .row (flat tFact.own r_10.facts)]) rfl ?_
     refine TO_cons rfl (TOp_storeB sz48 rfl rfl rfl rfl rfl rfl rfl (by decide) (lb rfl) rfl ?_)
     refine TO_st (σ' := [.box [(sl tRelation db0.relations), (sl tFact db0.facts)], .box [(intA edit1.kind), (intA edit1.fact.relation), (sl tInt edit1.fact.values)], .box [(.m [3] 0 r_10.relations.length tRelation.k), (.m [4] 0 r_10.facts.length tFact.k)], .row (flat tRelation.own r_10.relations), .row (flat tFact.own r_10.facts)]) rfl ?_
     refine pv tb 1 rfl ?_
     refine TO_nil ?_
     refine T_ret ?_
     obtain rfl := some_inj H
     exact end_pick (.cellK rfl agg48 rfl (lb rfl) (.tmp .nil)) rfl [3, 4] (by decide) rfl rfl rfl rfl rfl rfl
theorem m_impl_ApplyEdit_ok (u : Nat) (db0 : Database) (edit1 : Edit) (r : (Database × Bool)) (H : m_impl_ApplyEdit u db0 edit1 = some r) : FnV prg 72 [(.g (tDatabase.enc db0)), (.g (tEdit.enc edit1))] (.t [(.g (tDatabase.enc r.1)), (boolA r.2)]) := (m_impl_ApplyEdit_own u db0 edit1 r H).frz (frzOK_t (frz_cons (frzOK_g (frz_cons (frzT (T := tRelation) rfl) (frz_cons (frzT (T := tFact) rfl) frz_nil)).1 (frz_cons (frzT (T := tRelation) rfl) (frz_cons (frzT (T := tFact) rfl) frz_nil)).2) (frz_cons (frz_loose rfl) frz_nil)).1 (frz_cons (frzOK_g (frz_cons (frzT (T := tRelation) rfl) (frz_cons (frzT (T := tFact) rfl) frz_nil)).1 (frz_cons (frzT (T := tRelation) rfl) (frz_cons (frzT (T := tFact) rfl) frz_nil)).2) (frz_cons (frz_loose rfl) frz_nil)).2)

set_option maxHeartbeats 1000000 in
theorem m_impl_editsFor_own (kind0 : Int) (a1 : Database) (b2 : Database) (r : (List Edit)) (H : m_impl_editsFor kind0 a1 b2 = some r) : FnO prg 135 [(intA kind0), (.g (tDatabase.enc a1)), (.g (tDatabase.enc b2))] (.m [0] 0 r.length tEdit.k) [.row (flat tEdit.own r)] := by
  unfold m_impl_editsFor at H
  refine fnO_of_T Try.func135 rfl rfl (Nat.le_of_ble_eq_true rfl) ?_
  refine te [(0, (intA kind0)), (1, (.g (tDatabase.enc a1))), (2, (.g (tDatabase.enc b2)))] rfl ?_
  refine sr ?_
  refine TO_cons rfl (TOp_box rfl (boxAll rfl) rfl rfl ?_)
  refine TO_cons rfl (TOp_box rfl (boxAll rfl) rfl rfl ?_)
  refine pv tb 1 rfl ?_
  refine TO_nil ?_
  refine sr ?_
  refine TO_cons rfl (TOp_lit (nn := 0) (k := 3) sl90 zero100 rfl rfl rfl rfl (by decide) ?_)
  refine TO_st (σ' := [.box [(sl tRelation a1.relations), (sl tFact a1.facts)], .box [(sl tRelation b2.relations), (sl tFact b2.facts)], .row (flat tEdit.own ([] : (List Edit)))]) rfl ?_
  refine pv tb 1 rfl ?_
  refine TO_nil ?_
  refine T_seq ?_
  refine sr ?_
  obtain ⟨r_1, h_2, H⟩ := bind_inv H
  refine pv tb 1 rfl ?_
  refine TO_cons rfl (TOp_callO (call_static ent107 rfl) rfl (m_impl_copyDatabase_own _ _ h_2) rfl rfl rfl ?_)
  refine toe [(0, (intA kind0)), (4, (.b 0 0)), (5, (.b 1 0)), (7, (.m [2] 0 ([] : (List Edit)).length tEdit.k)), (11, (.g (tDatabase.enc a1))), (12, (.g [(.m [3] 0 r_1.relations.length tRelation.k), (.m [4] 0 r_1.facts.length tFact.k)]))] rfl ?_
  refine TO_st (σ' := [.box [(sl tRelation a1.relations), (sl tFact a1.facts)], .box [(sl tRelation b2.relations), (sl tFact b2.facts)], .row (flat tEdit.own ([] : (List Edit))), .row (flat tRelation.own r_1.relations), .row (flat tFact.own r_1.facts)]) rfl ?_
  refine pv tb 1 rfl ?_
  refine Tp rfl rfl (pur_len_m sl46 rfl rfl) rfl ?_
  refine pv tb 1 rfl ?_
  refine TO_nil ?_
  obtain ⟨O4_, L4_, N4_⟩ := bind_inv H
  clear H
  obtain ⟨B4_, hb4, L4_⟩ := gen_forS L4_
  refine T_block ?_
  refine T_st (σ' := [.box [(sl tRelation a1.relations), (sl tFact a1.facts)], .box [(sl tRelation b2.relations), (sl tFact b2.facts)], .row (flat tEdit.own ([] : (List Edit))), .row (flat tRelation.own r_1.relations), .row (hideTo (0 * tFact.k) (flat tFact.own r_1.facts))]) (by rw [Nat.zero_mul, hideTo_zero]) ?_
  refine T_loopX (fun k => fun (⟨t_3, out7⟩ : Nat × (List Edit)) => k = r_1.facts.length - t_3 ∧ forS B4_ (r_1.facts.drop t_3) (t_3 : Int) out7 = some O4_) (fun (⟨t_3, out7⟩ : Nat × (List Edit)) => [(0, (intA kind0)), (5, (.b 1 0)), (7, (.m [2] 0 out7.length tEdit.k)), (13, (.m [4] 0 r_1.facts.length tFact.k)), (14, (intA (r_1.facts.length : Int))), (15, (intA (t_3 : Int)))]) (fun (⟨t_3, out7⟩ : Nat × (List Edit)) => [.box [(sl tRelation a1.relations), (sl tFact a1.facts)], .box [(sl tRelation b2.relations), (sl tFact b2.facts)], .row (flat tEdit.own out7), .row (flat tRelation.own r_1.relations), .row (hideTo (t_3 * tFact.k) (flat tFact.own r_1.facts))]) _ (0, ([] : (List Edit))) (w0 5) ⟨rfl, L4_⟩ ?_
  rintro _ ⟨t_3, out7⟩ ⟨rfl, L4_⟩
  refine T_fact (len_m (.tmp 13) rfl) (fun hl4 => ?_)
  refine sr ?_
  refine pv tb 1 rfl ?_
  refine TO_nil ?_
  refine T_seq ?_
  refine T_cond (t := decide ((t_3 : Int) < (r_1.facts.length : Int))) rfl (fun d4 => ?_) (fun d4 => ?_)
  ·replace d4 := of_decide_eq_true d4
   obtain ⟨x_t_3, hx_t_3⟩ : ∃ v, (r_1.facts)[t_3]? = some v := ⟨_, List.getElem?_eq_getElem (by omega)⟩
   obtain ⟨C4_, H, K4_⟩ := forS_step L4_ hx_t_3
   rw [hb4] at H
   refine T_skip ?_
   refine T_seq ?_
   refine T_block ?_
   refine sr ?_
   refine Tp rfl rfl (pur_ixM (T := tFact) sl46 rfl rfl rfl hx_t_3 rfl) rfl ?_
   refine Tp rfl rfl (pur_ldGK (T := tFact) (i := t_3) (off := 0) rfl agg65 rfl rfl rfl (Nat.le_refl _) hx_t_3 (by decide) (cvCons rfl (cvCons cellVal_sl cvNil))) rfl ?_
   refine TO_gh (E' := [(0, (intA kind0)), (5, (.b 1 0)), (7, (.m [2] 0 out7.length tEdit.k)), (13, (.m [4] 0 r_1.facts.length tFact.k)), (14, (intA (r_1.facts.length : Int))), (15, (intA (t_3 : Int))), (18, (.g [(intA x_t_3.relation), (.m [5] 0 x_t_3.values.length tInt.k)]))]) (Ghost.detT (T := tFact) (T2 := tInt) (s := 4) (c := t_3 * tFact.k) (i := t_3) (off := 1) (xs := r_1.facts) (v := x_t_3) (ys := x_t_3.values) rfl hx_t_3 (by omega) rfl (by exact lb rfl) ⟨.r _, .r _, .r _, .r _, .r _, .r _, .g (.cons (.r _) (.cons (.m _ _ _) .nil)), trivial⟩) ?_
   refine TO_st (σ' := [.box [(sl tRelation a1.relations), (sl tFact a1.facts)], .box [(sl tRelation b2.relations), (sl tFact b2.facts)], .row (flat tEdit.own out7), .row (flat tRelation.own r_1.relations), .row (hideTo (t_3 * tFact.k + 1 + 1) (flat tFact.own r_1.facts)), .row (flat tInt.own x_t_3.values)]) rfl ?_
   refine TO_cons rfl (TOp_alloc zero65 rfl rfl ?_)
   refine TO_cons rfl (TOp_storeB sz65 rfl rfl rfl rfl rfl rfl rfl (by decide) (lb rfl) rfl ?_)
   refine TO_st (σ' := [.box [(sl tRelation a1.relations), (sl tFact a1.facts)], .box [(sl tRelation b2.relations), (sl tFact b2.facts)], .row (flat tEdit.own out7), .row (flat tRelation.own r_1.relations), .row (hideTo (t_3 * tFact.k + 1 + 1) (flat tFact.own r_1.facts)), .row (flat tInt.own x_t_3.values), .box [(intA x_t_3.relation), (.m [5] 0 x_t_3.values.length tInt.k)]]) rfl ?_
   refine TO_nil ?_
   refine sr ?_
   obtain ⟨r_5, h_6, H⟩ := bind_inv H
   refine pv tb 2 rfl ?_
   refine TO_cons rfl (TOp_callB (call_static ent106 rfl) (frz_cons (frz_loose rfl) (frz_cons (frzOK_g (frz_cons (frz_loose rfl) (frz_cons (frzT (T := tInt) rfl) frz_nil)).1 (frz_cons (frz_loose rfl) (frz_cons (frzT (T := tInt) rfl) frz_nil)).2) frz_nil)).1 (frz_cons (frz_loose rfl) (frz_cons (frzOK_g (frz_cons (frz_loose rfl) (frz_cons (frzT (T := tInt) rfl) frz_nil)).1 (frz_cons (frz_loose rfl) (frz_cons (frzT (T := tInt) rfl) frz_nil)).2) frz_nil)).2 (m_impl_FactIndex_ok _ _ _ h_6) rfl ?_)
   refine pv tb 1 rfl ?_
   refine TO_nil ?_
   refine T_cond (t := decide (r_5 < 0)) rfl (fun c_7 => ?_) (fun c_7 => ?_)
   ·replace H := cond_t c_7 H
    refine T_region ?_
    refine pv tb 3 rfl ?_
    refine Tp rfl rfl (pur_build bld100 rfl rfl) rfl ?_
    refine TO_cons rfl (TOp_litB (nn := 1) (k := 3) sl90 zero100 rfl rfl rfl rfl (by decide) ?_)
    refine TO_st (σ' := [.box [(sl tRelation a1.relations), (sl tFact a1.facts)], .box [(sl tRelation b2.relations), (sl tFact b2.facts)], .row (flat tEdit.own out7), .row (flat tRelation.own r_1.relations), .row (hideTo (t_3 * tFact.k + 1 + 1) (flat tFact.own r_1.facts)), .row (flat tInt.own x_t_3.values), .box [(intA x_t_3.relation), (.m [5] 0 x_t_3.values.length tInt.k)], .box [(intA kind0), (intA x_t_3.relation), (.m [5] 0 x_t_3.values.length tInt.k)]]) rfl ?_
    refine TO_boxify 2 rfl (lb rfl) ?_
    obtain ⟨us_8, h_9, H⟩ := bind_inv H
    refine TO_cons rfl (TOp_appB (T := tEdit) (xs := out7) (v := ({ kind := kind0, fact := x_t_3 } : Edit)) sl90 zero100 rfl bytes100 (by decide) rfl rfl rfl rfl rfl rfl rfl rfl h_9 (lb rfl) ?_)
    refine toe [(0, (intA kind0)), (5, (.b 1 0)), (9, (.b 6 0)), (13, (.m [4] 0 r_1.facts.length tFact.k)), (14, (intA (r_1.facts.length : Int))), (15, (intA (t_3 : Int))), (22, (boolA (decide (r_5 < 0)))), (24, (intA kind0)), (28, .m [8] 0 (out7.length + 1) tEdit.k)] rfl ?_
    refine TO_st (σ' := [.box [(sl tRelation a1.relations), (sl tFact a1.facts)], .box [(sl tRelation b2.relations), (sl tFact b2.facts)], .dead, .row (flat tRelation.own r_1.relations), .row (hideTo (t_3 * tFact.k + 1 + 1) (flat tFact.own r_1.facts)), .row (flat tInt.own x_t_3.values), .box [(intA x_t_3.relation), (.m [5] 0 x_t_3.values.length tInt.k)], .box [(intA kind0), (intA x_t_3.relation), (.m [5] 0 x_t_3.values.length tInt.k)], .box (flat tEdit.own out7 ++ [(intA kind0), (intA x_t_3.relation), (.m [5] 0 x_t_3.values.length tInt.k)])]) rfl ?_
    refine TO_absorbA (pr := flat tEdit.own out7) 8 2 5 rfl rfl rfl (by decide) tInt.pos (flat_len tInt.lenO _) (lb rfl) (lb rfl) rfl (nms_box rfl (nms_box rfl (nms_dead (nms_row (nms_row (nms_row (nms_box rfl (nms_box rfl (nms_box (namesA namesL_own rfl) nms_nil))))))))) ?_
    refine TO_st (σ' := [.box [(sl tRelation a1.relations), (sl tFact a1.facts)], .box [(sl tRelation b2.relations), (sl tFact b2.facts)], .dead, .row (flat tRelation.own r_1.relations), .row (hideTo (t_3 * tFact.k + 1 + 1) (flat tFact.own r_1.facts)), .dead, .box [(intA x_t_3.relation), (.m [5] 0 x_t_3.values.length tInt.k)], .box [(intA kind0), (intA x_t_3.relation), (.m [5] 0 x_t_3.values.length tInt.k)], .box (flat tEdit.own out7 ++ [(intA kind0), (intA x_t_3.relation), .o tInt.k (flat tInt.own x_t_3.values)])]) rfl ?_
    refine TO_rowifyT (T := tEdit) (xs := out7) (v := ({ kind := kind0, fact := x_t_3 } : Edit)) 8 rfl rfl h_9 (lb rfl) ?_
    refine TO_st (σ' := [.box [(sl tRelation a1.relations), (sl tFact a1.facts)], .box [(sl tRelation b2.relations), (sl tFact b2.facts)], .dead, .row (flat tRelation.own r_1.relations), .row (hideTo (t_3 * tFact.k + 1 + 1) (flat tFact.own r_1.facts)), .dead, .box [(intA x_t_3.relation), (.m [5] 0 x_t_3.values.length tInt.k)], .box [(intA kind0), (intA x_t_3.relation), (.m [5] 0 x_t_3.values.length tInt.k)], .row (flat tEdit.own us_8)]) rfl ?_
    refine TO_move 2 8 (by decide) (lb rfl) rfl rfl (lb rfl) ?_
    refine TO_env (E' := [(0, (intA kind0)), (5, (.b 1 0)), (9, (.b 6 0)), (13, (.m [4] 0 r_1.facts.length tFact.k)), (14, (intA (r_1.facts.length : Int))), (15, (intA (t_3 : Int))), (22, (boolA (decide (r_5 < 0)))), (24, (intA kind0)), (28, (.m [2] 0 us_8.length tEdit.k))]) ⟨rfl, rfl, rfl, rfl, rfl, rfl, rfl, rfl, (congrArg (fun q => A.m [2] 0 q tEdit.k) (app_len h_9)), trivial⟩ ?_
    refine TO_kill 7 (lb rfl) ?_
    refine TO_st (σ' := [.box [(sl tRelation a1.relations), (sl tFact a1.facts)], .box [(sl tRelation b2.relations), (sl tFact b2.facts)], .row (flat tEdit.own us_8), .row (flat tRelation.own r_1.relations), .row (hideTo (t_3 * tFact.k + 1 + 1) (flat tFact.own r_1.facts)), .dead, .box [(intA x_t_3.relation), (.m [5] 0 x_t_3.values.length tInt.k)], .dead, .dead]) rfl ?_
    refine pv tb 1 rfl ?_
    refine TO_nil ?_
    refine T_gh (Ghost.hide (s := 4) (c := t_3 * tFact.k + 1 + 1) (c' := (t_3 + 1) * tFact.k) (hide_le1 (d := 1) (by decide)) rfl (by exact lb rfl)) ?_
    refine T_st (σ' := [.box [(sl tRelation a1.relations), (sl tFact a1.facts)], .box [(sl tRelation b2.relations), (sl tFact b2.facts)], .row (flat tEdit.own us_8), .row (flat tRelation.own r_1.relations), .row (hideTo ((t_3 + 1) * tFact.k) (flat tFact.own r_1.facts)), .dead, .box [(intA x_t_3.relation), (.m [5] 0 x_t_3.values.length tInt.k)], .dead, .dead]) rfl ?_
    refine T_region ?_
    refine Tp rfl rfl (pur_add rfl rfl rfl (fits64 (by omega) (by omega))) rfl ?_
    refine pv tb 1 rfl ?_
    refine TO_nil ?_
    obtain rfl := some_inj H
    exact again (r_1.facts.length - (t_3 + 1)) (t_3 + 1, us_8) (by omega) (w0 5) ⟨rfl, K4_⟩
   ·replace H := cond_f c_7 H
    refine T_skip ?_
    refine T_gh (Ghost.hide (s := 4) (c := t_3 * tFact.k + 1 + 1) (c' := (t_3 + 1) * tFact.k) (hide_le1 (d := 1) (by decide)) rfl (by exact lb rfl)) ?_
    refine T_st (σ' := [.box [(sl tRelation a1.relations), (sl tFact a1.facts)], .box [(sl tRelation b2.relations), (sl tFact b2.facts)], .row (flat tEdit.own out7), .row (flat tRelation.own r_1.relations), .row (hideTo ((t_3 + 1) * tFact.k) (flat tFact.own r_1.facts)), .row (flat tInt.own x_t_3.values), .box [(intA x_t_3.relation), (.m [5] 0 x_t_3.values.length tInt.k)]]) rfl ?_
    refine T_region ?_
    refine Tp rfl rfl (pur_add rfl rfl rfl (fits64 (by omega) (by omega))) rfl ?_
    refine pv tb 1 rfl ?_
    refine TO_nil ?_
    obtain rfl := some_inj H
    exact again (r_1.facts.length - (t_3 + 1)) (t_3 + 1, out7) (by omega) (w0 5) ⟨rfl, K4_⟩
  ·replace d4 := of_decide_eq_false d4
   obtain rfl := forS_end L4_ (by omega)
   refine T_exit ?_
   refine then_exit ?_
   refine then_exit ?_
   refine block_exit ?_
   refine T_kill 4 (lb rfl) ?_
   refine T_st (σ' := [.box [(sl tRelation a1.relations), (sl tFact a1.facts)], .box [(sl tRelation b2.relations), (sl tFact b2.facts)], .row (flat tEdit.own out7), .row (flat tRelation.own r_1.relations), .dead]) rfl ?_
   replace H := N4_
   refine sr ?_
   refine pv tb 2 rfl ?_
   refine TO_nil ?_
   refine T_ret ?_
   obtain rfl := some_inj H
   exact end_pick (.tmp .nil) rfl [2] (by decide) rfl rfl rfl rfl rfl rfl
theorem m_impl_editsFor_ok (kind0 : Int) (a1 : Database) (b2 : Database) (r : (List Edit)) (H : m_impl_editsFor kind0 a1 b2 = some r) : FnV prg 135 [(intA kind0), (.g (tDatabase.enc a1)), (.g (tDatabase.enc b2))] (sl tEdit r) := (m_impl_editsFor_own kind0 a1 b2 r H).frz (frzT (T := tEdit) rfl)

set_option maxHeartbeats 1000000 in
theorem m_impl_InverseEdits_own (u : Nat) (db0 : Database) (edit1 : Edit) (r : ((List Edit) × Bool)) (H : m_impl_InverseEdits u db0 edit1 = some r) : FnO prg 76 [(.g (tDatabase.enc db0)), (.g (tEdit.enc edit1))] (.t [(.m [0] 0 r.1.length tEdit.k), (boolA r.2)]) [.row (flat tEdit.own r.1)] := by
  unfold m_impl_InverseEdits at H
  refine fnO_of_T Try.func76 rfl rfl (Nat.le_of_ble_eq_true rfl) ?_
  refine te [(0, (.g (tDatabase.enc db0))), (1, (.g (tEdit.enc edit1)))] rfl ?_
  refine sr ?_
  refine TO_cons rfl (TOp_box rfl (boxAll rfl) rfl rfl ?_)
  refine TO_cons rfl (TOp_box rfl (boxAll rfl) rfl rfl ?_)
  refine pv tb 2 rfl ?_
  refine TO_nil ?_
  refine sr ?_
  obtain ⟨r_1, h_2, H⟩ := bind_inv H
  refine pv tb 2 rfl ?_
  refine TO_cons rfl (TOp_callV (call_static ent72 rfl) (m_impl_ApplyEdit_ok u _ _ _ h_2) rfl rfl rfl ?_)
  refine pv tb 3 rfl ?_
  refine TO_cons rfl (TOp_alloc zero48 rfl rfl ?_)
  refine TO_cons rfl (TOp_storeB sz48 rfl rfl rfl rfl rfl rfl rfl (by decide) (lb rfl) rfl ?_)
  refine TO_st (σ' := [.box [(sl tRelation db0.relations), (sl tFact db0.facts)], .box [(intA edit1.kind), (intA edit1.fact.relation), (sl tInt edit1.fact.values)], .box [(sl tRelation r_1.1.relations), (sl tFact r_1.1.facts)]]) rfl ?_
  refine pv tb 1 rfl ?_
  refine TO_nil ?_
  refine T_seq ?_
  refine sr ?_
  refine pv tb 2 rfl ?_
  refine TO_nil ?_
  refine T_cond (t := (!r_1.2)) rfl (fun c_3 => ?_) (fun c_3 => ?_)
  ·replace H := cond_t c_3 H
   refine sr ?_
   refine pv tb 2 rfl ?_
   refine TO_nil ?_
   refine te [(4, .n), (5, (boolA false))] rfl ?_
   refine T_row0 ?_
   refine T_envL (E' := [(4, (.m [3] 0 ([] : (List Edit)).length tEdit.k)), (5, (boolA false))]) ⟨leM, (leR rfl), trivial⟩ ?_
   refine T_st (σ' := [.box [(sl tRelation db0.relations), (sl tFact db0.facts)], .box [(intA edit1.kind), (intA edit1.fact.relation), (sl tInt edit1.fact.values)], .box [(sl tRelation r_1.1.relations), (sl tFact r_1.1.facts)], .row (flat tEdit.own ([] : (List Edit)))]) rfl ?_
   refine T_ret ?_
   refine then_ret ?_
   obtain rfl := some_inj H
   exact end_pick (.tmp (.tmp .nil)) rfl [3] (by decide) rfl rfl rfl rfl rfl rfl
  ·replace H := cond_f c_3 H
   refine T_skip ?_
   obtain ⟨r_4, h_5, H⟩ := bind_inv H
   obtain ⟨r_6, h_7, H⟩ := bind_inv H
   obtain ⟨us_8, h_9, H⟩ := bind_inv H
   refine T_pad ?_
   refine T_cutX (fun (_ : Unit) => True) (fun _ => [(4, (.m [3] 0 us_8.length tEdit.k)), (5, (boolA true))]) (fun _ => [.box [(sl tRelation db0.relations), (sl tFact db0.facts)], .box [(intA edit1.kind), (intA edit1.fact.relation), (sl tInt edit1.fact.values)], .box [(sl tRelation r_1.1.relations), (sl tFact r_1.1.facts)], .row (flat tEdit.own us_8)]) ?_ ?_
   ·skip
    refine T_regionP 3 mixed rfl ?_
    refine pa tb [0, 1, 3, 4] 5 rfl (by kernel_rfl) rfl ?_
    refine t1 2 (by kernel_rfl) rfl rfl (TOp_callO (call_static ent135 rfl) rfl (m_impl_editsFor_own _ _ _ _ h_5) rfl rfl rfl ?_)
    refine tae [(2, (.b 0 0)), (6, (.b 2 0)), (16, (.g (tDatabase.enc r_1.1))), (17, (.g (tDatabase.enc db0))), (18, (.m [4] 0 r_4.length tEdit.k)), (19, (.g (tDatabase.enc db0))), (20, (.g (tDatabase.enc r_1.1)))] rfl ?_
    refine TA_st (σ' := [.dead, .dead, .dead, .dead, .row (flat tEdit.own r_4)]) rfl ?_
    refine t1 5 (by kernel_rfl) rfl rfl (TOp_callO (call_static ent135 rfl) rfl (m_impl_editsFor_own _ _ _ _ h_7) rfl rfl rfl ?_)
    refine tae [(2, (.b 0 0)), (6, (.b 2 0)), (16, (.g (tDatabase.enc r_1.1))), (17, (.g (tDatabase.enc db0))), (18, (.m [4] 0 r_4.length tEdit.k)), (19, (.g (tDatabase.enc db0))), (20, (.g (tDatabase.enc r_1.1))), (21, (.m [5] 0 r_6.length tEdit.k))] rfl ?_
    refine TA_st (σ' := [.dead, .dead, .dead, .dead, .row (flat tEdit.own r_4), .row (flat tEdit.own r_6)]) rfl ?_
    refine t1 6 (by kernel_rfl) rfl rfl (TOp_appOO (Y := tEdit) (xs := r_4) (ys := r_6) sl90 zero100 rfl bytes100 (by decide) rfl rfl rfl rfl rfl rfl (by decide) h_9 ?_)
    refine tmw 4 6 (by decide) (lb rfl) rfl rfl (lb rfl) rfl ?_
    refine tae [(2, (.b 0 0)), (6, (.b 2 0)), (16, (.g (tDatabase.enc r_1.1))), (17, (.g (tDatabase.enc db0))), (19, (.g (tDatabase.enc db0))), (20, (.g (tDatabase.enc r_1.1))), (22, (.m [4] 0 us_8.length tEdit.k))] rfl ?_
    refine TA_st (σ' := [.dead, .dead, .dead, .dead, .row (flat tEdit.own us_8), .dead, .dead]) rfl ?_
    refine pa tb [7, 8] 0 rfl (by kernel_rfl) rfl ?_
    refine TA_ghost (E' := [(4, (.m [3] 0 us_8.length tEdit.k)), (5, (boolA true))]) (σ' := [.dead, .dead, .dead, .row (flat tEdit.own us_8), .dead, .dead, .dead]) (Ghost.move 3 4 (by decide) (lb rfl) rfl rfl (lb rfl) (Ghost.weak (WeakL.to 7 (lb rfl) rfl rfl rfl rfl ⟨leR rfl, leR rfl, trivial⟩))) ?_
    exact TA_nil (by kernel_rfl) (joined () (w0 4) trivial)
   ·rintro _ _
    refine T_ret ?_
    obtain rfl := some_inj H
    exact end_pick (.tmp (.tmp .nil)) rfl [3] (by decide) rfl rfl rfl rfl rfl rfl
theorem m_impl_InverseEdits_ok (u : Nat) (db0 : Database) (edit1 : Edit) (r : ((List Edit) × Bool)) (H : m_impl_InverseEdits u db0 edit1 = some r) : FnV prg 76 [(.g (tDatabase.enc db0)), (.g (tEdit.enc edit1))] (.t [(sl tEdit r.1), (boolA r.2)]) := (m_impl_InverseEdits_own u db0 edit1 r H).frz (frzOK_t (frz_cons (frzT (T := tEdit) rfl) (frz_cons (frz_loose rfl) frz_nil)).1 (frz_cons (frzT (T := tEdit) rfl) (frz_cons (frz_loose rfl) frz_nil)).2)

set_option maxHeartbeats 1000000 in
theorem m_laws_eqEditS_ok (a0 : (List Edit)) (b1 : (List Edit)) (r : Bool) (H : m_laws_eqEditS a0 b1 = some r) : FnV prg 77 [(sl tEdit a0), (sl tEdit b1)] (boolA r) := by
  unfold m_laws_eqEditS at H
  refine fnV_of_T Try.func77 rfl rfl (Nat.le_of_ble_eq_true rfl) ?_
  refine te [(0, (sl tEdit a0)), (1, (sl tEdit b1))] rfl ?_
  refine sr ?_
  refine pv tb 1 rfl ?_
  refine TO_nil ?_
  refine T_seq ?_
  refine sr ?_
  refine pv tb 1 rfl ?_
  refine Tp rfl rfl (pur_lenT (T := tEdit) sl90 rfl rfl) rfl ?_
  refine pv tb 1 rfl ?_
  refine Tp rfl rfl (pur_lenT (T := tEdit) sl90 rfl rfl) rfl ?_
  refine pv tb 1 rfl ?_
  refine TO_nil ?_
  refine T_cond (t := decide ((a0.length : Int) ≠ (b1.length : Int))) rfl (fun c_1 => ?_) (fun c_1 => ?_)
  ·replace H := cond_t c_1 H
   refine sr ?_
   refine pv tb 1 rfl ?_
   refine TO_nil ?_
   refine T_ret ?_
   refine then_ret ?_
   obtain rfl := some_inj H
   refine end_ret (.tmp .nil) rfl rfl ⟨?_, rfl⟩
   rfl
  ·replace H := cond_f c_1 H
   refine T_skip ?_
   refine T_seq ?_
   refine sr ?_
   refine pv tb 1 rfl ?_
   refine TO_nil ?_
   obtain ⟨O3_, L3_, N3_⟩ := bind_inv H
   clear H
   obtain ⟨B3_, hb3, L3_⟩ := gen_forL L3_
   refine T_block ?_
   refine T_loopX (fun k => fun (i_2 : Nat) => k = a0.length - i_2 ∧ forL B3_ (a0.drop i_2) (i_2 : Int) () = some O3_) (fun (i_2 : Nat) => [(0, (sl tEdit a0)), (1, (sl tEdit b1)), (5, (intA (i_2 : Int)))]) (fun (i_2 : Nat) => []) _ (0 : Nat) (w0 0) ⟨rfl, L3_⟩ ?_
   rintro _ i_2 ⟨rfl, L3_⟩
   refine T_fact (len_sl (T := tEdit) (.tmp 0) rfl) (fun hl3 => ?_)
   refine T_seq ?_
   refine sr ?_
   refine pv tb 2 rfl ?_
   refine Tp rfl rfl (pur_lenT (T := tEdit) sl90 rfl rfl) rfl ?_
   refine pv tb 1 rfl ?_
   refine TO_nil ?_
   refine T_cond (t := decide ((i_2 : Int) < (a0.length : Int))) rfl (fun d3 => ?_) (fun d3 => ?_)
   ·replace d3 := of_decide_eq_true d3
    obtain ⟨x_i_2, hx_i_2⟩ : ∃ v, (a0)[i_2]? = some v := ⟨_, List.getElem?_eq_getElem (by omega)⟩
    obtain ⟨C3_, H, K3_⟩ := forL_step L3_ hx_i_2
    rw [hb3] at H
    refine T_skip ?_
    refine T_seq ?_
    refine T_block ?_
    refine T_seq ?_
    refine T_regionD mixed (by kernel_rfl) ?_
    refine pq tb 2 rfl ?_
    refine TQ_pure rfl (pur_ixT (T := tEdit) sl90 rfl rfl rfl hx_i_2 rfl) rfl ?_
    refine TQ_pure rfl (pur_ldTK (T := tEdit) (i := i_2) (off := 0) rfl agg100 rfl rfl hx_i_2 (by decide) rfl) rfl ?_
    obtain ⟨v_4, h_5, H⟩ := bind_inv H
    obtain ⟨n_6, hz_7, hv_8⟩ := getI_inv h_5
    refine pq tb 2 rfl ?_
    refine TQ_pure rfl (pur_ixT (T := tEdit) sl90 rfl rfl hz_7 hv_8 rfl) rfl ?_
    refine TQ_pure rfl (pur_ldTK (T := tEdit) (i := n_6) (off := 0) rfl agg100 rfl rfl hv_8 (by decide) rfl) rfl ?_
    obtain ⟨r_9, h_10, H⟩ := bind_inv H
    refine TQ_callV rfl (call_static ent73 rfl) (m_laws_eqEdit_ok _ _ _ h_10) rfl rfl ?_
    refine pq tb 1 rfl ?_
    refine TQ_nil ?_
    refine T_cond (t := (!r_9)) rfl (fun c_11 => ?_) (fun c_11 => ?_)
    ·replace H := cond_t c_11 H
     refine sr ?_
     refine pv tb 1 rfl ?_
     refine TO_nil ?_
     refine te [(4, (boolA false))] rfl ?_
     refine T_ret ?_
     refine block_ret ?_
     refine then_ret ?_
     refine then_ret ?_
     refine block_ret ?_
     refine then_ret ?_
     obtain rfl := some_inj H
     obtain rfl := some_inj K3_
     replace H := onS_r N3_
     obtain rfl := some_inj H
     refine end_ret (.tmp .nil) rfl rfl ⟨?_, rfl⟩
     rfl
    ·replace H := cond_f c_11 H
     refine T_skip ?_
     refine T_region ?_
     refine pv tb 1 rfl ?_
     refine Tp rfl rfl (pur_add rfl rfl rfl (fits64 (by omega) (by omega))) rfl ?_
     refine pv tb 1 rfl ?_
     refine TO_nil ?_
     obtain rfl := some_inj H
     exact again (a0.length - (i_2 + 1)) (i_2 + 1) (by omega) (w0 0) ⟨rfl, K3_⟩
   ·replace d3 := of_decide_eq_false d3
    obtain rfl := forL_end L3_ (by omega)
    refine T_exit ?_
    refine then_exit ?_
    refine then_exit ?_
    refine block_exit ?_
    replace H := onS_l N3_
    refine sr ?_
    refine pv tb 1 rfl ?_
    refine TO_nil ?_
    refine T_ret ?_
    obtain rfl := some_inj H
    refine end_ret (.tmp .nil) rfl rfl ⟨?_, rfl⟩
    rfl

set_option maxHeartbeats 1000000 in
theorem m_laws_markEditS_mut (a0 : (List Edit)) (k1 : Int) (r : (Int × (List Edit))) (H : m_laws_markEditS a0 k1 = some r) : FnM prg 78 [(.m [0] 0 a0.length tEdit.k), (intA k1)] [flat tEdit.own a0] (.int .i64 r.1) [flat tEdit.own r.2] := by
  unfold m_laws_markEditS at H
  refine fnM_of_T Try.func78 rfl rfl (Nat.le_of_ble_eq_true rfl) ?_
  refine te [(0, (.m [0] 0 a0.length tEdit.k)), (1, (intA k1))] rfl ?_
  refine T_st (σ' := [.row (flat tEdit.own a0)]) rfl ?_
  refine sr ?_
  refine pv tb 1 rfl ?_
  refine TO_nil ?_
  refine T_seq ?_
  refine sr ?_
  refine pv tb 1 rfl ?_
  refine TO_nil ?_
  obtain ⟨O2_, L2_, N2_⟩ := bind_inv H
  clear H
  obtain ⟨B2_, hb2, L2_⟩ := gen_forM L2_
  refine T_block ?_
  refine T_loopX (fun k => fun (⟨i_1, a0m, k1⟩ : Int × (List Edit) × Int) => k = ((a0.length : Int) - i_1).toNat ∧ 0 ≤ i_1 ∧ forM B2_ ((a0.length : Int) - i_1).toNat i_1 (a0m, k1) = some O2_ ∧ a0m.length = a0.length) (fun (⟨i_1, a0m, k1⟩ : Int × (List Edit) × Int) => [(0, (.m [0] 0 a0m.length tEdit.k)), (1, (intA k1)), (5, (intA (i_1 : Int)))]) (fun (⟨i_1, a0m, k1⟩ : Int × (List Edit) × Int) => [.row (flat tEdit.own a0m)]) _ (0, (a0, k1)) (w0 1) ⟨rfl, Int.le_refl _, L2_, rfl⟩ ?_
  rintro _ ⟨i_1, a0m, k1⟩ ⟨rfl, hi2, L2_, hq_a0m⟩
  replace hq_a0m : a0m.length = a0.length := hq_a0m
  refine T_fact (len_m (.tmp 0) rfl) (fun hl2 => ?_)
  refine T_seq ?_
  refine sr ?_
  refine pv tb 2 rfl ?_
  refine Tp rfl rfl (pur_len_m sl90 rfl rfl) rfl ?_
  refine pv tb 1 rfl ?_
  refine TO_nil ?_
  refine T_cond (t := decide ((i_1 : Int) < (a0m.length : Int))) rfl (fun d2 => ?_) (fun d2 => ?_)
  ·replace d2 := of_decide_eq_true d2
   replace d2 : (i_1 : Int) < (a0.length : Int) := by omega
   obtain ⟨C2_, H, K2_⟩ := forM_step L2_ d2
   rw [hb2] at H
   refine T_skip ?_
   refine T_seq ?_
   refine T_block ?_
   refine sr ?_
   obtain ⟨v_3, h_4, H⟩ := bind_inv H
   obtain ⟨n_5, hz_6, hv_7⟩ := getI_inv h_4
   refine pv tb 3 rfl ?_
   refine Tp rfl rfl (pur_ixM (T := tEdit) sl90 rfl rfl hz_6 hv_7 rfl) rfl ?_
   refine pv tb 1 rfl ?_
   refine TO_cons rfl (TOp_setP (f := tEdit.own) (k := tEdit.k) (off := 0) (z := (i_1 : Int)) tEdit.lenO ({ kind := k1, fact := v_3.fact } : Edit) hz_6 sz3 (by decide) rfl rfl rfl rfl rfl hv_7 rfl rfl (by decide) rfl rfl ?_)
   refine TO_env (E' := [(0, (.m [0] 0 (a0m.set ((i_1 : Int)).toNat ({ kind := k1, fact := v_3.fact } : Edit)).length tEdit.k)), (1, (intA k1)), (5, (intA (i_1 : Int))), (12, (.m [0] 0 (a0m.set ((i_1 : Int)).toNat ({ kind := k1, fact := v_3.fact } : Edit)).length tEdit.k)), (13, (intA (i_1 : Int))), (14, (intA k1))]) ⟨(congrArg (fun q => A.m [0] 0 q tEdit.k) (List.length_set ..).symm), rfl, rfl, (congrArg (fun q => A.m [0] 0 q tEdit.k) (List.length_set ..).symm), rfl, rfl, trivial⟩ ?_
   refine TO_st (σ' := [.row (flat tEdit.own (a0m.set ((i_1 : Int)).toNat ({ kind := k1, fact := v_3.fact } : Edit)))]) rfl ?_
   refine TO_nil ?_
   refine sr ?_
   refine pv tb 3 rfl ?_
   refine TO_nil ?_
   refine sr ?_
   obtain ⟨v_8, h_9, H⟩ := bind_inv H
   obtain ⟨n_10, hz_11, hv_12⟩ := getI_inv h_9
   refine pv tb 3 rfl ?_
   refine Tp rfl rfl (pur_ixM (T := tEdit) sl90 rfl rfl hz_11 hv_12 rfl) rfl ?_
   refine pv tb 2 rfl ?_
   refine TO_cons rfl (TOp_setP (f := tEdit.own) (k := tEdit.k) (off := 1) (z := (i_1 : Int)) tEdit.lenO ({ kind := v_8.kind, fact := ({ relation := (w64 (k1 + 1)), values := v_8.fact.values } : Fact) } : Edit) hz_11 sz3 (by decide) rfl rfl rfl rfl rfl hv_12 rfl rfl (by decide) rfl rfl ?_)
   refine TO_env (E' := [(0, (.m [0] 0 ((a0m.set ((i_1 : Int)).toNat ({ kind := k1, fact := v_3.fact } : Edit)).set ((i_1 : Int)).toNat ({ kind := v_8.kind, fact := ({ relation := (w64 (k1 + 1)), values := v_8.fact.values } : Fact) } : Edit)).length tEdit.k)), (1, (intA (w64 (k1 + 1)))), (5, (intA (i_1 : Int))), (19, (.m [0] 0 ((a0m.set ((i_1 : Int)).toNat ({ kind := k1, fact := v_3.fact } : Edit)).set ((i_1 : Int)).toNat ({ kind := v_8.kind, fact := ({ relation := (w64 (k1 + 1)), values := v_8.fact.values } : Fact) } : Edit)).length tEdit.k)), (20, (intA (i_1 : Int))), (21, (intA (w64 (k1 + 1))))]) ⟨(congrArg (fun q => A.m [0] 0 q tEdit.k) (List.length_set ..).symm), rfl, rfl, (congrArg (fun q => A.m [0] 0 q tEdit.k) (List.length_set ..).symm), rfl, rfl, trivial⟩ ?_
   refine TO_st (σ' := [.row (flat tEdit.own ((a0m.set ((i_1 : Int)).toNat ({ kind := k1, fact := v_3.fact } : Edit)).set ((i_1 : Int)).toNat ({ kind := v_8.kind, fact := ({ relation := (w64 (k1 + 1)), values := v_8.fact.values } : Fact) } : Edit)))]) rfl ?_
   refine TO_nil ?_
   refine sr ?_
   refine pv tb 3 rfl ?_
   refine TO_nil ?_
   refine T_region ?_
   obtain ⟨v_13, h_14, H⟩ := bind_inv H
   obtain ⟨n_15, hz_16, hv_17⟩ := getI_inv h_14
   refine pv tb 2 rfl ?_
   refine Tp rfl rfl (pur_ixM (T := tEdit) sl90 rfl rfl hz_16 hv_17 rfl) rfl ?_
   refine pv tb 2 rfl ?_
   refine Tp rfl rfl (pur_ldE (f := tEdit.own) (k := tEdit.k) (i := n_15) (off := 2) tEdit.lenO rfl one23 rfl rfl rfl hv_17 rfl cellVal_sl) rfl ?_
   obtain ⟨r_18, h_19, H⟩ := bind_inv H
   refine pv tb 1 rfl ?_
   refine TO_cons rfl (TOp_callG (aa := [(.m [0, n_15 * tEdit.k + 1 + 1] 0 v_13.fact.values.length tInt.k), (intA (w64 ((w64 (k1 + 1)) + 1)))]) [[0, n_15 * tEdit.k + 1 + 1]] (call_static ent23 rfl) rfl (.cons (rowAt_el (f := tEdit.own) (i := n_15) (off := 2) tEdit.lenO rfl hv_17 rfl) rfl (by simp) .nil) (by simp [namesL, A.names, locP]) (by simp [renPL, A.renP, locF, locP]) (m_laws_markIntS_mut _ _ _ h_19) rfl (fun hl_20 => ?_))
   refine TO_env (E' := [(0, (.m [0] 0 (((a0m.set ((i_1 : Int)).toNat ({ kind := k1, fact := v_3.fact } : Edit)).set ((i_1 : Int)).toNat ({ kind := v_8.kind, fact := ({ relation := (w64 (k1 + 1)), values := v_8.fact.values } : Fact) } : Edit)).set ((i_1 : Int)).toNat ({ kind := v_13.kind, fact := ({ relation := v_13.fact.relation, values := r_18.2 } : Fact) } : Edit)).length tEdit.k)), (1, (intA (w64 ((w64 (k1 + 1)) + 1)))), (5, (intA (i_1 : Int))), (27, (.m [0] 0 (((a0m.set ((i_1 : Int)).toNat ({ kind := k1, fact := v_3.fact } : Edit)).set ((i_1 : Int)).toNat ({ kind := v_8.kind, fact := ({ relation := (w64 (k1 + 1)), values := v_8.fact.values } : Fact) } : Edit)).set ((i_1 : Int)).toNat ({ kind := v_13.kind, fact := ({ relation := v_13.fact.relation, values := r_18.2 } : Fact) } : Edit)).length tEdit.k)), (28, (intA (i_1 : Int))), (33, (intA (w64 ((w64 (k1 + 1)) + 1)))), (34, (intA r_18.1))]) ⟨(congrArg (fun q => A.m [0] 0 q tEdit.k) (List.length_set ..).symm), rfl, rfl, (congrArg (fun q => A.m [0] 0 q tEdit.k) (List.length_set ..).symm), rfl, rfl, rfl, trivial⟩ ?_
   refine TO_st (σ' := [.row (flat tEdit.own (((a0m.set ((i_1 : Int)).toNat ({ kind := k1, fact := v_3.fact } : Edit)).set ((i_1 : Int)).toNat ({ kind := v_8.kind, fact := ({ relation := (w64 (k1 + 1)), values := v_8.fact.values } : Fact) } : Edit)).set ((i_1 : Int)).toNat ({ kind := v_13.kind, fact := ({ relation := v_13.fact.relation, values := r_18.2 } : Fact) } : Edit)))]) (setRows_T (f := tEdit.own) (i := n_15) (v' := ({ kind := v_13.kind, fact := ({ relation := v_13.fact.relation, values := r_18.2 } : Fact) } : Edit)) tEdit.lenO hz_16 [2] rfl hv_17 (allO_cons ⟨_, _, rfl⟩ allO_nil) rfl) ?_
   refine pv tb 1 rfl ?_
   refine TO_nil ?_
   refine te [(0, (.m [0] 0 (((a0m.set ((i_1 : Int)).toNat ({ kind := k1, fact := v_3.fact } : Edit)).set ((i_1 : Int)).toNat ({ kind := v_8.kind, fact := ({ relation := (w64 (k1 + 1)), values := v_8.fact.values } : Fact) } : Edit)).set ((i_1 : Int)).toNat ({ kind := v_13.kind, fact := ({ relation := v_13.fact.relation, values := r_18.2 } : Fact) } : Edit)).length tEdit.k)), (1, (intA r_18.1)), (5, (intA (i_1 : Int)))] rfl ?_
   refine T_region ?_
   refine pv tb 1 rfl ?_
   refine Tp rfl rfl (pur_add rfl rfl rfl (fits64 (by omega) (by omega))) rfl ?_
   refine pv tb 1 rfl ?_
   refine TO_nil ?_
   obtain rfl := some_inj H
   exact again ((a0.length : Int) - (i_1 + 1)).toNat (i_1 + 1, ((((a0m.set ((i_1 : Int)).toNat ({ kind := k1, fact := v_3.fact } : Edit)).set ((i_1 : Int)).toNat ({ kind := v_8.kind, fact := ({ relation := (w64 (k1 + 1)), values := v_8.fact.values } : Fact) } : Edit)).set ((i_1 : Int)).toNat ({ kind := v_13.kind, fact := ({ relation := v_13.fact.relation, values := r_18.2 } : Fact) } : Edit)), r_18.1)) (by omega) (w0 1) ⟨rfl, by omega, K2_, ((List.length_set ..).trans ((List.length_set ..).trans ((List.length_set ..).trans hq_a0m)))⟩
  ·replace d2 := of_decide_eq_false d2
   obtain rfl := forM_end L2_ (by omega)
   refine T_exit ?_
   refine then_exit ?_
   refine then_exit ?_
   refine block_exit ?_
   replace H := N2_
   refine sr ?_
   refine pv tb 2 rfl ?_
   refine TO_nil ?_
   refine T_ret ?_
   obtain rfl := some_inj H
   exact end_M (.tmp .nil) rfl rfl (Nat.le_refl _) (sameLens_c (T := tEdit) hq_a0m trivial) rfl rfl

set_option maxHeartbeats 1000000 in
theorem m_laws_heldIntS_ok (a0 : (List Int)) (k1 : Int) (r : Int) (H : m_laws_heldIntS a0 k1 = some r) : FnV prg 31 [(sl tInt a0), (intA k1)] (intA r) := by
  unfold m_laws_heldIntS at H
  refine fnV_of_T Try.func31 rfl rfl (Nat.le_of_ble_eq_true rfl) ?_
  refine te [(0, (sl tInt a0)), (1, (intA k1))] rfl ?_
  refine sr ?_
  refine pv tb 1 rfl ?_
  refine TO_nil ?_
  refine T_seq ?_
  refine sr ?_
  refine pv tb 1 rfl ?_
  refine TO_nil ?_
  obtain ⟨O2_, L2_, N2_⟩ := bind_inv H
  clear H
  obtain ⟨B2_, hb2, L2_⟩ := gen_forL L2_
  refine T_block ?_
  refine T_loopX (fun k => fun (⟨i_1, k1⟩ : Nat × Int) => k = a0.length - i_1 ∧ forL B2_ (a0.drop i_1) (i_1 : Int) k1 = some O2_) (fun (⟨i_1, k1⟩ : Nat × Int) => [(0, (sl tInt a0)), (1, (intA k1)), (5, (intA (i_1 : Int)))]) (fun (⟨i_1, k1⟩ : Nat × Int) => []) _ (0, k1) (w0 0) ⟨rfl, L2_⟩ ?_
  rintro _ ⟨i_1, k1⟩ ⟨rfl, L2_⟩
  refine T_fact (len_sl (T := tInt) (.tmp 0) rfl) (fun hl2 => ?_)
  refine T_seq ?_
  refine sr ?_
  refine pv tb 2 rfl ?_
  refine Tp rfl rfl (pur_lenT (T := tInt) sl23 rfl rfl) rfl ?_
  refine pv tb 1 rfl ?_
  refine TO_nil ?_
  refine T_cond (t := decide ((i_1 : Int) < (a0.length : Int))) rfl (fun d2 => ?_) (fun d2 => ?_)
  ·replace d2 := of_decide_eq_true d2
   obtain ⟨x_i_1, hx_i_1⟩ : ∃ v, (a0)[i_1]? = some v := ⟨_, List.getElem?_eq_getElem (by omega)⟩
   obtain ⟨C2_, H, K2_⟩ := forL_step L2_ hx_i_1
   rw [hb2] at H
   refine T_skip ?_
   refine T_seq ?_
   refine T_block ?_
   refine T_seq ?_
   refine sr ?_
   refine pv tb 2 rfl ?_
   refine Tp rfl rfl (pur_ixT (T := tInt) sl23 rfl rfl rfl hx_i_1 rfl) rfl ?_
   refine Tp rfl rfl (pur_ldT (T := tInt) (i := i_1) (off := 0) rfl one3 rfl rfl hx_i_1 rfl) rfl ?_
   refine pv tb 2 rfl ?_
   refine TO_nil ?_
   refine T_cond (t := decide (x_i_1 ≠ k1)) rfl (fun c_3 => ?_) (fun c_3 => ?_)
   ·replace H := cond_t c_3 H
    refine sr ?_
    refine pv tb 1 rfl ?_
    refine TO_nil ?_
    refine T_ret ?_
    refine then_ret ?_
    refine block_ret ?_
    refine then_ret ?_
    refine then_ret ?_
    refine block_ret ?_
    refine then_ret ?_
    obtain rfl := some_inj H
    obtain rfl := some_inj K2_
    replace H := onS_r N2_
    obtain rfl := some_inj H
    refine end_ret (.tmp .nil) rfl rfl ⟨?_, rfl⟩
    rfl
   ·replace H := cond_f c_3 H
    refine T_skip ?_
    refine T_region ?_
    refine pv tb 3 rfl ?_
    refine TO_nil ?_
    refine T_region ?_
    refine pv tb 1 rfl ?_
    refine Tp rfl rfl (pur_add rfl rfl rfl (fits64 (by omega) (by omega))) rfl ?_
    refine pv tb 1 rfl ?_
    refine TO_nil ?_
    obtain rfl := some_inj H
    exact again (a0.length - (i_1 + 1)) (i_1 + 1, (w64 (k1 + 1))) (by omega) (w0 0) ⟨rfl, K2_⟩
  ·replace d2 := of_decide_eq_false d2
   obtain rfl := forL_end L2_ (by omega)
   refine T_exit ?_
   refine then_exit ?_
   refine then_exit ?_
   refine block_exit ?_
   replace H := onS_l N2_
   refine sr ?_
   refine pv tb 2 rfl ?_
   refine TO_nil ?_
   refine T_ret ?_
   obtain rfl := some_inj H
   refine end_ret (.tmp .nil) rfl rfl ⟨?_, rfl⟩
   rfl

set_option maxHeartbeats 1000000 in
theorem m_laws_heldEditS_ok (a0 : (List Edit)) (k1 : Int) (r : Int) (H : m_laws_heldEditS a0 k1 = some r) : FnV prg 79 [(sl tEdit a0), (intA k1)] (intA r) := by
  unfold m_laws_heldEditS at H
  refine fnV_of_T Try.func79 rfl rfl (Nat.le_of_ble_eq_true rfl) ?_
  refine te [(0, (sl tEdit a0)), (1, (intA k1))] rfl ?_
  refine sr ?_
  refine pv tb 1 rfl ?_
  refine TO_nil ?_
  refine T_seq ?_
  refine sr ?_
  refine pv tb 1 rfl ?_
  refine TO_nil ?_
  obtain ⟨O2_, L2_, N2_⟩ := bind_inv H
  clear H
  obtain ⟨B2_, hb2, L2_⟩ := gen_forL L2_
  refine T_block ?_
  refine T_loopX (fun k => fun (⟨i_1, k1⟩ : Nat × Int) => k = a0.length - i_1 ∧ forL B2_ (a0.drop i_1) (i_1 : Int) k1 = some O2_) (fun (⟨i_1, k1⟩ : Nat × Int) => [(0, (sl tEdit a0)), (1, (intA k1)), (5, (intA (i_1 : Int)))]) (fun (⟨i_1, k1⟩ : Nat × Int) => []) _ (0, k1) (w0 0) ⟨rfl, L2_⟩ ?_
  rintro _ ⟨i_1, k1⟩ ⟨rfl, L2_⟩
  refine T_fact (len_sl (T := tEdit) (.tmp 0) rfl) (fun hl2 => ?_)
  refine T_seq ?_
  refine sr ?_
  refine pv tb 2 rfl ?_
  refine Tp rfl rfl (pur_lenT (T := tEdit) sl90 rfl rfl) rfl ?_
  refine pv tb 1 rfl ?_
  refine TO_nil ?_
  refine T_cond (t := decide ((i_1 : Int) < (a0.length : Int))) rfl (fun d2 => ?_) (fun d2 => ?_)
  ·replace d2 := of_decide_eq_true d2
   obtain ⟨x_i_1, hx_i_1⟩ : ∃ v, (a0)[i_1]? = some v := ⟨_, List.getElem?_eq_getElem (by omega)⟩
   obtain ⟨C2_, H, K2_⟩ := forL_step L2_ hx_i_1
   rw [hb2] at H
   refine T_skip ?_
   refine T_seq ?_
   refine T_block ?_
   refine T_seq ?_
   refine sr ?_
   refine pv tb 2 rfl ?_
   refine Tp rfl rfl (pur_ixT (T := tEdit) sl90 rfl rfl rfl hx_i_1 rfl) rfl ?_
   refine pv tb 1 rfl ?_
   refine Tp rfl rfl (pur_ldT (T := tEdit) (i := i_1) (off := 0) rfl one3 rfl rfl hx_i_1 rfl) rfl ?_
   refine pv tb 2 rfl ?_
   refine TO_nil ?_
   refine T_cond (t := decide (x_i_1.kind ≠ k1)) rfl (fun c_3 => ?_) (fun c_3 => ?_)
   ·replace H := cond_t c_3 H
    refine sr ?_
    refine pv tb 1 rfl ?_
    refine TO_nil ?_
    refine T_ret ?_
    refine then_ret ?_
    refine block_ret ?_
    refine then_ret ?_
    refine then_ret ?_
    refine block_ret ?_
    refine then_ret ?_
    obtain rfl := some_inj H
    obtain rfl := some_inj K2_
    replace H := onS_r N2_
    obtain rfl := some_inj H
    refine end_ret (.tmp .nil) rfl rfl ⟨?_, rfl⟩
    rfl
   ·replace H := cond_f c_3 H
    refine T_skip ?_
    refine sr ?_
    refine pv tb 3 rfl ?_
    refine TO_nil ?_
    refine T_seq ?_
    refine sr ?_
    refine pv tb 2 rfl ?_
    refine Tp rfl rfl (pur_ixT (T := tEdit) sl90 rfl rfl rfl hx_i_1 rfl) rfl ?_
    refine pv tb 2 rfl ?_
    refine Tp rfl rfl (pur_ldT (T := tEdit) (i := i_1) (off := 1) rfl one3 rfl rfl hx_i_1 rfl) rfl ?_
    refine pv tb 2 rfl ?_
    refine TO_nil ?_
    refine te [(0, (sl tEdit a0)), (1, (intA (w64 (k1 + 1)))), (5, (intA (i_1 : Int))), (28, (boolA (decide (x_i_1.fact.relation ≠ (w64 (k1 + 1))))))] rfl ?_
    refine T_cond (t := decide (x_i_1.fact.relation ≠ (w64 (k1 + 1)))) rfl (fun c_4 => ?_) (fun c_4 => ?_)
    ·replace H := cond_t c_4 H
     refine sr ?_
     refine pv tb 1 rfl ?_
     refine TO_nil ?_
     refine T_ret ?_
     refine then_ret ?_
     refine block_ret ?_
     refine then_ret ?_
     refine then_ret ?_
     refine block_ret ?_
     refine then_ret ?_
     obtain rfl := some_inj H
     obtain rfl := some_inj K2_
     replace H := onS_r N2_
     obtain rfl := some_inj H
     refine end_ret (.tmp .nil) rfl rfl ⟨?_, rfl⟩
     rfl
    ·replace H := cond_f c_4 H
     refine T_skip ?_
     refine sr ?_
     refine pv tb 3 rfl ?_
     refine TO_nil ?_
     refine sr ?_
     refine pv tb 2 rfl ?_
     refine Tp rfl rfl (pur_ixT (T := tEdit) sl90 rfl rfl rfl hx_i_1 rfl) rfl ?_
     refine pv tb 2 rfl ?_
     refine Tp rfl rfl (pur_ldT (T := tEdit) (i := i_1) (off := 2) rfl one23 rfl rfl hx_i_1 rfl) rfl ?_
     obtain ⟨r_5, h_6, H⟩ := bind_inv H
     refine pv tb 1 rfl ?_
     refine TO_cons rfl (TOp_callV (call_static ent31 rfl) (m_laws_heldIntS_ok _ _ _ h_6) rfl rfl rfl ?_)
     refine pv tb 1 rfl ?_
     refine TO_nil ?_
     refine sr ?_
     refine pv tb 2 rfl ?_
     refine TO_nil ?_
     refine T_cond (t := decide (r_5 < 0)) rfl (fun c_7 => ?_) (fun c_7 => ?_)
     ·replace H := cond_t c_7 H
      refine sr ?_
      refine pv tb 1 rfl ?_
      refine TO_nil ?_
      refine te [(4, (intA (-1)))] rfl ?_
      refine T_ret ?_
      refine block_ret ?_
      refine then_ret ?_
      refine then_ret ?_
      refine block_ret ?_
      refine then_ret ?_
      obtain rfl := some_inj H
      obtain rfl := some_inj K2_
      replace H := onS_r N2_
      obtain rfl := some_inj H
      refine end_ret (.tmp .nil) rfl rfl ⟨?_, rfl⟩
      rfl
     ·replace H := cond_f c_7 H
      refine T_skip ?_
      refine T_region ?_
      refine pv tb 1 rfl ?_
      refine Tp rfl rfl (pur_add rfl rfl rfl (fits64 (by omega) (by omega))) rfl ?_
      refine pv tb 1 rfl ?_
      refine TO_nil ?_
      obtain rfl := some_inj H
      exact again (a0.length - (i_1 + 1)) (i_1 + 1, r_5) (by omega) (w0 0) ⟨rfl, K2_⟩
  ·replace d2 := of_decide_eq_false d2
   obtain rfl := forL_end L2_ (by omega)
   refine T_exit ?_
   refine then_exit ?_
   refine then_exit ?_
   refine block_exit ?_
   replace H := onS_l N2_
   refine sr ?_
   refine pv tb 2 rfl ?_
   refine TO_nil ?_
   refine T_ret ?_
   obtain rfl := some_inj H
   refine end_ret (.tmp .nil) rfl rfl ⟨?_, rfl⟩
   rfl
end Go.Proofs.Ytjdpolnakhmkmaa

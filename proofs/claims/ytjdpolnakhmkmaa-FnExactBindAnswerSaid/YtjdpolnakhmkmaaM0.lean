import Derived.Test.YtjdpolnakhmkmaaCRD
set_option linter.unusedVariables false
set_option maxRecDepth 4000
namespace Go.Proofs.Ytjdpolnakhmkmaa
open Go Go.Proofs Go.Sep
structure Atom where
  relation : Int
  terms : (List Int)
instance : Inhabited Atom := ⟨⟨default, default⟩⟩
instance : DecidableEq Atom := fun a b => decidable_of_iff (a.relation = b.relation ∧ a.terms = b.terms) (by cases a; cases b; simp)
def RdAtom (x : Atom) : Prop := (-9223372036854775808 ≤ x.relation ∧ x.relation ≤ 9223372036854775807) ∧ (x.terms.length ≤ 9223372036854775807 ∧ ∀ yrms ∈ x.terms, (-9223372036854775808 ≤ yrms ∧ yrms ≤ 9223372036854775807))
def tAtom : Ty Atom := tAs (fun x => (x.relation, x.terms)) (tP tInt (tSl tInt))
structure Query where
  variableCount : Int
  atoms : (List Atom)
  free : (List Int)
instance : Inhabited Query := ⟨⟨default, default, default⟩⟩
instance : DecidableEq Query := fun a b => decidable_of_iff (a.variableCount = b.variableCount ∧ a.atoms = b.atoms ∧ a.free = b.free) (by cases a; cases b; simp)
def RdQuery (x : Query) : Prop := (-9223372036854775808 ≤ x.variableCount ∧ x.variableCount ≤ 9223372036854775807) ∧ ((x.atoms.length ≤ 9223372036854775807 ∧ ∀ yoms ∈ x.atoms, RdAtom yoms) ∧ (x.free.length ≤ 9223372036854775807 ∧ ∀ yree ∈ x.free, (-9223372036854775808 ≤ yree ∧ yree ≤ 9223372036854775807)))
def tQuery : Ty Query := tAs (fun x => (x.variableCount, (x.atoms, x.free))) (tP tInt (tP (tSl tAtom) (tSl tInt)))
structure Fact where
  relation : Int
  values : (List Int)
instance : Inhabited Fact := ⟨⟨default, default⟩⟩
instance : DecidableEq Fact := fun a b => decidable_of_iff (a.relation = b.relation ∧ a.values = b.values) (by cases a; cases b; simp)
def RdFact (x : Fact) : Prop := (-9223372036854775808 ≤ x.relation ∧ x.relation ≤ 9223372036854775807) ∧ (x.values.length ≤ 9223372036854775807 ∧ ∀ yues ∈ x.values, (-9223372036854775808 ≤ yues ∧ yues ≤ 9223372036854775807))
def tFact : Ty Fact := tAs (fun x => (x.relation, x.values)) (tP tInt (tSl tInt))
structure Relation where
  name : ByteArray
  arity : Int
  keyLength : Int
instance : Inhabited Relation := ⟨⟨default, default, default⟩⟩
instance : DecidableEq Relation := fun a b => decidable_of_iff (a.name = b.name ∧ a.arity = b.arity ∧ a.keyLength = b.keyLength) (by cases a; cases b; simp)
def RdRelation (x : Relation) : Prop := x.name.size ≤ 9223372036854775807 ∧ ((-9223372036854775808 ≤ x.arity ∧ x.arity ≤ 9223372036854775807) ∧ (-9223372036854775808 ≤ x.keyLength ∧ x.keyLength ≤ 9223372036854775807))
def tRelation : Ty Relation := tAs (fun x => (x.name, (x.arity, x.keyLength))) (tP tStr (tP tInt tInt))
structure Database where
  relations : (List Relation)
  facts : (List Fact)
instance : Inhabited Database := ⟨⟨default, default⟩⟩
instance : DecidableEq Database := fun a b => decidable_of_iff (a.relations = b.relations ∧ a.facts = b.facts) (by cases a; cases b; simp)
def RdDatabase (x : Database) : Prop := (x.relations.length ≤ 9223372036854775807 ∧ ∀ yons ∈ x.relations, RdRelation yons) ∧ (x.facts.length ≤ 9223372036854775807 ∧ ∀ ycts ∈ x.facts, RdFact ycts)
def tDatabase : Ty Database := tAs (fun x => (x.relations, x.facts)) (tP (tSl tRelation) (tSl tFact))
def m_laws_szIntS (a0 : (List Int)) (left1 : Int) : Option Int :=
  cond (decide ((w64 (left1 - (a0.length : Int))) < 0)) (some (-1)) (some (w64 (left1 - (a0.length : Int))))
def m_laws_szAtom (a0 : Atom) (left1 : Int) : Option Int :=
  (m_laws_szIntS a0.terms left1).bind fun r_1 => cond (decide (r_1 < 0)) (some (-1)) (some r_1)
def m_laws_szAtomS (a0 : (List Atom)) (left1 : Int) : Option Int :=
  cond (decide ((w64 (left1 - (a0.length : Int))) < 0)) (some (-1)) ((forL (R := Int) (fun (i_2 : Int) (x_i_2 : Atom) (left1 : Int) => (m_laws_szAtom x_i_2 left1).bind fun r_4 => cond (decide (r_4 < 0)) (some (.ret (-1))) (some (.next r_4))) a0 0 (w64 (left1 - (a0.length : Int)))).bind fun O3_ => onS O3_ (fun (left1 : Int) => some left1) (fun r => some r))
def m_laws_szQuery (a0 : Query) (left1 : Int) : Option Int :=
  (m_laws_szAtomS a0.atoms left1).bind fun r_1 => cond (decide (r_1 < 0)) (some (-1)) ((m_laws_szIntS a0.free r_1).bind fun r_4 => cond (decide (r_4 < 0)) (some (-1)) (some r_4))
def m_spec_l11Copy (u : Nat) (q0 : Query) : Option Query :=
  (app 8 ([] : (List Int)) q0.free).bind fun us_1 => (whileF (R := Query) (fun (⟨i4, box5_atoms⟩ : Int × (List Atom)) => cond (decide (i4 < (q0.atoms.length : Int))) ((getI q0.atoms i4).bind fun v_5 => (app 8 ([] : (List Int)) v_5.terms).bind fun us_10 => (app 32 box5_atoms ([({ relation := v_5.relation, terms := us_10 } : Atom)] : (List Atom))).bind fun us_12 => some (.next ((w64 (i4 + 1)), us_12))) (some (.brk (i4, box5_atoms)))) u (0, ([] : (List Atom)))).bind fun O3_ => onS O3_ (fun (⟨i4, box5_atoms⟩ : Int × (List Atom)) => some ({ variableCount := q0.variableCount, atoms := box5_atoms, free := us_1 } : Query)) (fun r => none)
def m_spec_l1In (x0 : Int) (low1 : Int) (high2 : Int) : Option Bool :=
  some ((decide (low1 ≤ x0)) && (decide (x0 ≤ high2)))
def m_spec_BindVariable (u : Nat) (q0 : Query) (v1 : Int) (val2 : Int) : Option (Query × Bool) :=
  (m_spec_l11Copy u q0).bind fun r_1 => ((m_spec_l1In v1 0 (w64 (q0.variableCount - 1))).bind fun r_5 => cond (!r_5) (some true) ((m_spec_l1In val2 0 9).bind fun r_8 => some (!r_8))).bind fun (t25_3 : Bool) => cond t25_3 (some (r_1, false)) ((whileF (R := (Query × Bool)) (fun (⟨i9, box4_atoms⟩ : Int × (List Atom)) => cond (decide (i9 < (box4_atoms.length : Int))) ((whileF (R := (Query × Bool)) (fun (⟨k10, box4_atoms⟩ : Int × (List Atom)) => (getI box4_atoms i9).bind fun v_14 => cond (decide (k10 < (v_14.terms.length : Int))) ((getI v_14.terms k10).bind fun v_20 => cond (decide (v_20 = v1)) (cond (decide (v1 < v_20)) ((getI (({ relation := v_14.relation, terms := (v_14.terms.set (k10).toNat (w64 (-1 - val2))) } : Atom).terms) k10).bind fun v_27 => some (.next ((w64 (k10 + 1)), (box4_atoms.set (i9).toNat ({ relation := v_14.relation, terms := ((({ relation := v_14.relation, terms := (v_14.terms.set (k10).toNat (w64 (-1 - val2))) } : Atom).terms).set (k10).toNat (w64 (v_20 - 1))) } : Atom))))) (some (.next ((w64 (k10 + 1)), (box4_atoms.set (i9).toNat ({ relation := v_14.relation, terms := (v_14.terms.set (k10).toNat (w64 (-1 - val2))) } : Atom)))))) (cond (decide (v1 < v_20)) (some (.next ((w64 (k10 + 1)), (box4_atoms.set (i9).toNat ({ relation := v_14.relation, terms := (v_14.terms.set (k10).toNat (w64 (v_20 - 1))) } : Atom))))) (some (.next ((w64 (k10 + 1)), box4_atoms))))) (some (.brk (k10, box4_atoms)))) u (0, box4_atoms)).bind fun O13_ => onS O13_ (fun (⟨k10, box4_atoms⟩ : Int × (List Atom)) => some (.next ((w64 (i9 + 1)), box4_atoms))) (fun r => none)) (some (.brk (i9, box4_atoms)))) u (0, r_1.atoms)).bind fun O11_ => onS O11_ (fun (⟨i9, box4_atoms⟩ : Int × (List Atom)) => (whileF (R := (Query × Bool)) (fun (⟨i12, box4_free⟩ : Int × (List Int)) => cond (decide (i12 < (q0.free.length : Int))) ((getI q0.free i12).bind fun v_35 => cond (decide (v_35 < v1)) ((app 8 box4_free ([v_35] : (List Int))).bind fun us_41 => cond (decide (v1 < v_35)) ((app 8 us_41 ([(w64 (v_35 - 1))] : (List Int))).bind fun us_44 => some (.next ((w64 (i12 + 1)), us_44))) (some (.next ((w64 (i12 + 1)), us_41)))) (cond (decide (v1 < v_35)) ((app 8 box4_free ([(w64 (v_35 - 1))] : (List Int))).bind fun us_44 => some (.next ((w64 (i12 + 1)), us_44))) (some (.next ((w64 (i12 + 1)), box4_free))))) (some (.brk (i12, box4_free)))) u (0, ([] : (List Int)))).bind fun O33_ => onS O33_ (fun (⟨i12, box4_free⟩ : Int × (List Int)) => some (({ variableCount := (w64 (q0.variableCount - 1)), atoms := box4_atoms, free := box4_free } : Query), true)) (fun r => none)) (fun r => none))
def m_spec_BindAnswer (u : Nat) (q0 : Query) (row1 : (List Int)) : Option (Query × Bool) :=
  cond (decide ((row1.length : Int) ≠ (q0.free.length : Int))) ((m_spec_l11Copy u q0).bind fun r_2 => some (r_2, false)) ((m_spec_l11Copy u q0).bind fun r_4 => (whileF (R := (Query × Bool)) (fun (⟨i7, box4_variableCount, box4_atoms, box4_free⟩ : Int × Int × (List Atom) × (List Int)) => cond (decide (0 ≤ i7)) ((getI q0.free i7).bind fun v_9 => (getI row1 i7).bind fun v_14 => (m_spec_BindVariable u ({ variableCount := box4_variableCount, atoms := box4_atoms, free := box4_free } : Query) v_9 v_14).bind fun r_19 => cond (!r_19.2) ((m_spec_l11Copy u q0).bind fun r_22 => some (.ret (r_22, false))) (some (.next ((w64 (i7 - 1)), r_19.1.variableCount, r_19.1.atoms, r_19.1.free)))) (some (.brk (i7, box4_variableCount, box4_atoms, box4_free)))) u (((row1.length : Int) - 1), r_4.variableCount, r_4.atoms, r_4.free)).bind fun O7_ => onS O7_ (fun (⟨i7, box4_variableCount, box4_atoms, box4_free⟩ : Int × Int × (List Atom) × (List Int)) => some (({ variableCount := box4_variableCount, atoms := box4_atoms, free := box4_free } : Query), true)) (fun r => some r))
def m_laws_toIntS (a0 : (List Int)) : Option (List Int) :=
  (mk 8 (a0.length : Int) (0 : Int)).bind fun us_1 => (forS (fun (i_3 : Int) (x_i_3 : Int) (out3 : (List Int)) => (getI out3 (i_3 : Int)).bind fun v_5 => some (out3.set ((i_3 : Int)).toNat x_i_3)) a0 0 us_1).bind fun (out3 : (List Int)) => some out3
def m_laws_toAtom (a0 : Atom) : Option Atom :=
  (m_laws_toIntS a0.terms).bind fun r_1 => some ({ relation := a0.relation, terms := r_1 } : Atom)
def m_laws_toAtomS (a0 : (List Atom)) : Option (List Atom) :=
  (mk 32 (a0.length : Int) (default : Atom)).bind fun us_1 => (forS (fun (i_3 : Int) (x_i_3 : Atom) (out3 : (List Atom)) => (m_laws_toAtom x_i_3).bind fun r_5 => (getI out3 (i_3 : Int)).bind fun v_7 => some (out3.set ((i_3 : Int)).toNat r_5)) a0 0 us_1).bind fun (out3 : (List Atom)) => some out3
def m_laws_toQuery (a0 : Query) : Option Query :=
  (m_laws_toAtomS a0.atoms).bind fun r_1 => (m_laws_toIntS a0.free).bind fun r_3 => some ({ variableCount := a0.variableCount, atoms := r_1, free := r_3 } : Query)
def m_impl_copyAtom (atom0 : Atom) : Option Atom :=
  (app 8 ([] : (List Int)) atom0.terms).bind fun us_1 => some ({ relation := atom0.relation, terms := us_1 } : Atom)
def m_impl_copyQuery (query0 : Query) : Option Query :=
  (app 8 ([] : (List Int)) query0.free).bind fun us_1 => (forS (fun (t_3 : Int) (x_t_3 : Atom) (box5_atoms : (List Atom)) => (m_impl_copyAtom x_t_3).bind fun r_5 => (app 32 box5_atoms ([r_5] : (List Atom))).bind fun us_7 => some us_7) query0.atoms 0 ([] : (List Atom))).bind fun (box5_atoms : (List Atom)) => some ({ variableCount := query0.variableCount, atoms := box5_atoms, free := us_1 } : Query)
def m_impl_within (n0 : Int) (low1 : Int) (high2 : Int) : Option Bool :=
  some ((decide (low1 ≤ n0)) && (decide (n0 ≤ high2)))
def m_impl_bound (t0 : Int) (variable1 : Int) : Option Int :=
  cond (decide (variable1 < t0)) (some (w64 (t0 - 1))) (some t0)
def m_impl_ConstantTerm (v0 : Int) : Option Int :=
  some (w64 (-1 - v0))
def m_impl_BindVariable (query0 : Query) (variable1 : Int) (value2 : Int) : Option (Query × Bool) :=
  (m_impl_copyQuery query0).bind fun r_1 => ((m_impl_within variable1 0 (w64 (query0.variableCount - 1))).bind fun r_5 => cond (!r_5) (some true) ((m_impl_within value2 0 9).bind fun r_8 => some (!r_8))).bind fun (t27_3 : Bool) => cond t27_3 (some (r_1, false)) ((forM (fun (t_11 : Int) (t30m : (List Atom)) => (getI t30m (t_11 : Int)).bind fun v_13 => (forM (fun (t_18 : Int) (nest2_terms : (List Int)) => (getI nest2_terms (t_18 : Int)).bind fun v_20 => (m_impl_bound v_20 variable1).bind fun r_25 => cond (decide (v_20 = variable1)) ((m_impl_ConstantTerm value2).bind fun r_28 => (getI (nest2_terms.set ((t_18 : Int)).toNat r_25) (t_18 : Int)).bind fun v_30 => some ((nest2_terms.set ((t_18 : Int)).toNat r_25).set ((t_18 : Int)).toNat r_28)) (some (nest2_terms.set ((t_18 : Int)).toNat r_25))) ((v_13.terms.length : Int) - 0).toNat 0 v_13.terms).bind fun (nest2_terms : (List Int)) => some (t30m.set ((t_11 : Int)).toNat ({ relation := v_13.relation, terms := nest2_terms } : Atom))) ((r_1.atoms.length : Int) - 0).toNat 0 r_1.atoms).bind fun (t30m : (List Atom)) => (forS (fun (t_35 : Int) (x_t_35 : Int) (box4_free : (List Int)) => cond (decide (x_t_35 ≠ variable1)) ((m_impl_bound x_t_35 variable1).bind fun r_38 => (app 8 box4_free ([r_38] : (List Int))).bind fun us_40 => some us_40) (some box4_free)) query0.free 0 ([] : (List Int))).bind fun (box4_free : (List Int)) => some (({ variableCount := (w64 (r_1.variableCount - 1)), atoms := t30m, free := box4_free } : Query), true))
def m_impl_BindAnswer (u : Nat) (query0 : Query) (row1 : (List Int)) : Option (Query × Bool) :=
  (m_impl_copyQuery query0).bind fun r_1 => cond (decide ((row1.length : Int) ≠ (query0.free.length : Int))) (some (r_1, false)) ((whileF (R := (Query × Bool)) (fun (⟨i7, box4_variableCount, box4_atoms, box4_free⟩ : Int × Int × (List Atom) × (List Int)) => cond (decide (0 ≤ i7)) ((getI query0.free i7).bind fun v_7 => (getI row1 i7).bind fun v_12 => (m_impl_BindVariable ({ variableCount := box4_variableCount, atoms := box4_atoms, free := box4_free } : Query) v_7 v_12).bind fun r_17 => cond (!r_17.2) ((m_impl_copyQuery query0).bind fun r_20 => some (.ret (r_20, false))) (some (.next ((w64 (i7 - 1)), r_17.1.variableCount, r_17.1.atoms, r_17.1.free)))) (some (.brk (i7, box4_variableCount, box4_atoms, box4_free)))) u (((row1.length : Int) - 1), r_1.variableCount, r_1.atoms, r_1.free)).bind fun O5_ => onS O5_ (fun (⟨i7, box4_variableCount, box4_atoms, box4_free⟩ : Int × Int × (List Atom) × (List Int)) => some (({ variableCount := box4_variableCount, atoms := box4_atoms, free := box4_free } : Query), true)) (fun r => some r))
def m_laws_eqIntS (a0 : (List Int)) (b1 : (List Int)) : Option Bool :=
  cond (decide ((a0.length : Int) ≠ (b1.length : Int))) (some false) ((forL (R := Bool) (fun (i_2 : Int) (x_i_2 : Int) (_ : Unit) => (getI b1 (i_2 : Int)).bind fun v_4 => cond (decide (x_i_2 ≠ v_4)) (some (.ret false)) (some (.next ()))) a0 0 ()).bind fun O3_ => onS O3_ (fun (_ : Unit) => some true) (fun r => some r))
def m_laws_eqAtom (a0 : Atom) (b1 : Atom) : Option Bool :=
  cond (decide (a0.relation ≠ b1.relation)) (some false) ((m_laws_eqIntS a0.terms b1.terms).bind fun r_2 => cond (!r_2) (some false) (some true))
def m_laws_eqAtomS (a0 : (List Atom)) (b1 : (List Atom)) : Option Bool :=
  cond (decide ((a0.length : Int) ≠ (b1.length : Int))) (some false) ((forL (R := Bool) (fun (i_2 : Int) (x_i_2 : Atom) (_ : Unit) => (getI b1 (i_2 : Int)).bind fun v_4 => (m_laws_eqAtom x_i_2 v_4).bind fun r_9 => cond (!r_9) (some (.ret false)) (some (.next ()))) a0 0 ()).bind fun O3_ => onS O3_ (fun (_ : Unit) => some true) (fun r => some r))
def m_laws_eqQuery (a0 : Query) (b1 : Query) : Option Bool :=
  cond (decide (a0.variableCount ≠ b1.variableCount)) (some false) ((m_laws_eqAtomS a0.atoms b1.atoms).bind fun r_2 => cond (!r_2) (some false) ((m_laws_eqIntS a0.free b1.free).bind fun r_5 => cond (!r_5) (some false) (some true)))
def m_laws_markIntS (a0 : (List Int)) (k1 : Int) : Option (Int × (List Int)) :=
  (forM (fun (i_1 : Int) (⟨a0m, k1⟩ : (List Int) × Int) => (getI a0m (i_1 : Int)).bind fun v_3 => some ((a0m.set ((i_1 : Int)).toNat k1), (w64 (k1 + 1)))) ((a0.length : Int) - 0).toNat 0 (a0, k1)).bind fun (⟨a0m, k1⟩ : (List Int) × Int) => some (k1, a0m)
def m_laws_markAtomS (a0 : (List Atom)) (k1 : Int) : Option (Int × (List Atom)) :=
  (forM (fun (i_1 : Int) (⟨a0m, k1⟩ : (List Atom) × Int) => (getI a0m (i_1 : Int)).bind fun v_3 => (getI (a0m.set ((i_1 : Int)).toNat ({ relation := k1, terms := v_3.terms } : Atom)) (i_1 : Int)).bind fun v_8 => (m_laws_markIntS v_8.terms (w64 (k1 + 1))).bind fun r_13 => some (((a0m.set ((i_1 : Int)).toNat ({ relation := k1, terms := v_3.terms } : Atom)).set ((i_1 : Int)).toNat ({ relation := v_8.relation, terms := r_13.2 } : Atom)), r_13.1)) ((a0.length : Int) - 0).toNat 0 (a0, k1)).bind fun (⟨a0m, k1⟩ : (List Atom) × Int) => some (k1, a0m)
def m_laws_markQuery (a0 : Query) (k1 : Int) : Option (Int × Query) :=
  (m_laws_markAtomS a0.atoms k1).bind fun r_1 => (m_laws_markIntS a0.free r_1.1).bind fun r_5 => some (r_5.1, ({ variableCount := a0.variableCount, atoms := r_1.2, free := r_5.2 } : Query))
def m_laws_heldIntS (a0 : (List Int)) (k1 : Int) : Option Int :=
  (forL (R := Int) (fun (i_1 : Int) (x_i_1 : Int) (k1 : Int) => cond (decide (x_i_1 ≠ k1)) (some (.ret (-1))) (some (.next (w64 (k1 + 1))))) a0 0 k1).bind fun O2_ => onS O2_ (fun (k1 : Int) => some k1) (fun r => some r)
def m_laws_heldAtomS (a0 : (List Atom)) (k1 : Int) : Option Int :=
  (forL (R := Int) (fun (i_1 : Int) (x_i_1 : Atom) (k1 : Int) => cond (decide (x_i_1.relation ≠ k1)) (some (.ret (-1))) ((m_laws_heldIntS x_i_1.terms (w64 (k1 + 1))).bind fun r_4 => cond (decide (r_4 < 0)) (some (.ret (-1))) (some (.next r_4)))) a0 0 k1).bind fun O2_ => onS O2_ (fun (k1 : Int) => some k1) (fun r => some r)
def m_laws_heldQuery (a0 : Query) (k1 : Int) : Option Int :=
  (m_laws_heldAtomS a0.atoms k1).bind fun r_1 => cond (decide (r_1 < 0)) (some (-1)) ((m_laws_heldIntS a0.free r_1).bind fun r_4 => cond (decide (r_4 < 0)) (some (-1)) (some r_4))
def m_laws_FnExactBindAnswer (u : Nat) (aQuery0 : Query) (aRow1 : (List Int)) : Option Bool :=
  cond (decide (1048576 < (aRow1.length : Int))) (some true) ((m_laws_szQuery aQuery0 1048576).bind fun r_2 => cond (decide (r_2 < 0)) (some true) ((m_laws_toQuery aQuery0).bind fun r_5 => (m_laws_toIntS aRow1).bind fun r_7 => (m_spec_BindAnswer u r_5 r_7).bind fun r_9 => (m_laws_toQuery aQuery0).bind fun r_11 => (m_laws_toIntS aRow1).bind fun r_13 => (m_impl_BindAnswer u r_11 r_13).bind fun r_15 => ((m_laws_eqQuery r_15.1 r_9.1).bind fun r_19 => cond (!r_19) (some true) (some (r_15.2 != r_9.2))).bind fun (t51_17 : Bool) => cond t51_17 (some false) ((m_laws_toQuery aQuery0).bind fun r_23 => (m_laws_eqQuery r_11 r_23).bind fun r_25 => cond (!r_25) (some false) ((m_laws_toIntS aRow1).bind fun r_28 => (m_laws_eqIntS r_13 r_28).bind fun r_30 => cond (!r_30) (some false) ((m_laws_markQuery r_11 1).bind fun r_33 => (m_laws_markIntS r_13 r_33.1).bind fun r_38 => (cond (decide (r_38.1 < 0)) (some true) ((m_laws_eqQuery r_15.1 r_9.1).bind fun r_45 => cond (!r_45) (some true) (some (r_15.2 != r_9.2)))).bind fun (t80_42 : Bool) => cond t80_42 (some false) ((m_laws_markQuery r_15.1 1).bind fun r_49 => (m_laws_heldQuery ({ variableCount := r_15.1.variableCount, atoms := r_49.2.atoms, free := r_49.2.free } : Query) 1).bind fun r_54 => cond (decide (r_54 < 0)) (some false) (cond (decide (r_54 ≠ r_49.1)) (some false) ((m_laws_toQuery aQuery0).bind fun r_58 => (m_laws_toIntS aRow1).bind fun r_60 => (m_impl_BindAnswer u r_58 r_60).bind fun r_62 => ((m_laws_eqQuery r_62.1 r_9.1).bind fun r_66 => cond (!r_66) (some true) (some (r_62.2 != r_9.2))).bind fun (t108_64 : Bool) => cond t108_64 (some false) ((m_laws_heldQuery ({ variableCount := r_15.1.variableCount, atoms := r_49.2.atoms, free := r_49.2.free } : Query) 1).bind fun r_70 => cond (decide (r_70 < 0)) (some false) (cond (decide (r_70 ≠ r_49.1)) (some false) (some true)))))))))))
def m_laws_szFact (a0 : Fact) (left1 : Int) : Option Int :=
  (m_laws_szIntS a0.values left1).bind fun r_1 => cond (decide (r_1 < 0)) (some (-1)) (some r_1)
def m_laws_szFactS (a0 : (List Fact)) (left1 : Int) : Option Int :=
  cond (decide ((w64 (left1 - (a0.length : Int))) < 0)) (some (-1)) ((forL (R := Int) (fun (i_2 : Int) (x_i_2 : Fact) (left1 : Int) => (m_laws_szFact x_i_2 left1).bind fun r_4 => cond (decide (r_4 < 0)) (some (.ret (-1))) (some (.next r_4))) a0 0 (w64 (left1 - (a0.length : Int)))).bind fun O3_ => onS O3_ (fun (left1 : Int) => some left1) (fun r => some r))
def m_laws_szRelation (a0 : Relation) (left1 : Int) : Option Int :=
  cond (decide ((w64 (left1 - (a0.name.size : Int))) < 0)) (some (-1)) (some (w64 (left1 - (a0.name.size : Int))))
def m_laws_szRelationS (a0 : (List Relation)) (left1 : Int) : Option Int :=
  cond (decide ((w64 (left1 - (a0.length : Int))) < 0)) (some (-1)) ((forL (R := Int) (fun (i_2 : Int) (x_i_2 : Relation) (left1 : Int) => (m_laws_szRelation x_i_2 left1).bind fun r_4 => cond (decide (r_4 < 0)) (some (.ret (-1))) (some (.next r_4))) a0 0 (w64 (left1 - (a0.length : Int)))).bind fun O3_ => onS O3_ (fun (left1 : Int) => some left1) (fun r => some r))
def m_laws_szDatabase (a0 : Database) (left1 : Int) : Option Int :=
  (m_laws_szRelationS a0.relations left1).bind fun r_1 => cond (decide (r_1 < 0)) (some (-1)) ((m_laws_szFactS a0.facts r_1).bind fun r_4 => cond (decide (r_4 < 0)) (some (-1)) (some r_4))
def m_spec_l3Ints (u : Nat) (a0 : (List Int)) (b1 : (List Int)) : Option Int :=
  (whileF (R := Int) (fun (i5 : Int) => cond ((decide (i5 < (a0.length : Int))) && (decide (i5 < (b1.length : Int)))) ((getI a0 i5).bind fun v_6 => (getI b1 i5).bind fun v_11 => cond (decide (v_6 < v_11)) (some (.ret (-1))) (cond (decide (v_11 < v_6)) (some (.ret 1)) (some (.next (w64 (i5 + 1)))))) (some (.brk i5))) u 0).bind fun O1_ => onS O1_ (fun (i5 : Int) => cond (decide ((a0.length : Int) < (b1.length : Int))) (some (-1)) (cond (decide ((b1.length : Int) < (a0.length : Int))) (some 1) (some 0))) (fun r => some r)
def m_spec_CompareFacts (u : Nat) (a0 : Fact) (b1 : Fact) : Option Int :=
  cond (decide (a0.relation < b1.relation)) (some (-1)) (cond (decide (b1.relation < a0.relation)) (some 1) ((m_spec_l3Ints u a0.values b1.values).bind fun r_3 => some r_3))
def m_spec_IsValidRelation (s0 : Relation) : Option Bool :=
  (cond (decide ((s0.name.size : Int) = 1)) ((getB s0.name 0).bind fun b_4 => cond (decide (97 ≤ b_4)) ((getB s0.name 0).bind fun b_7 => cond (decide (b_7 ≤ 122)) ((m_spec_l1In s0.arity 1 3).bind fun r_10 => cond r_10 ((m_spec_l1In s0.keyLength 0 s0.arity).bind fun r_13 => some r_13) (some false)) (some false)) (some false)) (some false)).bind fun (t2_1 : Bool) => some t2_1
def m_spec_AreValidRelations (l0 : (List Relation)) : Option Bool :=
  (forL (R := Bool) (fun (i_1 : Int) (x_i_1 : Relation) (_ : Unit) => ((m_spec_IsValidRelation x_i_1).bind fun r_5 => cond (!r_5) (some true) (cond (decide (0 < (i_1 : Int))) ((getI l0 ((i_1 : Int) - 1)).bind fun v_9 => some (!ltS v_9.name x_i_1.name)) (some false))).bind fun (t33_3 : Bool) => cond t33_3 (some (.ret false)) (some (.next ()))) l0 0 ()).bind fun O2_ => onS O2_ (fun (_ : Unit) => some (decide ((l0.length : Int) ≤ 4))) (fun r => some r)
def m_spec_IsValidFact (u : Nat) (l0 : (List Relation)) (f1 : Fact) : Option Bool :=
  ((m_spec_AreValidRelations l0).bind fun r_3 => cond (!r_3) (some true) ((m_spec_l1In f1.relation 0 ((l0.length : Int) - 1)).bind fun r_7 => cond (!r_7) (some true) ((getI l0 f1.relation).bind fun v_10 => some (decide ((f1.values.length : Int) ≠ v_10.arity))))).bind fun (t29_1 : Bool) => cond t29_1 (some false) ((whileF (R := Bool) (fun (i5 : Int) => cond (decide (i5 < (f1.values.length : Int))) ((getI f1.values i5).bind fun v_18 => (m_spec_l1In v_18 0 9).bind fun r_23 => cond (!r_23) (some (.ret false)) (some (.next (w64 (i5 + 1))))) (some (.brk i5))) u 0).bind fun O16_ => onS O16_ (fun (i5 : Int) => some true) (fun r => some r))
def m_spec_IsValidDatabase (u : Nat) (d0 : Database) : Option Bool :=
  (whileF (R := Bool) (fun (i3 : Int) => cond (decide (i3 < (d0.facts.length : Int))) (((getI d0.facts i3).bind fun v_5 => (m_spec_IsValidFact u d0.relations v_5).bind fun r_10 => cond (!r_10) (some true) (cond (decide (0 < i3)) ((getI d0.facts (w64 (i3 - 1))).bind fun v_14 => (m_spec_CompareFacts u v_14 v_5).bind fun r_19 => some (decide (0 ≤ r_19))) (some false))).bind fun (t38_3 : Bool) => cond t38_3 (some (.ret false)) (some (.next (w64 (i3 + 1))))) (some (.brk i3))) u 0).bind fun O1_ => onS O1_ (fun (i3 : Int) => ((m_spec_AreValidRelations d0.relations).bind fun r_24 => cond r_24 (some (decide ((d0.facts.length : Int) ≤ 14))) (some false)).bind fun (t2_22 : Bool) => some t2_22) (fun r => some r)
def m_laws_toFact (a0 : Fact) : Option Fact :=
  (m_laws_toIntS a0.values).bind fun r_1 => some ({ relation := a0.relation, values := r_1 } : Fact)
def m_laws_toFactS (a0 : (List Fact)) : Option (List Fact) :=
  (mk 32 (a0.length : Int) (default : Fact)).bind fun us_1 => (forS (fun (i_3 : Int) (x_i_3 : Fact) (out3 : (List Fact)) => (m_laws_toFact x_i_3).bind fun r_5 => (getI out3 (i_3 : Int)).bind fun v_7 => some (out3.set ((i_3 : Int)).toNat r_5)) a0 0 us_1).bind fun (out3 : (List Fact)) => some out3
def m_laws_toRelation (a0 : Relation) : Option Relation :=
  some a0
def m_laws_toRelationS (a0 : (List Relation)) : Option (List Relation) :=
  (mk 32 (a0.length : Int) (default : Relation)).bind fun us_1 => (forS (fun (i_3 : Int) (x_i_3 : Relation) (out3 : (List Relation)) => (m_laws_toRelation x_i_3).bind fun r_5 => (getI out3 (i_3 : Int)).bind fun v_7 => some (out3.set ((i_3 : Int)).toNat r_5)) a0 0 us_1).bind fun (out3 : (List Relation)) => some out3
def m_laws_toDatabase (a0 : Database) : Option Database :=
  (m_laws_toRelationS a0.relations).bind fun r_1 => (m_laws_toFactS a0.facts).bind fun r_3 => some ({ relations := r_1, facts := r_3 } : Database)
def m_impl_compare (a0 : Int) (b1 : Int) : Option Int :=
  cond (decide (a0 < b1)) (some (-1)) (cond (decide (b1 < a0)) (some 1) (some 0))
def m_cmp_isNaN_int (x0 : Int) : Option Bool :=
  some (decide (x0 ≠ x0))
def m_cmp_Compare_int (x0 : Int) (y1 : Int) : Option Int :=
  (m_cmp_isNaN_int x0).bind fun r_1 => (m_cmp_isNaN_int y1).bind fun r_3 => cond r_1 (cond r_3 (some 0) (some (-1))) (cond r_3 (some 1) (cond (decide (x0 < y1)) (some (-1)) (cond (decide (y1 < x0)) (some 1) (some 0))))
def m_slices_Compare_Sint_int (s10 : (List Int)) (s21 : (List Int)) : Option Int :=
  (forL (R := Int) (fun (t_1 : Int) (x_t_1 : Int) (_ : Unit) => cond (decide ((s21.length : Int) ≤ (t_1 : Int))) (some (.ret 1)) ((getI s21 (t_1 : Int)).bind fun v_4 => (m_cmp_Compare_int x_t_1 v_4).bind fun r_9 => cond (decide (r_9 ≠ 0)) (some (.ret r_9)) (some (.next ())))) s10 0 ()).bind fun O2_ => onS O2_ (fun (_ : Unit) => cond (decide ((s10.length : Int) < (s21.length : Int))) (some (-1)) (some 0)) (fun r => some r)
def m_impl_CompareFacts (a0 : Fact) (b1 : Fact) : Option Int :=
  cond (decide (a0.relation ≠ b1.relation)) ((m_impl_compare a0.relation b1.relation).bind fun r_2 => some r_2) ((m_slices_Compare_Sint_int a0.values b1.values).bind fun r_4 => some r_4)
def m_impl_IsValidRelation (relation0 : Relation) : Option Bool :=
  (cond (decide ((relation0.name.size : Int) = 1)) ((getB relation0.name 0).bind fun b_4 => cond (decide (97 ≤ b_4)) ((getB relation0.name 0).bind fun b_7 => cond (decide (b_7 ≤ 122)) ((m_impl_within relation0.arity 1 3).bind fun r_10 => cond r_10 ((m_impl_within relation0.keyLength 0 relation0.arity).bind fun r_13 => some r_13) (some false)) (some false)) (some false)) (some false)).bind fun (t2_1 : Bool) => some t2_1
def m_impl_AreValidRelations (relations0 : (List Relation)) : Option Bool :=
  (forL (R := Bool) (fun (t_1 : Int) (x_t_1 : Relation) (_ : Unit) => ((m_impl_IsValidRelation x_t_1).bind fun r_5 => cond (!r_5) (some true) (cond (decide (0 < (t_1 : Int))) ((getI relations0 ((t_1 : Int) - 1)).bind fun v_9 => some (!ltS v_9.name x_t_1.name)) (some false))).bind fun (t29_3 : Bool) => cond t29_3 (some (.ret false)) (some (.next ()))) relations0 0 ()).bind fun O2_ => onS O2_ (fun (_ : Unit) => some (decide ((relations0.length : Int) ≤ 4))) (fun r => some r)
def m_slices_IndexFunc_Sint_int (s0 : (List Int)) (f1 : (Int → Option Bool)) : Option Int :=
  (forL (R := Int) (fun (t_1 : Int) (x_t_1 : Int) (_ : Unit) => (f1 x_t_1).bind fun r_3 => cond r_3 (some (.ret (t_1 : Int))) (some (.next ()))) s0 0 ()).bind fun O2_ => onS O2_ (fun (_ : Unit) => some (-1)) (fun r => some r)
def m_slices_ContainsFunc_Sint_int (s0 : (List Int)) (f1 : (Int → Option Bool)) : Option Bool :=
  (m_slices_IndexFunc_Sint_int s0 f1).bind fun r_1 => some (decide (0 ≤ r_1))
def m_impl_areValues_1 (v0 : Int) : Option Bool :=
  (m_impl_within v0 0 9).bind fun r_1 => some (!r_1)
def m_impl_areValues (list0 : (List Int)) : Option Bool :=
  (m_slices_ContainsFunc_Sint_int list0 (fun x0 => m_impl_areValues_1 x0)).bind fun r_1 => some (!r_1)
def m_impl_isFact (relations0 : (List Relation)) (fact1 : Fact) : Option Bool :=
  ((m_impl_within fact1.relation 0 ((relations0.length : Int) - 1)).bind fun r_4 => cond r_4 ((getI relations0 fact1.relation).bind fun v_7 => cond (decide ((fact1.values.length : Int) = v_7.arity)) ((m_impl_areValues fact1.values).bind fun r_13 => some r_13) (some false)) (some false)).bind fun (t4_1 : Bool) => some t4_1
def m_impl_IsValidDatabase (db0 : Database) : Option Bool :=
  ((m_impl_AreValidRelations db0.relations).bind fun r_3 => cond (!r_3) (some true) (some (decide (14 < (db0.facts.length : Int))))).bind fun (t14_1 : Bool) => cond t14_1 (some false) ((forL (R := Bool) (fun (t_7 : Int) (x_t_7 : Fact) (_ : Unit) => ((m_impl_isFact db0.relations x_t_7).bind fun r_11 => cond (!r_11) (some true) (cond (decide (0 < (t_7 : Int))) ((getI db0.facts ((t_7 : Int) - 1)).bind fun v_15 => (m_impl_CompareFacts v_15 x_t_7).bind fun r_20 => some (decide (0 ≤ r_20))) (some false))).bind fun (t42_9 : Bool) => cond t42_9 (some (.ret false)) (some (.next ()))) db0.facts 0 ()).bind fun O8_ => onS O8_ (fun (_ : Unit) => some true) (fun r => some r))
def m_laws_eqFact (a0 : Fact) (b1 : Fact) : Option Bool :=
  cond (decide (a0.relation ≠ b1.relation)) (some false) ((m_laws_eqIntS a0.values b1.values).bind fun r_2 => cond (!r_2) (some false) (some true))
def m_laws_eqFactS (a0 : (List Fact)) (b1 : (List Fact)) : Option Bool :=
  cond (decide ((a0.length : Int) ≠ (b1.length : Int))) (some false) ((forL (R := Bool) (fun (i_2 : Int) (x_i_2 : Fact) (_ : Unit) => (getI b1 (i_2 : Int)).bind fun v_4 => (m_laws_eqFact x_i_2 v_4).bind fun r_9 => cond (!r_9) (some (.ret false)) (some (.next ()))) a0 0 ()).bind fun O3_ => onS O3_ (fun (_ : Unit) => some true) (fun r => some r))
def m_laws_eqRelation (a0 : Relation) (b1 : Relation) : Option Bool :=
  cond (decide (a0.name ≠ b1.name)) (some false) (cond (decide (a0.arity ≠ b1.arity)) (some false) (cond (decide (a0.keyLength ≠ b1.keyLength)) (some false) (some true)))
def m_laws_eqRelationS (a0 : (List Relation)) (b1 : (List Relation)) : Option Bool :=
  cond (decide ((a0.length : Int) ≠ (b1.length : Int))) (some false) ((forL (R := Bool) (fun (i_2 : Int) (x_i_2 : Relation) (_ : Unit) => (getI b1 (i_2 : Int)).bind fun v_4 => (m_laws_eqRelation x_i_2 v_4).bind fun r_9 => cond (!r_9) (some (.ret false)) (some (.next ()))) a0 0 ()).bind fun O3_ => onS O3_ (fun (_ : Unit) => some true) (fun r => some r))
def m_laws_eqDatabase (a0 : Database) (b1 : Database) : Option Bool :=
  (m_laws_eqRelationS a0.relations b1.relations).bind fun r_1 => cond (!r_1) (some false) ((m_laws_eqFactS a0.facts b1.facts).bind fun r_4 => cond (!r_4) (some false) (some true))
def m_laws_szIntSS (a0 : (List (List Int))) (left1 : Int) : Option Int :=
  cond (decide ((w64 (left1 - (a0.length : Int))) < 0)) (some (-1)) ((forL (R := Int) (fun (i_2 : Int) (x_i_2 : (List Int)) (left1 : Int) => (m_laws_szIntS x_i_2 left1).bind fun r_4 => cond (decide (r_4 < 0)) (some (.ret (-1))) (some (.next r_4))) a0 0 (w64 (left1 - (a0.length : Int)))).bind fun O3_ => onS O3_ (fun (left1 : Int) => some left1) (fun r => some r))
def m_laws_toIntSS (a0 : (List (List Int))) : Option (List (List Int)) :=
  (mk 24 (a0.length : Int) []).bind fun us_1 => (forS (fun (i_3 : Int) (x_i_3 : (List Int)) (out3 : (List (List Int))) => (m_laws_toIntS x_i_3).bind fun r_5 => (getI out3 (i_3 : Int)).bind fun v_7 => some (out3.set ((i_3 : Int)).toNat r_5)) a0 0 us_1).bind fun (out3 : (List (List Int))) => some out3
def m_laws_eqIntSS (a0 : (List (List Int))) (b1 : (List (List Int))) : Option Bool :=
  cond (decide ((a0.length : Int) ≠ (b1.length : Int))) (some false) ((forL (R := Bool) (fun (i_2 : Int) (x_i_2 : (List Int)) (_ : Unit) => (getI b1 (i_2 : Int)).bind fun v_4 => (m_laws_eqIntS x_i_2 v_4).bind fun r_9 => cond (!r_9) (some (.ret false)) (some (.next ()))) a0 0 ()).bind fun O3_ => onS O3_ (fun (_ : Unit) => some true) (fun r => some r))
end Go.Proofs.Ytjdpolnakhmkmaa

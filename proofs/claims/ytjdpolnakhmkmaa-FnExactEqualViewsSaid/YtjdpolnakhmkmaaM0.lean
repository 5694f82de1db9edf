/- The functions, as plain Lean. -/
import Derived.Test.YtjdpolnakhmkmaaCRC
set_option linter.unusedVariables false
set_option maxRecDepth 4000
namespace Go.Proofs.Ytjdpolnakhmkmaa
open Go Go.Proofs Go.Sep
structure Atom where
  relation : Int
  terms : (List Int)
instance : Inhabited Atom := ⟨⟨default, default⟩⟩
instance : DecidableEq Atom := fun a b => decidable_of_iff (a.relation = b.relation ∧ a.terms = b.terms) (by cases a; cases b; simp)
def RdAtom (x : Atom) : Prop := (-9223372036854775808 ≤ x.relation ∧ x.relation ≤ 9223372036854775807) ∧ (x.terms.length ≤ 9223372036854775807 ∧ ∀ yrms ∈ x.terms, (-9223372036854775808 ≤ yrms ∧ yrms ≤ 9223372036854775807))
def tAtom : Ty Atom := tAs (fun x => (x.relation, x.terms)) (tP tInt (tSl tInt))
structure Query where
  variableCount : Int
  atoms : (List Atom)
  free : (List Int)
instance : Inhabited Query := ⟨⟨default, default, default⟩⟩
instance : DecidableEq Query := fun a b => decidable_of_iff (a.variableCount = b.variableCount ∧ a.atoms = b.atoms ∧ a.free = b.free) (by cases a; cases b; simp)
def RdQuery (x : Query) : Prop := (-9223372036854775808 ≤ x.variableCount ∧ x.variableCount ≤ 9223372036854775807) ∧ ((x.atoms.length ≤ 9223372036854775807 ∧ ∀ yoms ∈ x.atoms, RdAtom yoms) ∧ (x.free.length ≤ 9223372036854775807 ∧ ∀ yree ∈ x.free, (-9223372036854775808 ≤ yree ∧ yree ≤ 9223372036854775807)))
def tQuery : Ty Query := tAs (fun x => (x.variableCount, (x.atoms, x.free))) (tP tInt (tP (tSl tAtom) (tSl tInt)))
structure Fact where
  relation : Int
  values : (List Int)
instance : Inhabited Fact := ⟨⟨default, default⟩⟩
instance : DecidableEq Fact := fun a b => decidable_of_iff (a.relation = b.relation ∧ a.values = b.values) (by cases a; cases b; simp)
def RdFact (x : Fact) : Prop := (-9223372036854775808 ≤ x.relation ∧ x.relation ≤ 9223372036854775807) ∧ (x.values.length ≤ 9223372036854775807 ∧ ∀ yues ∈ x.values, (-9223372036854775808 ≤ yues ∧ yues ≤ 9223372036854775807))
def tFact : Ty Fact := tAs (fun x => (x.relation, x.values)) (tP tInt (tSl tInt))
structure Relation where
  name : ByteArray
  arity : Int
  keyLength : Int
instance : Inhabited Relation := ⟨⟨default, default, default⟩⟩
instance : DecidableEq Relation := fun a b => decidable_of_iff (a.name = b.name ∧ a.arity = b.arity ∧ a.keyLength = b.keyLength) (by cases a; cases b; simp)
def RdRelation (x : Relation) : Prop := x.name.size ≤ 9223372036854775807 ∧ ((-9223372036854775808 ≤ x.arity ∧ x.arity ≤ 9223372036854775807) ∧ (-9223372036854775808 ≤ x.keyLength ∧ x.keyLength ≤ 9223372036854775807))
def tRelation : Ty Relation := tAs (fun x => (x.name, (x.arity, x.keyLength))) (tP tStr (tP tInt tInt))
structure Database where
  relations : (List Relation)
  facts : (List Fact)
instance : Inhabited Database := ⟨⟨default, default⟩⟩
instance : DecidableEq Database := fun a b => decidable_of_iff (a.relations = b.relations ∧ a.facts = b.facts) (by cases a; cases b; simp)
def RdDatabase (x : Database) : Prop := (x.relations.length ≤ 9223372036854775807 ∧ ∀ yons ∈ x.relations, RdRelation yons) ∧ (x.facts.length ≤ 9223372036854775807 ∧ ∀ ycts ∈ x.facts, RdFact ycts)
def tDatabase : Ty Database := tAs (fun x => (x.relations, x.facts)) (tP (tSl tRelation) (tSl tFact))
structure View where
  database : Database
  query : Query
  certainRows : (List (List Int))
  uncertainRows : (List (List Int))
instance : Inhabited View := ⟨⟨default, default, default, default⟩⟩
instance : DecidableEq View := fun a b => decidable_of_iff (a.database = b.database ∧ a.query = b.query ∧ a.certainRows = b.certainRows ∧ a.uncertainRows = b.uncertainRows) (by cases a; cases b; simp)
def RdView (x : View) : Prop := RdDatabase x.database ∧ (RdQuery x.query ∧ ((x.certainRows.length ≤ 9223372036854775807 ∧ ∀ yows ∈ x.certainRows, (yows.length ≤ 9223372036854775807 ∧ ∀ yowsy ∈ yows, (-9223372036854775808 ≤ yowsy ∧ yowsy ≤ 9223372036854775807))) ∧ (x.uncertainRows.length ≤ 9223372036854775807 ∧ ∀ yows ∈ x.uncertainRows, (yows.length ≤ 9223372036854775807 ∧ ∀ yowsy ∈ yows, (-9223372036854775808 ≤ yowsy ∧ yowsy ≤ 9223372036854775807)))))
def tView : Ty View := tAs (fun x => (x.database, (x.query, (x.certainRows, x.uncertainRows)))) (tP tDatabase (tP tQuery (tP (tSl (tSl tInt)) (tSl (tSl tInt)))))
/-- laws.szIntS -/
def m_laws_szIntS (a0 : (List Int)) (left1 : Int) : Option Int :=
  cond (decide ((w64 (left1 - (a0.length : Int))) < 0)) (some (-1)) (some (w64 (left1 - (a0.length : Int))))
/-- laws.szAtom -/
def m_laws_szAtom (a0 : Atom) (left1 : Int) : Option Int :=
  (m_laws_szIntS a0.terms left1).bind fun r_1 => cond (decide (r_1 < 0)) (some (-1)) (some r_1)
/-- laws.szAtomS -/
def m_laws_szAtomS (a0 : (List Atom)) (left1 : Int) : Option Int :=
  cond (decide ((w64 (left1 - (a0.length : Int))) < 0)) (some (-1)) ((forL (R := Int) (fun (i_2 : Int) (x_i_2 : Atom) (left1 : Int) => (m_laws_szAtom x_i_2 left1).bind fun r_4 => cond (decide (r_4 < 0)) (some (.ret (-1))) (some (.next r_4))) a0 0 (w64 (left1 - (a0.length : Int)))).bind fun O3_ => onS O3_ (fun (left1 : Int) => some left1) (fun r => some r))
/-- laws.szQuery -/
def m_laws_szQuery (a0 : Query) (left1 : Int) : Option Int :=
  (m_laws_szAtomS a0.atoms left1).bind fun r_1 => cond (decide (r_1 < 0)) (some (-1)) ((m_laws_szIntS a0.free r_1).bind fun r_4 => cond (decide (r_4 < 0)) (some (-1)) (some r_4))
/-- laws.szFact -/
def m_laws_szFact (a0 : Fact) (left1 : Int) : Option Int :=
  (m_laws_szIntS a0.values left1).bind fun r_1 => cond (decide (r_1 < 0)) (some (-1)) (some r_1)
/-- laws.szFactS -/
def m_laws_szFactS (a0 : (List Fact)) (left1 : Int) : Option Int :=
  cond (decide ((w64 (left1 - (a0.length : Int))) < 0)) (some (-1)) ((forL (R := Int) (fun (i_2 : Int) (x_i_2 : Fact) (left1 : Int) => (m_laws_szFact x_i_2 left1).bind fun r_4 => cond (decide (r_4 < 0)) (some (.ret (-1))) (some (.next r_4))) a0 0 (w64 (left1 - (a0.length : Int)))).bind fun O3_ => onS O3_ (fun (left1 : Int) => some left1) (fun r => some r))
/-- laws.szRelation -/
def m_laws_szRelation (a0 : Relation) (left1 : Int) : Option Int :=
  cond (decide ((w64 (left1 - (a0.name.size : Int))) < 0)) (some (-1)) (some (w64 (left1 - (a0.name.size : Int))))
/-- laws.szRelationS -/
def m_laws_szRelationS (a0 : (List Relation)) (left1 : Int) : Option Int :=
  cond (decide ((w64 (left1 - (a0.length : Int))) < 0)) (some (-1)) ((forL (R := Int) (fun (i_2 : Int) (x_i_2 : Relation) (left1 : Int) => (m_laws_szRelation x_i_2 left1).bind fun r_4 => cond (decide (r_4 < 0)) (some (.ret (-1))) (some (.next r_4))) a0 0 (w64 (left1 - (a0.length : Int)))).bind fun O3_ => onS O3_ (fun (left1 : Int) => some left1) (fun r => some r))
/-- laws.szDatabase -/
def m_laws_szDatabase (a0 : Database) (left1 : Int) : Option Int :=
  (m_laws_szRelationS a0.relations left1).bind fun r_1 => cond (decide (r_1 < 0)) (some (-1)) ((m_laws_szFactS a0.facts r_1).bind fun r_4 => cond (decide (r_4 < 0)) (some (-1)) (some r_4))
/-- laws.szIntSS -/
def m_laws_szIntSS (a0 : (List (List Int))) (left1 : Int) : Option Int :=
  cond (decide ((w64 (left1 - (a0.length : Int))) < 0)) (some (-1)) ((forL (R := Int) (fun (i_2 : Int) (x_i_2 : (List Int)) (left1 : Int) => (m_laws_szIntS x_i_2 left1).bind fun r_4 => cond (decide (r_4 < 0)) (some (.ret (-1))) (some (.next r_4))) a0 0 (w64 (left1 - (a0.length : Int)))).bind fun O3_ => onS O3_ (fun (left1 : Int) => some left1) (fun r => some r))
/-- laws.szView -/
def m_laws_szView (a0 : View) (left1 : Int) : Option Int :=
  (m_laws_szDatabase a0.database left1).bind fun r_1 => cond (decide (r_1 < 0)) (some (-1)) ((m_laws_szQuery a0.query r_1).bind fun r_4 => cond (decide (r_4 < 0)) (some (-1)) ((m_laws_szIntSS a0.certainRows r_4).bind fun r_7 => cond (decide (r_7 < 0)) (some (-1)) ((m_laws_szIntSS a0.uncertainRows r_7).bind fun r_10 => cond (decide (r_10 < 0)) (some (-1)) (some r_10))))
/-- spec.l3Ints -/
def m_spec_l3Ints (u : Nat) (a0 : (List Int)) (b1 : (List Int)) : Option Int :=
  (whileF (R := Int) (fun (i5 : Int) => cond ((decide (i5 < (a0.length : Int))) && (decide (i5 < (b1.length : Int)))) ((getI a0 i5).bind fun v_6 => (getI b1 i5).bind fun v_11 => cond (decide (v_6 < v_11)) (some (.ret (-1))) (cond (decide (v_11 < v_6)) (some (.ret 1)) (some (.next (w64 (i5 + 1)))))) (some (.brk i5))) u 0).bind fun O1_ => onS O1_ (fun (i5 : Int) => cond (decide ((a0.length : Int) < (b1.length : Int))) (some (-1)) (cond (decide ((b1.length : Int) < (a0.length : Int))) (some 1) (some 0))) (fun r => some r)
/-- spec.CompareFacts -/
def m_spec_CompareFacts (u : Nat) (a0 : Fact) (b1 : Fact) : Option Int :=
  cond (decide (a0.relation < b1.relation)) (some (-1)) (cond (decide (b1.relation < a0.relation)) (some 1) ((m_spec_l3Ints u a0.values b1.values).bind fun r_3 => some r_3))
/-- spec.EqualDatabases -/
def m_spec_EqualDatabases (u : Nat) (a0 : Database) (b1 : Database) : Option Bool :=
  cond ((decide ((a0.relations.length : Int) ≠ (b1.relations.length : Int))) || (decide ((a0.facts.length : Int) ≠ (b1.facts.length : Int)))) (some false) ((whileF (R := Bool) (fun (i5 : Int) => cond (decide (i5 < (a0.relations.length : Int))) ((getI a0.relations i5).bind fun v_7 => (getI b1.relations i5).bind fun v_12 => cond (!(cmpSc [.s v_7.name v_12.name, .i v_7.arity v_12.arity, .i v_7.keyLength v_12.keyLength])) (some (.ret false)) (some (.next (w64 (i5 + 1))))) (some (.brk i5))) u 0).bind fun O5_ => onS O5_ (fun (i5 : Int) => (whileF (R := Bool) (fun (i6 : Int) => cond (decide (i6 < (a0.facts.length : Int))) ((getI a0.facts i6).bind fun v_20 => (getI b1.facts i6).bind fun v_25 => (m_spec_CompareFacts u v_20 v_25).bind fun r_30 => cond (decide (r_30 ≠ 0)) (some (.ret false)) (some (.next (w64 (i6 + 1))))) (some (.brk i6))) u 0).bind fun O18_ => onS O18_ (fun (i6 : Int) => some true) (fun r => some r)) (fun r => some r))
/-- spec.EqualQueries -/
def m_spec_EqualQueries (u : Nat) (a0 : Query) (b1 : Query) : Option Bool :=
  (cond (decide (a0.variableCount ≠ b1.variableCount)) (some true) ((m_spec_l3Ints u a0.free b1.free).bind fun r_4 => cond (decide (r_4 ≠ 0)) (some true) (some (decide ((a0.atoms.length : Int) ≠ (b1.atoms.length : Int)))))).bind fun (t27_1 : Bool) => cond t27_1 (some false) ((whileF (R := Bool) (fun (i5 : Int) => cond (decide (i5 < (a0.atoms.length : Int))) (((getI a0.atoms i5).bind fun v_12 => (getI b1.atoms i5).bind fun v_17 => cond (decide (v_12.relation ≠ v_17.relation)) (some true) ((m_spec_l3Ints u v_12.terms v_17.terms).bind fun r_23 => some (decide (r_23 ≠ 0)))).bind fun (t63_10 : Bool) => cond t63_10 (some (.ret false)) (some (.next (w64 (i5 + 1))))) (some (.brk i5))) u 0).bind fun O8_ => onS O8_ (fun (i5 : Int) => some true) (fun r => some r))
/-- spec.l31Same -/
def m_spec_l31Same (u : Nat) (a0 : (List (List Int))) (b1 : (List (List Int))) : Option Bool :=
  cond (decide ((a0.length : Int) ≠ (b1.length : Int))) (some false) ((forL (R := Bool) (fun (i_2 : Int) (x_i_2 : (List Int)) (_ : Unit) => (getI b1 (i_2 : Int)).bind fun v_4 => (m_spec_l3Ints u x_i_2 v_4).bind fun r_9 => cond (decide (r_9 ≠ 0)) (some (.ret false)) (some (.next ()))) a0 0 ()).bind fun O3_ => onS O3_ (fun (_ : Unit) => some true) (fun r => some r))
/-- spec.EqualViews -/
def m_spec_EqualViews (u : Nat) (a0 : View) (b1 : View) : Option Bool :=
  ((m_spec_EqualDatabases u a0.database b1.database).bind fun r_3 => cond r_3 ((m_spec_EqualQueries u a0.query b1.query).bind fun r_6 => cond r_6 ((m_spec_l31Same u a0.certainRows b1.certainRows).bind fun r_9 => cond r_9 ((m_spec_l31Same u a0.uncertainRows b1.uncertainRows).bind fun r_12 => some r_12) (some false)) (some false)) (some false)).bind fun (t4_1 : Bool) => some t4_1
/-- laws.toIntS -/
def m_laws_toIntS (a0 : (List Int)) : Option (List Int) :=
  (mk 8 (a0.length : Int) (0 : Int)).bind fun us_1 => (forS (fun (i_3 : Int) (x_i_3 : Int) (out3 : (List Int)) => (getI out3 (i_3 : Int)).bind fun v_5 => some (out3.set ((i_3 : Int)).toNat x_i_3)) a0 0 us_1).bind fun (out3 : (List Int)) => some out3
/-- laws.toAtom -/
def m_laws_toAtom (a0 : Atom) : Option Atom :=
  (m_laws_toIntS a0.terms).bind fun r_1 => some ({ relation := a0.relation, terms := r_1 } : Atom)
/-- laws.toAtomS -/
def m_laws_toAtomS (a0 : (List Atom)) : Option (List Atom) :=
  (mk 32 (a0.length : Int) (default : Atom)).bind fun us_1 => (forS (fun (i_3 : Int) (x_i_3 : Atom) (out3 : (List Atom)) => (m_laws_toAtom x_i_3).bind fun r_5 => (getI out3 (i_3 : Int)).bind fun v_7 => some (out3.set ((i_3 : Int)).toNat r_5)) a0 0 us_1).bind fun (out3 : (List Atom)) => some out3
/-- laws.toQuery -/
def m_laws_toQuery (a0 : Query) : Option Query :=
  (m_laws_toAtomS a0.atoms).bind fun r_1 => (m_laws_toIntS a0.free).bind fun r_3 => some ({ variableCount := a0.variableCount, atoms := r_1, free := r_3 } : Query)
/-- laws.toFact -/
def m_laws_toFact (a0 : Fact) : Option Fact :=
  (m_laws_toIntS a0.values).bind fun r_1 => some ({ relation := a0.relation, values := r_1 } : Fact)
/-- laws.toFactS -/
def m_laws_toFactS (a0 : (List Fact)) : Option (List Fact) :=
  (mk 32 (a0.length : Int) (default : Fact)).bind fun us_1 => (forS (fun (i_3 : Int) (x_i_3 : Fact) (out3 : (List Fact)) => (m_laws_toFact x_i_3).bind fun r_5 => (getI out3 (i_3 : Int)).bind fun v_7 => some (out3.set ((i_3 : Int)).toNat r_5)) a0 0 us_1).bind fun (out3 : (List Fact)) => some out3
/-- laws.toRelation -/
def m_laws_toRelation (a0 : Relation) : Option Relation :=
  some a0
/-- laws.toRelationS -/
def m_laws_toRelationS (a0 : (List Relation)) : Option (List Relation) :=
  (mk 32 (a0.length : Int) (default : Relation)).bind fun us_1 => (forS (fun (i_3 : Int) (x_i_3 : Relation) (out3 : (List Relation)) => (m_laws_toRelation x_i_3).bind fun r_5 => (getI out3 (i_3 : Int)).bind fun v_7 => some (out3.set ((i_3 : Int)).toNat r_5)) a0 0 us_1).bind fun (out3 : (List Relation)) => some out3
/-- laws.toDatabase -/
def m_laws_toDatabase (a0 : Database) : Option Database :=
  (m_laws_toRelationS a0.relations).bind fun r_1 => (m_laws_toFactS a0.facts).bind fun r_3 => some ({ relations := r_1, facts := r_3 } : Database)
/-- laws.toIntSS -/
def m_laws_toIntSS (a0 : (List (List Int))) : Option (List (List Int)) :=
  (mk 24 (a0.length : Int) []).bind fun us_1 => (forS (fun (i_3 : Int) (x_i_3 : (List Int)) (out3 : (List (List Int))) => (m_laws_toIntS x_i_3).bind fun r_5 => (getI out3 (i_3 : Int)).bind fun v_7 => some (out3.set ((i_3 : Int)).toNat r_5)) a0 0 us_1).bind fun (out3 : (List (List Int))) => some out3
/-- laws.toView -/
def m_laws_toView (a0 : View) : Option View :=
  (m_laws_toDatabase a0.database).bind fun r_1 => (m_laws_toQuery a0.query).bind fun r_3 => (m_laws_toIntSS a0.certainRows).bind fun r_5 => (m_laws_toIntSS a0.uncertainRows).bind fun r_7 => some ({ database := r_1, query := r_3, certainRows := r_5, uncertainRows := r_7 } : View)
/-- impl.Relation] -/
def m_slices_Equal_Simpl_Relation_impl_Relation (s10 : (List Relation)) (s21 : (List Relation)) : Option Bool :=
  cond (decide ((s10.length : Int) ≠ (s21.length : Int))) (some false) ((forL (R := Bool) (fun (t_2 : Int) (x_t_2 : Relation) (_ : Unit) => (getI s21 (t_2 : Int)).bind fun v_4 => cond (!(cmpSc [.s x_t_2.name v_4.name, .i x_t_2.arity v_4.arity, .i x_t_2.keyLength v_4.keyLength])) (some (.ret false)) (some (.next ()))) s10 0 ()).bind fun O3_ => onS O3_ (fun (_ : Unit) => some true) (fun r => some r))
/-- impl.Fact] -/
def m_slices_EqualFunc_Simpl_Fact_Simpl_Fact_impl_Fact_impl_Fact (s10 : (List Fact)) (s21 : (List Fact)) (eq2 : (Fact → Fact → Option Bool)) : Option Bool :=
  cond (decide ((s10.length : Int) ≠ (s21.length : Int))) (some false) ((forL (R := Bool) (fun (t_2 : Int) (x_t_2 : Fact) (_ : Unit) => (getI s21 (t_2 : Int)).bind fun v_4 => (eq2 x_t_2 v_4).bind fun r_9 => cond (!r_9) (some (.ret false)) (some (.next ()))) s10 0 ()).bind fun O3_ => onS O3_ (fun (_ : Unit) => some true) (fun r => some r))
/-- impl.compare -/
def m_impl_compare (a0 : Int) (b1 : Int) : Option Int :=
  cond (decide (a0 < b1)) (some (-1)) (cond (decide (b1 < a0)) (some 1) (some 0))
/-- cmp.isNaN[int] -/
def m_cmp_isNaN_int (x0 : Int) : Option Bool :=
  some (decide (x0 ≠ x0))
/-- cmp.Compare[int] -/
def m_cmp_Compare_int (x0 : Int) (y1 : Int) : Option Int :=
  (m_cmp_isNaN_int x0).bind fun r_1 => (m_cmp_isNaN_int y1).bind fun r_3 => cond r_1 (cond r_3 (some 0) (some (-1))) (cond r_3 (some 1) (cond (decide (x0 < y1)) (some (-1)) (cond (decide (y1 < x0)) (some 1) (some 0))))
/-- slices.Compare[[]int,int] -/
def m_slices_Compare_Sint_int (s10 : (List Int)) (s21 : (List Int)) : Option Int :=
  (forL (R := Int) (fun (t_1 : Int) (x_t_1 : Int) (_ : Unit) => cond (decide ((s21.length : Int) ≤ (t_1 : Int))) (some (.ret 1)) ((getI s21 (t_1 : Int)).bind fun v_4 => (m_cmp_Compare_int x_t_1 v_4).bind fun r_9 => cond (decide (r_9 ≠ 0)) (some (.ret r_9)) (some (.next ())))) s10 0 ()).bind fun O2_ => onS O2_ (fun (_ : Unit) => cond (decide ((s10.length : Int) < (s21.length : Int))) (some (-1)) (some 0)) (fun r => some r)
/-- impl.CompareFacts -/
def m_impl_CompareFacts (a0 : Fact) (b1 : Fact) : Option Int :=
  cond (decide (a0.relation ≠ b1.relation)) ((m_impl_compare a0.relation b1.relation).bind fun r_2 => some r_2) ((m_slices_Compare_Sint_int a0.values b1.values).bind fun r_4 => some r_4)
/-- impl.EqualDatabases$1 -/
def m_impl_EqualDatabases_1 (x0 : Fact) (y1 : Fact) : Option Bool :=
  (m_impl_CompareFacts x0 y1).bind fun r_1 => some (decide (r_1 = 0))
/-- impl.EqualDatabases -/
def m_impl_EqualDatabases (a0 : Database) (b1 : Database) : Option Bool :=
  ((m_slices_Equal_Simpl_Relation_impl_Relation a0.relations b1.relations).bind fun r_3 => cond r_3 ((m_slices_EqualFunc_Simpl_Fact_Simpl_Fact_impl_Fact_impl_Fact a0.facts b1.facts (fun x0 x1 => m_impl_EqualDatabases_1 x0 x1)).bind fun r_6 => some r_6) (some false)).bind fun (t4_1 : Bool) => some t4_1
/-- impl.Atom] -/
def m_slices_EqualFunc_Simpl_Atom_Simpl_Atom_impl_Atom_impl_Atom (s10 : (List Atom)) (s21 : (List Atom)) (eq2 : (Atom → Atom → Option Bool)) : Option Bool :=
  cond (decide ((s10.length : Int) ≠ (s21.length : Int))) (some false) ((forL (R := Bool) (fun (t_2 : Int) (x_t_2 : Atom) (_ : Unit) => (getI s21 (t_2 : Int)).bind fun v_4 => (eq2 x_t_2 v_4).bind fun r_9 => cond (!r_9) (some (.ret false)) (some (.next ()))) s10 0 ()).bind fun O3_ => onS O3_ (fun (_ : Unit) => some true) (fun r => some r))
/-- slices.Equal[[]int,int] -/
def m_slices_Equal_Sint_int (s10 : (List Int)) (s21 : (List Int)) : Option Bool :=
  cond (decide ((s10.length : Int) ≠ (s21.length : Int))) (some false) ((forL (R := Bool) (fun (t_2 : Int) (x_t_2 : Int) (_ : Unit) => (getI s21 (t_2 : Int)).bind fun v_4 => cond (decide (x_t_2 ≠ v_4)) (some (.ret false)) (some (.next ()))) s10 0 ()).bind fun O3_ => onS O3_ (fun (_ : Unit) => some true) (fun r => some r))
/-- impl.equalAtoms -/
def m_impl_equalAtoms (a0 : Atom) (b1 : Atom) : Option Bool :=
  (cond (decide (a0.relation = b1.relation)) ((m_slices_Equal_Sint_int a0.terms b1.terms).bind fun r_4 => some r_4) (some false)).bind fun (t4_1 : Bool) => some t4_1
/-- impl.EqualQueries -/
def m_impl_EqualQueries (a0 : Query) (b1 : Query) : Option Bool :=
  (cond (decide (a0.variableCount = b1.variableCount)) ((m_slices_EqualFunc_Simpl_Atom_Simpl_Atom_impl_Atom_impl_Atom a0.atoms b1.atoms (fun x0 x1 => m_impl_equalAtoms x0 x1)).bind fun r_4 => cond r_4 ((m_slices_Equal_Sint_int a0.free b1.free).bind fun r_7 => some r_7) (some false)) (some false)).bind fun (t4_1 : Bool) => some t4_1
/-- slices.EqualFunc[[][]int,[][]int,[]int,[]int] -/
def m_slices_EqualFunc_SSint_SSint_Sint_Sint (s10 : (List (List Int))) (s21 : (List (List Int))) (eq2 : ((List Int) → (List Int) → Option Bool)) : Option Bool :=
  cond (decide ((s10.length : Int) ≠ (s21.length : Int))) (some false) ((forL (R := Bool) (fun (t_2 : Int) (x_t_2 : (List Int)) (_ : Unit) => (getI s21 (t_2 : Int)).bind fun v_4 => (eq2 x_t_2 v_4).bind fun r_9 => cond (!r_9) (some (.ret false)) (some (.next ()))) s10 0 ()).bind fun O3_ => onS O3_ (fun (_ : Unit) => some true) (fun r => some r))
/-- impl.equalRows -/
def m_impl_equalRows (a0 : (List (List Int))) (b1 : (List (List Int))) : Option Bool :=
  (m_slices_EqualFunc_SSint_SSint_Sint_Sint a0 b1 (fun x0 x1 => m_slices_Equal_Sint_int x0 x1)).bind fun r_1 => some r_1
/-- impl.EqualViews -/
def m_impl_EqualViews (a0 : View) (b1 : View) : Option Bool :=
  ((m_impl_EqualDatabases a0.database b1.database).bind fun r_3 => cond r_3 ((m_impl_EqualQueries a0.query b1.query).bind fun r_6 => cond r_6 ((m_impl_equalRows a0.certainRows b1.certainRows).bind fun r_9 => cond r_9 ((m_impl_equalRows a0.uncertainRows b1.uncertainRows).bind fun r_12 => some r_12) (some false)) (some false)) (some false)).bind fun (t4_1 : Bool) => some t4_1
/-- laws.eqIntS -/
def m_laws_eqIntS (a0 : (List Int)) (b1 : (List Int)) : Option Bool :=
  cond (decide ((a0.length : Int) ≠ (b1.length : Int))) (some false) ((forL (R := Bool) (fun (i_2 : Int) (x_i_2 : Int) (_ : Unit) => (getI b1 (i_2 : Int)).bind fun v_4 => cond (decide (x_i_2 ≠ v_4)) (some (.ret false)) (some (.next ()))) a0 0 ()).bind fun O3_ => onS O3_ (fun (_ : Unit) => some true) (fun r => some r))
/-- laws.eqAtom -/
def m_laws_eqAtom (a0 : Atom) (b1 : Atom) : Option Bool :=
  cond (decide (a0.relation ≠ b1.relation)) (some false) ((m_laws_eqIntS a0.terms b1.terms).bind fun r_2 => cond (!r_2) (some false) (some true))
/-- laws.eqAtomS -/
def m_laws_eqAtomS (a0 : (List Atom)) (b1 : (List Atom)) : Option Bool :=
  cond (decide ((a0.length : Int) ≠ (b1.length : Int))) (some false) ((forL (R := Bool) (fun (i_2 : Int) (x_i_2 : Atom) (_ : Unit) => (getI b1 (i_2 : Int)).bind fun v_4 => (m_laws_eqAtom x_i_2 v_4).bind fun r_9 => cond (!r_9) (some (.ret false)) (some (.next ()))) a0 0 ()).bind fun O3_ => onS O3_ (fun (_ : Unit) => some true) (fun r => some r))
/-- laws.eqQuery -/
def m_laws_eqQuery (a0 : Query) (b1 : Query) : Option Bool :=
  cond (decide (a0.variableCount ≠ b1.variableCount)) (some false) ((m_laws_eqAtomS a0.atoms b1.atoms).bind fun r_2 => cond (!r_2) (some false) ((m_laws_eqIntS a0.free b1.free).bind fun r_5 => cond (!r_5) (some false) (some true)))
/-- laws.eqFact -/
def m_laws_eqFact (a0 : Fact) (b1 : Fact) : Option Bool :=
  cond (decide (a0.relation ≠ b1.relation)) (some false) ((m_laws_eqIntS a0.values b1.values).bind fun r_2 => cond (!r_2) (some false) (some true))
/-- laws.eqFactS -/
def m_laws_eqFactS (a0 : (List Fact)) (b1 : (List Fact)) : Option Bool :=
  cond (decide ((a0.length : Int) ≠ (b1.length : Int))) (some false) ((forL (R := Bool) (fun (i_2 : Int) (x_i_2 : Fact) (_ : Unit) => (getI b1 (i_2 : Int)).bind fun v_4 => (m_laws_eqFact x_i_2 v_4).bind fun r_9 => cond (!r_9) (some (.ret false)) (some (.next ()))) a0 0 ()).bind fun O3_ => onS O3_ (fun (_ : Unit) => some true) (fun r => some r))
/-- laws.eqRelation -/
def m_laws_eqRelation (a0 : Relation) (b1 : Relation) : Option Bool :=
  cond (decide (a0.name ≠ b1.name)) (some false) (cond (decide (a0.arity ≠ b1.arity)) (some false) (cond (decide (a0.keyLength ≠ b1.keyLength)) (some false) (some true)))
/-- laws.eqRelationS -/
def m_laws_eqRelationS (a0 : (List Relation)) (b1 : (List Relation)) : Option Bool :=
  cond (decide ((a0.length : Int) ≠ (b1.length : Int))) (some false) ((forL (R := Bool) (fun (i_2 : Int) (x_i_2 : Relation) (_ : Unit) => (getI b1 (i_2 : Int)).bind fun v_4 => (m_laws_eqRelation x_i_2 v_4).bind fun r_9 => cond (!r_9) (some (.ret false)) (some (.next ()))) a0 0 ()).bind fun O3_ => onS O3_ (fun (_ : Unit) => some true) (fun r => some r))
/-- laws.eqDatabase -/
def m_laws_eqDatabase (a0 : Database) (b1 : Database) : Option Bool :=
  (m_laws_eqRelationS a0.relations b1.relations).bind fun r_1 => cond (!r_1) (some false) ((m_laws_eqFactS a0.facts b1.facts).bind fun r_4 => cond (!r_4) (some false) (some true))
/-- laws.eqIntSS -/
def m_laws_eqIntSS (a0 : (List (List Int))) (b1 : (List (List Int))) : Option Bool :=
  cond (decide ((a0.length : Int) ≠ (b1.length : Int))) (some false) ((forL (R := Bool) (fun (i_2 : Int) (x_i_2 : (List Int)) (_ : Unit) => (getI b1 (i_2 : Int)).bind fun v_4 => (m_laws_eqIntS x_i_2 v_4).bind fun r_9 => cond (!r_9) (some (.ret false)) (some (.next ()))) a0 0 ()).bind fun O3_ => onS O3_ (fun (_ : Unit) => some true) (fun r => some r))
/-- laws.eqView -/
def m_laws_eqView (a0 : View) (b1 : View) : Option Bool :=
  (m_laws_eqDatabase a0.database b1.database).bind fun r_1 => cond (!r_1) (some false) ((m_laws_eqQuery a0.query b1.query).bind fun r_4 => cond (!r_4) (some false) ((m_laws_eqIntSS a0.certainRows b1.certainRows).bind fun r_7 => cond (!r_7) (some false) ((m_laws_eqIntSS a0.uncertainRows b1.uncertainRows).bind fun r_10 => cond (!r_10) (some false) (some true))))
/-- laws.FnExactEqualViews -/
def m_laws_FnExactEqualViews (u : Nat) (aA0 : View) (aB1 : View) : Option Bool :=
  (m_laws_szView aA0 1048576).bind fun r_1 => cond (decide (r_1 < 0)) (some true) ((m_laws_szView aB1 r_1).bind fun r_4 => cond (decide (r_4 < 0)) (some true) ((m_laws_toView aA0).bind fun r_7 => (m_laws_toView aB1).bind fun r_9 => (m_spec_EqualViews u r_7 r_9).bind fun r_11 => (m_laws_toView aA0).bind fun r_13 => (m_laws_toView aB1).bind fun r_15 => (m_impl_EqualViews r_13 r_15).bind fun r_17 => cond (r_17 != r_11) (some false) ((m_laws_toView aA0).bind fun r_20 => (m_laws_eqView r_13 r_20).bind fun r_22 => cond (!r_22) (some false) ((m_laws_toView aB1).bind fun r_25 => (m_laws_eqView r_15 r_25).bind fun r_27 => cond (!r_27) (some false) (some true)))))
/-- spec.l1In -/
def m_spec_l1In (x0 : Int) (low1 : Int) (high2 : Int) : Option Bool :=
  some ((decide (low1 ≤ x0)) && (decide (x0 ≤ high2)))
/-- impl.within -/
def m_impl_within (n0 : Int) (low1 : Int) (high2 : Int) : Option Bool :=
  some ((decide (low1 ≤ n0)) && (decide (n0 ≤ high2)))
/-- spec.IsValidRelation -/
def m_spec_IsValidRelation (s0 : Relation) : Option Bool :=
  (cond (decide ((s0.name.size : Int) = 1)) ((getB s0.name 0).bind fun b_4 => cond (decide (97 ≤ b_4)) ((getB s0.name 0).bind fun b_7 => cond (decide (b_7 ≤ 122)) ((m_spec_l1In s0.arity 1 3).bind fun r_10 => cond r_10 ((m_spec_l1In s0.keyLength 0 s0.arity).bind fun r_13 => some r_13) (some false)) (some false)) (some false)) (some false)).bind fun (t2_1 : Bool) => some t2_1
/-- spec.AreValidRelations -/
def m_spec_AreValidRelations (l0 : (List Relation)) : Option Bool :=
  (forL (R := Bool) (fun (i_1 : Int) (x_i_1 : Relation) (_ : Unit) => ((m_spec_IsValidRelation x_i_1).bind fun r_5 => cond (!r_5) (some true) (cond (decide (0 < (i_1 : Int))) ((getI l0 ((i_1 : Int) - 1)).bind fun v_9 => some (!ltS v_9.name x_i_1.name)) (some false))).bind fun (t33_3 : Bool) => cond t33_3 (some (.ret false)) (some (.next ()))) l0 0 ()).bind fun O2_ => onS O2_ (fun (_ : Unit) => some (decide ((l0.length : Int) ≤ 4))) (fun r => some r)
/-- spec.IsValidFact -/
def m_spec_IsValidFact (u : Nat) (l0 : (List Relation)) (f1 : Fact) : Option Bool :=
  ((m_spec_AreValidRelations l0).bind fun r_3 => cond (!r_3) (some true) ((m_spec_l1In f1.relation 0 ((l0.length : Int) - 1)).bind fun r_7 => cond (!r_7) (some true) ((getI l0 f1.relation).bind fun v_10 => some (decide ((f1.values.length : Int) ≠ v_10.arity))))).bind fun (t29_1 : Bool) => cond t29_1 (some false) ((whileF (R := Bool) (fun (i5 : Int) => cond (decide (i5 < (f1.values.length : Int))) ((getI f1.values i5).bind fun v_18 => (m_spec_l1In v_18 0 9).bind fun r_23 => cond (!r_23) (some (.ret false)) (some (.next (w64 (i5 + 1))))) (some (.brk i5))) u 0).bind fun O16_ => onS O16_ (fun (i5 : Int) => some true) (fun r => some r))
/-- spec.IsValidDatabase -/
def m_spec_IsValidDatabase (u : Nat) (d0 : Database) : Option Bool :=
  (whileF (R := Bool) (fun (i3 : Int) => cond (decide (i3 < (d0.facts.length : Int))) (((getI d0.facts i3).bind fun v_5 => (m_spec_IsValidFact u d0.relations v_5).bind fun r_10 => cond (!r_10) (some true) (cond (decide (0 < i3)) ((getI d0.facts (w64 (i3 - 1))).bind fun v_14 => (m_spec_CompareFacts u v_14 v_5).bind fun r_19 => some (decide (0 ≤ r_19))) (some false))).bind fun (t38_3 : Bool) => cond t38_3 (some (.ret false)) (some (.next (w64 (i3 + 1))))) (some (.brk i3))) u 0).bind fun O1_ => onS O1_ (fun (i3 : Int) => ((m_spec_AreValidRelations d0.relations).bind fun r_24 => cond r_24 (some (decide ((d0.facts.length : Int) ≤ 14))) (some false)).bind fun (t2_22 : Bool) => some t2_22) (fun r => some r)
/-- spec.KeyOf -/
def m_spec_KeyOf (u : Nat) (l0 : (List Relation)) (f1 : Fact) : Option (List Int) :=
  (m_spec_IsValidFact u l0 f1).bind fun r_1 => cond (!r_1) (some ([] : (List Int))) ((getI l0 f1.relation).bind fun v_4 => (cutI f1.values 0 v_4.keyLength).bind fun ys_9 => (app 8 ([] : (List Int)) ys_9).bind fun us_11 => some us_11)
/-- spec.HaveSameKey -/
def m_spec_HaveSameKey (u : Nat) (l0 : (List Relation)) (a1 : Fact) (b2 : Fact) : Option Bool :=
  ((m_spec_IsValidFact u l0 a1).bind fun r_3 => cond r_3 ((m_spec_IsValidFact u l0 b2).bind fun r_6 => cond r_6 (cond (decide (a1.relation = b2.relation)) ((m_spec_KeyOf u l0 a1).bind fun r_10 => (m_spec_KeyOf u l0 b2).bind fun r_12 => (m_spec_l3Ints u r_10 r_12).bind fun r_14 => some (decide (r_14 = 0))) (some false)) (some false)) (some false)).bind fun (t6_1 : Bool) => some t6_1
/-- impl.IsValidRelation -/
def m_impl_IsValidRelation (relation0 : Relation) : Option Bool :=
  (cond (decide ((relation0.name.size : Int) = 1)) ((getB relation0.name 0).bind fun b_4 => cond (decide (97 ≤ b_4)) ((getB relation0.name 0).bind fun b_7 => cond (decide (b_7 ≤ 122)) ((m_impl_within relation0.arity 1 3).bind fun r_10 => cond r_10 ((m_impl_within relation0.keyLength 0 relation0.arity).bind fun r_13 => some r_13) (some false)) (some false)) (some false)) (some false)).bind fun (t2_1 : Bool) => some t2_1
/-- impl.AreValidRelations -/
def m_impl_AreValidRelations (relations0 : (List Relation)) : Option Bool :=
  (forL (R := Bool) (fun (t_1 : Int) (x_t_1 : Relation) (_ : Unit) => ((m_impl_IsValidRelation x_t_1).bind fun r_5 => cond (!r_5) (some true) (cond (decide (0 < (t_1 : Int))) ((getI relations0 ((t_1 : Int) - 1)).bind fun v_9 => some (!ltS v_9.name x_t_1.name)) (some false))).bind fun (t29_3 : Bool) => cond t29_3 (some (.ret false)) (some (.next ()))) relations0 0 ()).bind fun O2_ => onS O2_ (fun (_ : Unit) => some (decide ((relations0.length : Int) ≤ 4))) (fun r => some r)
/-- slices.IndexFunc[[]int,int] -/
def m_slices_IndexFunc_Sint_int (s0 : (List Int)) (f1 : (Int → Option Bool)) : Option Int :=
  (forL (R := Int) (fun (t_1 : Int) (x_t_1 : Int) (_ : Unit) => (f1 x_t_1).bind fun r_3 => cond r_3 (some (.ret (t_1 : Int))) (some (.next ()))) s0 0 ()).bind fun O2_ => onS O2_ (fun (_ : Unit) => some (-1)) (fun r => some r)
/-- slices.ContainsFunc[[]int,int] -/
def m_slices_ContainsFunc_Sint_int (s0 : (List Int)) (f1 : (Int → Option Bool)) : Option Bool :=
  (m_slices_IndexFunc_Sint_int s0 f1).bind fun r_1 => some (decide (0 ≤ r_1))
/-- impl.areValues$1 -/
def m_impl_areValues_1 (v0 : Int) : Option Bool :=
  (m_impl_within v0 0 9).bind fun r_1 => some (!r_1)
/-- impl.areValues -/
def m_impl_areValues (list0 : (List Int)) : Option Bool :=
  (m_slices_ContainsFunc_Sint_int list0 (fun x0 => m_impl_areValues_1 x0)).bind fun r_1 => some (!r_1)
/-- impl.isFact -/
def m_impl_isFact (relations0 : (List Relation)) (fact1 : Fact) : Option Bool :=
  ((m_impl_within fact1.relation 0 ((relations0.length : Int) - 1)).bind fun r_4 => cond r_4 ((getI relations0 fact1.relation).bind fun v_7 => cond (decide ((fact1.values.length : Int) = v_7.arity)) ((m_impl_areValues fact1.values).bind fun r_13 => some r_13) (some false)) (some false)).bind fun (t4_1 : Bool) => some t4_1
/-- impl.IsValidDatabase -/
def m_impl_IsValidDatabase (db0 : Database) : Option Bool :=
  ((m_impl_AreValidRelations db0.relations).bind fun r_3 => cond (!r_3) (some true) (some (decide (14 < (db0.facts.length : Int))))).bind fun (t14_1 : Bool) => cond t14_1 (some false) ((forL (R := Bool) (fun (t_7 : Int) (x_t_7 : Fact) (_ : Unit) => ((m_impl_isFact db0.relations x_t_7).bind fun r_11 => cond (!r_11) (some true) (cond (decide (0 < (t_7 : Int))) ((getI db0.facts ((t_7 : Int) - 1)).bind fun v_15 => (m_impl_CompareFacts v_15 x_t_7).bind fun r_20 => some (decide (0 ≤ r_20))) (some false))).bind fun (t42_9 : Bool) => cond t42_9 (some (.ret false)) (some (.next ()))) db0.facts 0 ()).bind fun O8_ => onS O8_ (fun (_ : Unit) => some true) (fun r => some r))
/-- impl.sameKey -/
def m_impl_sameKey (relations0 : (List Relation)) (a1 : Fact) (b2 : Fact) : Option Bool :=
  cond (decide (a1.relation ≠ b2.relation)) (some false) ((getI relations0 a1.relation).bind fun v_2 => (cutI a1.values 0 v_2.keyLength).bind fun ys_7 => (cutI b2.values 0 v_2.keyLength).bind fun ys_9 => (m_slices_Equal_Sint_int ys_7 ys_9).bind fun r_11 => some r_11)
end Go.Proofs.Ytjdpolnakhmkmaa

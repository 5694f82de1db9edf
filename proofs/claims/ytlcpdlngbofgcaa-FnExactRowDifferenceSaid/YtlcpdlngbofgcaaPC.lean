/- RowDifference: the law holds of whatever is handed in. -/
import Derived.Test.YtlcpdlngbofgcaaPB
import Derived.Test.YtlcpdlngbofgcaaM6
set_option linter.unusedVariables false
namespace Go.Proofs.Ytlcpdlngbofgcaa
open Go Go.Proofs Go.Sep
theorem row_FnExactRowDifference (a b : List (List Int)) (ha : a.length ≤ 9223372036854775807 ∧ ∀ y ∈ a, y.length ≤ 9223372036854775807 ∧ ∀ z ∈ y, -9223372036854775808 ≤ z ∧ z ≤ 9223372036854775807) (hb : b.length ≤ 9223372036854775807 ∧ ∀ y ∈ b, y.length ≤ 9223372036854775807 ∧ ∀ z ∈ y, -9223372036854775808 ≤ z ∧ z ≤ 9223372036854775807) :
    FnV prg 3 [sl (tSl tInt) a, sl (tSl tInt) b] (boolA true) :=
  m_laws_FnExactRowDifference_ok _ a b true (law_RowDifference a b ⟨ha.1, fun x hx => (ha.2 x hx).1⟩ ⟨hb.1, fun x hx => (hb.2 x hx).1⟩)
end Go.Proofs.Ytlcpdlngbofgcaa

/- The law FnSumRange holds of whatever is handed in. -/
import Derived.Test.YtlcpdlngbofgcaaPA
import Derived.Test.YtlcpdlngbofgcaaM9
set_option linter.unusedVariables false
namespace Go.Proofs.Ytlcpdlngbofgcaa
open Go Go.Proofs Go.Sep
theorem row_FnSumRange (y0 : (List Int)) (u0 : (y0.length ≤ 9223372036854775807 ∧ ∀ yy0 ∈ y0, (0 ≤ yy0 ∧ yy0 ≤ 255))) :
    FnV prg 10 [sl (tI .u8) y0] (boolA true) :=
  m_laws_FnSumRange_ok _ y0 true (law_SumRangeD y0 u0.2)
end Go.Proofs.Ytlcpdlngbofgcaa

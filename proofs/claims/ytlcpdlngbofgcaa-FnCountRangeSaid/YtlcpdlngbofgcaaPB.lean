/- The law FnCountRange holds of whatever is handed in. -/
import Derived.Test.YtlcpdlngbofgcaaPA
import Derived.Test.YtlcpdlngbofgcaaM5
set_option linter.unusedVariables false
namespace Go.Proofs.Ytlcpdlngbofgcaa
open Go Go.Proofs Go.Sep
theorem row_FnCountRange (y0 : (List Int)) (u0 : (y0.length ≤ 9223372036854775807 ∧ ∀ yy0 ∈ y0, (0 ≤ yy0 ∧ yy0 ≤ 255))) :
    FnV prg 13 [sl (tI .u8) y0] (boolA true) :=
  m_laws_FnCountRange_ok _ y0 true (law_CountRangeD y0 u0.2)
end Go.Proofs.Ytlcpdlngbofgcaa

/- The law FnUndominatedFacts holds of whatever is handed in. -/
import Derived.Test.YtglgcncmjnjfgaaPA
import Derived.Test.YtglgcncmjnjfgaaM6
set_option linter.unusedVariables false
namespace Go.Proofs.Ytglgcncmjnjfgaa
open Go Go.Proofs Go.Sep
theorem row_FnUndominatedFacts (y0 : (List Int)) (u0 : (y0.length ≤ 9223372036854775807 ∧ ∀ yy0 ∈ y0, (0 ≤ yy0 ∧ yy0 ≤ 255))) :
    FnV prg 8 [sl (tI .u8) y0] (boolA true) :=
  m_laws_FnUndominatedFacts_ok _ y0 true (law_UndominatedD y0 u0.2)
end Go.Proofs.Ytglgcncmjnjfgaa

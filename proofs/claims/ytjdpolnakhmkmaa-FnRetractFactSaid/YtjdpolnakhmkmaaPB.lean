/- The law FnRetractFact holds of whatever is handed in. -/
import Derived.Test.YtjdpolnakhmkmaaPA
import Derived.Test.YtjdpolnakhmkmaaM8
set_option linter.unusedVariables false
namespace Go.Proofs.Ytjdpolnakhmkmaa
open Go Go.Proofs Go.Sep
theorem row_FnRetractFact (y0 : (List Int)) (u0 : (y0.length ≤ 9223372036854775807 ∧ ∀ yy0 ∈ y0, (0 ≤ yy0 ∧ yy0 ≤ 255))) :
    FnV prg 6 [sl (tI .u8) y0] (boolA true) :=
  m_laws_FnRetractFact_ok _ y0 true (law_RetractFactD y0 u0.2)
end Go.Proofs.Ytjdpolnakhmkmaa

/- The law FnGreedyRepairs holds of whatever is handed in. -/
import Derived.Test.YtmecnecfkgneoaaGreatPA
import Derived.Test.YtmecnecfkgneoaaGreatM5
set_option linter.unusedVariables false
namespace Go.Proofs.YtmecnecfkgneoaaGreat
open Go Go.Proofs Go.Sep
theorem row_FnGreedyRepairs (y0 : (List Int)) (u0 : (y0.length ≤ 9223372036854775807 ∧ ∀ yy0 ∈ y0, (0 ≤ yy0 ∧ yy0 ≤ 255))) :
    FnV prg 3 [sl (tI .u8) y0] (boolA true) :=
  m_laws_FnGreedyRepairs_ok _ y0 true (law_GreedyRepairsD y0 u0.2)
end Go.Proofs.YtmecnecfkgneoaaGreat

/- The law FnGreedyRepair holds of whatever is handed in. -/
import Derived.Test.YtglgcncmjnjfgaaGreatPA
import Derived.Test.YtglgcncmjnjfgaaGreatM5
set_option linter.unusedVariables false
namespace Go.Proofs.YtglgcncmjnjfgaaGreat
open Go Go.Proofs Go.Sep
theorem row_FnGreedyRepair (y0 : (List Int)) (u0 : (y0.length ≤ 9223372036854775807 ∧ ∀ yy0 ∈ y0, (0 ≤ yy0 ∧ yy0 ≤ 255))) :
    FnV prg 4 [sl (tI .u8) y0] (boolA true) :=
  m_laws_FnGreedyRepair_ok _ y0 true (law_GreedyRepairD y0 u0.2)
end Go.Proofs.YtglgcncmjnjfgaaGreat

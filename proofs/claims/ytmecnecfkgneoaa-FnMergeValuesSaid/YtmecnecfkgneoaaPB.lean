/- The law FnMergeValues holds of whatever is handed in. -/
import Derived.Test.YtmecnecfkgneoaaPA
import Derived.Test.YtmecnecfkgneoaaM4
set_option linter.unusedVariables false
namespace Go.Proofs.Ytmecnecfkgneoaa
open Go Go.Proofs Go.Sep
theorem row_FnMergeValues (y0 : (List Int)) (u0 : (y0.length ≤ 9223372036854775807 ∧ ∀ yy0 ∈ y0, (0 ≤ yy0 ∧ yy0 ≤ 255))) :
    FnV prg 5 [sl (tI .u8) y0] (boolA true) :=
  m_laws_FnMergeValues_ok _ y0 true (law_MergeValuesD y0 u0.2)
end Go.Proofs.Ytmecnecfkgneoaa

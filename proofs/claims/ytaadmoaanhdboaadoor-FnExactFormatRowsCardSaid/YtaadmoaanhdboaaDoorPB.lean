/- The law FnExactFormatRows holds of whatever is handed in. -/
import Derived.Test.YtaadmoaanhdboaaDoorPA
import Derived.Test.YtaadmoaanhdboaaDoorM2
set_option linter.unusedVariables false
namespace Go.Proofs.YtaadmoaanhdboaaDoor
open Go Go.Proofs Go.Sep
theorem row_FnExactFormatRows (y0 : (List (List Int))) (u0 : (y0.length ≤ 9223372036854775807 ∧ ∀ yy0 ∈ y0, (yy0.length ≤ 9223372036854775807 ∧ ∀ yyy0 ∈ yy0, (-9223372036854775808 ≤ yyy0 ∧ yyy0 ≤ 9223372036854775807)))) :
    FnV prg 4 [sl (tSl tInt) y0] (boolA true) :=
  m_laws_FnExactFormatRows_ok _ y0 true (law_FormatRows y0 u0)
end Go.Proofs.YtaadmoaanhdboaaDoor

/- The law FnExactFormatFraction holds of whatever is handed in. -/
import Derived.Test.YtaadmoaanhdboaaDoorPA
import Derived.Test.YtaadmoaanhdboaaDoorM2
set_option linter.unusedVariables false
namespace Go.Proofs.YtaadmoaanhdboaaDoor
open Go Go.Proofs Go.Sep
theorem row_FnExactFormatFraction (y0 : Fraction) (u0 : RdFraction y0) :
    FnV prg 3 [.g (tFraction.enc y0)] (boolA true) :=
  m_laws_FnExactFormatFraction_ok _ y0 true (law_FormatFraction y0 u0)
end Go.Proofs.YtaadmoaanhdboaaDoor

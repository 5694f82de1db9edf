/- The law FnInverseEdits holds of whatever is handed in. -/
import Derived.Test.YtaadmoaanhdboaaGreatDoorPA
import Derived.Test.YtaadmoaanhdboaaGreatDoorM8
set_option linter.unusedVariables false
namespace Go.Proofs.YtaadmoaanhdboaaGreatDoor
open Go Go.Proofs Go.Sep
theorem row_FnInverseEdits (y0:(List Int)) (u0:(y0.length≤9223372036854775807∧∀ yy0∈y0,(0≤yy0∧yy0≤255))) :
    FnV prg 3 [sl (tI .u8) y0] (boolA true) :=
  mlFnInverseEdits_ok _ y0 true (law_InverseEditsD y0 u0.2)
end Go.Proofs.YtaadmoaanhdboaaGreatDoor

/- The law FnEditLists holds of whatever is handed in. -/
import Derived.Test.YtjdpolnakhmkmaaPA
import Derived.Test.YtjdpolnakhmkmaaM7
set_option linter.unusedVariables false
namespace Go.Proofs.Ytjdpolnakhmkmaa
open Go Go.Proofs Go.Sep
theorem row_FnEditLists (y0 : (List Int)) (u0 : (y0.length ≤ 9223372036854775807 ∧ ∀ yy0 ∈ y0, (0 ≤ yy0 ∧ yy0 ≤ 255))) :
    FnV prg 11 [sl (tI .u8) y0] (boolA true) :=
  m_laws_FnEditLists_ok _ y0 true (law_EditLists y0 u0.2)
end Go.Proofs.Ytjdpolnakhmkmaa

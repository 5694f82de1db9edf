/- The law FnExactGreedyRepairs holds of whatever is handed in. -/
import Derived.Test.YtmecnecfkgneoaaPA
import Derived.Test.YtmecnecfkgneoaaM5
set_option linter.unusedVariables false
namespace Go.Proofs.Ytmecnecfkgneoaa
open Go Go.Proofs Go.Sep
theorem row_FnExactGreedyRepairs (y0 : Int) (y1 : (List ConflictEdge)) (y2 : (List ConflictEdge)) (u0 : (-9223372036854775808 ≤ y0 ∧ y0 ≤ 9223372036854775807)) (u1 : (y1.length ≤ 9223372036854775807 ∧ ∀ yy1 ∈ y1, RdConflictEdge yy1)) (u2 : (y2.length ≤ 9223372036854775807 ∧ ∀ yy2 ∈ y2, RdConflictEdge yy2)) :
    FnV prg 3 [intA y0, sl tConflictEdge y1, sl tConflictEdge y2] (boolA true) :=
  m_laws_FnExactGreedyRepairs_ok _ y0 y1 y2 true (law_GreedyRepairs y0 y1 y2 u0 u1 u2.1)
end Go.Proofs.Ytmecnecfkgneoaa

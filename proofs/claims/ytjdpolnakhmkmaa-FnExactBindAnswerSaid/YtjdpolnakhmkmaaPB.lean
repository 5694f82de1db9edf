/- The law FnExactBindAnswer holds of whatever is handed in. -/
import Derived.Test.YtjdpolnakhmkmaaPA
import Derived.Test.YtjdpolnakhmkmaaM4
set_option linter.unusedVariables false
namespace Go.Proofs.Ytjdpolnakhmkmaa
open Go Go.Proofs Go.Sep
theorem row_FnExactBindAnswer (y0 : Query) (y1 : (List Int)) (u0 : RdQuery y0) (u1 : (y1.length ≤ 9223372036854775807 ∧ ∀ yy1 ∈ y1, (-9223372036854775808 ≤ yy1 ∧ yy1 ≤ 9223372036854775807))) :
    FnV prg 3 [.g (tQuery.enc y0), sl tInt y1] (boolA true) :=
  m_laws_FnExactBindAnswer_ok _ y0 y1 true (law_BindAnswer y0 y1 ⟨u0.2.1.1, u0.2.2.1, fun a ha => (u0.2.1.2 a ha).2.1⟩ u1.1)
end Go.Proofs.Ytjdpolnakhmkmaa

/- The law FnExactMergeValues holds of whatever is handed in. -/
import Derived.Test.YtmecnecfkgneoaaPA
import Derived.Test.YtmecnecfkgneoaaM4
set_option linter.unusedVariables false
namespace Go.Proofs.Ytmecnecfkgneoaa
open Go Go.Proofs Go.Sep
theorem RdDatabase.m {d : Database} (h : RdDatabase d) : DbM d := ⟨h.1.1, h.2.1, fun r hr => (h.1.2 r hr).1, fun f hf => (h.2.2 f hf).2.1⟩
theorem row_FnExactMergeValues (y0 : Database) (y1 : Int) (y2 : Int) (u0 : RdDatabase y0) (u1 : (-9223372036854775808 ≤ y1 ∧ y1 ≤ 9223372036854775807)) (u2 : (-9223372036854775808 ≤ y2 ∧ y2 ≤ 9223372036854775807)) :
    FnV prg 4 [.g (tDatabase.enc y0), intA y1, intA y2] (boolA true) :=
  m_laws_FnExactMergeValues_ok _ y0 y1 y2 true (law_MergeValues y0 y1 y2 (RdDatabase.m u0))
end Go.Proofs.Ytmecnecfkgneoaa

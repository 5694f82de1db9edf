/- The law FnExactLargestConflicts holds of whatever is handed in. -/
import Derived.Test.YtjdpolnakhmkmaaPA
import Derived.Test.YtjdpolnakhmkmaaM5
set_option linter.unusedVariables false
namespace Go.Proofs.Ytjdpolnakhmkmaa
open Go Go.Proofs Go.Sep
theorem RdDatabase.m {d : Database} (h : RdDatabase d) : DbM d := ⟨h.1.1, h.2.1, fun r hr => (h.1.2 r hr).1, fun f hf => (h.2.2 f hf).2.1⟩
theorem row_FnExactLargestConflicts (y0 : Database) (u0 : RdDatabase y0) :
    FnV prg 4 [.g (tDatabase.enc y0)] (boolA true) :=
  m_laws_FnExactLargestConflicts_ok _ y0 true (law_LargestConflicts y0 u0.m)
end Go.Proofs.Ytjdpolnakhmkmaa

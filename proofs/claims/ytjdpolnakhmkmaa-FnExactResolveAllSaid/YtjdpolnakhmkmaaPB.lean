/- The law FnExactResolveAll holds of whatever is handed in. -/
import Derived.Test.YtjdpolnakhmkmaaPA
import Derived.Test.YtjdpolnakhmkmaaM5
set_option linter.unusedVariables false
namespace Go.Proofs.Ytjdpolnakhmkmaa
open Go Go.Proofs Go.Sep
theorem RdDatabase.m {d : Database} (h : RdDatabase d) : DbM d := ⟨h.1.1, h.2.1, fun r hr => (h.1.2 r hr).1, fun f hf => (h.2.2 f hf).2.1⟩
theorem row_FnExactResolveAll (y0 : Database) (y1 : (List Fact)) (u0 : RdDatabase y0) (u1 : (y1.length ≤ 9223372036854775807 ∧ ∀ yy1 ∈ y1, RdFact yy1)) :
    FnV prg 10 [.g (tDatabase.enc y0), sl tFact y1] (boolA true) :=
  m_laws_FnExactResolveAll_ok _ y0 y1 true (law_ResolveAll y0 y1 (RdDatabase.m u0) (fun f hf => (u1.2 f hf).2.1) u1.1)
end Go.Proofs.Ytjdpolnakhmkmaa

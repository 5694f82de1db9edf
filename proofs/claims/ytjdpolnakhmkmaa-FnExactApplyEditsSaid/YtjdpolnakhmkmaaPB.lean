/- The law FnExactApplyEdits holds of whatever is handed in. -/
import Derived.Test.YtjdpolnakhmkmaaPA
import Derived.Test.YtjdpolnakhmkmaaM7
set_option linter.unusedVariables false
namespace Go.Proofs.Ytjdpolnakhmkmaa
open Go Go.Proofs Go.Sep
theorem RdDatabase.m {d : Database} (h : RdDatabase d) : DbM d := ⟨h.1.1, h.2.1, fun r hr => (h.1.2 r hr).1, fun f hf => (h.2.2 f hf).2.1⟩
theorem row_FnExactApplyEdits (y0 : Database) (y1 : (List Edit)) (u0 : RdDatabase y0) (u1 : (y1.length ≤ 9223372036854775807 ∧ ∀ yy1 ∈ y1, RdEdit yy1)) :
    FnV prg 14 [.g (tDatabase.enc y0), sl tEdit y1] (boolA true) :=
  m_laws_FnExactApplyEdits_ok _ y0 y1 true (law_ApplyEdits y0 y1 (RdDatabase.m u0) (fun e he => (u1.2 e he).2.2.1) u1.1)
end Go.Proofs.Ytjdpolnakhmkmaa

/- The law FnExactParseEdit holds of whatever is handed in. -/
import Derived.Test.YtaadmoaanhdboaaDoorPA
import Derived.Test.YtaadmoaanhdboaaDoorM3
set_option linter.unusedVariables false
namespace Go.Proofs.YtaadmoaanhdboaaDoor
open Go Go.Proofs Go.Sep
theorem RdDatabase.m {d : Database} (h : RdDatabase d) : DbM d := ⟨h.1.1, h.2.1, fun r hr => (h.1.2 r hr).1, fun f hf => (h.2.2 f hf).2.1⟩
theorem row_FnExactParseEdit (y0 : Database) (y1 : ByteArray) (u0 : RdDatabase y0) (u1 : y1.size ≤ 9223372036854775807) :
    FnV prg 6 [.g (tDatabase.enc y0), strA y1] (boolA true) :=
  m_laws_FnExactParseEdit_ok _ y0 y1 true (law_ParseEdit y0 y1 (RdDatabase.m u0))
end Go.Proofs.YtaadmoaanhdboaaDoor

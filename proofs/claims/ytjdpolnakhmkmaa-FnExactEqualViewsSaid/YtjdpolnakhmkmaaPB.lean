/- The law FnExactEqualViews holds of whatever is handed in. -/
import Derived.Test.YtjdpolnakhmkmaaPA
import Derived.Test.YtjdpolnakhmkmaaM4
set_option linter.unusedVariables false
namespace Go.Proofs.Ytjdpolnakhmkmaa
open Go Go.Proofs Go.Sep
theorem RdDatabase.m {d : Database} (h : RdDatabase d) : DbM d := ⟨h.1.1, h.2.1, fun r hr => (h.1.2 r hr).1, fun f hf => (h.2.2 f hf).2.1⟩
theorem RdView.m {v : View} (h : RdView v) : VM v := ⟨h.1.m, ⟨h.2.1.2.1.1, h.2.1.2.2.1, fun a ha => (h.2.1.2.1.2 a ha).2.1⟩, ⟨h.2.2.1.1, fun r hr => (h.2.2.1.2 r hr).1⟩, ⟨h.2.2.2.1, fun r hr => (h.2.2.2.2 r hr).1⟩⟩
theorem row_FnExactEqualViews (y0 : View) (y1 : View) (u0 : RdView y0) (u1 : RdView y1) :
    FnV prg 5 [.g (tView.enc y0), .g (tView.enc y1)] (boolA true) :=
  m_laws_FnExactEqualViews_ok _ y0 y1 true (law_EqualViews y0 y1 u0.m u1.m)
end Go.Proofs.Ytjdpolnakhmkmaa

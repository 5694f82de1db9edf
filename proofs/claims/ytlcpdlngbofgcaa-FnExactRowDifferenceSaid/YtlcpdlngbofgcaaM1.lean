/- What the program's form tells of types and functions. -/
import Derived.Test.YtlcpdlngbofgcaaProg
import Derived.Test.YtlcpdlngbofgcaaM0
set_option linter.unusedVariables false
set_option linter.unusedSimpArgs false
set_option maxRecDepth 4000
namespace Go.Proofs.Ytlcpdlngbofgcaa
open Go Go.Proofs Go.Sep
noncomputable abbrev prg := Try.prog
theorem bytes3 : (prg.info? 3).map (·.bytes) = some 8 := by kernel_rfl
theorem bytes33 : (prg.info? 33).map (·.bytes) = some 24 := by kernel_rfl
theorem ent14 : EnT prg 14 := .of Try.func14 rfl (by kernel_rfl)
theorem ent15 : EnT prg 15 := .of Try.func15 rfl (by kernel_rfl)
theorem ent16 : EnT prg 16 := .of Try.func16 rfl (by kernel_rfl)
theorem ent17 : EnT prg 17 := .of Try.func17 rfl (by kernel_rfl)
theorem ent18 : EnT prg 18 := .of Try.func18 rfl (by kernel_rfl)
theorem ent19 : EnT prg 19 := .of Try.func19 rfl (by kernel_rfl)
theorem ent20 : EnT prg 20 := .of Try.func20 rfl (by kernel_rfl)
theorem ent28 : EnT prg 28 := .of Try.func28 rfl (by kernel_rfl)
theorem ent30 : EnT prg 30 := .of Try.func30 rfl (by kernel_rfl)
theorem ent46 : EnT prg 46 := .of Try.func46 rfl (by kernel_rfl)
theorem ent47 : EnT prg 47 := .of Try.func47 rfl (by kernel_rfl)
theorem ent48 : EnT prg 48 := .of Try.func48 rfl (by kernel_rfl)
theorem ent49 : EnT prg 49 := .of Try.func49 rfl (by kernel_rfl)
theorem ent50 : EnT prg 50 := .of Try.func50 rfl (by kernel_rfl)
theorem ent51 : EnT prg 51 := .of Try.func51 rfl (by kernel_rfl)
theorem ent52 : EnT prg 52 := .of Try.func52 rfl (by kernel_rfl)
theorem ent84 : EnT prg 84 := .of Try.func84 rfl (by kernel_rfl)
theorem mixed : prg.follows .mixedOrders = true := by kernel_rfl
theorem one3 : OneT prg 3 := .of (by kernel_rfl)
theorem one33 : OneT prg 33 := .of (by kernel_rfl)
theorem sl22 : SlT prg 22 33 1 := .of (by kernel_rfl) (by kernel_rfl) (by decide)
theorem sl33 : SlT prg 33 3 1 := .of (by kernel_rfl) (by kernel_rfl) (by decide)
theorem sz3 : SzT prg 3 1 := .of (by kernel_rfl)
theorem sz33 : SzT prg 33 1 := .of (by kernel_rfl)
theorem zero3 : ZeroT prg 3 [.int .i64 0] := .of (by kernel_rfl) (by decide)
theorem zero33 : ZeroT prg 33 [.slice none 0 0] := .of (by kernel_rfl) (by decide)
end Go.Proofs.Ytlcpdlngbofgcaa

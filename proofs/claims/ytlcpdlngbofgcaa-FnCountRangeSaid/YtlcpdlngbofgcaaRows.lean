/-
  No cell of these rows narrows 'for every input' (looked for: loops, veiled, ifaces, maps, wideKeys, modest, calm, conditions, laid).
  DERIVED. THE GIVEN ROWS OF THIS SEAT. 11 by the template 'for every input the law returns true; each argument reads behind the call as it read before'; 0 by the template 'total and deterministic' (their statements: YtlcpdlngbofgcaaTotals.lean).
  GIVEN WITH THE SEED: the statements are not yours to turn. If you find one false, say at which input.
  Laid BY PROGRAM, IN A SANDBOX (cutbox-rows.mjs): the forced cells as the released guide's own fill.sh prints them over the translation 2651c0bab8676806… (all of the seat's roots in one cut). By AI agents, Wed Nov 11 2026. No macro, syntax, notation, axiom, sorry.
-/
import Derived.Test.YtlcpdlngbofgcaaChecked
import GoSem.Claim
import GoSem.ClaimJoined
import GoSem.ClaimMapViews
import Derived.JoinedTies
import Derived.KernelRfl
namespace Go.Proofs.Ytlcpdlngbofgcaa
/- THE CELL 'sum', in the pinned program and in every row, IS THE sha256 OF THE DUMP (.gsa) THAT YtlcpdlngbofgcaaProg.lean LOADS. Nothing in Lean hashes anything: it is a label: what it is worth is what the hold of that sum in a sandbox is worth. -/
noncomputable def Try.pinned : Pinned := { name := "ytlcpdlngbofgcaa", sum := "2651c0bab867680685f2370eb1744c198dcb16a16a241468dc9ac27efcbeec7d", checked := Try.checked }
namespace Rows
def none {H : Type} : Left H := { results := [], args := [] }

/-- 'laws.FnExactRowDifference': WHATEVER THE INPUT: true; the input reads as it did. -/
def fnExactRowDifferenceSpec : ChangeSpec := { name := "fnExactRowDifference", fn := fun _ => fun
  | [d1, d2] => { results := [.lit (.bool true)], args := [d1, d2] }
  | _ => none }
def fnExactRowDifferenceRow : OpenClaim := { program := "ytlcpdlngbofgcaa", sum := "2651c0bab867680685f2370eb1744c198dcb16a16a241468dc9ac27efcbeec7d", func := "loop.example/g01918/laws.FnExactRowDifference", spec := "fnExactRowDifference", unfollowed := true, recurses := true, apart := false }
def FnExactRowDifferenceSaid : Prop := fnExactRowDifferenceRow.holds Try.pinned (OpenSpec.ofChange fnExactRowDifferenceSpec)

/-- ITS FALSE NEIGHBOUR: 'it returns false'. Refute it at one input. -/
def fnExactRowDifferenceWrong : ChangeSpec := { name := "fnExactRowDifference", fn := fun _ => fun
  | [d1, d2] => { results := [.lit (.bool false)], args := [d1, d2] }
  | _ => none }
def FnExactRowDifferenceWrongFalsely : Prop := fnExactRowDifferenceRow.holds Try.pinned (OpenSpec.ofChange fnExactRowDifferenceWrong)

/-- 'laws.FnColumnSum': WHATEVER THE INPUT: true; the input reads as it did. -/
def fnColumnSumSpec : ChangeSpec := { name := "fnColumnSum", fn := fun _ => fun
  | [d] => { results := [.lit (.bool true)], args := [d] }
  | _ => none }
def fnColumnSumRow : OpenClaim := { program := "ytlcpdlngbofgcaa", sum := "2651c0bab867680685f2370eb1744c198dcb16a16a241468dc9ac27efcbeec7d", func := "loop.example/g01918/laws.FnColumnSum", spec := "fnColumnSum", unfollowed := true, recurses := true, apart := false }
def FnColumnSumSaid : Prop := fnColumnSumRow.holds Try.pinned (OpenSpec.ofChange fnColumnSumSpec)

/-- ITS FALSE NEIGHBOUR: 'it returns false'. Refute it at one input. -/
def fnColumnSumWrong : ChangeSpec := { name := "fnColumnSum", fn := fun _ => fun
  | [d] => { results := [.lit (.bool false)], args := [d] }
  | _ => none }
def FnColumnSumWrongFalsely : Prop := fnColumnSumRow.holds Try.pinned (OpenSpec.ofChange fnColumnSumWrong)

/-- 'laws.FnExactColumnSum': WHATEVER THE INPUT: true; the input reads as it did. -/
def fnExactColumnSumSpec : ChangeSpec := { name := "fnExactColumnSum", fn := fun _ => fun
  | [d1, d2, d3, d4] => { results := [.lit (.bool true)], args := [d1, d2, d3, d4] }
  | _ => none }
def fnExactColumnSumRow : OpenClaim := { program := "ytlcpdlngbofgcaa", sum := "2651c0bab867680685f2370eb1744c198dcb16a16a241468dc9ac27efcbeec7d", func := "loop.example/g01918/laws.FnExactColumnSum", spec := "fnExactColumnSum", unfollowed := true, recurses := true, apart := false }
def FnExactColumnSumSaid : Prop := fnExactColumnSumRow.holds Try.pinned (OpenSpec.ofChange fnExactColumnSumSpec)

/-- ITS FALSE NEIGHBOUR: 'it returns false'. Refute it at one input. -/
def fnExactColumnSumWrong : ChangeSpec := { name := "fnExactColumnSum", fn := fun _ => fun
  | [d1, d2, d3, d4] => { results := [.lit (.bool false)], args := [d1, d2, d3, d4] }
  | _ => none }
def FnExactColumnSumWrongFalsely : Prop := fnExactColumnSumRow.holds Try.pinned (OpenSpec.ofChange fnExactColumnSumWrong)

/-- 'laws.FnExactSumRange': WHATEVER THE INPUT: true; the input reads as it did. -/
def fnExactSumRangeSpec : ChangeSpec := { name := "fnExactSumRange", fn := fun _ => fun
  | [d1, d2, d3] => { results := [.lit (.bool true)], args := [d1, d2, d3] }
  | _ => none }
def fnExactSumRangeRow : OpenClaim := { program := "ytlcpdlngbofgcaa", sum := "2651c0bab867680685f2370eb1744c198dcb16a16a241468dc9ac27efcbeec7d", func := "loop.example/g01918/laws.FnExactSumRange", spec := "fnExactSumRange", unfollowed := true, recurses := true, apart := false }
def FnExactSumRangeSaid : Prop := fnExactSumRangeRow.holds Try.pinned (OpenSpec.ofChange fnExactSumRangeSpec)

/-- ITS FALSE NEIGHBOUR: 'it returns false'. Refute it at one input. -/
def fnExactSumRangeWrong : ChangeSpec := { name := "fnExactSumRange", fn := fun _ => fun
  | [d1, d2, d3] => { results := [.lit (.bool false)], args := [d1, d2, d3] }
  | _ => none }
def FnExactSumRangeWrongFalsely : Prop := fnExactSumRangeRow.holds Try.pinned (OpenSpec.ofChange fnExactSumRangeWrong)

/-- 'laws.FnExactMaxRange': WHATEVER THE INPUT: true; the input reads as it did. -/
def fnExactMaxRangeSpec : ChangeSpec := { name := "fnExactMaxRange", fn := fun _ => fun
  | [d1, d2, d3] => { results := [.lit (.bool true)], args := [d1, d2, d3] }
  | _ => none }
def fnExactMaxRangeRow : OpenClaim := { program := "ytlcpdlngbofgcaa", sum := "2651c0bab867680685f2370eb1744c198dcb16a16a241468dc9ac27efcbeec7d", func := "loop.example/g01918/laws.FnExactMaxRange", spec := "fnExactMaxRange", unfollowed := true, recurses := true, apart := false }
def FnExactMaxRangeSaid : Prop := fnExactMaxRangeRow.holds Try.pinned (OpenSpec.ofChange fnExactMaxRangeSpec)

/-- ITS FALSE NEIGHBOUR: 'it returns false'. Refute it at one input. -/
def fnExactMaxRangeWrong : ChangeSpec := { name := "fnExactMaxRange", fn := fun _ => fun
  | [d1, d2, d3] => { results := [.lit (.bool false)], args := [d1, d2, d3] }
  | _ => none }
def FnExactMaxRangeWrongFalsely : Prop := fnExactMaxRangeRow.holds Try.pinned (OpenSpec.ofChange fnExactMaxRangeWrong)

/-- 'laws.FnExactMinRange': WHATEVER THE INPUT: true; the input reads as it did. -/
def fnExactMinRangeSpec : ChangeSpec := { name := "fnExactMinRange", fn := fun _ => fun
  | [d1, d2, d3] => { results := [.lit (.bool true)], args := [d1, d2, d3] }
  | _ => none }
def fnExactMinRangeRow : OpenClaim := { program := "ytlcpdlngbofgcaa", sum := "2651c0bab867680685f2370eb1744c198dcb16a16a241468dc9ac27efcbeec7d", func := "loop.example/g01918/laws.FnExactMinRange", spec := "fnExactMinRange", unfollowed := true, recurses := true, apart := false }
def FnExactMinRangeSaid : Prop := fnExactMinRangeRow.holds Try.pinned (OpenSpec.ofChange fnExactMinRangeSpec)

/-- ITS FALSE NEIGHBOUR: 'it returns false'. Refute it at one input. -/
def fnExactMinRangeWrong : ChangeSpec := { name := "fnExactMinRange", fn := fun _ => fun
  | [d1, d2, d3] => { results := [.lit (.bool false)], args := [d1, d2, d3] }
  | _ => none }
def FnExactMinRangeWrongFalsely : Prop := fnExactMinRangeRow.holds Try.pinned (OpenSpec.ofChange fnExactMinRangeWrong)

/-- 'laws.FnExactCountRange': WHATEVER THE INPUT: true; the input reads as it did. -/
def fnExactCountRangeSpec : ChangeSpec := { name := "fnExactCountRange", fn := fun _ => fun
  | [d1, d2, d3, d4] => { results := [.lit (.bool true)], args := [d1, d2, d3, d4] }
  | _ => none }
def fnExactCountRangeRow : OpenClaim := { program := "ytlcpdlngbofgcaa", sum := "2651c0bab867680685f2370eb1744c198dcb16a16a241468dc9ac27efcbeec7d", func := "loop.example/g01918/laws.FnExactCountRange", spec := "fnExactCountRange", unfollowed := true, recurses := true, apart := false }
def FnExactCountRangeSaid : Prop := fnExactCountRangeRow.holds Try.pinned (OpenSpec.ofChange fnExactCountRangeSpec)

/-- ITS FALSE NEIGHBOUR: 'it returns false'. Refute it at one input. -/
def fnExactCountRangeWrong : ChangeSpec := { name := "fnExactCountRange", fn := fun _ => fun
  | [d1, d2, d3, d4] => { results := [.lit (.bool false)], args := [d1, d2, d3, d4] }
  | _ => none }
def FnExactCountRangeWrongFalsely : Prop := fnExactCountRangeRow.holds Try.pinned (OpenSpec.ofChange fnExactCountRangeWrong)

/-- 'laws.FnSumRange': WHATEVER THE INPUT: true; the input reads as it did. -/
def fnSumRangeSpec : ChangeSpec := { name := "fnSumRange", fn := fun _ => fun
  | [d] => { results := [.lit (.bool true)], args := [d] }
  | _ => none }
def fnSumRangeRow : OpenClaim := { program := "ytlcpdlngbofgcaa", sum := "2651c0bab867680685f2370eb1744c198dcb16a16a241468dc9ac27efcbeec7d", func := "loop.example/g01918/laws.FnSumRange", spec := "fnSumRange", unfollowed := true, recurses := true, apart := false }
def FnSumRangeSaid : Prop := fnSumRangeRow.holds Try.pinned (OpenSpec.ofChange fnSumRangeSpec)

/-- ITS FALSE NEIGHBOUR: 'it returns false'. Refute it at one input. -/
def fnSumRangeWrong : ChangeSpec := { name := "fnSumRange", fn := fun _ => fun
  | [d] => { results := [.lit (.bool false)], args := [d] }
  | _ => none }
def FnSumRangeWrongFalsely : Prop := fnSumRangeRow.holds Try.pinned (OpenSpec.ofChange fnSumRangeWrong)

/-- 'laws.FnMinMaxRange': WHATEVER THE INPUT: true; the input reads as it did. -/
def fnMinMaxRangeSpec : ChangeSpec := { name := "fnMinMaxRange", fn := fun _ => fun
  | [d] => { results := [.lit (.bool true)], args := [d] }
  | _ => none }
def fnMinMaxRangeRow : OpenClaim := { program := "ytlcpdlngbofgcaa", sum := "2651c0bab867680685f2370eb1744c198dcb16a16a241468dc9ac27efcbeec7d", func := "loop.example/g01918/laws.FnMinMaxRange", spec := "fnMinMaxRange", unfollowed := true, recurses := true, apart := false }
def FnMinMaxRangeSaid : Prop := fnMinMaxRangeRow.holds Try.pinned (OpenSpec.ofChange fnMinMaxRangeSpec)

/-- ITS FALSE NEIGHBOUR: 'it returns false'. Refute it at one input. -/
def fnMinMaxRangeWrong : ChangeSpec := { name := "fnMinMaxRange", fn := fun _ => fun
  | [d] => { results := [.lit (.bool false)], args := [d] }
  | _ => none }
def FnMinMaxRangeWrongFalsely : Prop := fnMinMaxRangeRow.holds Try.pinned (OpenSpec.ofChange fnMinMaxRangeWrong)

/-- 'laws.FnExactDistinctRange': WHATEVER THE INPUT: true; the input reads as it did. -/
def fnExactDistinctRangeSpec : ChangeSpec := { name := "fnExactDistinctRange", fn := fun _ => fun
  | [d1, d2, d3] => { results := [.lit (.bool true)], args := [d1, d2, d3] }
  | _ => none }
def fnExactDistinctRangeRow : OpenClaim := { program := "ytlcpdlngbofgcaa", sum := "2651c0bab867680685f2370eb1744c198dcb16a16a241468dc9ac27efcbeec7d", func := "loop.example/g01918/laws.FnExactDistinctRange", spec := "fnExactDistinctRange", unfollowed := true, recurses := true, apart := false }
def FnExactDistinctRangeSaid : Prop := fnExactDistinctRangeRow.holds Try.pinned (OpenSpec.ofChange fnExactDistinctRangeSpec)

/-- ITS FALSE NEIGHBOUR: 'it returns false'. Refute it at one input. -/
def fnExactDistinctRangeWrong : ChangeSpec := { name := "fnExactDistinctRange", fn := fun _ => fun
  | [d1, d2, d3] => { results := [.lit (.bool false)], args := [d1, d2, d3] }
  | _ => none }
def FnExactDistinctRangeWrongFalsely : Prop := fnExactDistinctRangeRow.holds Try.pinned (OpenSpec.ofChange fnExactDistinctRangeWrong)

/-- 'laws.FnCountRange': WHATEVER THE INPUT: true; the input reads as it did. -/
def fnCountRangeSpec : ChangeSpec := { name := "fnCountRange", fn := fun _ => fun
  | [d] => { results := [.lit (.bool true)], args := [d] }
  | _ => none }
def fnCountRangeRow : OpenClaim := { program := "ytlcpdlngbofgcaa", sum := "2651c0bab867680685f2370eb1744c198dcb16a16a241468dc9ac27efcbeec7d", func := "loop.example/g01918/laws.FnCountRange", spec := "fnCountRange", unfollowed := true, recurses := true, apart := false }
def FnCountRangeSaid : Prop := fnCountRangeRow.holds Try.pinned (OpenSpec.ofChange fnCountRangeSpec)

/-- ITS FALSE NEIGHBOUR: 'it returns false'. Refute it at one input. -/
def fnCountRangeWrong : ChangeSpec := { name := "fnCountRange", fn := fun _ => fun
  | [d] => { results := [.lit (.bool false)], args := [d] }
  | _ => none }
def FnCountRangeWrongFalsely : Prop := fnCountRangeRow.holds Try.pinned (OpenSpec.ofChange fnCountRangeWrong)

/- THE SECOND FORM. 'bulk': how many values and letters a reading holds, each counted each time it is reached (what is shared counts as often as it is met; a slice's spare places count too). A statement '..UptoSaid' is the law's where the arguments, and the package variables that the reading takes, are together of bulk at most 1048576: NARROWER than '..Said'. Prove '..Said' where nothing that the law and all that it calls make is longer than what came in: it says more and counts as full. Else prove '..UptoSaid'. A law counts once. -/
mutual
def uptoBulk {H : Type} : DataW H → Nat
  | .lit (.string bytes) => bytes.length + 1
  | .lit _ => 1
  | .nil => 1
  | .ptr d => uptoBulk d + 1
  | .slice elems spare => uptoBulkAll elems + uptoBulkAll spare + 1
  | .agg parts => uptoBulkAll parts + 1
  | .iface _ d => uptoBulk d + 1
  | .map entries => uptoBulkEntries entries + 1
  | .held _ => 1
def uptoBulkAll {H : Type} : List (DataW H) → Nat
  | [] => 0
  | d :: r => uptoBulk d + uptoBulkAll r
def uptoBulkEntries {H : Type} : List (Lit × DataW H) → Nat
  | [] => 0
  | x :: r => uptoBulkEntry x + uptoBulkEntries r
def uptoBulkEntry {H : Type} : Lit × DataW H → Nat
  | (.string bytes, d) => bytes.length + uptoBulk d + 1
  | (_, d) => uptoBulk d + 1
 end
def uptoSmall : (H : Type) → List (DataW H) → Bool := fun _ ds => decide (uptoBulkAll ds ≤ 1048576)
def OpenSpec.upto (s : _root_.Go.ChangeSpec) : _root_.Go.OpenSpec := { _root_.Go.OpenSpec.ofChange s with cond := some uptoSmall }

/-- 'laws.FnExactRowDifference', WHERE WHAT IT READS IS OF BULK AT MOST 1048576: true; the input reads as it did. -/
def fnExactRowDifferenceUptoRow : OpenClaim := { program := "ytlcpdlngbofgcaa", sum := "2651c0bab867680685f2370eb1744c198dcb16a16a241468dc9ac27efcbeec7d", func := "loop.example/g01918/laws.FnExactRowDifference", spec := "fnExactRowDifference", unfollowed := true, recurses := true, apart := false, narrowed := true }
def FnExactRowDifferenceUptoSaid : Prop := fnExactRowDifferenceUptoRow.holds Try.pinned (OpenSpec.upto fnExactRowDifferenceSpec)

/-- 'laws.FnColumnSum', WHERE WHAT IT READS IS OF BULK AT MOST 1048576: true; the input reads as it did. -/
def fnColumnSumUptoRow : OpenClaim := { program := "ytlcpdlngbofgcaa", sum := "2651c0bab867680685f2370eb1744c198dcb16a16a241468dc9ac27efcbeec7d", func := "loop.example/g01918/laws.FnColumnSum", spec := "fnColumnSum", unfollowed := true, recurses := true, apart := false, narrowed := true }
def FnColumnSumUptoSaid : Prop := fnColumnSumUptoRow.holds Try.pinned (OpenSpec.upto fnColumnSumSpec)

/-- 'laws.FnExactColumnSum', WHERE WHAT IT READS IS OF BULK AT MOST 1048576: true; the input reads as it did. -/
def fnExactColumnSumUptoRow : OpenClaim := { program := "ytlcpdlngbofgcaa", sum := "2651c0bab867680685f2370eb1744c198dcb16a16a241468dc9ac27efcbeec7d", func := "loop.example/g01918/laws.FnExactColumnSum", spec := "fnExactColumnSum", unfollowed := true, recurses := true, apart := false, narrowed := true }
def FnExactColumnSumUptoSaid : Prop := fnExactColumnSumUptoRow.holds Try.pinned (OpenSpec.upto fnExactColumnSumSpec)

/-- 'laws.FnExactSumRange', WHERE WHAT IT READS IS OF BULK AT MOST 1048576: true; the input reads as it did. -/
def fnExactSumRangeUptoRow : OpenClaim := { program := "ytlcpdlngbofgcaa", sum := "2651c0bab867680685f2370eb1744c198dcb16a16a241468dc9ac27efcbeec7d", func := "loop.example/g01918/laws.FnExactSumRange", spec := "fnExactSumRange", unfollowed := true, recurses := true, apart := false, narrowed := true }
def FnExactSumRangeUptoSaid : Prop := fnExactSumRangeUptoRow.holds Try.pinned (OpenSpec.upto fnExactSumRangeSpec)

/-- 'laws.FnExactMaxRange', WHERE WHAT IT READS IS OF BULK AT MOST 1048576: true; the input reads as it did. -/
def fnExactMaxRangeUptoRow : OpenClaim := { program := "ytlcpdlngbofgcaa", sum := "2651c0bab867680685f2370eb1744c198dcb16a16a241468dc9ac27efcbeec7d", func := "loop.example/g01918/laws.FnExactMaxRange", spec := "fnExactMaxRange", unfollowed := true, recurses := true, apart := false, narrowed := true }
def FnExactMaxRangeUptoSaid : Prop := fnExactMaxRangeUptoRow.holds Try.pinned (OpenSpec.upto fnExactMaxRangeSpec)

/-- 'laws.FnExactMinRange', WHERE WHAT IT READS IS OF BULK AT MOST 1048576: true; the input reads as it did. -/
def fnExactMinRangeUptoRow : OpenClaim := { program := "ytlcpdlngbofgcaa", sum := "2651c0bab867680685f2370eb1744c198dcb16a16a241468dc9ac27efcbeec7d", func := "loop.example/g01918/laws.FnExactMinRange", spec := "fnExactMinRange", unfollowed := true, recurses := true, apart := false, narrowed := true }
def FnExactMinRangeUptoSaid : Prop := fnExactMinRangeUptoRow.holds Try.pinned (OpenSpec.upto fnExactMinRangeSpec)

/-- 'laws.FnExactCountRange', WHERE WHAT IT READS IS OF BULK AT MOST 1048576: true; the input reads as it did. -/
def fnExactCountRangeUptoRow : OpenClaim := { program := "ytlcpdlngbofgcaa", sum := "2651c0bab867680685f2370eb1744c198dcb16a16a241468dc9ac27efcbeec7d", func := "loop.example/g01918/laws.FnExactCountRange", spec := "fnExactCountRange", unfollowed := true, recurses := true, apart := false, narrowed := true }
def FnExactCountRangeUptoSaid : Prop := fnExactCountRangeUptoRow.holds Try.pinned (OpenSpec.upto fnExactCountRangeSpec)

/-- 'laws.FnSumRange', WHERE WHAT IT READS IS OF BULK AT MOST 1048576: true; the input reads as it did. -/
def fnSumRangeUptoRow : OpenClaim := { program := "ytlcpdlngbofgcaa", sum := "2651c0bab867680685f2370eb1744c198dcb16a16a241468dc9ac27efcbeec7d", func := "loop.example/g01918/laws.FnSumRange", spec := "fnSumRange", unfollowed := true, recurses := true, apart := false, narrowed := true }
def FnSumRangeUptoSaid : Prop := fnSumRangeUptoRow.holds Try.pinned (OpenSpec.upto fnSumRangeSpec)

/-- 'laws.FnMinMaxRange', WHERE WHAT IT READS IS OF BULK AT MOST 1048576: true; the input reads as it did. -/
def fnMinMaxRangeUptoRow : OpenClaim := { program := "ytlcpdlngbofgcaa", sum := "2651c0bab867680685f2370eb1744c198dcb16a16a241468dc9ac27efcbeec7d", func := "loop.example/g01918/laws.FnMinMaxRange", spec := "fnMinMaxRange", unfollowed := true, recurses := true, apart := false, narrowed := true }
def FnMinMaxRangeUptoSaid : Prop := fnMinMaxRangeUptoRow.holds Try.pinned (OpenSpec.upto fnMinMaxRangeSpec)

/-- 'laws.FnExactDistinctRange', WHERE WHAT IT READS IS OF BULK AT MOST 1048576: true; the input reads as it did. -/
def fnExactDistinctRangeUptoRow : OpenClaim := { program := "ytlcpdlngbofgcaa", sum := "2651c0bab867680685f2370eb1744c198dcb16a16a241468dc9ac27efcbeec7d", func := "loop.example/g01918/laws.FnExactDistinctRange", spec := "fnExactDistinctRange", unfollowed := true, recurses := true, apart := false, narrowed := true }
def FnExactDistinctRangeUptoSaid : Prop := fnExactDistinctRangeUptoRow.holds Try.pinned (OpenSpec.upto fnExactDistinctRangeSpec)

/-- 'laws.FnCountRange', WHERE WHAT IT READS IS OF BULK AT MOST 1048576: true; the input reads as it did. -/
def fnCountRangeUptoRow : OpenClaim := { program := "ytlcpdlngbofgcaa", sum := "2651c0bab867680685f2370eb1744c198dcb16a16a241468dc9ac27efcbeec7d", func := "loop.example/g01918/laws.FnCountRange", spec := "fnCountRange", unfollowed := true, recurses := true, apart := false, narrowed := true }
def FnCountRangeUptoSaid : Prop := fnCountRangeUptoRow.holds Try.pinned (OpenSpec.upto fnCountRangeSpec)

end Rows
end Go.Proofs.Ytlcpdlngbofgcaa

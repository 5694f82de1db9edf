/-
  No cell of these rows narrows 'for every input' (looked for: loops, veiled, ifaces, maps, wideKeys, modest, calm, conditions, laid).
  DERIVED. THE GIVEN ROWS OF THIS SEAT. 3 by the template 'for every input the law returns true; each argument reads behind the call as it read before'; 0 by the template 'total and deterministic' (their statements: YtmecnecfkgneoaaTotals.lean).
  GIVEN WITH THE SEED: the statements are not yours to turn. If you find one false, say at which input.
  Laid BY PROGRAM, IN A SANDBOX (cutbox-rows.mjs): the forced cells as the released guide's own fill.sh prints them over the translation d6dcf21d7ef14bd9… (all of the seat's roots in one cut). By AI agents, Wed Nov 11 2026. No macro, syntax, notation, axiom, sorry.
-/
import Derived.Test.YtmecnecfkgneoaaChecked
import GoSem.Claim
import GoSem.ClaimJoined
import GoSem.ClaimMapViews
import Derived.JoinedTies
import Derived.KernelRfl
namespace Go.Proofs.Ytmecnecfkgneoaa
/- THE CELL 'sum', in the pinned program and in every row, IS THE sha256 OF THE DUMP (.gsa) THAT YtmecnecfkgneoaaProg.lean LOADS. Nothing in Lean hashes anything: it is a label: what it is worth is what the hold of that sum in a sandbox is worth. -/
noncomputable def Try.pinned : Pinned := { name := "ytmecnecfkgneoaa", sum := "d6dcf21d7ef14bd99f8329c44b5c7055cc0128b0a9707b10743eae1579cf32bc", checked := Try.checked }
namespace Rows
def none {H : Type} : Left H := { results := [], args := [] }

/-- 'laws.FnExactGreedyRepairs': WHATEVER THE INPUT: true; the input reads as it did. -/
def fnExactGreedyRepairsSpec : ChangeSpec := { name := "fnExactGreedyRepairs", fn := fun _ => fun
  | [d1, d2, d3] => { results := [.lit (.bool true)], args := [d1, d2, d3] }
  | _ => none }
def fnExactGreedyRepairsRow : OpenClaim := { program := "ytmecnecfkgneoaa", sum := "d6dcf21d7ef14bd99f8329c44b5c7055cc0128b0a9707b10743eae1579cf32bc", func := "loop.example/g01918/laws.FnExactGreedyRepairs", spec := "fnExactGreedyRepairs", unfollowed := true, recurses := true, apart := false }
def FnExactGreedyRepairsSaid : Prop := fnExactGreedyRepairsRow.holds Try.pinned (OpenSpec.ofChange fnExactGreedyRepairsSpec)

/-- ITS FALSE NEIGHBOUR: 'it returns false'. Refute it at one input. -/
def fnExactGreedyRepairsWrong : ChangeSpec := { name := "fnExactGreedyRepairs", fn := fun _ => fun
  | [d1, d2, d3] => { results := [.lit (.bool false)], args := [d1, d2, d3] }
  | _ => none }
def FnExactGreedyRepairsWrongFalsely : Prop := fnExactGreedyRepairsRow.holds Try.pinned (OpenSpec.ofChange fnExactGreedyRepairsWrong)

/-- 'laws.FnExactMergeValues': WHATEVER THE INPUT: true; the input reads as it did. -/
def fnExactMergeValuesSpec : ChangeSpec := { name := "fnExactMergeValues", fn := fun _ => fun
  | [d1, d2, d3] => { results := [.lit (.bool true)], args := [d1, d2, d3] }
  | _ => none }
def fnExactMergeValuesRow : OpenClaim := { program := "ytmecnecfkgneoaa", sum := "d6dcf21d7ef14bd99f8329c44b5c7055cc0128b0a9707b10743eae1579cf32bc", func := "loop.example/g01918/laws.FnExactMergeValues", spec := "fnExactMergeValues", unfollowed := true, recurses := true, apart := false }
def FnExactMergeValuesSaid : Prop := fnExactMergeValuesRow.holds Try.pinned (OpenSpec.ofChange fnExactMergeValuesSpec)

/-- ITS FALSE NEIGHBOUR: 'it returns false'. Refute it at one input. -/
def fnExactMergeValuesWrong : ChangeSpec := { name := "fnExactMergeValues", fn := fun _ => fun
  | [d1, d2, d3] => { results := [.lit (.bool false)], args := [d1, d2, d3] }
  | _ => none }
def FnExactMergeValuesWrongFalsely : Prop := fnExactMergeValuesRow.holds Try.pinned (OpenSpec.ofChange fnExactMergeValuesWrong)

/-- 'laws.FnMergeValues': WHATEVER THE INPUT: true; the input reads as it did. -/
def fnMergeValuesSpec : ChangeSpec := { name := "fnMergeValues", fn := fun _ => fun
  | [d] => { results := [.lit (.bool true)], args := [d] }
  | _ => none }
def fnMergeValuesRow : OpenClaim := { program := "ytmecnecfkgneoaa", sum := "d6dcf21d7ef14bd99f8329c44b5c7055cc0128b0a9707b10743eae1579cf32bc", func := "loop.example/g01918/laws.FnMergeValues", spec := "fnMergeValues", unfollowed := true, recurses := true, apart := false }
def FnMergeValuesSaid : Prop := fnMergeValuesRow.holds Try.pinned (OpenSpec.ofChange fnMergeValuesSpec)

/-- ITS FALSE NEIGHBOUR: 'it returns false'. Refute it at one input. -/
def fnMergeValuesWrong : ChangeSpec := { name := "fnMergeValues", fn := fun _ => fun
  | [d] => { results := [.lit (.bool false)], args := [d] }
  | _ => none }
def FnMergeValuesWrongFalsely : Prop := fnMergeValuesRow.holds Try.pinned (OpenSpec.ofChange fnMergeValuesWrong)

/- THE SECOND FORM. 'bulk': how many values and letters a reading holds, each counted each time it is reached (what is shared counts as often as it is met; a slice's spare places count too). A statement '..UptoSaid' is the law's where the arguments, and the package variables that the reading takes, are together of bulk at most 1048576: NARROWER than '..Said'. Prove '..Said' where nothing that the law and all that it calls make is longer than what came in: it says more and counts as full. Else prove '..UptoSaid'. A law counts once. -/
mutual
def uptoBulk {H : Type} : DataW H → Nat
  | .lit (.string bytes) => bytes.length + 1
  | .lit _ => 1
  | .nil => 1
  | .ptr d => uptoBulk d + 1
  | .slice elems spare => uptoBulkAll elems + uptoBulkAll spare + 1
  | .agg parts => uptoBulkAll parts + 1
  | .iface _ d => uptoBulk d + 1
  | .map entries => uptoBulkEntries entries + 1
  | .held _ => 1
def uptoBulkAll {H : Type} : List (DataW H) → Nat
  | [] => 0
  | d :: r => uptoBulk d + uptoBulkAll r
def uptoBulkEntries {H : Type} : List (Lit × DataW H) → Nat
  | [] => 0
  | x :: r => uptoBulkEntry x + uptoBulkEntries r
def uptoBulkEntry {H : Type} : Lit × DataW H → Nat
  | (.string bytes, d) => bytes.length + uptoBulk d + 1
  | (_, d) => uptoBulk d + 1
 end
def uptoSmall : (H : Type) → List (DataW H) → Bool := fun _ ds => decide (uptoBulkAll ds ≤ 1048576)
def OpenSpec.upto (s : _root_.Go.ChangeSpec) : _root_.Go.OpenSpec := { _root_.Go.OpenSpec.ofChange s with cond := some uptoSmall }

/-- 'laws.FnExactGreedyRepairs', WHERE WHAT IT READS IS OF BULK AT MOST 1048576: true; the input reads as it did. -/
def fnExactGreedyRepairsUptoRow : OpenClaim := { program := "ytmecnecfkgneoaa", sum := "d6dcf21d7ef14bd99f8329c44b5c7055cc0128b0a9707b10743eae1579cf32bc", func := "loop.example/g01918/laws.FnExactGreedyRepairs", spec := "fnExactGreedyRepairs", unfollowed := true, recurses := true, apart := false, narrowed := true }
def FnExactGreedyRepairsUptoSaid : Prop := fnExactGreedyRepairsUptoRow.holds Try.pinned (OpenSpec.upto fnExactGreedyRepairsSpec)

/-- 'laws.FnExactMergeValues', WHERE WHAT IT READS IS OF BULK AT MOST 1048576: true; the input reads as it did. -/
def fnExactMergeValuesUptoRow : OpenClaim := { program := "ytmecnecfkgneoaa", sum := "d6dcf21d7ef14bd99f8329c44b5c7055cc0128b0a9707b10743eae1579cf32bc", func := "loop.example/g01918/laws.FnExactMergeValues", spec := "fnExactMergeValues", unfollowed := true, recurses := true, apart := false, narrowed := true }
def FnExactMergeValuesUptoSaid : Prop := fnExactMergeValuesUptoRow.holds Try.pinned (OpenSpec.upto fnExactMergeValuesSpec)

/-- 'laws.FnMergeValues', WHERE WHAT IT READS IS OF BULK AT MOST 1048576: true; the input reads as it did. -/
def fnMergeValuesUptoRow : OpenClaim := { program := "ytmecnecfkgneoaa", sum := "d6dcf21d7ef14bd99f8329c44b5c7055cc0128b0a9707b10743eae1579cf32bc", func := "loop.example/g01918/laws.FnMergeValues", spec := "fnMergeValues", unfollowed := true, recurses := true, apart := false, narrowed := true }
def FnMergeValuesUptoSaid : Prop := fnMergeValuesUptoRow.holds Try.pinned (OpenSpec.upto fnMergeValuesSpec)

end Rows
end Go.Proofs.Ytmecnecfkgneoaa

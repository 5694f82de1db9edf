/-
  No cell of these rows narrows 'for every input' (looked for: loops, veiled, ifaces, maps, wideKeys, modest, calm, conditions, laid).
  DERIVED. THE GIVEN ROWS OF THIS SEAT. 8 by the template 'for every input the law returns true; each argument reads behind the call as it read before'; 0 by the template 'total and deterministic' (their statements: YtglgcncmjnjfgaaTotals.lean).
  GIVEN WITH THE SEED: the statements are not yours to turn. If you find one false, say at which input.
  Laid BY PROGRAM, IN A SANDBOX (cutbox-rows.mjs): the forced cells as the released guide's own fill.sh prints them over the translation 7ad9f8f67660efc4… (all of the seat's roots in one cut). By AI agents, Wed Nov 11 2026. No macro, syntax, notation, axiom, sorry.
-/
import Derived.Test.YtglgcncmjnjfgaaChecked
import GoSem.Claim
import GoSem.ClaimJoined
import GoSem.ClaimMapViews
import Derived.JoinedTies
import Derived.KernelRfl
namespace Go.Proofs.Ytglgcncmjnjfgaa
/- THE CELL 'sum', in the pinned program and in every row, IS THE sha256 OF THE DUMP (.gsa) THAT YtglgcncmjnjfgaaProg.lean LOADS. Nothing in Lean hashes anything: it is a label: what it is worth is what the hold of that sum in a sandbox is worth. -/
noncomputable def Try.pinned : Pinned := { name := "ytglgcncmjnjfgaa", sum := "7ad9f8f67660efc4a13c4b2f62a326078d124efa59ed1071b0c29f979bf74414", checked := Try.checked }
namespace Rows
def none {H : Type} : Left H := { results := [], args := [] }

/-- 'laws.FnExactIsPreferred': WHATEVER THE INPUT: true; the input reads as it did. -/
def fnExactIsPreferredSpec : ChangeSpec := { name := "fnExactIsPreferred", fn := fun _ => fun
  | [d1, d2, d3] => { results := [.lit (.bool true)], args := [d1, d2, d3] }
  | _ => none }
def fnExactIsPreferredRow : OpenClaim := { program := "ytglgcncmjnjfgaa", sum := "7ad9f8f67660efc4a13c4b2f62a326078d124efa59ed1071b0c29f979bf74414", func := "loop.example/g01918/laws.FnExactIsPreferred", spec := "fnExactIsPreferred", apart := false }
def FnExactIsPreferredSaid : Prop := fnExactIsPreferredRow.holds Try.pinned (OpenSpec.ofChange fnExactIsPreferredSpec)

/-- ITS FALSE NEIGHBOUR: 'it returns false'. Refute it at one input. -/
def fnExactIsPreferredWrong : ChangeSpec := { name := "fnExactIsPreferred", fn := fun _ => fun
  | [d1, d2, d3] => { results := [.lit (.bool false)], args := [d1, d2, d3] }
  | _ => none }
def FnExactIsPreferredWrongFalsely : Prop := fnExactIsPreferredRow.holds Try.pinned (OpenSpec.ofChange fnExactIsPreferredWrong)

/-- 'laws.FnExactIsValidPreference': WHATEVER THE INPUT: true; the input reads as it did. -/
def fnExactIsValidPreferenceSpec : ChangeSpec := { name := "fnExactIsValidPreference", fn := fun _ => fun
  | [d1, d2, d3] => { results := [.lit (.bool true)], args := [d1, d2, d3] }
  | _ => none }
def fnExactIsValidPreferenceRow : OpenClaim := { program := "ytglgcncmjnjfgaa", sum := "7ad9f8f67660efc4a13c4b2f62a326078d124efa59ed1071b0c29f979bf74414", func := "loop.example/g01918/laws.FnExactIsValidPreference", spec := "fnExactIsValidPreference", unfollowed := true, recurses := true, apart := false }
def FnExactIsValidPreferenceSaid : Prop := fnExactIsValidPreferenceRow.holds Try.pinned (OpenSpec.ofChange fnExactIsValidPreferenceSpec)

/-- ITS FALSE NEIGHBOUR: 'it returns false'. Refute it at one input. -/
def fnExactIsValidPreferenceWrong : ChangeSpec := { name := "fnExactIsValidPreference", fn := fun _ => fun
  | [d1, d2, d3] => { results := [.lit (.bool false)], args := [d1, d2, d3] }
  | _ => none }
def FnExactIsValidPreferenceWrongFalsely : Prop := fnExactIsValidPreferenceRow.holds Try.pinned (OpenSpec.ofChange fnExactIsValidPreferenceWrong)

/-- 'laws.FnExactUndominatedFacts': WHATEVER THE INPUT: true; the input reads as it did. -/
def fnExactUndominatedFactsSpec : ChangeSpec := { name := "fnExactUndominatedFacts", fn := fun _ => fun
  | [d1, d2, d3, d4] => { results := [.lit (.bool true)], args := [d1, d2, d3, d4] }
  | _ => none }
def fnExactUndominatedFactsRow : OpenClaim := { program := "ytglgcncmjnjfgaa", sum := "7ad9f8f67660efc4a13c4b2f62a326078d124efa59ed1071b0c29f979bf74414", func := "loop.example/g01918/laws.FnExactUndominatedFacts", spec := "fnExactUndominatedFacts", unfollowed := true, recurses := true, apart := false }
def FnExactUndominatedFactsSaid : Prop := fnExactUndominatedFactsRow.holds Try.pinned (OpenSpec.ofChange fnExactUndominatedFactsSpec)

/-- ITS FALSE NEIGHBOUR: 'it returns false'. Refute it at one input. -/
def fnExactUndominatedFactsWrong : ChangeSpec := { name := "fnExactUndominatedFacts", fn := fun _ => fun
  | [d1, d2, d3, d4] => { results := [.lit (.bool false)], args := [d1, d2, d3, d4] }
  | _ => none }
def FnExactUndominatedFactsWrongFalsely : Prop := fnExactUndominatedFactsRow.holds Try.pinned (OpenSpec.ofChange fnExactUndominatedFactsWrong)

/-- 'laws.FnExactIsParetoOptimal': WHATEVER THE INPUT: true; the input reads as it did. -/
def fnExactIsParetoOptimalSpec : ChangeSpec := { name := "fnExactIsParetoOptimal", fn := fun _ => fun
  | [d1, d2, d3, d4] => { results := [.lit (.bool true)], args := [d1, d2, d3, d4] }
  | _ => none }
def fnExactIsParetoOptimalRow : OpenClaim := { program := "ytglgcncmjnjfgaa", sum := "7ad9f8f67660efc4a13c4b2f62a326078d124efa59ed1071b0c29f979bf74414", func := "loop.example/g01918/laws.FnExactIsParetoOptimal", spec := "fnExactIsParetoOptimal", unfollowed := true, recurses := true, apart := false }
def FnExactIsParetoOptimalSaid : Prop := fnExactIsParetoOptimalRow.holds Try.pinned (OpenSpec.ofChange fnExactIsParetoOptimalSpec)

/-- ITS FALSE NEIGHBOUR: 'it returns false'. Refute it at one input. -/
def fnExactIsParetoOptimalWrong : ChangeSpec := { name := "fnExactIsParetoOptimal", fn := fun _ => fun
  | [d1, d2, d3, d4] => { results := [.lit (.bool false)], args := [d1, d2, d3, d4] }
  | _ => none }
def FnExactIsParetoOptimalWrongFalsely : Prop := fnExactIsParetoOptimalRow.holds Try.pinned (OpenSpec.ofChange fnExactIsParetoOptimalWrong)

/-- 'laws.FnExactParetoOptimalRepairs': WHATEVER THE INPUT: true; the input reads as it did. -/
def fnExactParetoOptimalRepairsSpec : ChangeSpec := { name := "fnExactParetoOptimalRepairs", fn := fun _ => fun
  | [d1, d2, d3] => { results := [.lit (.bool true)], args := [d1, d2, d3] }
  | _ => none }
def fnExactParetoOptimalRepairsRow : OpenClaim := { program := "ytglgcncmjnjfgaa", sum := "7ad9f8f67660efc4a13c4b2f62a326078d124efa59ed1071b0c29f979bf74414", func := "loop.example/g01918/laws.FnExactParetoOptimalRepairs", spec := "fnExactParetoOptimalRepairs", unfollowed := true, recurses := true, apart := false }
def FnExactParetoOptimalRepairsSaid : Prop := fnExactParetoOptimalRepairsRow.holds Try.pinned (OpenSpec.ofChange fnExactParetoOptimalRepairsSpec)

/-- ITS FALSE NEIGHBOUR: 'it returns false'. Refute it at one input. -/
def fnExactParetoOptimalRepairsWrong : ChangeSpec := { name := "fnExactParetoOptimalRepairs", fn := fun _ => fun
  | [d1, d2, d3] => { results := [.lit (.bool false)], args := [d1, d2, d3] }
  | _ => none }
def FnExactParetoOptimalRepairsWrongFalsely : Prop := fnExactParetoOptimalRepairsRow.holds Try.pinned (OpenSpec.ofChange fnExactParetoOptimalRepairsWrong)

/-- 'laws.FnUndominatedFacts': WHATEVER THE INPUT: true; the input reads as it did. -/
def fnUndominatedFactsSpec : ChangeSpec := { name := "fnUndominatedFacts", fn := fun _ => fun
  | [d] => { results := [.lit (.bool true)], args := [d] }
  | _ => none }
def fnUndominatedFactsRow : OpenClaim := { program := "ytglgcncmjnjfgaa", sum := "7ad9f8f67660efc4a13c4b2f62a326078d124efa59ed1071b0c29f979bf74414", func := "loop.example/g01918/laws.FnUndominatedFacts", spec := "fnUndominatedFacts", unfollowed := true, recurses := true, apart := false }
def FnUndominatedFactsSaid : Prop := fnUndominatedFactsRow.holds Try.pinned (OpenSpec.ofChange fnUndominatedFactsSpec)

/-- ITS FALSE NEIGHBOUR: 'it returns false'. Refute it at one input. -/
def fnUndominatedFactsWrong : ChangeSpec := { name := "fnUndominatedFacts", fn := fun _ => fun
  | [d] => { results := [.lit (.bool false)], args := [d] }
  | _ => none }
def FnUndominatedFactsWrongFalsely : Prop := fnUndominatedFactsRow.holds Try.pinned (OpenSpec.ofChange fnUndominatedFactsWrong)

/-- 'laws.FnExactGreedyRepair': WHATEVER THE INPUT: true; the input reads as it did. -/
def fnExactGreedyRepairSpec : ChangeSpec := { name := "fnExactGreedyRepair", fn := fun _ => fun
  | [d1, d2, d3] => { results := [.lit (.bool true)], args := [d1, d2, d3] }
  | _ => none }
def fnExactGreedyRepairRow : OpenClaim := { program := "ytglgcncmjnjfgaa", sum := "7ad9f8f67660efc4a13c4b2f62a326078d124efa59ed1071b0c29f979bf74414", func := "loop.example/g01918/laws.FnExactGreedyRepair", spec := "fnExactGreedyRepair", unfollowed := true, recurses := true, apart := false }
def FnExactGreedyRepairSaid : Prop := fnExactGreedyRepairRow.holds Try.pinned (OpenSpec.ofChange fnExactGreedyRepairSpec)

/-- ITS FALSE NEIGHBOUR: 'it returns false'. Refute it at one input. -/
def fnExactGreedyRepairWrong : ChangeSpec := { name := "fnExactGreedyRepair", fn := fun _ => fun
  | [d1, d2, d3] => { results := [.lit (.bool false)], args := [d1, d2, d3] }
  | _ => none }
def FnExactGreedyRepairWrongFalsely : Prop := fnExactGreedyRepairRow.holds Try.pinned (OpenSpec.ofChange fnExactGreedyRepairWrong)

/-- 'laws.FnExactGreedyRepairs': WHATEVER THE INPUT: true; the input reads as it did. -/
def fnExactGreedyRepairsSpec : ChangeSpec := { name := "fnExactGreedyRepairs", fn := fun _ => fun
  | [d1, d2, d3] => { results := [.lit (.bool true)], args := [d1, d2, d3] }
  | _ => none }
def fnExactGreedyRepairsRow : OpenClaim := { program := "ytglgcncmjnjfgaa", sum := "7ad9f8f67660efc4a13c4b2f62a326078d124efa59ed1071b0c29f979bf74414", func := "loop.example/g01918/laws.FnExactGreedyRepairs", spec := "fnExactGreedyRepairs", unfollowed := true, recurses := true, apart := false }
def FnExactGreedyRepairsSaid : Prop := fnExactGreedyRepairsRow.holds Try.pinned (OpenSpec.ofChange fnExactGreedyRepairsSpec)

/-- ITS FALSE NEIGHBOUR: 'it returns false'. Refute it at one input. -/
def fnExactGreedyRepairsWrong : ChangeSpec := { name := "fnExactGreedyRepairs", fn := fun _ => fun
  | [d1, d2, d3] => { results := [.lit (.bool false)], args := [d1, d2, d3] }
  | _ => none }
def FnExactGreedyRepairsWrongFalsely : Prop := fnExactGreedyRepairsRow.holds Try.pinned (OpenSpec.ofChange fnExactGreedyRepairsWrong)

/- THE SECOND FORM. 'bulk': how many values and letters a reading holds, each counted each time it is reached (what is shared counts as often as it is met; a slice's spare places count too). A statement '..UptoSaid' is the law's where the arguments, and the package variables that the reading takes, are together of bulk at most 1048576: NARROWER than '..Said'. Prove '..Said' where nothing that the law and all that it calls make is longer than what came in: it says more and counts as full. Else prove '..UptoSaid'. A law counts once. -/
mutual
def uptoBulk {H : Type} : DataW H → Nat
  | .lit (.string bytes) => bytes.length + 1
  | .lit _ => 1
  | .nil => 1
  | .ptr d => uptoBulk d + 1
  | .slice elems spare => uptoBulkAll elems + uptoBulkAll spare + 1
  | .agg parts => uptoBulkAll parts + 1
  | .iface _ d => uptoBulk d + 1
  | .map entries => uptoBulkEntries entries + 1
  | .held _ => 1
def uptoBulkAll {H : Type} : List (DataW H) → Nat
  | [] => 0
  | d :: r => uptoBulk d + uptoBulkAll r
def uptoBulkEntries {H : Type} : List (Lit × DataW H) → Nat
  | [] => 0
  | x :: r => uptoBulkEntry x + uptoBulkEntries r
def uptoBulkEntry {H : Type} : Lit × DataW H → Nat
  | (.string bytes, d) => bytes.length + uptoBulk d + 1
  | (_, d) => uptoBulk d + 1
 end
def uptoSmall : (H : Type) → List (DataW H) → Bool := fun _ ds => decide (uptoBulkAll ds ≤ 1048576)
def OpenSpec.upto (s : _root_.Go.ChangeSpec) : _root_.Go.OpenSpec := { _root_.Go.OpenSpec.ofChange s with cond := some uptoSmall }

/-- 'laws.FnExactIsPreferred', WHERE WHAT IT READS IS OF BULK AT MOST 1048576: true; the input reads as it did. -/
def fnExactIsPreferredUptoRow : OpenClaim := { program := "ytglgcncmjnjfgaa", sum := "7ad9f8f67660efc4a13c4b2f62a326078d124efa59ed1071b0c29f979bf74414", func := "loop.example/g01918/laws.FnExactIsPreferred", spec := "fnExactIsPreferred", apart := false, narrowed := true }
def FnExactIsPreferredUptoSaid : Prop := fnExactIsPreferredUptoRow.holds Try.pinned (OpenSpec.upto fnExactIsPreferredSpec)

/-- 'laws.FnExactIsValidPreference', WHERE WHAT IT READS IS OF BULK AT MOST 1048576: true; the input reads as it did. -/
def fnExactIsValidPreferenceUptoRow : OpenClaim := { program := "ytglgcncmjnjfgaa", sum := "7ad9f8f67660efc4a13c4b2f62a326078d124efa59ed1071b0c29f979bf74414", func := "loop.example/g01918/laws.FnExactIsValidPreference", spec := "fnExactIsValidPreference", unfollowed := true, recurses := true, apart := false, narrowed := true }
def FnExactIsValidPreferenceUptoSaid : Prop := fnExactIsValidPreferenceUptoRow.holds Try.pinned (OpenSpec.upto fnExactIsValidPreferenceSpec)

/-- 'laws.FnExactUndominatedFacts', WHERE WHAT IT READS IS OF BULK AT MOST 1048576: true; the input reads as it did. -/
def fnExactUndominatedFactsUptoRow : OpenClaim := { program := "ytglgcncmjnjfgaa", sum := "7ad9f8f67660efc4a13c4b2f62a326078d124efa59ed1071b0c29f979bf74414", func := "loop.example/g01918/laws.FnExactUndominatedFacts", spec := "fnExactUndominatedFacts", unfollowed := true, recurses := true, apart := false, narrowed := true }
def FnExactUndominatedFactsUptoSaid : Prop := fnExactUndominatedFactsUptoRow.holds Try.pinned (OpenSpec.upto fnExactUndominatedFactsSpec)

/-- 'laws.FnExactIsParetoOptimal', WHERE WHAT IT READS IS OF BULK AT MOST 1048576: true; the input reads as it did. -/
def fnExactIsParetoOptimalUptoRow : OpenClaim := { program := "ytglgcncmjnjfgaa", sum := "7ad9f8f67660efc4a13c4b2f62a326078d124efa59ed1071b0c29f979bf74414", func := "loop.example/g01918/laws.FnExactIsParetoOptimal", spec := "fnExactIsParetoOptimal", unfollowed := true, recurses := true, apart := false, narrowed := true }
def FnExactIsParetoOptimalUptoSaid : Prop := fnExactIsParetoOptimalUptoRow.holds Try.pinned (OpenSpec.upto fnExactIsParetoOptimalSpec)

/-- 'laws.FnExactParetoOptimalRepairs', WHERE WHAT IT READS IS OF BULK AT MOST 1048576: true; the input reads as it did. -/
def fnExactParetoOptimalRepairsUptoRow : OpenClaim := { program := "ytglgcncmjnjfgaa", sum := "7ad9f8f67660efc4a13c4b2f62a326078d124efa59ed1071b0c29f979bf74414", func := "loop.example/g01918/laws.FnExactParetoOptimalRepairs", spec := "fnExactParetoOptimalRepairs", unfollowed := true, recurses := true, apart := false, narrowed := true }
def FnExactParetoOptimalRepairsUptoSaid : Prop := fnExactParetoOptimalRepairsUptoRow.holds Try.pinned (OpenSpec.upto fnExactParetoOptimalRepairsSpec)

/-- 'laws.FnUndominatedFacts', WHERE WHAT IT READS IS OF BULK AT MOST 1048576: true; the input reads as it did. -/
def fnUndominatedFactsUptoRow : OpenClaim := { program := "ytglgcncmjnjfgaa", sum := "7ad9f8f67660efc4a13c4b2f62a326078d124efa59ed1071b0c29f979bf74414", func := "loop.example/g01918/laws.FnUndominatedFacts", spec := "fnUndominatedFacts", unfollowed := true, recurses := true, apart := false, narrowed := true }
def FnUndominatedFactsUptoSaid : Prop := fnUndominatedFactsUptoRow.holds Try.pinned (OpenSpec.upto fnUndominatedFactsSpec)

/-- 'laws.FnExactGreedyRepair', WHERE WHAT IT READS IS OF BULK AT MOST 1048576: true; the input reads as it did. -/
def fnExactGreedyRepairUptoRow : OpenClaim := { program := "ytglgcncmjnjfgaa", sum := "7ad9f8f67660efc4a13c4b2f62a326078d124efa59ed1071b0c29f979bf74414", func := "loop.example/g01918/laws.FnExactGreedyRepair", spec := "fnExactGreedyRepair", unfollowed := true, recurses := true, apart := false, narrowed := true }
def FnExactGreedyRepairUptoSaid : Prop := fnExactGreedyRepairUptoRow.holds Try.pinned (OpenSpec.upto fnExactGreedyRepairSpec)

/-- 'laws.FnExactGreedyRepairs', WHERE WHAT IT READS IS OF BULK AT MOST 1048576: true; the input reads as it did. -/
def fnExactGreedyRepairsUptoRow : OpenClaim := { program := "ytglgcncmjnjfgaa", sum := "7ad9f8f67660efc4a13c4b2f62a326078d124efa59ed1071b0c29f979bf74414", func := "loop.example/g01918/laws.FnExactGreedyRepairs", spec := "fnExactGreedyRepairs", unfollowed := true, recurses := true, apart := false, narrowed := true }
def FnExactGreedyRepairsUptoSaid : Prop := fnExactGreedyRepairsUptoRow.holds Try.pinned (OpenSpec.upto fnExactGreedyRepairsSpec)

end Rows
end Go.Proofs.Ytglgcncmjnjfgaa

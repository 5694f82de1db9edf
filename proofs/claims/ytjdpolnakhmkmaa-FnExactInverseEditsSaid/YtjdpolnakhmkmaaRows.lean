/-
  No cell of these rows narrows 'for every input' (looked for: loops, veiled, ifaces, maps, wideKeys, modest, calm, conditions, laid).
  DERIVED. THE GIVEN ROWS OF THIS SEAT. 12 by the template 'for every input the law returns true; each argument reads behind the call as it read before'; 0 by the template 'total and deterministic' (their statements: YtjdpolnakhmkmaaTotals.lean).
  GIVEN WITH THE SEED: the statements are not yours to turn. If you find one false, say at which input.
  Laid BY PROGRAM, IN A SANDBOX (cutbox-rows.mjs): the forced cells as the released guide's own fill.sh prints them over the translation 7f58ef837f51a7e4… (all of the seat's roots in one cut). By AI agents, Wed Nov 11 2026. No macro, syntax, notation, axiom, sorry.
-/
import Derived.Test.YtjdpolnakhmkmaaChecked
import GoSem.Claim
import GoSem.ClaimJoined
import GoSem.ClaimMapViews
import Derived.JoinedTies
import Derived.KernelRfl
namespace Go.Proofs.Ytjdpolnakhmkmaa
/- THE CELL 'sum', in the pinned program and in every row, IS THE sha256 OF THE DUMP (.gsa) THAT YtjdpolnakhmkmaaProg.lean LOADS. Nothing in Lean hashes anything: it is a label: what it is worth is what the hold of that sum in a sandbox is worth. -/
noncomputable def Try.pinned : Pinned := { name := "ytjdpolnakhmkmaa", sum := "7f58ef837f51a7e4c9a4b750be8fd05cead9c0b896800117c72f8e9581556870", checked := Try.checked }
namespace Rows
def none {H : Type} : Left H := { results := [], args := [] }

/-- 'laws.FnExactBindAnswer': WHATEVER THE INPUT: true; the input reads as it did. -/
def fnExactBindAnswerSpec : ChangeSpec := { name := "fnExactBindAnswer", fn := fun _ => fun
  | [d1, d2] => { results := [.lit (.bool true)], args := [d1, d2] }
  | _ => none }
def fnExactBindAnswerRow : OpenClaim := { program := "ytjdpolnakhmkmaa", sum := "7f58ef837f51a7e4c9a4b750be8fd05cead9c0b896800117c72f8e9581556870", func := "loop.example/g01918/laws.FnExactBindAnswer", spec := "fnExactBindAnswer", apart := false }
def FnExactBindAnswerSaid : Prop := fnExactBindAnswerRow.holds Try.pinned (OpenSpec.ofChange fnExactBindAnswerSpec)

/-- ITS FALSE NEIGHBOUR: 'it returns false'. Refute it at one input. -/
def fnExactBindAnswerWrong : ChangeSpec := { name := "fnExactBindAnswer", fn := fun _ => fun
  | [d1, d2] => { results := [.lit (.bool false)], args := [d1, d2] }
  | _ => none }
def FnExactBindAnswerWrongFalsely : Prop := fnExactBindAnswerRow.holds Try.pinned (OpenSpec.ofChange fnExactBindAnswerWrong)

/-- 'laws.FnExactLargestConflicts': WHATEVER THE INPUT: true; the input reads as it did. -/
def fnExactLargestConflictsSpec : ChangeSpec := { name := "fnExactLargestConflicts", fn := fun _ => fun
  | [d] => { results := [.lit (.bool true)], args := [d] }
  | _ => none }
def fnExactLargestConflictsRow : OpenClaim := { program := "ytjdpolnakhmkmaa", sum := "7f58ef837f51a7e4c9a4b750be8fd05cead9c0b896800117c72f8e9581556870", func := "loop.example/g01918/laws.FnExactLargestConflicts", spec := "fnExactLargestConflicts", unfollowed := true, recurses := true, apart := false }
def FnExactLargestConflictsSaid : Prop := fnExactLargestConflictsRow.holds Try.pinned (OpenSpec.ofChange fnExactLargestConflictsSpec)

/-- ITS FALSE NEIGHBOUR: 'it returns false'. Refute it at one input. -/
def fnExactLargestConflictsWrong : ChangeSpec := { name := "fnExactLargestConflicts", fn := fun _ => fun
  | [d] => { results := [.lit (.bool false)], args := [d] }
  | _ => none }
def FnExactLargestConflictsWrongFalsely : Prop := fnExactLargestConflictsRow.holds Try.pinned (OpenSpec.ofChange fnExactLargestConflictsWrong)

/-- 'laws.FnExactEqualViews': WHATEVER THE INPUT: true; the input reads as it did. -/
def fnExactEqualViewsSpec : ChangeSpec := { name := "fnExactEqualViews", fn := fun _ => fun
  | [d1, d2] => { results := [.lit (.bool true)], args := [d1, d2] }
  | _ => none }
def fnExactEqualViewsRow : OpenClaim := { program := "ytjdpolnakhmkmaa", sum := "7f58ef837f51a7e4c9a4b750be8fd05cead9c0b896800117c72f8e9581556870", func := "loop.example/g01918/laws.FnExactEqualViews", spec := "fnExactEqualViews", unfollowed := true, recurses := true, apart := false }
def FnExactEqualViewsSaid : Prop := fnExactEqualViewsRow.holds Try.pinned (OpenSpec.ofChange fnExactEqualViewsSpec)

/-- ITS FALSE NEIGHBOUR: 'it returns false'. Refute it at one input. -/
def fnExactEqualViewsWrong : ChangeSpec := { name := "fnExactEqualViews", fn := fun _ => fun
  | [d1, d2] => { results := [.lit (.bool false)], args := [d1, d2] }
  | _ => none }
def FnExactEqualViewsWrongFalsely : Prop := fnExactEqualViewsRow.holds Try.pinned (OpenSpec.ofChange fnExactEqualViewsWrong)

/-- 'laws.FnRetractFact': WHATEVER THE INPUT: true; the input reads as it did. -/
def fnRetractFactSpec : ChangeSpec := { name := "fnRetractFact", fn := fun _ => fun
  | [d] => { results := [.lit (.bool true)], args := [d] }
  | _ => none }
def fnRetractFactRow : OpenClaim := { program := "ytjdpolnakhmkmaa", sum := "7f58ef837f51a7e4c9a4b750be8fd05cead9c0b896800117c72f8e9581556870", func := "loop.example/g01918/laws.FnRetractFact", spec := "fnRetractFact", unfollowed := true, recurses := true, apart := false }
def FnRetractFactSaid : Prop := fnRetractFactRow.holds Try.pinned (OpenSpec.ofChange fnRetractFactSpec)

/-- ITS FALSE NEIGHBOUR: 'it returns false'. Refute it at one input. -/
def fnRetractFactWrong : ChangeSpec := { name := "fnRetractFact", fn := fun _ => fun
  | [d] => { results := [.lit (.bool false)], args := [d] }
  | _ => none }
def FnRetractFactWrongFalsely : Prop := fnRetractFactRow.holds Try.pinned (OpenSpec.ofChange fnRetractFactWrong)

/-- 'laws.FnResolveAll': WHATEVER THE INPUT: true; the input reads as it did. -/
def fnResolveAllSpec : ChangeSpec := { name := "fnResolveAll", fn := fun _ => fun
  | [d] => { results := [.lit (.bool true)], args := [d] }
  | _ => none }
def fnResolveAllRow : OpenClaim := { program := "ytjdpolnakhmkmaa", sum := "7f58ef837f51a7e4c9a4b750be8fd05cead9c0b896800117c72f8e9581556870", func := "loop.example/g01918/laws.FnResolveAll", spec := "fnResolveAll", unfollowed := true, recurses := true, apart := false }
def FnResolveAllSaid : Prop := fnResolveAllRow.holds Try.pinned (OpenSpec.ofChange fnResolveAllSpec)

/-- ITS FALSE NEIGHBOUR: 'it returns false'. Refute it at one input. -/
def fnResolveAllWrong : ChangeSpec := { name := "fnResolveAll", fn := fun _ => fun
  | [d] => { results := [.lit (.bool false)], args := [d] }
  | _ => none }
def FnResolveAllWrongFalsely : Prop := fnResolveAllRow.holds Try.pinned (OpenSpec.ofChange fnResolveAllWrong)

/-- 'laws.FnExactRetractFact': WHATEVER THE INPUT: true; the input reads as it did. -/
def fnExactRetractFactSpec : ChangeSpec := { name := "fnExactRetractFact", fn := fun _ => fun
  | [d1, d2] => { results := [.lit (.bool true)], args := [d1, d2] }
  | _ => none }
def fnExactRetractFactRow : OpenClaim := { program := "ytjdpolnakhmkmaa", sum := "7f58ef837f51a7e4c9a4b750be8fd05cead9c0b896800117c72f8e9581556870", func := "loop.example/g01918/laws.FnExactRetractFact", spec := "fnExactRetractFact", unfollowed := true, recurses := true, apart := false }
def FnExactRetractFactSaid : Prop := fnExactRetractFactRow.holds Try.pinned (OpenSpec.ofChange fnExactRetractFactSpec)

/-- ITS FALSE NEIGHBOUR: 'it returns false'. Refute it at one input. -/
def fnExactRetractFactWrong : ChangeSpec := { name := "fnExactRetractFact", fn := fun _ => fun
  | [d1, d2] => { results := [.lit (.bool false)], args := [d1, d2] }
  | _ => none }
def FnExactRetractFactWrongFalsely : Prop := fnExactRetractFactRow.holds Try.pinned (OpenSpec.ofChange fnExactRetractFactWrong)

/-- 'laws.FnExactResolveConflict': WHATEVER THE INPUT: true; the input reads as it did. -/
def fnExactResolveConflictSpec : ChangeSpec := { name := "fnExactResolveConflict", fn := fun _ => fun
  | [d1, d2] => { results := [.lit (.bool true)], args := [d1, d2] }
  | _ => none }
def fnExactResolveConflictRow : OpenClaim := { program := "ytjdpolnakhmkmaa", sum := "7f58ef837f51a7e4c9a4b750be8fd05cead9c0b896800117c72f8e9581556870", func := "loop.example/g01918/laws.FnExactResolveConflict", spec := "fnExactResolveConflict", unfollowed := true, recurses := true, apart := false }
def FnExactResolveConflictSaid : Prop := fnExactResolveConflictRow.holds Try.pinned (OpenSpec.ofChange fnExactResolveConflictSpec)

/-- ITS FALSE NEIGHBOUR: 'it returns false'. Refute it at one input. -/
def fnExactResolveConflictWrong : ChangeSpec := { name := "fnExactResolveConflict", fn := fun _ => fun
  | [d1, d2] => { results := [.lit (.bool false)], args := [d1, d2] }
  | _ => none }
def FnExactResolveConflictWrongFalsely : Prop := fnExactResolveConflictRow.holds Try.pinned (OpenSpec.ofChange fnExactResolveConflictWrong)

/-- 'laws.FnExactResolveAll': WHATEVER THE INPUT: true; the input reads as it did. -/
def fnExactResolveAllSpec : ChangeSpec := { name := "fnExactResolveAll", fn := fun _ => fun
  | [d1, d2] => { results := [.lit (.bool true)], args := [d1, d2] }
  | _ => none }
def fnExactResolveAllRow : OpenClaim := { program := "ytjdpolnakhmkmaa", sum := "7f58ef837f51a7e4c9a4b750be8fd05cead9c0b896800117c72f8e9581556870", func := "loop.example/g01918/laws.FnExactResolveAll", spec := "fnExactResolveAll", unfollowed := true, recurses := true, apart := false }
def FnExactResolveAllSaid : Prop := fnExactResolveAllRow.holds Try.pinned (OpenSpec.ofChange fnExactResolveAllSpec)

/-- ITS FALSE NEIGHBOUR: 'it returns false'. Refute it at one input. -/
def fnExactResolveAllWrong : ChangeSpec := { name := "fnExactResolveAll", fn := fun _ => fun
  | [d1, d2] => { results := [.lit (.bool false)], args := [d1, d2] }
  | _ => none }
def FnExactResolveAllWrongFalsely : Prop := fnExactResolveAllRow.holds Try.pinned (OpenSpec.ofChange fnExactResolveAllWrong)

/-- 'laws.FnEditLists': WHATEVER THE INPUT: true; the input reads as it did. -/
def fnEditListsSpec : ChangeSpec := { name := "fnEditLists", fn := fun _ => fun
  | [d] => { results := [.lit (.bool true)], args := [d] }
  | _ => none }
def fnEditListsRow : OpenClaim := { program := "ytjdpolnakhmkmaa", sum := "7f58ef837f51a7e4c9a4b750be8fd05cead9c0b896800117c72f8e9581556870", func := "loop.example/g01918/laws.FnEditLists", spec := "fnEditLists", inPlace := ["slices.overlaps[loop.example/g01918/impl.Fact]"], unfollowed := true, recurses := true, apart := false }
def FnEditListsSaid : Prop := fnEditListsRow.holds Try.pinned (OpenSpec.ofChange fnEditListsSpec)

/-- ITS FALSE NEIGHBOUR: 'it returns false'. Refute it at one input. -/
def fnEditListsWrong : ChangeSpec := { name := "fnEditLists", fn := fun _ => fun
  | [d] => { results := [.lit (.bool false)], args := [d] }
  | _ => none }
def FnEditListsWrongFalsely : Prop := fnEditListsRow.holds Try.pinned (OpenSpec.ofChange fnEditListsWrong)

/-- 'laws.FnExactApplyEdit': WHATEVER THE INPUT: true; the input reads as it did. -/
def fnExactApplyEditSpec : ChangeSpec := { name := "fnExactApplyEdit", fn := fun _ => fun
  | [d1, d2] => { results := [.lit (.bool true)], args := [d1, d2] }
  | _ => none }
def fnExactApplyEditRow : OpenClaim := { program := "ytjdpolnakhmkmaa", sum := "7f58ef837f51a7e4c9a4b750be8fd05cead9c0b896800117c72f8e9581556870", func := "loop.example/g01918/laws.FnExactApplyEdit", spec := "fnExactApplyEdit", inPlace := ["slices.overlaps[loop.example/g01918/impl.Fact]"], unfollowed := true, recurses := true, apart := false }
def FnExactApplyEditSaid : Prop := fnExactApplyEditRow.holds Try.pinned (OpenSpec.ofChange fnExactApplyEditSpec)

/-- ITS FALSE NEIGHBOUR: 'it returns false'. Refute it at one input. -/
def fnExactApplyEditWrong : ChangeSpec := { name := "fnExactApplyEdit", fn := fun _ => fun
  | [d1, d2] => { results := [.lit (.bool false)], args := [d1, d2] }
  | _ => none }
def FnExactApplyEditWrongFalsely : Prop := fnExactApplyEditRow.holds Try.pinned (OpenSpec.ofChange fnExactApplyEditWrong)

/-- 'laws.FnExactInverseEdits': WHATEVER THE INPUT: true; the input reads as it did. -/
def fnExactInverseEditsSpec : ChangeSpec := { name := "fnExactInverseEdits", fn := fun _ => fun
  | [d1, d2] => { results := [.lit (.bool true)], args := [d1, d2] }
  | _ => none }
def fnExactInverseEditsRow : OpenClaim := { program := "ytjdpolnakhmkmaa", sum := "7f58ef837f51a7e4c9a4b750be8fd05cead9c0b896800117c72f8e9581556870", func := "loop.example/g01918/laws.FnExactInverseEdits", spec := "fnExactInverseEdits", inPlace := ["slices.overlaps[loop.example/g01918/impl.Fact]"], unfollowed := true, recurses := true, apart := false }
def FnExactInverseEditsSaid : Prop := fnExactInverseEditsRow.holds Try.pinned (OpenSpec.ofChange fnExactInverseEditsSpec)

/-- ITS FALSE NEIGHBOUR: 'it returns false'. Refute it at one input. -/
def fnExactInverseEditsWrong : ChangeSpec := { name := "fnExactInverseEdits", fn := fun _ => fun
  | [d1, d2] => { results := [.lit (.bool false)], args := [d1, d2] }
  | _ => none }
def FnExactInverseEditsWrongFalsely : Prop := fnExactInverseEditsRow.holds Try.pinned (OpenSpec.ofChange fnExactInverseEditsWrong)

/-- 'laws.FnExactApplyEdits': WHATEVER THE INPUT: true; the input reads as it did. -/
def fnExactApplyEditsSpec : ChangeSpec := { name := "fnExactApplyEdits", fn := fun _ => fun
  | [d1, d2] => { results := [.lit (.bool true)], args := [d1, d2] }
  | _ => none }
def fnExactApplyEditsRow : OpenClaim := { program := "ytjdpolnakhmkmaa", sum := "7f58ef837f51a7e4c9a4b750be8fd05cead9c0b896800117c72f8e9581556870", func := "loop.example/g01918/laws.FnExactApplyEdits", spec := "fnExactApplyEdits", inPlace := ["slices.overlaps[loop.example/g01918/impl.Fact]"], unfollowed := true, recurses := true, apart := false }
def FnExactApplyEditsSaid : Prop := fnExactApplyEditsRow.holds Try.pinned (OpenSpec.ofChange fnExactApplyEditsSpec)

/-- ITS FALSE NEIGHBOUR: 'it returns false'. Refute it at one input. -/
def fnExactApplyEditsWrong : ChangeSpec := { name := "fnExactApplyEdits", fn := fun _ => fun
  | [d1, d2] => { results := [.lit (.bool false)], args := [d1, d2] }
  | _ => none }
def FnExactApplyEditsWrongFalsely : Prop := fnExactApplyEditsRow.holds Try.pinned (OpenSpec.ofChange fnExactApplyEditsWrong)

/- THE SECOND FORM. 'bulk': how many values and letters a reading holds, each counted each time it is reached (what is shared counts as often as it is met; a slice's spare places count too). A statement '..UptoSaid' is the law's where the arguments, and the package variables that the reading takes, are together of bulk at most 1048576: NARROWER than '..Said'. Prove '..Said' where nothing that the law and all that it calls make is longer than what came in: it says more and counts as full. Else prove '..UptoSaid'. A law counts once. -/
mutual
def uptoBulk {H : Type} : DataW H → Nat
  | .lit (.string bytes) => bytes.length + 1
  | .lit _ => 1
  | .nil => 1
  | .ptr d => uptoBulk d + 1
  | .slice elems spare => uptoBulkAll elems + uptoBulkAll spare + 1
  | .agg parts => uptoBulkAll parts + 1
  | .iface _ d => uptoBulk d + 1
  | .map entries => uptoBulkEntries entries + 1
  | .held _ => 1
def uptoBulkAll {H : Type} : List (DataW H) → Nat
  | [] => 0
  | d :: r => uptoBulk d + uptoBulkAll r
def uptoBulkEntries {H : Type} : List (Lit × DataW H) → Nat
  | [] => 0
  | x :: r => uptoBulkEntry x + uptoBulkEntries r
def uptoBulkEntry {H : Type} : Lit × DataW H → Nat
  | (.string bytes, d) => bytes.length + uptoBulk d + 1
  | (_, d) => uptoBulk d + 1
 end
def uptoSmall : (H : Type) → List (DataW H) → Bool := fun _ ds => decide (uptoBulkAll ds ≤ 1048576)
def OpenSpec.upto (s : _root_.Go.ChangeSpec) : _root_.Go.OpenSpec := { _root_.Go.OpenSpec.ofChange s with cond := some uptoSmall }

/-- 'laws.FnExactBindAnswer', WHERE WHAT IT READS IS OF BULK AT MOST 1048576: true; the input reads as it did. -/
def fnExactBindAnswerUptoRow : OpenClaim := { program := "ytjdpolnakhmkmaa", sum := "7f58ef837f51a7e4c9a4b750be8fd05cead9c0b896800117c72f8e9581556870", func := "loop.example/g01918/laws.FnExactBindAnswer", spec := "fnExactBindAnswer", apart := false, narrowed := true }
def FnExactBindAnswerUptoSaid : Prop := fnExactBindAnswerUptoRow.holds Try.pinned (OpenSpec.upto fnExactBindAnswerSpec)

/-- 'laws.FnExactLargestConflicts', WHERE WHAT IT READS IS OF BULK AT MOST 1048576: true; the input reads as it did. -/
def fnExactLargestConflictsUptoRow : OpenClaim := { program := "ytjdpolnakhmkmaa", sum := "7f58ef837f51a7e4c9a4b750be8fd05cead9c0b896800117c72f8e9581556870", func := "loop.example/g01918/laws.FnExactLargestConflicts", spec := "fnExactLargestConflicts", unfollowed := true, recurses := true, apart := false, narrowed := true }
def FnExactLargestConflictsUptoSaid : Prop := fnExactLargestConflictsUptoRow.holds Try.pinned (OpenSpec.upto fnExactLargestConflictsSpec)

/-- 'laws.FnExactEqualViews', WHERE WHAT IT READS IS OF BULK AT MOST 1048576: true; the input reads as it did. -/
def fnExactEqualViewsUptoRow : OpenClaim := { program := "ytjdpolnakhmkmaa", sum := "7f58ef837f51a7e4c9a4b750be8fd05cead9c0b896800117c72f8e9581556870", func := "loop.example/g01918/laws.FnExactEqualViews", spec := "fnExactEqualViews", unfollowed := true, recurses := true, apart := false, narrowed := true }
def FnExactEqualViewsUptoSaid : Prop := fnExactEqualViewsUptoRow.holds Try.pinned (OpenSpec.upto fnExactEqualViewsSpec)

/-- 'laws.FnRetractFact', WHERE WHAT IT READS IS OF BULK AT MOST 1048576: true; the input reads as it did. -/
def fnRetractFactUptoRow : OpenClaim := { program := "ytjdpolnakhmkmaa", sum := "7f58ef837f51a7e4c9a4b750be8fd05cead9c0b896800117c72f8e9581556870", func := "loop.example/g01918/laws.FnRetractFact", spec := "fnRetractFact", unfollowed := true, recurses := true, apart := false, narrowed := true }
def FnRetractFactUptoSaid : Prop := fnRetractFactUptoRow.holds Try.pinned (OpenSpec.upto fnRetractFactSpec)

/-- 'laws.FnResolveAll', WHERE WHAT IT READS IS OF BULK AT MOST 1048576: true; the input reads as it did. -/
def fnResolveAllUptoRow : OpenClaim := { program := "ytjdpolnakhmkmaa", sum := "7f58ef837f51a7e4c9a4b750be8fd05cead9c0b896800117c72f8e9581556870", func := "loop.example/g01918/laws.FnResolveAll", spec := "fnResolveAll", unfollowed := true, recurses := true, apart := false, narrowed := true }
def FnResolveAllUptoSaid : Prop := fnResolveAllUptoRow.holds Try.pinned (OpenSpec.upto fnResolveAllSpec)

/-- 'laws.FnExactRetractFact', WHERE WHAT IT READS IS OF BULK AT MOST 1048576: true; the input reads as it did. -/
def fnExactRetractFactUptoRow : OpenClaim := { program := "ytjdpolnakhmkmaa", sum := "7f58ef837f51a7e4c9a4b750be8fd05cead9c0b896800117c72f8e9581556870", func := "loop.example/g01918/laws.FnExactRetractFact", spec := "fnExactRetractFact", unfollowed := true, recurses := true, apart := false, narrowed := true }
def FnExactRetractFactUptoSaid : Prop := fnExactRetractFactUptoRow.holds Try.pinned (OpenSpec.upto fnExactRetractFactSpec)

/-- 'laws.FnExactResolveConflict', WHERE WHAT IT READS IS OF BULK AT MOST 1048576: true; the input reads as it did. -/
def fnExactResolveConflictUptoRow : OpenClaim := { program := "ytjdpolnakhmkmaa", sum := "7f58ef837f51a7e4c9a4b750be8fd05cead9c0b896800117c72f8e9581556870", func := "loop.example/g01918/laws.FnExactResolveConflict", spec := "fnExactResolveConflict", unfollowed := true, recurses := true, apart := false, narrowed := true }
def FnExactResolveConflictUptoSaid : Prop := fnExactResolveConflictUptoRow.holds Try.pinned (OpenSpec.upto fnExactResolveConflictSpec)

/-- 'laws.FnExactResolveAll', WHERE WHAT IT READS IS OF BULK AT MOST 1048576: true; the input reads as it did. -/
def fnExactResolveAllUptoRow : OpenClaim := { program := "ytjdpolnakhmkmaa", sum := "7f58ef837f51a7e4c9a4b750be8fd05cead9c0b896800117c72f8e9581556870", func := "loop.example/g01918/laws.FnExactResolveAll", spec := "fnExactResolveAll", unfollowed := true, recurses := true, apart := false, narrowed := true }
def FnExactResolveAllUptoSaid : Prop := fnExactResolveAllUptoRow.holds Try.pinned (OpenSpec.upto fnExactResolveAllSpec)

/-- 'laws.FnEditLists', WHERE WHAT IT READS IS OF BULK AT MOST 1048576: true; the input reads as it did. -/
def fnEditListsUptoRow : OpenClaim := { program := "ytjdpolnakhmkmaa", sum := "7f58ef837f51a7e4c9a4b750be8fd05cead9c0b896800117c72f8e9581556870", func := "loop.example/g01918/laws.FnEditLists", spec := "fnEditLists", inPlace := ["slices.overlaps[loop.example/g01918/impl.Fact]"], unfollowed := true, recurses := true, apart := false, narrowed := true }
def FnEditListsUptoSaid : Prop := fnEditListsUptoRow.holds Try.pinned (OpenSpec.upto fnEditListsSpec)

/-- 'laws.FnExactApplyEdit', WHERE WHAT IT READS IS OF BULK AT MOST 1048576: true; the input reads as it did. -/
def fnExactApplyEditUptoRow : OpenClaim := { program := "ytjdpolnakhmkmaa", sum := "7f58ef837f51a7e4c9a4b750be8fd05cead9c0b896800117c72f8e9581556870", func := "loop.example/g01918/laws.FnExactApplyEdit", spec := "fnExactApplyEdit", inPlace := ["slices.overlaps[loop.example/g01918/impl.Fact]"], unfollowed := true, recurses := true, apart := false, narrowed := true }
def FnExactApplyEditUptoSaid : Prop := fnExactApplyEditUptoRow.holds Try.pinned (OpenSpec.upto fnExactApplyEditSpec)

/-- 'laws.FnExactInverseEdits', WHERE WHAT IT READS IS OF BULK AT MOST 1048576: true; the input reads as it did. -/
def fnExactInverseEditsUptoRow : OpenClaim := { program := "ytjdpolnakhmkmaa", sum := "7f58ef837f51a7e4c9a4b750be8fd05cead9c0b896800117c72f8e9581556870", func := "loop.example/g01918/laws.FnExactInverseEdits", spec := "fnExactInverseEdits", inPlace := ["slices.overlaps[loop.example/g01918/impl.Fact]"], unfollowed := true, recurses := true, apart := false, narrowed := true }
def FnExactInverseEditsUptoSaid : Prop := fnExactInverseEditsUptoRow.holds Try.pinned (OpenSpec.upto fnExactInverseEditsSpec)

/-- 'laws.FnExactApplyEdits', WHERE WHAT IT READS IS OF BULK AT MOST 1048576: true; the input reads as it did. -/
def fnExactApplyEditsUptoRow : OpenClaim := { program := "ytjdpolnakhmkmaa", sum := "7f58ef837f51a7e4c9a4b750be8fd05cead9c0b896800117c72f8e9581556870", func := "loop.example/g01918/laws.FnExactApplyEdits", spec := "fnExactApplyEdits", inPlace := ["slices.overlaps[loop.example/g01918/impl.Fact]"], unfollowed := true, recurses := true, apart := false, narrowed := true }
def FnExactApplyEditsUptoSaid : Prop := fnExactApplyEditsUptoRow.holds Try.pinned (OpenSpec.upto fnExactApplyEditsSpec)

end Rows
end Go.Proofs.Ytjdpolnakhmkmaa

/-
  DERIVED. GIVEN WITH THE SEED: THE CARDS: each row of YtaadmoaanhdboaaGreatDoorRows.lean that lists a variable, with what it lists TIED to the program's text (the seventh form; the later family's looks); each row that meets fmt, with fmt's text TOLD by the authors' own Lean function (tested against real Go, not proved from fmt's source: count such statements apart). THE CARD IS WHAT COUNTS. Prove the row's statement (the work); the ties are given (YtaadmoaanhdboaaGreatDoorTie.lean); close each card by the builder's one call (the guide's Derived/Test/ToyasCard.lean, 'card_holds'). Laid BY PROGRAM, IN A SANDBOX (cutbox-door.mjs). By AI agents, Wed Nov 11 2026. No macro, syntax, notation, axiom, sorry.
-/
import Derived.Test.YtaadmoaanhdboaaGreatDoorRows
import GoSem.ClaimSeven
namespace Go.Proofs.YtaadmoaanhdboaaGreatDoor
namespace Rows

/-- THE TIED CARD OF 'laws.FnInverseEdits'. -/
def fnInverseEditsCard : Claim7 := { stood := { row := fnInverseEditsRow, standIns := [], harness := (true, "a1a28c973dfb1b6ac205cf6c7a30c4f0be54de6e78e6359ccb2f429573cbd260"), looks := false }, kinds := [], alts := [], laidByText := true, laidKinds := [.data, .data, .data], laidTests := true, laidLooks := .later }
def FnInverseEditsCardSaid : Prop := Claim7.holds Tryz.pinned (.plain (OpenSpec.ofChange fnInverseEditsSpec)) fnInverseEditsCard

/-- THE SECOND FORM's CARD OF 'laws.FnInverseEdits'. -/
def fnInverseEditsUptoCard : Claim7 := { stood := { row := fnInverseEditsUptoRow, standIns := [], harness := (true, "a1a28c973dfb1b6ac205cf6c7a30c4f0be54de6e78e6359ccb2f429573cbd260"), looks := false }, kinds := [], alts := [], laidByText := true, laidKinds := [.data, .data, .data], laidTests := true, laidLooks := .later }
def FnInverseEditsUptoCardSaid : Prop := Claim7.holds Tryz.pinned (.plain (OpenSpec.upto fnInverseEditsSpec)) fnInverseEditsUptoCard
end Rows
end Go.Proofs.YtaadmoaanhdboaaGreatDoor

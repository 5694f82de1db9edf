/-
  DERIVED. GIVEN WITH THE SEED: THE CARDS: each row of YtaadmoaanhdboaaDoorRows.lean that lists a variable, with what it lists TIED to the program's text (the seventh form; the later family's looks); each row that meets fmt, with fmt's text TOLD by the authors' own Lean function (tested against real Go, not proved from fmt's source: count such statements apart). THE CARD IS WHAT COUNTS. Prove the row's statement (the work); the ties are given (YtaadmoaanhdboaaDoorTie.lean); close each card by the builder's one call (the guide's Derived/Test/ToyasCard.lean, 'card_holds'). Laid BY PROGRAM, IN A SANDBOX (cutbox-door.mjs). By AI agents, Wed Nov 11 2026. No macro, syntax, notation, axiom, sorry.
-/
import Derived.Test.YtaadmoaanhdboaaDoorRows
import GoSem.ClaimSeven
namespace Go.Proofs.YtaadmoaanhdboaaDoor
namespace Rows

/-- THE TIED CARD OF 'laws.FnExactFormatFraction'. -/
def fnExactFormatFractionCard : Claim7 := { stood := { row := fnExactFormatFractionRow, standIns := [], harness := (true, "8ad715a8ca2bb3d4f2a9838d303ecc64e1a44fb312b1506565e861e44fab695d"), looks := false }, kinds := [], alts := [], laidByText := true, laidKinds := [.data, .data, .data], laidTests := true, laidLooks := .later }
def FnExactFormatFractionCardSaid : Prop := Claim7.holds Tryd.pinned (.plain (OpenSpec.ofChange fnExactFormatFractionSpec)) fnExactFormatFractionCard

/-- THE TIED CARD OF 'laws.FnExactFormatRows'. -/
def fnExactFormatRowsCard : Claim7 := { stood := { row := fnExactFormatRowsRow, standIns := [], harness := (true, "8ad715a8ca2bb3d4f2a9838d303ecc64e1a44fb312b1506565e861e44fab695d"), looks := false }, kinds := [], alts := [], laidByText := true, laidKinds := [.data, .data, .data], laidTests := true, laidLooks := .later }
def FnExactFormatRowsCardSaid : Prop := Claim7.holds Tryd.pinned (.plain (OpenSpec.ofChange fnExactFormatRowsSpec)) fnExactFormatRowsCard

/-- THE TIED CARD OF 'laws.FnExactFormatEdit'. -/
def fnExactFormatEditCard : Claim7 := { stood := { row := fnExactFormatEditRow, standIns := [], harness := (true, "8ad715a8ca2bb3d4f2a9838d303ecc64e1a44fb312b1506565e861e44fab695d"), looks := false }, kinds := [], alts := [], laidByText := true, laidKinds := [.data, .data, .data], laidTests := true, laidLooks := .later }
def FnExactFormatEditCardSaid : Prop := Claim7.holds Tryd.pinned (.plain (OpenSpec.ofChange fnExactFormatEditSpec)) fnExactFormatEditCard

/-- THE TIED CARD OF 'laws.FnExactParseEdit'. -/
def fnExactParseEditCard : Claim7 := { stood := { row := fnExactParseEditRow, standIns := [], harness := (true, "8ad715a8ca2bb3d4f2a9838d303ecc64e1a44fb312b1506565e861e44fab695d"), looks := false }, kinds := [], alts := [], laidByText := true, laidKinds := [.data, .data, .data], laidTests := true, laidLooks := .later }
def FnExactParseEditCardSaid : Prop := Claim7.holds Tryd.pinned (.plain (OpenSpec.ofChange fnExactParseEditSpec)) fnExactParseEditCard

/-- THE SECOND FORM's CARD OF 'laws.FnExactFormatFraction'. -/
def fnExactFormatFractionUptoCard : Claim7 := { stood := { row := fnExactFormatFractionUptoRow, standIns := [], harness := (true, "8ad715a8ca2bb3d4f2a9838d303ecc64e1a44fb312b1506565e861e44fab695d"), looks := false }, kinds := [], alts := [], laidByText := true, laidKinds := [.data, .data, .data], laidTests := true, laidLooks := .later }
def FnExactFormatFractionUptoCardSaid : Prop := Claim7.holds Tryd.pinned (.plain (OpenSpec.upto fnExactFormatFractionSpec)) fnExactFormatFractionUptoCard

/-- THE SECOND FORM's CARD OF 'laws.FnExactFormatRows'. -/
def fnExactFormatRowsUptoCard : Claim7 := { stood := { row := fnExactFormatRowsUptoRow, standIns := [], harness := (true, "8ad715a8ca2bb3d4f2a9838d303ecc64e1a44fb312b1506565e861e44fab695d"), looks := false }, kinds := [], alts := [], laidByText := true, laidKinds := [.data, .data, .data], laidTests := true, laidLooks := .later }
def FnExactFormatRowsUptoCardSaid : Prop := Claim7.holds Tryd.pinned (.plain (OpenSpec.upto fnExactFormatRowsSpec)) fnExactFormatRowsUptoCard

/-- THE SECOND FORM's CARD OF 'laws.FnExactFormatEdit'. -/
def fnExactFormatEditUptoCard : Claim7 := { stood := { row := fnExactFormatEditUptoRow, standIns := [], harness := (true, "8ad715a8ca2bb3d4f2a9838d303ecc64e1a44fb312b1506565e861e44fab695d"), looks := false }, kinds := [], alts := [], laidByText := true, laidKinds := [.data, .data, .data], laidTests := true, laidLooks := .later }
def FnExactFormatEditUptoCardSaid : Prop := Claim7.holds Tryd.pinned (.plain (OpenSpec.upto fnExactFormatEditSpec)) fnExactFormatEditUptoCard

/-- THE SECOND FORM's CARD OF 'laws.FnExactParseEdit'. -/
def fnExactParseEditUptoCard : Claim7 := { stood := { row := fnExactParseEditUptoRow, standIns := [], harness := (true, "8ad715a8ca2bb3d4f2a9838d303ecc64e1a44fb312b1506565e861e44fab695d"), looks := false }, kinds := [], alts := [], laidByText := true, laidKinds := [.data, .data, .data], laidTests := true, laidLooks := .later }
def FnExactParseEditUptoCardSaid : Prop := Claim7.holds Tryd.pinned (.plain (OpenSpec.upto fnExactParseEditSpec)) fnExactParseEditUptoCard
end Rows
end Go.Proofs.YtaadmoaanhdboaaDoor

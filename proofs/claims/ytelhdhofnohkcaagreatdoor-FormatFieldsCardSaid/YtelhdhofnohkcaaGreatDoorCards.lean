/-
  DERIVED. GIVEN WITH THE SEED: THE CARDS: each row of YtelhdhofnohkcaaGreatDoorRows.lean that lists a variable, with what it lists TIED to the program's text (the seventh form; the later family's looks); each row that meets fmt, with fmt's text TOLD by the authors' own Lean function (tested against real Go, not proved from fmt's source: count such statements apart). THE CARD IS WHAT COUNTS. Prove the row's statement (the work); the ties are given (YtelhdhofnohkcaaGreatDoorTie.lean); close each card by the builder's one call (the guide's Derived/Test/ToyasCard.lean, 'card_holds'). Laid BY PROGRAM, IN A SANDBOX (cutbox-door.mjs). By AI agents, Wed Nov 11 2026. No macro, syntax, notation, axiom, sorry.
-/
import Derived.Test.YtelhdhofnohkcaaGreatDoorRows
import GoSem.ClaimSeven
namespace Go.Proofs.YtelhdhofnohkcaaGreatDoor
namespace Rows

/-- THE TIED CARD OF 'cabochonlaw04.FormatNamed'. -/
def formatNamedCard : Claim7 := { stood := { row := formatNamedRow, standIns := [], harness := (true, "aa149a5e4f3612cb8a9c459a00c08e63291d9113686e5f3346190f5d57c03538"), looks := true }, kinds := [], alts := [], laidByText := true, laidKinds := [.data, .data, .data, .data, .sentinel, .sentinel, .pinned, .pinned], laidTests := true, laidLooks := .later }
def FormatNamedCardSaid : Prop := Claim7.holds Tryz.pinned (.plain (OpenSpec.ofChange formatNamedSpec)) formatNamedCard

/-- THE TIED CARD OF 'cabochonlaw04.FormatFields'. -/
def formatFieldsCard : Claim7 := { stood := { row := formatFieldsRow, standIns := [], harness := (true, "aa149a5e4f3612cb8a9c459a00c08e63291d9113686e5f3346190f5d57c03538"), looks := true }, kinds := [], alts := [], laidByText := true, laidKinds := [.data, .data, .data, .data, .sentinel, .sentinel, .pinned, .pinned], laidTests := true, laidLooks := .later }
def FormatFieldsCardSaid : Prop := Claim7.holds Tryz.pinned (.plain (OpenSpec.ofChange formatFieldsSpec)) formatFieldsCard

/-- THE TIED CARD OF 'cabochonlaw04.FormatWide'. -/
def formatWideCard : Claim7 := { stood := { row := formatWideRow, standIns := [], harness := (true, "aa149a5e4f3612cb8a9c459a00c08e63291d9113686e5f3346190f5d57c03538"), looks := true }, kinds := [], alts := [], laidByText := true, laidKinds := [.data, .data, .data, .data, .sentinel, .sentinel, .pinned, .pinned], laidTests := true, laidLooks := .later }
def FormatWideCardSaid : Prop := Claim7.holds Tryz.pinned (.plain (OpenSpec.ofChange formatWideSpec)) formatWideCard

/-- THE TIED CARD OF 'cabochonlaw04.FormatBack'. -/
def formatBackCard : Claim7 := { stood := { row := formatBackRow, standIns := [], harness := (true, "aa149a5e4f3612cb8a9c459a00c08e63291d9113686e5f3346190f5d57c03538"), looks := true }, kinds := [], alts := [], laidByText := true, laidKinds := [.data, .data, .data, .data, .sentinel, .sentinel, .pinned, .pinned], laidTests := true, laidLooks := .later }
def FormatBackCardSaid : Prop := Claim7.holds Tryz.pinned (.plain (OpenSpec.ofChange formatBackSpec)) formatBackCard

/-- THE TIED CARD OF 'cabochonlaw04.FormatColumns'. -/
def formatColumnsCard : Claim7 := { stood := { row := formatColumnsRow, standIns := [], harness := (true, "aa149a5e4f3612cb8a9c459a00c08e63291d9113686e5f3346190f5d57c03538"), looks := true }, kinds := [], alts := [], laidByText := true, laidKinds := [.data, .data, .data, .data, .sentinel, .sentinel, .pinned, .pinned], laidTests := true, laidLooks := .later }
def FormatColumnsCardSaid : Prop := Claim7.holds Tryz.pinned (.plain (OpenSpec.ofChange formatColumnsSpec)) formatColumnsCard

/-- THE TIED CARD OF 'cabochonlaw04.FormatEscapes'. -/
def formatEscapesCard : Claim7 := { stood := { row := formatEscapesRow, standIns := [], harness := (true, "aa149a5e4f3612cb8a9c459a00c08e63291d9113686e5f3346190f5d57c03538"), looks := true }, kinds := [], alts := [], laidByText := true, laidKinds := [.data, .data, .data, .data, .sentinel, .sentinel, .pinned, .pinned], laidTests := true, laidLooks := .later }
def FormatEscapesCardSaid : Prop := Claim7.holds Tryz.pinned (.plain (OpenSpec.ofChange formatEscapesSpec)) formatEscapesCard

/-- THE TIED CARD OF 'cabochonlaw04.FormatFills'. -/
def formatFillsCard : Claim7 := { stood := { row := formatFillsRow, standIns := [], harness := (true, "aa149a5e4f3612cb8a9c459a00c08e63291d9113686e5f3346190f5d57c03538"), looks := true }, kinds := [], alts := [], laidByText := true, laidKinds := [.data, .data, .data, .data, .sentinel, .sentinel, .pinned, .pinned], laidTests := true, laidLooks := .later }
def FormatFillsCardSaid : Prop := Claim7.holds Tryz.pinned (.plain (OpenSpec.ofChange formatFillsSpec)) formatFillsCard

/-- THE SECOND FORM's CARD OF 'cabochonlaw04.FormatNamed'. -/
def formatNamedUptoCard : Claim7 := { stood := { row := formatNamedUptoRow, standIns := [], harness := (true, "aa149a5e4f3612cb8a9c459a00c08e63291d9113686e5f3346190f5d57c03538"), looks := true }, kinds := [], alts := [], laidByText := true, laidKinds := [.data, .data, .data, .data, .sentinel, .sentinel, .pinned, .pinned], laidTests := true, laidLooks := .later }
def FormatNamedUptoCardSaid : Prop := Claim7.holds Tryz.pinned (.plain (OpenSpec.upto formatNamedSpec)) formatNamedUptoCard

/-- THE SECOND FORM's CARD OF 'cabochonlaw04.FormatFields'. -/
def formatFieldsUptoCard : Claim7 := { stood := { row := formatFieldsUptoRow, standIns := [], harness := (true, "aa149a5e4f3612cb8a9c459a00c08e63291d9113686e5f3346190f5d57c03538"), looks := true }, kinds := [], alts := [], laidByText := true, laidKinds := [.data, .data, .data, .data, .sentinel, .sentinel, .pinned, .pinned], laidTests := true, laidLooks := .later }
def FormatFieldsUptoCardSaid : Prop := Claim7.holds Tryz.pinned (.plain (OpenSpec.upto formatFieldsSpec)) formatFieldsUptoCard

/-- THE SECOND FORM's CARD OF 'cabochonlaw04.FormatWide'. -/
def formatWideUptoCard : Claim7 := { stood := { row := formatWideUptoRow, standIns := [], harness := (true, "aa149a5e4f3612cb8a9c459a00c08e63291d9113686e5f3346190f5d57c03538"), looks := true }, kinds := [], alts := [], laidByText := true, laidKinds := [.data, .data, .data, .data, .sentinel, .sentinel, .pinned, .pinned], laidTests := true, laidLooks := .later }
def FormatWideUptoCardSaid : Prop := Claim7.holds Tryz.pinned (.plain (OpenSpec.upto formatWideSpec)) formatWideUptoCard

/-- THE SECOND FORM's CARD OF 'cabochonlaw04.FormatBack'. -/
def formatBackUptoCard : Claim7 := { stood := { row := formatBackUptoRow, standIns := [], harness := (true, "aa149a5e4f3612cb8a9c459a00c08e63291d9113686e5f3346190f5d57c03538"), looks := true }, kinds := [], alts := [], laidByText := true, laidKinds := [.data, .data, .data, .data, .sentinel, .sentinel, .pinned, .pinned], laidTests := true, laidLooks := .later }
def FormatBackUptoCardSaid : Prop := Claim7.holds Tryz.pinned (.plain (OpenSpec.upto formatBackSpec)) formatBackUptoCard

/-- THE SECOND FORM's CARD OF 'cabochonlaw04.FormatColumns'. -/
def formatColumnsUptoCard : Claim7 := { stood := { row := formatColumnsUptoRow, standIns := [], harness := (true, "aa149a5e4f3612cb8a9c459a00c08e63291d9113686e5f3346190f5d57c03538"), looks := true }, kinds := [], alts := [], laidByText := true, laidKinds := [.data, .data, .data, .data, .sentinel, .sentinel, .pinned, .pinned], laidTests := true, laidLooks := .later }
def FormatColumnsUptoCardSaid : Prop := Claim7.holds Tryz.pinned (.plain (OpenSpec.upto formatColumnsSpec)) formatColumnsUptoCard

/-- THE SECOND FORM's CARD OF 'cabochonlaw04.FormatEscapes'. -/
def formatEscapesUptoCard : Claim7 := { stood := { row := formatEscapesUptoRow, standIns := [], harness := (true, "aa149a5e4f3612cb8a9c459a00c08e63291d9113686e5f3346190f5d57c03538"), looks := true }, kinds := [], alts := [], laidByText := true, laidKinds := [.data, .data, .data, .data, .sentinel, .sentinel, .pinned, .pinned], laidTests := true, laidLooks := .later }
def FormatEscapesUptoCardSaid : Prop := Claim7.holds Tryz.pinned (.plain (OpenSpec.upto formatEscapesSpec)) formatEscapesUptoCard

/-- THE SECOND FORM's CARD OF 'cabochonlaw04.FormatFills'. -/
def formatFillsUptoCard : Claim7 := { stood := { row := formatFillsUptoRow, standIns := [], harness := (true, "aa149a5e4f3612cb8a9c459a00c08e63291d9113686e5f3346190f5d57c03538"), looks := true }, kinds := [], alts := [], laidByText := true, laidKinds := [.data, .data, .data, .data, .sentinel, .sentinel, .pinned, .pinned], laidTests := true, laidLooks := .later }
def FormatFillsUptoCardSaid : Prop := Claim7.holds Tryz.pinned (.plain (OpenSpec.upto formatFillsSpec)) formatFillsUptoCard
end Rows
end Go.Proofs.YtelhdhofnohkcaaGreatDoor

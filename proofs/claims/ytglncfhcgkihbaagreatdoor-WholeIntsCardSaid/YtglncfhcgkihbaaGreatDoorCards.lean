/-
  DERIVED. GIVEN WITH THE SEED: THE CARDS: each row of YtglncfhcgkihbaaGreatDoorRows.lean that lists a variable, with what it lists TIED to the program's text (the seventh form; the later family's looks); each row that meets fmt, with fmt's text TOLD by the authors' own Lean function (tested against real Go, not proved from fmt's source: count such statements apart). THE CARD IS WHAT COUNTS. Prove the row's statement (the work); the ties are given (YtglncfhcgkihbaaGreatDoorTie.lean); close each card by the builder's one call (the guide's Derived/Test/ToyasCard.lean, 'card_holds'). Laid BY PROGRAM, IN A SANDBOX (cutbox-door.mjs). By AI agents, Wed Nov 11 2026. No macro, syntax, notation, axiom, sorry.
-/
import Derived.Test.YtglncfhcgkihbaaGreatDoorRows
import GoSem.ClaimSeven
namespace Go.Proofs.YtglncfhcgkihbaaGreatDoor
namespace Rows

/-- THE TIED CARD OF 'cabochonlaw02.WholePowers'. -/
def wholePowersCard : Claim7 := { stood := { row := wholePowersRow, standIns := [], harness := (true, "46c6a0cbe5bb78b58d4378adac3f4302c2a23315bbe02bac4185bbc011cff416"), looks := true }, kinds := [], alts := [], laidByText := true, laidKinds := [.data, .data, .data, .data, .pinned], laidTests := true, laidLooks := .later }
def WholePowersCardSaid : Prop := Claim7.holds Tryz.pinned (.plain (OpenSpec.ofChange wholePowersSpec)) wholePowersCard

/-- THE TIED CARD OF 'cabochonlaw02.WholeSums'. -/
def wholeSumsCard : Claim7 := { stood := { row := wholeSumsRow, standIns := [], harness := (true, "46c6a0cbe5bb78b58d4378adac3f4302c2a23315bbe02bac4185bbc011cff416"), looks := true }, kinds := [], alts := [], laidByText := true, laidKinds := [.data, .data, .data, .data, .pinned], laidTests := true, laidLooks := .later }
def WholeSumsCardSaid : Prop := Claim7.holds Tryz.pinned (.plain (OpenSpec.ofChange wholeSumsSpec)) wholeSumsCard

/-- THE TIED CARD OF 'cabochonlaw02.WholeDivides'. -/
def wholeDividesCard : Claim7 := { stood := { row := wholeDividesRow, standIns := [], harness := (true, "46c6a0cbe5bb78b58d4378adac3f4302c2a23315bbe02bac4185bbc011cff416"), looks := true }, kinds := [], alts := [], laidByText := true, laidKinds := [.data, .data, .data, .data, .pinned], laidTests := true, laidLooks := .later }
def WholeDividesCardSaid : Prop := Claim7.holds Tryz.pinned (.plain (OpenSpec.ofChange wholeDividesSpec)) wholeDividesCard

/-- THE TIED CARD OF 'cabochonlaw02.WholeRoot'. -/
def wholeRootCard : Claim7 := { stood := { row := wholeRootRow, standIns := [], harness := (true, "46c6a0cbe5bb78b58d4378adac3f4302c2a23315bbe02bac4185bbc011cff416"), looks := true }, kinds := [], alts := [], laidByText := true, laidKinds := [.data, .data, .data, .data, .pinned], laidTests := true, laidLooks := .later }
def WholeRootCardSaid : Prop := Claim7.holds Tryz.pinned (.plain (OpenSpec.ofChange wholeRootSpec)) wholeRootCard

/-- THE TIED CARD OF 'cabochonlaw02.WholeRatios'. -/
def wholeRatiosCard : Claim7 := { stood := { row := wholeRatiosRow, standIns := [], harness := (true, "46c6a0cbe5bb78b58d4378adac3f4302c2a23315bbe02bac4185bbc011cff416"), looks := true }, kinds := [], alts := [], laidByText := true, laidKinds := [.data, .data, .data, .data, .pinned], laidTests := true, laidLooks := .later }
def WholeRatiosCardSaid : Prop := Claim7.holds Tryz.pinned (.plain (OpenSpec.ofChange wholeRatiosSpec)) wholeRatiosCard

/-- THE TIED CARD OF 'cabochonlaw02.WholeReduced'. -/
def wholeReducedCard : Claim7 := { stood := { row := wholeReducedRow, standIns := [], harness := (true, "46c6a0cbe5bb78b58d4378adac3f4302c2a23315bbe02bac4185bbc011cff416"), looks := true }, kinds := [], alts := [], laidByText := true, laidKinds := [.data, .data, .data, .data, .pinned], laidTests := true, laidLooks := .later }
def WholeReducedCardSaid : Prop := Claim7.holds Tryz.pinned (.plain (OpenSpec.ofChange wholeReducedSpec)) wholeReducedCard

/-- THE TIED CARD OF 'cabochonlaw02.WholeInts'. -/
def wholeIntsCard : Claim7 := { stood := { row := wholeIntsRow, standIns := [], harness := (true, "46c6a0cbe5bb78b58d4378adac3f4302c2a23315bbe02bac4185bbc011cff416"), looks := true }, kinds := [], alts := [], laidByText := true, laidKinds := [.data, .data, .data, .data, .sentinel, .sentinel, .pinned], laidTests := true, laidLooks := .later }
def WholeIntsCardSaid : Prop := Claim7.holds Tryz.pinned (.plain (OpenSpec.ofChange wholeIntsSpec)) wholeIntsCard

/-- THE SECOND FORM's CARD OF 'cabochonlaw02.WholePowers'. -/
def wholePowersUptoCard : Claim7 := { stood := { row := wholePowersUptoRow, standIns := [], harness := (true, "46c6a0cbe5bb78b58d4378adac3f4302c2a23315bbe02bac4185bbc011cff416"), looks := true }, kinds := [], alts := [], laidByText := true, laidKinds := [.data, .data, .data, .data, .pinned], laidTests := true, laidLooks := .later }
def WholePowersUptoCardSaid : Prop := Claim7.holds Tryz.pinned (.plain (OpenSpec.upto wholePowersSpec)) wholePowersUptoCard

/-- THE SECOND FORM's CARD OF 'cabochonlaw02.WholeSums'. -/
def wholeSumsUptoCard : Claim7 := { stood := { row := wholeSumsUptoRow, standIns := [], harness := (true, "46c6a0cbe5bb78b58d4378adac3f4302c2a23315bbe02bac4185bbc011cff416"), looks := true }, kinds := [], alts := [], laidByText := true, laidKinds := [.data, .data, .data, .data, .pinned], laidTests := true, laidLooks := .later }
def WholeSumsUptoCardSaid : Prop := Claim7.holds Tryz.pinned (.plain (OpenSpec.upto wholeSumsSpec)) wholeSumsUptoCard

/-- THE SECOND FORM's CARD OF 'cabochonlaw02.WholeDivides'. -/
def wholeDividesUptoCard : Claim7 := { stood := { row := wholeDividesUptoRow, standIns := [], harness := (true, "46c6a0cbe5bb78b58d4378adac3f4302c2a23315bbe02bac4185bbc011cff416"), looks := true }, kinds := [], alts := [], laidByText := true, laidKinds := [.data, .data, .data, .data, .pinned], laidTests := true, laidLooks := .later }
def WholeDividesUptoCardSaid : Prop := Claim7.holds Tryz.pinned (.plain (OpenSpec.upto wholeDividesSpec)) wholeDividesUptoCard

/-- THE SECOND FORM's CARD OF 'cabochonlaw02.WholeRoot'. -/
def wholeRootUptoCard : Claim7 := { stood := { row := wholeRootUptoRow, standIns := [], harness := (true, "46c6a0cbe5bb78b58d4378adac3f4302c2a23315bbe02bac4185bbc011cff416"), looks := true }, kinds := [], alts := [], laidByText := true, laidKinds := [.data, .data, .data, .data, .pinned], laidTests := true, laidLooks := .later }
def WholeRootUptoCardSaid : Prop := Claim7.holds Tryz.pinned (.plain (OpenSpec.upto wholeRootSpec)) wholeRootUptoCard

/-- THE SECOND FORM's CARD OF 'cabochonlaw02.WholeRatios'. -/
def wholeRatiosUptoCard : Claim7 := { stood := { row := wholeRatiosUptoRow, standIns := [], harness := (true, "46c6a0cbe5bb78b58d4378adac3f4302c2a23315bbe02bac4185bbc011cff416"), looks := true }, kinds := [], alts := [], laidByText := true, laidKinds := [.data, .data, .data, .data, .pinned], laidTests := true, laidLooks := .later }
def WholeRatiosUptoCardSaid : Prop := Claim7.holds Tryz.pinned (.plain (OpenSpec.upto wholeRatiosSpec)) wholeRatiosUptoCard

/-- THE SECOND FORM's CARD OF 'cabochonlaw02.WholeReduced'. -/
def wholeReducedUptoCard : Claim7 := { stood := { row := wholeReducedUptoRow, standIns := [], harness := (true, "46c6a0cbe5bb78b58d4378adac3f4302c2a23315bbe02bac4185bbc011cff416"), looks := true }, kinds := [], alts := [], laidByText := true, laidKinds := [.data, .data, .data, .data, .pinned], laidTests := true, laidLooks := .later }
def WholeReducedUptoCardSaid : Prop := Claim7.holds Tryz.pinned (.plain (OpenSpec.upto wholeReducedSpec)) wholeReducedUptoCard

/-- THE SECOND FORM's CARD OF 'cabochonlaw02.WholeInts'. -/
def wholeIntsUptoCard : Claim7 := { stood := { row := wholeIntsUptoRow, standIns := [], harness := (true, "46c6a0cbe5bb78b58d4378adac3f4302c2a23315bbe02bac4185bbc011cff416"), looks := true }, kinds := [], alts := [], laidByText := true, laidKinds := [.data, .data, .data, .data, .sentinel, .sentinel, .pinned], laidTests := true, laidLooks := .later }
def WholeIntsUptoCardSaid : Prop := Claim7.holds Tryz.pinned (.plain (OpenSpec.upto wholeIntsSpec)) wholeIntsUptoCard
end Rows
end Go.Proofs.YtglncfhcgkihbaaGreatDoor

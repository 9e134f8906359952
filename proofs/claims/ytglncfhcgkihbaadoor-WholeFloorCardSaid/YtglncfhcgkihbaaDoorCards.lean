/-
  DERIVED. GIVEN WITH THE SEED: THE CARDS: each row of YtglncfhcgkihbaaDoorRows.lean that lists a variable, with what it lists TIED to the program's text (the seventh form; the later family's looks); each row that meets fmt, with fmt's text TOLD by the authors' own Lean function (tested against real Go, not proved from fmt's source: count such statements apart). THE CARD IS WHAT COUNTS. Prove the row's statement (the work); the ties are given (YtglncfhcgkihbaaDoorTie.lean); close each card by the builder's one call (the guide's Derived/Test/ToyasCard.lean, 'card_holds'). Laid BY PROGRAM, IN A SANDBOX (cutbox-door.mjs). By AI agents, Wed Nov 11 2026. No macro, syntax, notation, axiom, sorry.
-/
import Derived.Test.YtglncfhcgkihbaaDoorRows
import GoSem.ClaimSeven
namespace Go.Proofs.YtglncfhcgkihbaaDoor
namespace Rows

/-- THE TIED CARD OF 'cabochonlaw02.WholeLaws'. -/
def wholeLawsCard : Claim7 := { stood := { row := wholeLawsRow, standIns := [], harness := (true, "7a65e6d0ef2f26c9028986d398672f6f162a6435fa6ae64cced7686ff4bedde9"), looks := false }, kinds := [], alts := [], laidByText := true, laidKinds := [.data, .data, .data, .data, .pinned], laidTests := true, laidLooks := .later }
def WholeLawsCardSaid : Prop := Claim7.holds Tryd.pinned (.plain (OpenSpec.ofChange wholeLawsSpec)) wholeLawsCard

/-- THE TIED CARD OF 'cabochonlaw02.WholeFloor'. -/
def wholeFloorCard : Claim7 := { stood := { row := wholeFloorRow, standIns := [], harness := (true, "7a65e6d0ef2f26c9028986d398672f6f162a6435fa6ae64cced7686ff4bedde9"), looks := false }, kinds := [], alts := [], laidByText := true, laidKinds := [.data, .data, .data, .data, .pinned], laidTests := true, laidLooks := .later }
def WholeFloorCardSaid : Prop := Claim7.holds Tryd.pinned (.plain (OpenSpec.ofChange wholeFloorSpec)) wholeFloorCard

/-- THE SECOND FORM's CARD OF 'cabochonlaw02.WholeLaws'. -/
def wholeLawsUptoCard : Claim7 := { stood := { row := wholeLawsUptoRow, standIns := [], harness := (true, "7a65e6d0ef2f26c9028986d398672f6f162a6435fa6ae64cced7686ff4bedde9"), looks := false }, kinds := [], alts := [], laidByText := true, laidKinds := [.data, .data, .data, .data, .pinned], laidTests := true, laidLooks := .later }
def WholeLawsUptoCardSaid : Prop := Claim7.holds Tryd.pinned (.plain (OpenSpec.upto wholeLawsSpec)) wholeLawsUptoCard

/-- THE SECOND FORM's CARD OF 'cabochonlaw02.WholeFloor'. -/
def wholeFloorUptoCard : Claim7 := { stood := { row := wholeFloorUptoRow, standIns := [], harness := (true, "7a65e6d0ef2f26c9028986d398672f6f162a6435fa6ae64cced7686ff4bedde9"), looks := false }, kinds := [], alts := [], laidByText := true, laidKinds := [.data, .data, .data, .data, .pinned], laidTests := true, laidLooks := .later }
def WholeFloorUptoCardSaid : Prop := Claim7.holds Tryd.pinned (.plain (OpenSpec.upto wholeFloorSpec)) wholeFloorUptoCard
end Rows
end Go.Proofs.YtglncfhcgkihbaaDoor

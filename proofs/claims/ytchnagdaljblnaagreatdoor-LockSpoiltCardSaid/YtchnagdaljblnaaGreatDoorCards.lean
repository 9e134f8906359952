/-
  DERIVED. GIVEN WITH THE SEED: THE CARDS: each row of YtchnagdaljblnaaGreatDoorRows.lean that lists a variable, with what it lists TIED to the program's text (the seventh form; the later family's looks); each row that meets fmt, with fmt's text TOLD by the authors' own Lean function (tested against real Go, not proved from fmt's source: count such statements apart). THE CARD IS WHAT COUNTS. Prove the row's statement (the work); the ties are given (YtchnagdaljblnaaGreatDoorTie.lean); close each card by the builder's one call (the guide's Derived/Test/ToyasCard.lean, 'card_holds'). Laid BY PROGRAM, IN A SANDBOX (cutbox-door.mjs). By AI agents, Wed Nov 11 2026. No macro, syntax, notation, axiom, sorry.
-/
import Derived.Test.YtchnagdaljblnaaGreatDoorRows
import GoSem.ClaimSeven
namespace Go.Proofs.YtchnagdaljblnaaGreatDoor
namespace Rows

/-- THE TIED CARD OF 'cabochonlaw13.LockParses'. -/
def lockParsesCard : Claim7 := { stood := { row := lockParsesRow, standIns := [], harness := (true, "8c62f1a9f2e0305055b1c520a81996350c3d7f6e84354bd50007dac8429eaf1a"), looks := true }, kinds := [], alts := [], laidByText := true, laidKinds := [.data, .data, .data, .data, .sentinel, .sentinel, .pinned], laidTests := true, laidLooks := .later }
def LockParsesCardSaid : Prop := Claim7.holds Tryz.pinned (.plain (OpenSpec.ofChange lockParsesSpec)) lockParsesCard

/-- THE TIED CARD OF 'cabochonlaw13.LockSpoilt'. -/
def lockSpoiltCard : Claim7 := { stood := { row := lockSpoiltRow, standIns := [], harness := (true, "8c62f1a9f2e0305055b1c520a81996350c3d7f6e84354bd50007dac8429eaf1a"), looks := true }, kinds := [], alts := [], laidByText := true, laidKinds := [.data, .data, .data, .data, .sentinel, .sentinel, .pinned], laidTests := true, laidLooks := .later }
def LockSpoiltCardSaid : Prop := Claim7.holds Tryz.pinned (.plain (OpenSpec.ofChange lockSpoiltSpec)) lockSpoiltCard

/-- THE TIED CARD OF 'cabochonlaw13.LockWrites'. -/
def lockWritesCard : Claim7 := { stood := { row := lockWritesRow, standIns := [], harness := (true, "8c62f1a9f2e0305055b1c520a81996350c3d7f6e84354bd50007dac8429eaf1a"), looks := true }, kinds := [], alts := [], laidByText := true, laidKinds := [.data, .data, .data, .data, .sentinel, .sentinel, .pinned], laidTests := true, laidLooks := .later }
def LockWritesCardSaid : Prop := Claim7.holds Tryz.pinned (.plain (OpenSpec.ofChange lockWritesSpec)) lockWritesCard

/-- THE TIED CARD OF 'cabochonlaw13.LockDiffs'. -/
def lockDiffsCard : Claim7 := { stood := { row := lockDiffsRow, standIns := [], harness := (true, "8c62f1a9f2e0305055b1c520a81996350c3d7f6e84354bd50007dac8429eaf1a"), looks := true }, kinds := [], alts := [], laidByText := true, laidKinds := [.data, .data, .data, .data, .sentinel, .sentinel, .pinned], laidTests := true, laidLooks := .later }
def LockDiffsCardSaid : Prop := Claim7.holds Tryz.pinned (.plain (OpenSpec.ofChange lockDiffsSpec)) lockDiffsCard

/-- THE TIED CARD OF 'cabochonlaw13.LockSolves'. -/
def lockSolvesCard : Claim7 := { stood := { row := lockSolvesRow, standIns := [], harness := (true, "8c62f1a9f2e0305055b1c520a81996350c3d7f6e84354bd50007dac8429eaf1a"), looks := true }, kinds := [], alts := [], laidByText := true, laidKinds := [.data, .data, .data, .data, .sentinel, .sentinel, .pinned], laidTests := true, laidLooks := .later }
def LockSolvesCardSaid : Prop := Claim7.holds Tryz.pinned (.plain (OpenSpec.ofChange lockSolvesSpec)) lockSolvesCard

/-- THE TIED CARD OF 'cabochonlaw13.LockKeeps'. -/
def lockKeepsCard : Claim7 := { stood := { row := lockKeepsRow, standIns := [], harness := (true, "8c62f1a9f2e0305055b1c520a81996350c3d7f6e84354bd50007dac8429eaf1a"), looks := true }, kinds := [], alts := [], laidByText := true, laidKinds := [.data, .data, .data, .data, .sentinel, .sentinel, .pinned], laidTests := true, laidLooks := .later }
def LockKeepsCardSaid : Prop := Claim7.holds Tryz.pinned (.plain (OpenSpec.ofChange lockKeepsSpec)) lockKeepsCard

/-- THE SECOND FORM's CARD OF 'cabochonlaw13.LockParses'. -/
def lockParsesUptoCard : Claim7 := { stood := { row := lockParsesUptoRow, standIns := [], harness := (true, "8c62f1a9f2e0305055b1c520a81996350c3d7f6e84354bd50007dac8429eaf1a"), looks := true }, kinds := [], alts := [], laidByText := true, laidKinds := [.data, .data, .data, .data, .sentinel, .sentinel, .pinned], laidTests := true, laidLooks := .later }
def LockParsesUptoCardSaid : Prop := Claim7.holds Tryz.pinned (.plain (OpenSpec.upto lockParsesSpec)) lockParsesUptoCard

/-- THE SECOND FORM's CARD OF 'cabochonlaw13.LockSpoilt'. -/
def lockSpoiltUptoCard : Claim7 := { stood := { row := lockSpoiltUptoRow, standIns := [], harness := (true, "8c62f1a9f2e0305055b1c520a81996350c3d7f6e84354bd50007dac8429eaf1a"), looks := true }, kinds := [], alts := [], laidByText := true, laidKinds := [.data, .data, .data, .data, .sentinel, .sentinel, .pinned], laidTests := true, laidLooks := .later }
def LockSpoiltUptoCardSaid : Prop := Claim7.holds Tryz.pinned (.plain (OpenSpec.upto lockSpoiltSpec)) lockSpoiltUptoCard

/-- THE SECOND FORM's CARD OF 'cabochonlaw13.LockWrites'. -/
def lockWritesUptoCard : Claim7 := { stood := { row := lockWritesUptoRow, standIns := [], harness := (true, "8c62f1a9f2e0305055b1c520a81996350c3d7f6e84354bd50007dac8429eaf1a"), looks := true }, kinds := [], alts := [], laidByText := true, laidKinds := [.data, .data, .data, .data, .sentinel, .sentinel, .pinned], laidTests := true, laidLooks := .later }
def LockWritesUptoCardSaid : Prop := Claim7.holds Tryz.pinned (.plain (OpenSpec.upto lockWritesSpec)) lockWritesUptoCard

/-- THE SECOND FORM's CARD OF 'cabochonlaw13.LockDiffs'. -/
def lockDiffsUptoCard : Claim7 := { stood := { row := lockDiffsUptoRow, standIns := [], harness := (true, "8c62f1a9f2e0305055b1c520a81996350c3d7f6e84354bd50007dac8429eaf1a"), looks := true }, kinds := [], alts := [], laidByText := true, laidKinds := [.data, .data, .data, .data, .sentinel, .sentinel, .pinned], laidTests := true, laidLooks := .later }
def LockDiffsUptoCardSaid : Prop := Claim7.holds Tryz.pinned (.plain (OpenSpec.upto lockDiffsSpec)) lockDiffsUptoCard

/-- THE SECOND FORM's CARD OF 'cabochonlaw13.LockSolves'. -/
def lockSolvesUptoCard : Claim7 := { stood := { row := lockSolvesUptoRow, standIns := [], harness := (true, "8c62f1a9f2e0305055b1c520a81996350c3d7f6e84354bd50007dac8429eaf1a"), looks := true }, kinds := [], alts := [], laidByText := true, laidKinds := [.data, .data, .data, .data, .sentinel, .sentinel, .pinned], laidTests := true, laidLooks := .later }
def LockSolvesUptoCardSaid : Prop := Claim7.holds Tryz.pinned (.plain (OpenSpec.upto lockSolvesSpec)) lockSolvesUptoCard

/-- THE SECOND FORM's CARD OF 'cabochonlaw13.LockKeeps'. -/
def lockKeepsUptoCard : Claim7 := { stood := { row := lockKeepsUptoRow, standIns := [], harness := (true, "8c62f1a9f2e0305055b1c520a81996350c3d7f6e84354bd50007dac8429eaf1a"), looks := true }, kinds := [], alts := [], laidByText := true, laidKinds := [.data, .data, .data, .data, .sentinel, .sentinel, .pinned], laidTests := true, laidLooks := .later }
def LockKeepsUptoCardSaid : Prop := Claim7.holds Tryz.pinned (.plain (OpenSpec.upto lockKeepsSpec)) lockKeepsUptoCard
end Rows
end Go.Proofs.YtchnagdaljblnaaGreatDoor

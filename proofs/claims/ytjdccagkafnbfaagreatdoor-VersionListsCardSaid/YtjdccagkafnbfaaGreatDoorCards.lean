/-
  DERIVED. GIVEN WITH THE SEED: THE CARDS: each row of YtjdccagkafnbfaaGreatDoorRows.lean that lists a variable, with what it lists TIED to the program's text (the seventh form; the later family's looks); each row that meets fmt, with fmt's text TOLD by the authors' own Lean function (tested against real Go, not proved from fmt's source: count such statements apart). THE CARD IS WHAT COUNTS. Prove the row's statement (the work); the ties are given (YtjdccagkafnbfaaGreatDoorTie.lean); close each card by the builder's one call (the guide's Derived/Test/ToyasCard.lean, 'card_holds'). Laid BY PROGRAM, IN A SANDBOX (cutbox-door.mjs). By AI agents, Wed Nov 11 2026. No macro, syntax, notation, axiom, sorry.
-/
import Derived.Test.YtjdccagkafnbfaaGreatDoorRows
import GoSem.ClaimSeven
namespace Go.Proofs.YtjdccagkafnbfaaGreatDoor
namespace Rows

/-- THE TIED CARD OF 'cabochonlaw11.VersionBumps'. -/
def versionBumpsCard : Claim7 := { stood := { row := versionBumpsRow, standIns := [], harness := (true, "3fd22dfbc03149e2bd1ec4cdd20954806b84515160ed68d8f15b504815fd55e1"), looks := true }, kinds := [], alts := [], laidByText := true, laidKinds := [.data, .data, .data, .data, .sentinel, .sentinel, .pinned], laidTests := true, laidLooks := .later }
def VersionBumpsCardSaid : Prop := Claim7.holds Tryz.pinned (.plain (OpenSpec.ofChange versionBumpsSpec)) versionBumpsCard

/-- THE TIED CARD OF 'cabochonlaw11.VersionOrder'. -/
def versionOrderCard : Claim7 := { stood := { row := versionOrderRow, standIns := [], harness := (true, "3fd22dfbc03149e2bd1ec4cdd20954806b84515160ed68d8f15b504815fd55e1"), looks := true }, kinds := [], alts := [], laidByText := true, laidKinds := [.data, .data, .data, .data, .sentinel, .sentinel, .pinned], laidTests := true, laidLooks := .later }
def VersionOrderCardSaid : Prop := Claim7.holds Tryz.pinned (.plain (OpenSpec.ofChange versionOrderSpec)) versionOrderCard

/-- THE TIED CARD OF 'cabochonlaw11.VersionCanon'. -/
def versionCanonCard : Claim7 := { stood := { row := versionCanonRow, standIns := [], harness := (true, "3fd22dfbc03149e2bd1ec4cdd20954806b84515160ed68d8f15b504815fd55e1"), looks := true }, kinds := [], alts := [], laidByText := true, laidKinds := [.data, .data, .data, .data, .sentinel, .sentinel, .pinned], laidTests := true, laidLooks := .later }
def VersionCanonCardSaid : Prop := Claim7.holds Tryz.pinned (.plain (OpenSpec.ofChange versionCanonSpec)) versionCanonCard

/-- THE TIED CARD OF 'cabochonlaw11.VersionAsks'. -/
def versionAsksCard : Claim7 := { stood := { row := versionAsksRow, standIns := [], harness := (true, "3fd22dfbc03149e2bd1ec4cdd20954806b84515160ed68d8f15b504815fd55e1"), looks := true }, kinds := [], alts := [], laidByText := true, laidKinds := [.data, .data, .data, .data, .sentinel, .sentinel, .pinned], laidTests := true, laidLooks := .later }
def VersionAsksCardSaid : Prop := Claim7.holds Tryz.pinned (.plain (OpenSpec.ofChange versionAsksSpec)) versionAsksCard

/-- THE TIED CARD OF 'cabochonlaw11.VersionLists'. -/
def versionListsCard : Claim7 := { stood := { row := versionListsRow, standIns := [], harness := (true, "3fd22dfbc03149e2bd1ec4cdd20954806b84515160ed68d8f15b504815fd55e1"), looks := true }, kinds := [], alts := [], laidByText := true, laidKinds := [.data, .data, .data, .data, .sentinel, .sentinel, .pinned], laidTests := true, laidLooks := .later }
def VersionListsCardSaid : Prop := Claim7.holds Tryz.pinned (.plain (OpenSpec.ofChange versionListsSpec)) versionListsCard

/-- THE TIED CARD OF 'cabochonlaw11.VersionSorts'. -/
def versionSortsCard : Claim7 := { stood := { row := versionSortsRow, standIns := [], harness := (true, "3fd22dfbc03149e2bd1ec4cdd20954806b84515160ed68d8f15b504815fd55e1"), looks := true }, kinds := [], alts := [], laidByText := true, laidKinds := [.data, .data, .data, .data, .sentinel, .sentinel, .pinned], laidTests := true, laidLooks := .later }
def VersionSortsCardSaid : Prop := Claim7.holds Tryz.pinned (.plain (OpenSpec.ofChange versionSortsSpec)) versionSortsCard

/-- THE SECOND FORM's CARD OF 'cabochonlaw11.VersionBumps'. -/
def versionBumpsUptoCard : Claim7 := { stood := { row := versionBumpsUptoRow, standIns := [], harness := (true, "3fd22dfbc03149e2bd1ec4cdd20954806b84515160ed68d8f15b504815fd55e1"), looks := true }, kinds := [], alts := [], laidByText := true, laidKinds := [.data, .data, .data, .data, .sentinel, .sentinel, .pinned], laidTests := true, laidLooks := .later }
def VersionBumpsUptoCardSaid : Prop := Claim7.holds Tryz.pinned (.plain (OpenSpec.upto versionBumpsSpec)) versionBumpsUptoCard

/-- THE SECOND FORM's CARD OF 'cabochonlaw11.VersionOrder'. -/
def versionOrderUptoCard : Claim7 := { stood := { row := versionOrderUptoRow, standIns := [], harness := (true, "3fd22dfbc03149e2bd1ec4cdd20954806b84515160ed68d8f15b504815fd55e1"), looks := true }, kinds := [], alts := [], laidByText := true, laidKinds := [.data, .data, .data, .data, .sentinel, .sentinel, .pinned], laidTests := true, laidLooks := .later }
def VersionOrderUptoCardSaid : Prop := Claim7.holds Tryz.pinned (.plain (OpenSpec.upto versionOrderSpec)) versionOrderUptoCard

/-- THE SECOND FORM's CARD OF 'cabochonlaw11.VersionCanon'. -/
def versionCanonUptoCard : Claim7 := { stood := { row := versionCanonUptoRow, standIns := [], harness := (true, "3fd22dfbc03149e2bd1ec4cdd20954806b84515160ed68d8f15b504815fd55e1"), looks := true }, kinds := [], alts := [], laidByText := true, laidKinds := [.data, .data, .data, .data, .sentinel, .sentinel, .pinned], laidTests := true, laidLooks := .later }
def VersionCanonUptoCardSaid : Prop := Claim7.holds Tryz.pinned (.plain (OpenSpec.upto versionCanonSpec)) versionCanonUptoCard

/-- THE SECOND FORM's CARD OF 'cabochonlaw11.VersionAsks'. -/
def versionAsksUptoCard : Claim7 := { stood := { row := versionAsksUptoRow, standIns := [], harness := (true, "3fd22dfbc03149e2bd1ec4cdd20954806b84515160ed68d8f15b504815fd55e1"), looks := true }, kinds := [], alts := [], laidByText := true, laidKinds := [.data, .data, .data, .data, .sentinel, .sentinel, .pinned], laidTests := true, laidLooks := .later }
def VersionAsksUptoCardSaid : Prop := Claim7.holds Tryz.pinned (.plain (OpenSpec.upto versionAsksSpec)) versionAsksUptoCard

/-- THE SECOND FORM's CARD OF 'cabochonlaw11.VersionLists'. -/
def versionListsUptoCard : Claim7 := { stood := { row := versionListsUptoRow, standIns := [], harness := (true, "3fd22dfbc03149e2bd1ec4cdd20954806b84515160ed68d8f15b504815fd55e1"), looks := true }, kinds := [], alts := [], laidByText := true, laidKinds := [.data, .data, .data, .data, .sentinel, .sentinel, .pinned], laidTests := true, laidLooks := .later }
def VersionListsUptoCardSaid : Prop := Claim7.holds Tryz.pinned (.plain (OpenSpec.upto versionListsSpec)) versionListsUptoCard

/-- THE SECOND FORM's CARD OF 'cabochonlaw11.VersionSorts'. -/
def versionSortsUptoCard : Claim7 := { stood := { row := versionSortsUptoRow, standIns := [], harness := (true, "3fd22dfbc03149e2bd1ec4cdd20954806b84515160ed68d8f15b504815fd55e1"), looks := true }, kinds := [], alts := [], laidByText := true, laidKinds := [.data, .data, .data, .data, .sentinel, .sentinel, .pinned], laidTests := true, laidLooks := .later }
def VersionSortsUptoCardSaid : Prop := Claim7.holds Tryz.pinned (.plain (OpenSpec.upto versionSortsSpec)) versionSortsUptoCard
end Rows
end Go.Proofs.YtjdccagkafnbfaaGreatDoor

/-
  DERIVED. GIVEN WITH THE SEED: THE CARDS: each row of YtkgmecjaejaehaaGreatDoorRows.lean that lists a variable, with what it lists TIED to the program's text (the seventh form; the later family's looks); each row that meets fmt, with fmt's text TOLD by the authors' own Lean function (tested against real Go, not proved from fmt's source: count such statements apart). THE CARD IS WHAT COUNTS. Prove the row's statement (the work); the ties are given (YtkgmecjaejaehaaGreatDoorTie.lean); close each card by the builder's one call (the guide's Derived/Test/ToyasCard.lean, 'card_holds'). Laid BY PROGRAM, IN A SANDBOX (cutbox-door.mjs). By AI agents, Wed Nov 11 2026. No macro, syntax, notation, axiom, sorry.
-/
import Derived.Test.YtkgmecjaejaehaaGreatDoorRows
import GoSem.ClaimSeven
namespace Go.Proofs.YtkgmecjaejaehaaGreatDoor
namespace Rows

/-- THE TIED CARD OF 'cabochonlaw08.JsonParses'. -/
def jsonParsesCard : Claim7 := { stood := { row := jsonParsesRow, standIns := [], harness := (true, "88a05fc15f1b15c45cc4cbec613185d29113c5f3fe561b5366dd47c1511f24d6"), looks := true }, kinds := [], alts := [], laidByText := true, laidKinds := [.data, .pinned], laidTests := true, laidLooks := .later }
def JsonParsesCardSaid : Prop := Claim7.holds Tryz.pinned (.plain (OpenSpec.ofChange jsonParsesSpec)) jsonParsesCard

/-- THE TIED CARD OF 'cabochonlaw08.JsonDeep'. -/
def jsonDeepCard : Claim7 := { stood := { row := jsonDeepRow, standIns := [], harness := (true, "88a05fc15f1b15c45cc4cbec613185d29113c5f3fe561b5366dd47c1511f24d6"), looks := true }, kinds := [], alts := [], laidByText := true, laidKinds := [.data, .pinned], laidTests := true, laidLooks := .later }
def JsonDeepCardSaid : Prop := Claim7.holds Tryz.pinned (.plain (OpenSpec.ofChange jsonDeepSpec)) jsonDeepCard

/-- THE TIED CARD OF 'cabochonlaw08.JsonQuotes'. -/
def jsonQuotesCard : Claim7 := { stood := { row := jsonQuotesRow, standIns := [], harness := (true, "88a05fc15f1b15c45cc4cbec613185d29113c5f3fe561b5366dd47c1511f24d6"), looks := true }, kinds := [], alts := [], laidByText := true, laidKinds := [.data, .pinned], laidTests := true, laidLooks := .later }
def JsonQuotesCardSaid : Prop := Claim7.holds Tryz.pinned (.plain (OpenSpec.ofChange jsonQuotesSpec)) jsonQuotesCard

/-- THE TIED CARD OF 'cabochonlaw08.JsonCanons'. -/
def jsonCanonsCard : Claim7 := { stood := { row := jsonCanonsRow, standIns := [], harness := (true, "88a05fc15f1b15c45cc4cbec613185d29113c5f3fe561b5366dd47c1511f24d6"), looks := true }, kinds := [], alts := [], laidByText := true, laidKinds := [.data, .pinned], laidTests := true, laidLooks := .later }
def JsonCanonsCardSaid : Prop := Claim7.holds Tryz.pinned (.plain (OpenSpec.ofChange jsonCanonsSpec)) jsonCanonsCard

/-- THE TIED CARD OF 'cabochonlaw08.JsonSets'. -/
def jsonSetsCard : Claim7 := { stood := { row := jsonSetsRow, standIns := [], harness := (true, "88a05fc15f1b15c45cc4cbec613185d29113c5f3fe561b5366dd47c1511f24d6"), looks := true }, kinds := [], alts := [], laidByText := true, laidKinds := [.data, .pinned], laidTests := true, laidLooks := .later }
def JsonSetsCardSaid : Prop := Claim7.holds Tryz.pinned (.plain (OpenSpec.ofChange jsonSetsSpec)) jsonSetsCard

/-- THE TIED CARD OF 'cabochonlaw08.JsonSpoilt'. -/
def jsonSpoiltCard : Claim7 := { stood := { row := jsonSpoiltRow, standIns := [], harness := (true, "88a05fc15f1b15c45cc4cbec613185d29113c5f3fe561b5366dd47c1511f24d6"), looks := true }, kinds := [], alts := [], laidByText := true, laidKinds := [.data, .pinned], laidTests := true, laidLooks := .later }
def JsonSpoiltCardSaid : Prop := Claim7.holds Tryz.pinned (.plain (OpenSpec.ofChange jsonSpoiltSpec)) jsonSpoiltCard

/-- THE TIED CARD OF 'cabochonlaw08.JsonMerges'. -/
def jsonMergesCard : Claim7 := { stood := { row := jsonMergesRow, standIns := [], harness := (true, "88a05fc15f1b15c45cc4cbec613185d29113c5f3fe561b5366dd47c1511f24d6"), looks := true }, kinds := [], alts := [], laidByText := true, laidKinds := [.data, .pinned], laidTests := true, laidLooks := .later }
def JsonMergesCardSaid : Prop := Claim7.holds Tryz.pinned (.plain (OpenSpec.ofChange jsonMergesSpec)) jsonMergesCard

/-- THE TIED CARD OF 'cabochonlaw08.JsonDiffs'. -/
def jsonDiffsCard : Claim7 := { stood := { row := jsonDiffsRow, standIns := [], harness := (true, "88a05fc15f1b15c45cc4cbec613185d29113c5f3fe561b5366dd47c1511f24d6"), looks := true }, kinds := [], alts := [], laidByText := true, laidKinds := [.data, .pinned], laidTests := true, laidLooks := .later }
def JsonDiffsCardSaid : Prop := Claim7.holds Tryz.pinned (.plain (OpenSpec.ofChange jsonDiffsSpec)) jsonDiffsCard

/-- THE TIED CARD OF 'cabochonlaw08.JsonPoints'. -/
def jsonPointsCard : Claim7 := { stood := { row := jsonPointsRow, standIns := [], harness := (true, "88a05fc15f1b15c45cc4cbec613185d29113c5f3fe561b5366dd47c1511f24d6"), looks := true }, kinds := [], alts := [], laidByText := true, laidKinds := [.data, .pinned], laidTests := true, laidLooks := .later }
def JsonPointsCardSaid : Prop := Claim7.holds Tryz.pinned (.plain (OpenSpec.ofChange jsonPointsSpec)) jsonPointsCard

/-- THE TIED CARD OF 'cabochonlaw08.JsonWrites'. -/
def jsonWritesCard : Claim7 := { stood := { row := jsonWritesRow, standIns := [], harness := (true, "88a05fc15f1b15c45cc4cbec613185d29113c5f3fe561b5366dd47c1511f24d6"), looks := true }, kinds := [], alts := [], laidByText := true, laidKinds := [.data, .pinned], laidTests := true, laidLooks := .later }
def JsonWritesCardSaid : Prop := Claim7.holds Tryz.pinned (.plain (OpenSpec.ofChange jsonWritesSpec)) jsonWritesCard

/-- THE SECOND FORM's CARD OF 'cabochonlaw08.JsonParses'. -/
def jsonParsesUptoCard : Claim7 := { stood := { row := jsonParsesUptoRow, standIns := [], harness := (true, "88a05fc15f1b15c45cc4cbec613185d29113c5f3fe561b5366dd47c1511f24d6"), looks := true }, kinds := [], alts := [], laidByText := true, laidKinds := [.data, .pinned], laidTests := true, laidLooks := .later }
def JsonParsesUptoCardSaid : Prop := Claim7.holds Tryz.pinned (.plain (OpenSpec.upto jsonParsesSpec)) jsonParsesUptoCard

/-- THE SECOND FORM's CARD OF 'cabochonlaw08.JsonDeep'. -/
def jsonDeepUptoCard : Claim7 := { stood := { row := jsonDeepUptoRow, standIns := [], harness := (true, "88a05fc15f1b15c45cc4cbec613185d29113c5f3fe561b5366dd47c1511f24d6"), looks := true }, kinds := [], alts := [], laidByText := true, laidKinds := [.data, .pinned], laidTests := true, laidLooks := .later }
def JsonDeepUptoCardSaid : Prop := Claim7.holds Tryz.pinned (.plain (OpenSpec.upto jsonDeepSpec)) jsonDeepUptoCard

/-- THE SECOND FORM's CARD OF 'cabochonlaw08.JsonQuotes'. -/
def jsonQuotesUptoCard : Claim7 := { stood := { row := jsonQuotesUptoRow, standIns := [], harness := (true, "88a05fc15f1b15c45cc4cbec613185d29113c5f3fe561b5366dd47c1511f24d6"), looks := true }, kinds := [], alts := [], laidByText := true, laidKinds := [.data, .pinned], laidTests := true, laidLooks := .later }
def JsonQuotesUptoCardSaid : Prop := Claim7.holds Tryz.pinned (.plain (OpenSpec.upto jsonQuotesSpec)) jsonQuotesUptoCard

/-- THE SECOND FORM's CARD OF 'cabochonlaw08.JsonCanons'. -/
def jsonCanonsUptoCard : Claim7 := { stood := { row := jsonCanonsUptoRow, standIns := [], harness := (true, "88a05fc15f1b15c45cc4cbec613185d29113c5f3fe561b5366dd47c1511f24d6"), looks := true }, kinds := [], alts := [], laidByText := true, laidKinds := [.data, .pinned], laidTests := true, laidLooks := .later }
def JsonCanonsUptoCardSaid : Prop := Claim7.holds Tryz.pinned (.plain (OpenSpec.upto jsonCanonsSpec)) jsonCanonsUptoCard

/-- THE SECOND FORM's CARD OF 'cabochonlaw08.JsonSets'. -/
def jsonSetsUptoCard : Claim7 := { stood := { row := jsonSetsUptoRow, standIns := [], harness := (true, "88a05fc15f1b15c45cc4cbec613185d29113c5f3fe561b5366dd47c1511f24d6"), looks := true }, kinds := [], alts := [], laidByText := true, laidKinds := [.data, .pinned], laidTests := true, laidLooks := .later }
def JsonSetsUptoCardSaid : Prop := Claim7.holds Tryz.pinned (.plain (OpenSpec.upto jsonSetsSpec)) jsonSetsUptoCard

/-- THE SECOND FORM's CARD OF 'cabochonlaw08.JsonSpoilt'. -/
def jsonSpoiltUptoCard : Claim7 := { stood := { row := jsonSpoiltUptoRow, standIns := [], harness := (true, "88a05fc15f1b15c45cc4cbec613185d29113c5f3fe561b5366dd47c1511f24d6"), looks := true }, kinds := [], alts := [], laidByText := true, laidKinds := [.data, .pinned], laidTests := true, laidLooks := .later }
def JsonSpoiltUptoCardSaid : Prop := Claim7.holds Tryz.pinned (.plain (OpenSpec.upto jsonSpoiltSpec)) jsonSpoiltUptoCard

/-- THE SECOND FORM's CARD OF 'cabochonlaw08.JsonMerges'. -/
def jsonMergesUptoCard : Claim7 := { stood := { row := jsonMergesUptoRow, standIns := [], harness := (true, "88a05fc15f1b15c45cc4cbec613185d29113c5f3fe561b5366dd47c1511f24d6"), looks := true }, kinds := [], alts := [], laidByText := true, laidKinds := [.data, .pinned], laidTests := true, laidLooks := .later }
def JsonMergesUptoCardSaid : Prop := Claim7.holds Tryz.pinned (.plain (OpenSpec.upto jsonMergesSpec)) jsonMergesUptoCard

/-- THE SECOND FORM's CARD OF 'cabochonlaw08.JsonDiffs'. -/
def jsonDiffsUptoCard : Claim7 := { stood := { row := jsonDiffsUptoRow, standIns := [], harness := (true, "88a05fc15f1b15c45cc4cbec613185d29113c5f3fe561b5366dd47c1511f24d6"), looks := true }, kinds := [], alts := [], laidByText := true, laidKinds := [.data, .pinned], laidTests := true, laidLooks := .later }
def JsonDiffsUptoCardSaid : Prop := Claim7.holds Tryz.pinned (.plain (OpenSpec.upto jsonDiffsSpec)) jsonDiffsUptoCard

/-- THE SECOND FORM's CARD OF 'cabochonlaw08.JsonPoints'. -/
def jsonPointsUptoCard : Claim7 := { stood := { row := jsonPointsUptoRow, standIns := [], harness := (true, "88a05fc15f1b15c45cc4cbec613185d29113c5f3fe561b5366dd47c1511f24d6"), looks := true }, kinds := [], alts := [], laidByText := true, laidKinds := [.data, .pinned], laidTests := true, laidLooks := .later }
def JsonPointsUptoCardSaid : Prop := Claim7.holds Tryz.pinned (.plain (OpenSpec.upto jsonPointsSpec)) jsonPointsUptoCard

/-- THE SECOND FORM's CARD OF 'cabochonlaw08.JsonWrites'. -/
def jsonWritesUptoCard : Claim7 := { stood := { row := jsonWritesUptoRow, standIns := [], harness := (true, "88a05fc15f1b15c45cc4cbec613185d29113c5f3fe561b5366dd47c1511f24d6"), looks := true }, kinds := [], alts := [], laidByText := true, laidKinds := [.data, .pinned], laidTests := true, laidLooks := .later }
def JsonWritesUptoCardSaid : Prop := Claim7.holds Tryz.pinned (.plain (OpenSpec.upto jsonWritesSpec)) jsonWritesUptoCard
end Rows
end Go.Proofs.YtkgmecjaejaehaaGreatDoor

/-
  DERIVED. GIVEN WITH THE SEED: THE CARDS: each row of YteekfnhhlcmcgaaGreatDoorRows.lean that lists a variable, with what it lists TIED to the program's text (the seventh form; the later family's looks); each row that meets fmt, with fmt's text TOLD by the authors' own Lean function (tested against real Go, not proved from fmt's source: count such statements apart). THE CARD IS WHAT COUNTS. Prove the row's statement (the work); the ties are given (YteekfnhhlcmcgaaGreatDoorTie.lean); close each card by the builder's one call (the guide's Derived/Test/ToyasCard.lean, 'card_holds'). Laid BY PROGRAM, IN A SANDBOX (cutbox-door.mjs). By AI agents, Wed Nov 11 2026. No macro, syntax, notation, axiom, sorry.
-/
import Derived.Test.YteekfnhhlcmcgaaGreatDoorRows
import GoSem.ClaimSeven
namespace Go.Proofs.YteekfnhhlcmcgaaGreatDoor
namespace Rows

/-- THE TIED CARD OF 'cabochonlaw12.ResolveFirst'. -/
def resolveFirstCard : Claim7 := { stood := { row := resolveFirstRow, standIns := [], harness := (true, "76850a4d2dff49a26d415191adefbc5b9c05272ba8f1ee206084b76bcb00e786"), looks := true }, kinds := [], alts := [], laidByText := true, laidKinds := [.data, .data, .data, .data, .sentinel, .sentinel, .pinned], laidTests := true, laidLooks := .later }
def ResolveFirstCardSaid : Prop := Claim7.holds Tryz.pinned (.plain (OpenSpec.ofChange resolveFirstSpec)) resolveFirstCard

/-- THE TIED CARD OF 'cabochonlaw13.LockDiffs'. -/
def lockDiffsCard : Claim7 := { stood := { row := lockDiffsRow, standIns := [], harness := (true, "76850a4d2dff49a26d415191adefbc5b9c05272ba8f1ee206084b76bcb00e786"), looks := true }, kinds := [], alts := [], laidByText := true, laidKinds := [.data, .data, .data, .data, .sentinel, .sentinel, .pinned], laidTests := true, laidLooks := .later }
def LockDiffsCardSaid : Prop := Claim7.holds Tryz.pinned (.plain (OpenSpec.ofChange lockDiffsSpec)) lockDiffsCard

/-- THE TIED CARD OF 'cabochonlaw12.ResolveWhy'. -/
def resolveWhyCard : Claim7 := { stood := { row := resolveWhyRow, standIns := [], harness := (true, "76850a4d2dff49a26d415191adefbc5b9c05272ba8f1ee206084b76bcb00e786"), looks := true }, kinds := [], alts := [], laidByText := true, laidKinds := [.data, .data, .data, .data, .sentinel, .sentinel, .pinned], laidTests := true, laidLooks := .later }
def ResolveWhyCardSaid : Prop := Claim7.holds Tryz.pinned (.plain (OpenSpec.ofChange resolveWhySpec)) resolveWhyCard

/-- THE TIED CARD OF 'cabochonlaw12.ResolveSolves'. -/
def resolveSolvesCard : Claim7 := { stood := { row := resolveSolvesRow, standIns := [], harness := (true, "76850a4d2dff49a26d415191adefbc5b9c05272ba8f1ee206084b76bcb00e786"), looks := true }, kinds := [], alts := [], laidByText := true, laidKinds := [.data, .data, .data, .data, .sentinel, .sentinel, .pinned], laidTests := true, laidLooks := .later }
def ResolveSolvesCardSaid : Prop := Claim7.holds Tryz.pinned (.plain (OpenSpec.ofChange resolveSolvesSpec)) resolveSolvesCard

/-- THE TIED CARD OF 'cabochonlaw12.ResolveOrders'. -/
def resolveOrdersCard : Claim7 := { stood := { row := resolveOrdersRow, standIns := [], harness := (true, "76850a4d2dff49a26d415191adefbc5b9c05272ba8f1ee206084b76bcb00e786"), looks := true }, kinds := [], alts := [], laidByText := true, laidKinds := [.data, .data, .data, .data, .sentinel, .sentinel, .pinned], laidTests := true, laidLooks := .later }
def ResolveOrdersCardSaid : Prop := Claim7.holds Tryz.pinned (.plain (OpenSpec.ofChange resolveOrdersSpec)) resolveOrdersCard

/-- THE TIED CARD OF 'cabochonlaw12.ResolveAll'. -/
def resolveAllCard : Claim7 := { stood := { row := resolveAllRow, standIns := [], harness := (true, "76850a4d2dff49a26d415191adefbc5b9c05272ba8f1ee206084b76bcb00e786"), looks := true }, kinds := [], alts := [], laidByText := true, laidKinds := [.data, .data, .data, .data, .sentinel, .sentinel, .pinned], laidTests := true, laidLooks := .later }
def ResolveAllCardSaid : Prop := Claim7.holds Tryz.pinned (.plain (OpenSpec.ofChange resolveAllSpec)) resolveAllCard

/-- THE TIED CARD OF 'cabochonlaw12.ResolveIs'. -/
def resolveIsCard : Claim7 := { stood := { row := resolveIsRow, standIns := [], harness := (true, "76850a4d2dff49a26d415191adefbc5b9c05272ba8f1ee206084b76bcb00e786"), looks := true }, kinds := [], alts := [], laidByText := true, laidKinds := [.data, .data, .data, .data, .sentinel, .sentinel, .pinned], laidTests := true, laidLooks := .later }
def ResolveIsCardSaid : Prop := Claim7.holds Tryz.pinned (.plain (OpenSpec.ofChange resolveIsSpec)) resolveIsCard

/-- THE TIED CARD OF 'cabochonlaw12.ResolveAsks'. -/
def resolveAsksCard : Claim7 := { stood := { row := resolveAsksRow, standIns := [], harness := (true, "76850a4d2dff49a26d415191adefbc5b9c05272ba8f1ee206084b76bcb00e786"), looks := true }, kinds := [], alts := [], laidByText := true, laidKinds := [.data, .data, .data, .data, .sentinel, .sentinel, .pinned], laidTests := true, laidLooks := .later }
def ResolveAsksCardSaid : Prop := Claim7.holds Tryz.pinned (.plain (OpenSpec.ofChange resolveAsksSpec)) resolveAsksCard

/-- THE TIED CARD OF 'cabochonlaw13.LockSolves'. -/
def lockSolvesCard : Claim7 := { stood := { row := lockSolvesRow, standIns := [], harness := (true, "76850a4d2dff49a26d415191adefbc5b9c05272ba8f1ee206084b76bcb00e786"), looks := true }, kinds := [], alts := [], laidByText := true, laidKinds := [.data, .data, .data, .data, .sentinel, .sentinel, .pinned], laidTests := true, laidLooks := .later }
def LockSolvesCardSaid : Prop := Claim7.holds Tryz.pinned (.plain (OpenSpec.ofChange lockSolvesSpec)) lockSolvesCard

/-- THE TIED CARD OF 'cabochonlaw13.LockKeeps'. -/
def lockKeepsCard : Claim7 := { stood := { row := lockKeepsRow, standIns := [], harness := (true, "76850a4d2dff49a26d415191adefbc5b9c05272ba8f1ee206084b76bcb00e786"), looks := true }, kinds := [], alts := [], laidByText := true, laidKinds := [.data, .data, .data, .data, .sentinel, .sentinel, .pinned], laidTests := true, laidLooks := .later }
def LockKeepsCardSaid : Prop := Claim7.holds Tryz.pinned (.plain (OpenSpec.ofChange lockKeepsSpec)) lockKeepsCard

/-- THE SECOND FORM's CARD OF 'cabochonlaw12.ResolveFirst'. -/
def resolveFirstUptoCard : Claim7 := { stood := { row := resolveFirstUptoRow, standIns := [], harness := (true, "76850a4d2dff49a26d415191adefbc5b9c05272ba8f1ee206084b76bcb00e786"), looks := true }, kinds := [], alts := [], laidByText := true, laidKinds := [.data, .data, .data, .data, .sentinel, .sentinel, .pinned], laidTests := true, laidLooks := .later }
def ResolveFirstUptoCardSaid : Prop := Claim7.holds Tryz.pinned (.plain (OpenSpec.upto resolveFirstSpec)) resolveFirstUptoCard

/-- THE SECOND FORM's CARD OF 'cabochonlaw13.LockDiffs'. -/
def lockDiffsUptoCard : Claim7 := { stood := { row := lockDiffsUptoRow, standIns := [], harness := (true, "76850a4d2dff49a26d415191adefbc5b9c05272ba8f1ee206084b76bcb00e786"), looks := true }, kinds := [], alts := [], laidByText := true, laidKinds := [.data, .data, .data, .data, .sentinel, .sentinel, .pinned], laidTests := true, laidLooks := .later }
def LockDiffsUptoCardSaid : Prop := Claim7.holds Tryz.pinned (.plain (OpenSpec.upto lockDiffsSpec)) lockDiffsUptoCard

/-- THE SECOND FORM's CARD OF 'cabochonlaw12.ResolveWhy'. -/
def resolveWhyUptoCard : Claim7 := { stood := { row := resolveWhyUptoRow, standIns := [], harness := (true, "76850a4d2dff49a26d415191adefbc5b9c05272ba8f1ee206084b76bcb00e786"), looks := true }, kinds := [], alts := [], laidByText := true, laidKinds := [.data, .data, .data, .data, .sentinel, .sentinel, .pinned], laidTests := true, laidLooks := .later }
def ResolveWhyUptoCardSaid : Prop := Claim7.holds Tryz.pinned (.plain (OpenSpec.upto resolveWhySpec)) resolveWhyUptoCard

/-- THE SECOND FORM's CARD OF 'cabochonlaw12.ResolveSolves'. -/
def resolveSolvesUptoCard : Claim7 := { stood := { row := resolveSolvesUptoRow, standIns := [], harness := (true, "76850a4d2dff49a26d415191adefbc5b9c05272ba8f1ee206084b76bcb00e786"), looks := true }, kinds := [], alts := [], laidByText := true, laidKinds := [.data, .data, .data, .data, .sentinel, .sentinel, .pinned], laidTests := true, laidLooks := .later }
def ResolveSolvesUptoCardSaid : Prop := Claim7.holds Tryz.pinned (.plain (OpenSpec.upto resolveSolvesSpec)) resolveSolvesUptoCard

/-- THE SECOND FORM's CARD OF 'cabochonlaw12.ResolveOrders'. -/
def resolveOrdersUptoCard : Claim7 := { stood := { row := resolveOrdersUptoRow, standIns := [], harness := (true, "76850a4d2dff49a26d415191adefbc5b9c05272ba8f1ee206084b76bcb00e786"), looks := true }, kinds := [], alts := [], laidByText := true, laidKinds := [.data, .data, .data, .data, .sentinel, .sentinel, .pinned], laidTests := true, laidLooks := .later }
def ResolveOrdersUptoCardSaid : Prop := Claim7.holds Tryz.pinned (.plain (OpenSpec.upto resolveOrdersSpec)) resolveOrdersUptoCard

/-- THE SECOND FORM's CARD OF 'cabochonlaw12.ResolveAll'. -/
def resolveAllUptoCard : Claim7 := { stood := { row := resolveAllUptoRow, standIns := [], harness := (true, "76850a4d2dff49a26d415191adefbc5b9c05272ba8f1ee206084b76bcb00e786"), looks := true }, kinds := [], alts := [], laidByText := true, laidKinds := [.data, .data, .data, .data, .sentinel, .sentinel, .pinned], laidTests := true, laidLooks := .later }
def ResolveAllUptoCardSaid : Prop := Claim7.holds Tryz.pinned (.plain (OpenSpec.upto resolveAllSpec)) resolveAllUptoCard

/-- THE SECOND FORM's CARD OF 'cabochonlaw12.ResolveIs'. -/
def resolveIsUptoCard : Claim7 := { stood := { row := resolveIsUptoRow, standIns := [], harness := (true, "76850a4d2dff49a26d415191adefbc5b9c05272ba8f1ee206084b76bcb00e786"), looks := true }, kinds := [], alts := [], laidByText := true, laidKinds := [.data, .data, .data, .data, .sentinel, .sentinel, .pinned], laidTests := true, laidLooks := .later }
def ResolveIsUptoCardSaid : Prop := Claim7.holds Tryz.pinned (.plain (OpenSpec.upto resolveIsSpec)) resolveIsUptoCard

/-- THE SECOND FORM's CARD OF 'cabochonlaw12.ResolveAsks'. -/
def resolveAsksUptoCard : Claim7 := { stood := { row := resolveAsksUptoRow, standIns := [], harness := (true, "76850a4d2dff49a26d415191adefbc5b9c05272ba8f1ee206084b76bcb00e786"), looks := true }, kinds := [], alts := [], laidByText := true, laidKinds := [.data, .data, .data, .data, .sentinel, .sentinel, .pinned], laidTests := true, laidLooks := .later }
def ResolveAsksUptoCardSaid : Prop := Claim7.holds Tryz.pinned (.plain (OpenSpec.upto resolveAsksSpec)) resolveAsksUptoCard

/-- THE SECOND FORM's CARD OF 'cabochonlaw13.LockSolves'. -/
def lockSolvesUptoCard : Claim7 := { stood := { row := lockSolvesUptoRow, standIns := [], harness := (true, "76850a4d2dff49a26d415191adefbc5b9c05272ba8f1ee206084b76bcb00e786"), looks := true }, kinds := [], alts := [], laidByText := true, laidKinds := [.data, .data, .data, .data, .sentinel, .sentinel, .pinned], laidTests := true, laidLooks := .later }
def LockSolvesUptoCardSaid : Prop := Claim7.holds Tryz.pinned (.plain (OpenSpec.upto lockSolvesSpec)) lockSolvesUptoCard

/-- THE SECOND FORM's CARD OF 'cabochonlaw13.LockKeeps'. -/
def lockKeepsUptoCard : Claim7 := { stood := { row := lockKeepsUptoRow, standIns := [], harness := (true, "76850a4d2dff49a26d415191adefbc5b9c05272ba8f1ee206084b76bcb00e786"), looks := true }, kinds := [], alts := [], laidByText := true, laidKinds := [.data, .data, .data, .data, .sentinel, .sentinel, .pinned], laidTests := true, laidLooks := .later }
def LockKeepsUptoCardSaid : Prop := Claim7.holds Tryz.pinned (.plain (OpenSpec.upto lockKeepsSpec)) lockKeepsUptoCard
end Rows
end Go.Proofs.YteekfnhhlcmcgaaGreatDoor

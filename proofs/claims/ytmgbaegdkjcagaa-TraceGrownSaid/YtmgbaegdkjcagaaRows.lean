/-
  No cell of these rows narrows 'for every input' (looked for: loops, veiled, ifaces, maps, wideKeys, modest, calm, conditions, laid).
  DERIVED. THE GIVEN ROWS OF THIS SEAT. 11 by the template 'for every input the law returns true; each argument reads behind the call as it read before'; 0 by the template 'total and deterministic' (their statements: YtmgbaegdkjcagaaTotals.lean).
  GIVEN WITH THE SEED: the statements are not yours to turn. If you find one false, say at which input.
  Laid BY PROGRAM, IN A SANDBOX (cutbox-rows.mjs): the forced cells as the released guide's own fill.sh prints them over the translation c9e9817fc80d9813… (all of the seat's roots in one cut). By AI agents, Wed Nov 11 2026. No macro, syntax, notation, axiom, sorry.
-/
import Derived.Test.YtmgbaegdkjcagaaChecked
import GoSem.Claim
import GoSem.ClaimJoined
import GoSem.ClaimMapViews
import Derived.JoinedTies
import Derived.KernelRfl
namespace Go.Proofs.Ytmgbaegdkjcagaa
/- THE CELL 'sum', in the pinned program and in every row, IS THE sha256 OF THE DUMP (.gsa) THAT YtmgbaegdkjcagaaProg.lean LOADS. Nothing in Lean hashes anything: it is a label: what it is worth is what the hold of that sum in a sandbox is worth. -/
noncomputable def Try.pinned : Pinned := { name := "ytmgbaegdkjcagaa", sum := "c9e9817fc80d9813adf13f4be5ad813d9659550f9dcf93940af30fd9dad990b5", checked := Try.checked }
namespace Rows
def none {H : Type} : Left H := { results := [], args := [] }

/-- 'cabochonlaw26.TraceRuns': WHATEVER THE INPUT: true; the input reads as it did. -/
def traceRunsSpec : ChangeSpec := { name := "traceRuns", fn := fun _ => fun
  | [d1, d2, d3] => { results := [.lit (.bool true)], args := [d1, d2, d3] }
  | _ => none }
def traceRunsRow : OpenClaim := { program := "ytmgbaegdkjcagaa", sum := "c9e9817fc80d9813adf13f4be5ad813d9659550f9dcf93940af30fd9dad990b5", func := "cabochon/cabochonlaw26.TraceRuns", spec := "traceRuns", inPlace := ["internal/bytealg.IndexByteString", "internal/bytealg.IndexString"], unfollowed := true, recurses := true, named := ["internal/bytealg.MaxLen"], apart := false }
def TraceRunsSaid : Prop := traceRunsRow.holds Try.pinned (OpenSpec.ofChange traceRunsSpec)

/-- ITS FALSE NEIGHBOUR: 'it returns false'. Refute it at one input. -/
def traceRunsWrong : ChangeSpec := { name := "traceRuns", fn := fun _ => fun
  | [d1, d2, d3] => { results := [.lit (.bool false)], args := [d1, d2, d3] }
  | _ => none }
def TraceRunsWrongFalsely : Prop := traceRunsRow.holds Try.pinned (OpenSpec.ofChange traceRunsWrong)

/-- 'cabochonlaw26.TraceFuel': WHATEVER THE INPUT: true; the input reads as it did. -/
def traceFuelSpec : ChangeSpec := { name := "traceFuel", fn := fun _ => fun
  | [d1, d2, d3] => { results := [.lit (.bool true)], args := [d1, d2, d3] }
  | _ => none }
def traceFuelRow : OpenClaim := { program := "ytmgbaegdkjcagaa", sum := "c9e9817fc80d9813adf13f4be5ad813d9659550f9dcf93940af30fd9dad990b5", func := "cabochon/cabochonlaw26.TraceFuel", spec := "traceFuel", inPlace := ["internal/bytealg.IndexByteString", "internal/bytealg.IndexString"], unfollowed := true, recurses := true, named := ["internal/bytealg.MaxLen"], apart := false }
def TraceFuelSaid : Prop := traceFuelRow.holds Try.pinned (OpenSpec.ofChange traceFuelSpec)

/-- ITS FALSE NEIGHBOUR: 'it returns false'. Refute it at one input. -/
def traceFuelWrong : ChangeSpec := { name := "traceFuel", fn := fun _ => fun
  | [d1, d2, d3] => { results := [.lit (.bool false)], args := [d1, d2, d3] }
  | _ => none }
def TraceFuelWrongFalsely : Prop := traceFuelRow.holds Try.pinned (OpenSpec.ofChange traceFuelWrong)

/-- 'cabochonlaw26.TraceSteady': WHATEVER THE INPUT: true; the input reads as it did. -/
def traceSteadySpec : ChangeSpec := { name := "traceSteady", fn := fun _ => fun
  | [d1, d2, d3] => { results := [.lit (.bool true)], args := [d1, d2, d3] }
  | _ => none }
def traceSteadyRow : OpenClaim := { program := "ytmgbaegdkjcagaa", sum := "c9e9817fc80d9813adf13f4be5ad813d9659550f9dcf93940af30fd9dad990b5", func := "cabochon/cabochonlaw26.TraceSteady", spec := "traceSteady", inPlace := ["internal/bytealg.IndexByteString", "internal/bytealg.IndexString"], unfollowed := true, recurses := true, named := ["internal/bytealg.MaxLen"], apart := false }
def TraceSteadySaid : Prop := traceSteadyRow.holds Try.pinned (OpenSpec.ofChange traceSteadySpec)

/-- ITS FALSE NEIGHBOUR: 'it returns false'. Refute it at one input. -/
def traceSteadyWrong : ChangeSpec := { name := "traceSteady", fn := fun _ => fun
  | [d1, d2, d3] => { results := [.lit (.bool false)], args := [d1, d2, d3] }
  | _ => none }
def TraceSteadyWrongFalsely : Prop := traceSteadyRow.holds Try.pinned (OpenSpec.ofChange traceSteadyWrong)

/-- 'cabochonlaw26.TraceFolds': WHATEVER THE INPUT: true; the input reads as it did. -/
def traceFoldsSpec : ChangeSpec := { name := "traceFolds", fn := fun _ => fun
  | [d] => { results := [.lit (.bool true)], args := [d] }
  | _ => none }
def traceFoldsRow : OpenClaim := { program := "ytmgbaegdkjcagaa", sum := "c9e9817fc80d9813adf13f4be5ad813d9659550f9dcf93940af30fd9dad990b5", func := "cabochon/cabochonlaw26.TraceFolds", spec := "traceFolds", inPlace := ["internal/bytealg.IndexByteString", "internal/bytealg.IndexString"], unfollowed := true, recurses := true, named := ["internal/bytealg.MaxLen"], apart := false }
def TraceFoldsSaid : Prop := traceFoldsRow.holds Try.pinned (OpenSpec.ofChange traceFoldsSpec)

/-- ITS FALSE NEIGHBOUR: 'it returns false'. Refute it at one input. -/
def traceFoldsWrong : ChangeSpec := { name := "traceFolds", fn := fun _ => fun
  | [d] => { results := [.lit (.bool false)], args := [d] }
  | _ => none }
def TraceFoldsWrongFalsely : Prop := traceFoldsRow.holds Try.pinned (OpenSpec.ofChange traceFoldsWrong)

/-- 'cabochonlaw26.TraceFolded': WHATEVER THE INPUT: true; the input reads as it did. -/
def traceFoldedSpec : ChangeSpec := { name := "traceFolded", fn := fun _ => fun
  | [d1, d2] => { results := [.lit (.bool true)], args := [d1, d2] }
  | _ => none }
def traceFoldedRow : OpenClaim := { program := "ytmgbaegdkjcagaa", sum := "c9e9817fc80d9813adf13f4be5ad813d9659550f9dcf93940af30fd9dad990b5", func := "cabochon/cabochonlaw26.TraceFolded", spec := "traceFolded", inPlace := ["internal/bytealg.IndexByteString", "internal/bytealg.IndexString"], unfollowed := true, recurses := true, named := ["internal/bytealg.MaxLen"], apart := false }
def TraceFoldedSaid : Prop := traceFoldedRow.holds Try.pinned (OpenSpec.ofChange traceFoldedSpec)

/-- ITS FALSE NEIGHBOUR: 'it returns false'. Refute it at one input. -/
def traceFoldedWrong : ChangeSpec := { name := "traceFolded", fn := fun _ => fun
  | [d1, d2] => { results := [.lit (.bool false)], args := [d1, d2] }
  | _ => none }
def TraceFoldedWrongFalsely : Prop := traceFoldedRow.holds Try.pinned (OpenSpec.ofChange traceFoldedWrong)

/-- 'cabochonlaw26.TraceDead': WHATEVER THE INPUT: true; the input reads as it did. -/
def traceDeadSpec : ChangeSpec := { name := "traceDead", fn := fun _ => fun
  | [d1, d2, d3] => { results := [.lit (.bool true)], args := [d1, d2, d3] }
  | _ => none }
def traceDeadRow : OpenClaim := { program := "ytmgbaegdkjcagaa", sum := "c9e9817fc80d9813adf13f4be5ad813d9659550f9dcf93940af30fd9dad990b5", func := "cabochon/cabochonlaw26.TraceDead", spec := "traceDead", inPlace := ["internal/bytealg.IndexByteString", "internal/bytealg.IndexString"], unfollowed := true, recurses := true, named := ["internal/bytealg.MaxLen"], apart := false }
def TraceDeadSaid : Prop := traceDeadRow.holds Try.pinned (OpenSpec.ofChange traceDeadSpec)

/-- ITS FALSE NEIGHBOUR: 'it returns false'. Refute it at one input. -/
def traceDeadWrong : ChangeSpec := { name := "traceDead", fn := fun _ => fun
  | [d1, d2, d3] => { results := [.lit (.bool false)], args := [d1, d2, d3] }
  | _ => none }
def TraceDeadWrongFalsely : Prop := traceDeadRow.holds Try.pinned (OpenSpec.ofChange traceDeadWrong)

/-- 'cabochonlaw26.TraceMatters': WHATEVER THE INPUT: true; the input reads as it did. -/
def traceMattersSpec : ChangeSpec := { name := "traceMatters", fn := fun _ => fun
  | [d1, d2, d3] => { results := [.lit (.bool true)], args := [d1, d2, d3] }
  | _ => none }
def traceMattersRow : OpenClaim := { program := "ytmgbaegdkjcagaa", sum := "c9e9817fc80d9813adf13f4be5ad813d9659550f9dcf93940af30fd9dad990b5", func := "cabochon/cabochonlaw26.TraceMatters", spec := "traceMatters", inPlace := ["internal/bytealg.IndexByteString", "internal/bytealg.IndexString"], unfollowed := true, recurses := true, named := ["internal/bytealg.MaxLen"], apart := false }
def TraceMattersSaid : Prop := traceMattersRow.holds Try.pinned (OpenSpec.ofChange traceMattersSpec)

/-- ITS FALSE NEIGHBOUR: 'it returns false'. Refute it at one input. -/
def traceMattersWrong : ChangeSpec := { name := "traceMatters", fn := fun _ => fun
  | [d1, d2, d3] => { results := [.lit (.bool false)], args := [d1, d2, d3] }
  | _ => none }
def TraceMattersWrongFalsely : Prop := traceMattersRow.holds Try.pinned (OpenSpec.ofChange traceMattersWrong)

/-- 'cabochonlaw26.TraceLives': WHATEVER THE INPUT: true; the input reads as it did. -/
def traceLivesSpec : ChangeSpec := { name := "traceLives", fn := fun _ => fun
  | [d] => { results := [.lit (.bool true)], args := [d] }
  | _ => none }
def traceLivesRow : OpenClaim := { program := "ytmgbaegdkjcagaa", sum := "c9e9817fc80d9813adf13f4be5ad813d9659550f9dcf93940af30fd9dad990b5", func := "cabochon/cabochonlaw26.TraceLives", spec := "traceLives", inPlace := ["internal/bytealg.IndexByteString", "internal/bytealg.IndexString"], unfollowed := true, recurses := true, named := ["internal/bytealg.MaxLen"], apart := false }
def TraceLivesSaid : Prop := traceLivesRow.holds Try.pinned (OpenSpec.ofChange traceLivesSpec)

/-- ITS FALSE NEIGHBOUR: 'it returns false'. Refute it at one input. -/
def traceLivesWrong : ChangeSpec := { name := "traceLives", fn := fun _ => fun
  | [d] => { results := [.lit (.bool false)], args := [d] }
  | _ => none }
def TraceLivesWrongFalsely : Prop := traceLivesRow.holds Try.pinned (OpenSpec.ofChange traceLivesWrong)

/-- 'cabochonlaw26.TraceBetter': WHATEVER THE INPUT: true; the input reads as it did. -/
def traceBetterSpec : ChangeSpec := { name := "traceBetter", fn := fun _ => fun
  | [d1, d2] => { results := [.lit (.bool true)], args := [d1, d2] }
  | _ => none }
def traceBetterRow : OpenClaim := { program := "ytmgbaegdkjcagaa", sum := "c9e9817fc80d9813adf13f4be5ad813d9659550f9dcf93940af30fd9dad990b5", func := "cabochon/cabochonlaw26.TraceBetter", spec := "traceBetter", inPlace := ["internal/bytealg.IndexByteString", "internal/bytealg.IndexString"], unfollowed := true, recurses := true, named := ["internal/bytealg.MaxLen"], apart := false }
def TraceBetterSaid : Prop := traceBetterRow.holds Try.pinned (OpenSpec.ofChange traceBetterSpec)

/-- ITS FALSE NEIGHBOUR: 'it returns false'. Refute it at one input. -/
def traceBetterWrong : ChangeSpec := { name := "traceBetter", fn := fun _ => fun
  | [d1, d2] => { results := [.lit (.bool false)], args := [d1, d2] }
  | _ => none }
def TraceBetterWrongFalsely : Prop := traceBetterRow.holds Try.pinned (OpenSpec.ofChange traceBetterWrong)

/-- 'cabochonlaw26.TraceBetters': WHATEVER THE INPUT: true; the input reads as it did. -/
def traceBettersSpec : ChangeSpec := { name := "traceBetters", fn := fun _ => fun
  | [d1, d2, d3] => { results := [.lit (.bool true)], args := [d1, d2, d3] }
  | _ => none }
def traceBettersRow : OpenClaim := { program := "ytmgbaegdkjcagaa", sum := "c9e9817fc80d9813adf13f4be5ad813d9659550f9dcf93940af30fd9dad990b5", func := "cabochon/cabochonlaw26.TraceBetters", spec := "traceBetters", inPlace := ["internal/bytealg.IndexByteString", "internal/bytealg.IndexString"], unfollowed := true, recurses := true, named := ["internal/bytealg.MaxLen"], apart := false }
def TraceBettersSaid : Prop := traceBettersRow.holds Try.pinned (OpenSpec.ofChange traceBettersSpec)

/-- ITS FALSE NEIGHBOUR: 'it returns false'. Refute it at one input. -/
def traceBettersWrong : ChangeSpec := { name := "traceBetters", fn := fun _ => fun
  | [d1, d2, d3] => { results := [.lit (.bool false)], args := [d1, d2, d3] }
  | _ => none }
def TraceBettersWrongFalsely : Prop := traceBettersRow.holds Try.pinned (OpenSpec.ofChange traceBettersWrong)

/-- 'cabochonlaw26.TraceGrown': WHATEVER THE INPUT: true; the input reads as it did. -/
def traceGrownSpec : ChangeSpec := { name := "traceGrown", fn := fun _ => fun
  | [d1, d2] => { results := [.lit (.bool true)], args := [d1, d2] }
  | _ => none }
def traceGrownRow : OpenClaim := { program := "ytmgbaegdkjcagaa", sum := "c9e9817fc80d9813adf13f4be5ad813d9659550f9dcf93940af30fd9dad990b5", func := "cabochon/cabochonlaw26.TraceGrown", spec := "traceGrown", inPlace := ["internal/bytealg.IndexByteString", "internal/bytealg.IndexString"], unfollowed := true, recurses := true, named := ["internal/bytealg.MaxLen"], apart := false }
def TraceGrownSaid : Prop := traceGrownRow.holds Try.pinned (OpenSpec.ofChange traceGrownSpec)

/-- ITS FALSE NEIGHBOUR: 'it returns false'. Refute it at one input. -/
def traceGrownWrong : ChangeSpec := { name := "traceGrown", fn := fun _ => fun
  | [d1, d2] => { results := [.lit (.bool false)], args := [d1, d2] }
  | _ => none }
def TraceGrownWrongFalsely : Prop := traceGrownRow.holds Try.pinned (OpenSpec.ofChange traceGrownWrong)

/- THE SECOND FORM. 'bulk': how many values and letters a reading holds, each counted each time it is reached (what is shared counts as often as it is met; a slice's spare places count too). A statement '..UptoSaid' is the law's where the arguments, and the package variables that the reading takes, are together of bulk at most 1048576: NARROWER than '..Said'. Prove '..Said' where nothing that the law and all that it calls make is longer than what came in: it says more and counts as full. Else prove '..UptoSaid'. A law counts once. -/
mutual
def uptoBulk {H : Type} : DataW H → Nat
  | .lit (.string bytes) => bytes.length + 1
  | .lit _ => 1
  | .nil => 1
  | .ptr d => uptoBulk d + 1
  | .slice elems spare => uptoBulkAll elems + uptoBulkAll spare + 1
  | .agg parts => uptoBulkAll parts + 1
  | .iface _ d => uptoBulk d + 1
  | .map entries => uptoBulkEntries entries + 1
  | .held _ => 1
def uptoBulkAll {H : Type} : List (DataW H) → Nat
  | [] => 0
  | d :: r => uptoBulk d + uptoBulkAll r
def uptoBulkEntries {H : Type} : List (Lit × DataW H) → Nat
  | [] => 0
  | x :: r => uptoBulkEntry x + uptoBulkEntries r
def uptoBulkEntry {H : Type} : Lit × DataW H → Nat
  | (.string bytes, d) => bytes.length + uptoBulk d + 1
  | (_, d) => uptoBulk d + 1
 end
def uptoSmall : (H : Type) → List (DataW H) → Bool := fun _ ds => decide (uptoBulkAll ds ≤ 1048576)
def OpenSpec.upto (s : _root_.Go.ChangeSpec) : _root_.Go.OpenSpec := { _root_.Go.OpenSpec.ofChange s with cond := some uptoSmall }

/-- 'cabochonlaw26.TraceRuns', WHERE WHAT IT READS IS OF BULK AT MOST 1048576: true; the input reads as it did. -/
def traceRunsUptoRow : OpenClaim := { program := "ytmgbaegdkjcagaa", sum := "c9e9817fc80d9813adf13f4be5ad813d9659550f9dcf93940af30fd9dad990b5", func := "cabochon/cabochonlaw26.TraceRuns", spec := "traceRuns", inPlace := ["internal/bytealg.IndexByteString", "internal/bytealg.IndexString"], unfollowed := true, recurses := true, named := ["internal/bytealg.MaxLen"], apart := false, narrowed := true }
def TraceRunsUptoSaid : Prop := traceRunsUptoRow.holds Try.pinned (OpenSpec.upto traceRunsSpec)

/-- 'cabochonlaw26.TraceFuel', WHERE WHAT IT READS IS OF BULK AT MOST 1048576: true; the input reads as it did. -/
def traceFuelUptoRow : OpenClaim := { program := "ytmgbaegdkjcagaa", sum := "c9e9817fc80d9813adf13f4be5ad813d9659550f9dcf93940af30fd9dad990b5", func := "cabochon/cabochonlaw26.TraceFuel", spec := "traceFuel", inPlace := ["internal/bytealg.IndexByteString", "internal/bytealg.IndexString"], unfollowed := true, recurses := true, named := ["internal/bytealg.MaxLen"], apart := false, narrowed := true }
def TraceFuelUptoSaid : Prop := traceFuelUptoRow.holds Try.pinned (OpenSpec.upto traceFuelSpec)

/-- 'cabochonlaw26.TraceSteady', WHERE WHAT IT READS IS OF BULK AT MOST 1048576: true; the input reads as it did. -/
def traceSteadyUptoRow : OpenClaim := { program := "ytmgbaegdkjcagaa", sum := "c9e9817fc80d9813adf13f4be5ad813d9659550f9dcf93940af30fd9dad990b5", func := "cabochon/cabochonlaw26.TraceSteady", spec := "traceSteady", inPlace := ["internal/bytealg.IndexByteString", "internal/bytealg.IndexString"], unfollowed := true, recurses := true, named := ["internal/bytealg.MaxLen"], apart := false, narrowed := true }
def TraceSteadyUptoSaid : Prop := traceSteadyUptoRow.holds Try.pinned (OpenSpec.upto traceSteadySpec)

/-- 'cabochonlaw26.TraceFolds', WHERE WHAT IT READS IS OF BULK AT MOST 1048576: true; the input reads as it did. -/
def traceFoldsUptoRow : OpenClaim := { program := "ytmgbaegdkjcagaa", sum := "c9e9817fc80d9813adf13f4be5ad813d9659550f9dcf93940af30fd9dad990b5", func := "cabochon/cabochonlaw26.TraceFolds", spec := "traceFolds", inPlace := ["internal/bytealg.IndexByteString", "internal/bytealg.IndexString"], unfollowed := true, recurses := true, named := ["internal/bytealg.MaxLen"], apart := false, narrowed := true }
def TraceFoldsUptoSaid : Prop := traceFoldsUptoRow.holds Try.pinned (OpenSpec.upto traceFoldsSpec)

/-- 'cabochonlaw26.TraceFolded', WHERE WHAT IT READS IS OF BULK AT MOST 1048576: true; the input reads as it did. -/
def traceFoldedUptoRow : OpenClaim := { program := "ytmgbaegdkjcagaa", sum := "c9e9817fc80d9813adf13f4be5ad813d9659550f9dcf93940af30fd9dad990b5", func := "cabochon/cabochonlaw26.TraceFolded", spec := "traceFolded", inPlace := ["internal/bytealg.IndexByteString", "internal/bytealg.IndexString"], unfollowed := true, recurses := true, named := ["internal/bytealg.MaxLen"], apart := false, narrowed := true }
def TraceFoldedUptoSaid : Prop := traceFoldedUptoRow.holds Try.pinned (OpenSpec.upto traceFoldedSpec)

/-- 'cabochonlaw26.TraceDead', WHERE WHAT IT READS IS OF BULK AT MOST 1048576: true; the input reads as it did. -/
def traceDeadUptoRow : OpenClaim := { program := "ytmgbaegdkjcagaa", sum := "c9e9817fc80d9813adf13f4be5ad813d9659550f9dcf93940af30fd9dad990b5", func := "cabochon/cabochonlaw26.TraceDead", spec := "traceDead", inPlace := ["internal/bytealg.IndexByteString", "internal/bytealg.IndexString"], unfollowed := true, recurses := true, named := ["internal/bytealg.MaxLen"], apart := false, narrowed := true }
def TraceDeadUptoSaid : Prop := traceDeadUptoRow.holds Try.pinned (OpenSpec.upto traceDeadSpec)

/-- 'cabochonlaw26.TraceMatters', WHERE WHAT IT READS IS OF BULK AT MOST 1048576: true; the input reads as it did. -/
def traceMattersUptoRow : OpenClaim := { program := "ytmgbaegdkjcagaa", sum := "c9e9817fc80d9813adf13f4be5ad813d9659550f9dcf93940af30fd9dad990b5", func := "cabochon/cabochonlaw26.TraceMatters", spec := "traceMatters", inPlace := ["internal/bytealg.IndexByteString", "internal/bytealg.IndexString"], unfollowed := true, recurses := true, named := ["internal/bytealg.MaxLen"], apart := false, narrowed := true }
def TraceMattersUptoSaid : Prop := traceMattersUptoRow.holds Try.pinned (OpenSpec.upto traceMattersSpec)

/-- 'cabochonlaw26.TraceLives', WHERE WHAT IT READS IS OF BULK AT MOST 1048576: true; the input reads as it did. -/
def traceLivesUptoRow : OpenClaim := { program := "ytmgbaegdkjcagaa", sum := "c9e9817fc80d9813adf13f4be5ad813d9659550f9dcf93940af30fd9dad990b5", func := "cabochon/cabochonlaw26.TraceLives", spec := "traceLives", inPlace := ["internal/bytealg.IndexByteString", "internal/bytealg.IndexString"], unfollowed := true, recurses := true, named := ["internal/bytealg.MaxLen"], apart := false, narrowed := true }
def TraceLivesUptoSaid : Prop := traceLivesUptoRow.holds Try.pinned (OpenSpec.upto traceLivesSpec)

/-- 'cabochonlaw26.TraceBetter', WHERE WHAT IT READS IS OF BULK AT MOST 1048576: true; the input reads as it did. -/
def traceBetterUptoRow : OpenClaim := { program := "ytmgbaegdkjcagaa", sum := "c9e9817fc80d9813adf13f4be5ad813d9659550f9dcf93940af30fd9dad990b5", func := "cabochon/cabochonlaw26.TraceBetter", spec := "traceBetter", inPlace := ["internal/bytealg.IndexByteString", "internal/bytealg.IndexString"], unfollowed := true, recurses := true, named := ["internal/bytealg.MaxLen"], apart := false, narrowed := true }
def TraceBetterUptoSaid : Prop := traceBetterUptoRow.holds Try.pinned (OpenSpec.upto traceBetterSpec)

/-- 'cabochonlaw26.TraceBetters', WHERE WHAT IT READS IS OF BULK AT MOST 1048576: true; the input reads as it did. -/
def traceBettersUptoRow : OpenClaim := { program := "ytmgbaegdkjcagaa", sum := "c9e9817fc80d9813adf13f4be5ad813d9659550f9dcf93940af30fd9dad990b5", func := "cabochon/cabochonlaw26.TraceBetters", spec := "traceBetters", inPlace := ["internal/bytealg.IndexByteString", "internal/bytealg.IndexString"], unfollowed := true, recurses := true, named := ["internal/bytealg.MaxLen"], apart := false, narrowed := true }
def TraceBettersUptoSaid : Prop := traceBettersUptoRow.holds Try.pinned (OpenSpec.upto traceBettersSpec)

/-- 'cabochonlaw26.TraceGrown', WHERE WHAT IT READS IS OF BULK AT MOST 1048576: true; the input reads as it did. -/
def traceGrownUptoRow : OpenClaim := { program := "ytmgbaegdkjcagaa", sum := "c9e9817fc80d9813adf13f4be5ad813d9659550f9dcf93940af30fd9dad990b5", func := "cabochon/cabochonlaw26.TraceGrown", spec := "traceGrown", inPlace := ["internal/bytealg.IndexByteString", "internal/bytealg.IndexString"], unfollowed := true, recurses := true, named := ["internal/bytealg.MaxLen"], apart := false, narrowed := true }
def TraceGrownUptoSaid : Prop := traceGrownUptoRow.holds Try.pinned (OpenSpec.upto traceGrownSpec)

end Rows
end Go.Proofs.Ytmgbaegdkjcagaa

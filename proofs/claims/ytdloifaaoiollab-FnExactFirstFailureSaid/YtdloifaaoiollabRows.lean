/-
  No cell of these rows narrows 'for every input' (looked for: loops, veiled, ifaces, maps, wideKeys, modest, calm, conditions, laid).
  DERIVED. THE GIVEN ROWS OF THIS SEAT. 11 by the template 'for every input the law returns true; each argument reads behind the call as it read before'; 0 by the template 'total and deterministic' (their statements: YtdloifaaoiollabTotals.lean).
  GIVEN WITH THE SEED: the statements are not yours to turn. If you find one false, say at which input.
  Laid BY PROGRAM, IN A SANDBOX (cutbox-rows.mjs): the forced cells as the released guide's own fill.sh prints them over the translation b77b659dcc08f75a… (all of the seat's roots in one cut). By AI agents, Wed Nov 11 2026. No macro, syntax, notation, axiom, sorry.
-/
import Derived.Test.YtdloifaaoiollabChecked
import GoSem.Claim
import GoSem.ClaimJoined
import GoSem.ClaimMapViews
import Derived.JoinedTies
import Derived.KernelRfl
namespace Go.Proofs.Ytdloifaaoiollab
/- THE CELL 'sum', in the pinned program and in every row, IS THE sha256 OF THE DUMP (.gsa) THAT YtdloifaaoiollabProg.lean LOADS. Nothing in Lean hashes anything: it is a label: what it is worth is what the hold of that sum in a sandbox is worth. -/
noncomputable def Try.pinned : Pinned := { name := "ytdloifaaoiollab", sum := "b77b659dcc08f75aa5974120af223e63b7e51c1c8fefb4491ea3edeea1320446", checked := Try.checked }
namespace Rows
def none {H : Type} : Left H := { results := [], args := [] }

/-- 'laws.FnExactIsUniversal': WHATEVER THE INPUT: true; the input reads as it did. -/
def fnExactIsUniversalSpec : ChangeSpec := { name := "fnExactIsUniversal", fn := fun _ => fun
  | [d1, d2] => { results := [.lit (.bool true)], args := [d1, d2] }
  | _ => none }
def fnExactIsUniversalRow : OpenClaim := { program := "ytdloifaaoiollab", sum := "b77b659dcc08f75aa5974120af223e63b7e51c1c8fefb4491ea3edeea1320446", func := "loop.example/g00990/laws.FnExactIsUniversal", spec := "fnExactIsUniversal", unfollowed := true, recurses := true, apart := false }
def FnExactIsUniversalSaid : Prop := fnExactIsUniversalRow.holds Try.pinned (OpenSpec.ofChange fnExactIsUniversalSpec)

/-- ITS FALSE NEIGHBOUR: 'it returns false'. Refute it at one input. -/
def fnExactIsUniversalWrong : ChangeSpec := { name := "fnExactIsUniversal", fn := fun _ => fun
  | [d1, d2] => { results := [.lit (.bool false)], args := [d1, d2] }
  | _ => none }
def FnExactIsUniversalWrongFalsely : Prop := fnExactIsUniversalRow.holds Try.pinned (OpenSpec.ofChange fnExactIsUniversalWrong)

/-- 'laws.FnExactFirstFailure': WHATEVER THE INPUT: true; the input reads as it did. -/
def fnExactFirstFailureSpec : ChangeSpec := { name := "fnExactFirstFailure", fn := fun _ => fun
  | [d1, d2] => { results := [.lit (.bool true)], args := [d1, d2] }
  | _ => none }
def fnExactFirstFailureRow : OpenClaim := { program := "ytdloifaaoiollab", sum := "b77b659dcc08f75aa5974120af223e63b7e51c1c8fefb4491ea3edeea1320446", func := "loop.example/g00990/laws.FnExactFirstFailure", spec := "fnExactFirstFailure", unfollowed := true, recurses := true, apart := false }
def FnExactFirstFailureSaid : Prop := fnExactFirstFailureRow.holds Try.pinned (OpenSpec.ofChange fnExactFirstFailureSpec)

/-- ITS FALSE NEIGHBOUR: 'it returns false'. Refute it at one input. -/
def fnExactFirstFailureWrong : ChangeSpec := { name := "fnExactFirstFailure", fn := fun _ => fun
  | [d1, d2] => { results := [.lit (.bool false)], args := [d1, d2] }
  | _ => none }
def FnExactFirstFailureWrongFalsely : Prop := fnExactFirstFailureRow.holds Try.pinned (OpenSpec.ofChange fnExactFirstFailureWrong)

/-- 'laws.FnUniversals': WHATEVER THE INPUT: true; the input reads as it did. -/
def fnUniversalsSpec : ChangeSpec := { name := "fnUniversals", fn := fun _ => fun
  | [d] => { results := [.lit (.bool true)], args := [d] }
  | _ => none }
def fnUniversalsRow : OpenClaim := { program := "ytdloifaaoiollab", sum := "b77b659dcc08f75aa5974120af223e63b7e51c1c8fefb4491ea3edeea1320446", func := "loop.example/g00990/laws.FnUniversals", spec := "fnUniversals", unfollowed := true, recurses := true, apart := false }
def FnUniversalsSaid : Prop := fnUniversalsRow.holds Try.pinned (OpenSpec.ofChange fnUniversalsSpec)

/-- ITS FALSE NEIGHBOUR: 'it returns false'. Refute it at one input. -/
def fnUniversalsWrong : ChangeSpec := { name := "fnUniversals", fn := fun _ => fun
  | [d] => { results := [.lit (.bool false)], args := [d] }
  | _ => none }
def FnUniversalsWrongFalsely : Prop := fnUniversalsRow.holds Try.pinned (OpenSpec.ofChange fnUniversalsWrong)

/-- 'laws.FnExactEarliestAt': WHATEVER THE INPUT: true; the input reads as it did. -/
def fnExactEarliestAtSpec : ChangeSpec := { name := "fnExactEarliestAt", fn := fun _ => fun
  | [d1, d2, d3, d4] => { results := [.lit (.bool true)], args := [d1, d2, d3, d4] }
  | _ => none }
def fnExactEarliestAtRow : OpenClaim := { program := "ytdloifaaoiollab", sum := "b77b659dcc08f75aa5974120af223e63b7e51c1c8fefb4491ea3edeea1320446", func := "loop.example/g00990/laws.FnExactEarliestAt", spec := "fnExactEarliestAt", unfollowed := true, recurses := true, apart := false }
def FnExactEarliestAtSaid : Prop := fnExactEarliestAtRow.holds Try.pinned (OpenSpec.ofChange fnExactEarliestAtSpec)

/-- ITS FALSE NEIGHBOUR: 'it returns false'. Refute it at one input. -/
def fnExactEarliestAtWrong : ChangeSpec := { name := "fnExactEarliestAt", fn := fun _ => fun
  | [d1, d2, d3, d4] => { results := [.lit (.bool false)], args := [d1, d2, d3, d4] }
  | _ => none }
def FnExactEarliestAtWrongFalsely : Prop := fnExactEarliestAtRow.holds Try.pinned (OpenSpec.ofChange fnExactEarliestAtWrong)

/-- 'laws.FnExactIsSafe': WHATEVER THE INPUT: true; the input reads as it did. -/
def fnExactIsSafeSpec : ChangeSpec := { name := "fnExactIsSafe", fn := fun _ => fun
  | [d1, d2] => { results := [.lit (.bool true)], args := [d1, d2] }
  | _ => none }
def fnExactIsSafeRow : OpenClaim := { program := "ytdloifaaoiollab", sum := "b77b659dcc08f75aa5974120af223e63b7e51c1c8fefb4491ea3edeea1320446", func := "loop.example/g00990/laws.FnExactIsSafe", spec := "fnExactIsSafe", unfollowed := true, recurses := true, apart := false }
def FnExactIsSafeSaid : Prop := fnExactIsSafeRow.holds Try.pinned (OpenSpec.ofChange fnExactIsSafeSpec)

/-- ITS FALSE NEIGHBOUR: 'it returns false'. Refute it at one input. -/
def fnExactIsSafeWrong : ChangeSpec := { name := "fnExactIsSafe", fn := fun _ => fun
  | [d1, d2] => { results := [.lit (.bool false)], args := [d1, d2] }
  | _ => none }
def FnExactIsSafeWrongFalsely : Prop := fnExactIsSafeRow.holds Try.pinned (OpenSpec.ofChange fnExactIsSafeWrong)

/-- 'laws.FnExactTrappedCells': WHATEVER THE INPUT: true; the input reads as it did. -/
def fnExactTrappedCellsSpec : ChangeSpec := { name := "fnExactTrappedCells", fn := fun _ => fun
  | [d1, d2] => { results := [.lit (.bool true)], args := [d1, d2] }
  | _ => none }
def fnExactTrappedCellsRow : OpenClaim := { program := "ytdloifaaoiollab", sum := "b77b659dcc08f75aa5974120af223e63b7e51c1c8fefb4491ea3edeea1320446", func := "loop.example/g00990/laws.FnExactTrappedCells", spec := "fnExactTrappedCells", unfollowed := true, recurses := true, apart := false }
def FnExactTrappedCellsSaid : Prop := fnExactTrappedCellsRow.holds Try.pinned (OpenSpec.ofChange fnExactTrappedCellsSpec)

/-- ITS FALSE NEIGHBOUR: 'it returns false'. Refute it at one input. -/
def fnExactTrappedCellsWrong : ChangeSpec := { name := "fnExactTrappedCells", fn := fun _ => fun
  | [d1, d2] => { results := [.lit (.bool false)], args := [d1, d2] }
  | _ => none }
def FnExactTrappedCellsWrongFalsely : Prop := fnExactTrappedCellsRow.holds Try.pinned (OpenSpec.ofChange fnExactTrappedCellsWrong)

/-- 'laws.FnGates': WHATEVER THE INPUT: true; the input reads as it did. -/
def fnGatesSpec : ChangeSpec := { name := "fnGates", fn := fun _ => fun
  | [d] => { results := [.lit (.bool true)], args := [d] }
  | _ => none }
def fnGatesRow : OpenClaim := { program := "ytdloifaaoiollab", sum := "b77b659dcc08f75aa5974120af223e63b7e51c1c8fefb4491ea3edeea1320446", func := "loop.example/g00990/laws.FnGates", spec := "fnGates", unfollowed := true, recurses := true, apart := false }
def FnGatesSaid : Prop := fnGatesRow.holds Try.pinned (OpenSpec.ofChange fnGatesSpec)

/-- ITS FALSE NEIGHBOUR: 'it returns false'. Refute it at one input. -/
def fnGatesWrong : ChangeSpec := { name := "fnGates", fn := fun _ => fun
  | [d] => { results := [.lit (.bool false)], args := [d] }
  | _ => none }
def FnGatesWrongFalsely : Prop := fnGatesRow.holds Try.pinned (OpenSpec.ofChange fnGatesWrong)

/-- 'laws.FnTimetables': WHATEVER THE INPUT: true; the input reads as it did. -/
def fnTimetablesSpec : ChangeSpec := { name := "fnTimetables", fn := fun _ => fun
  | [d] => { results := [.lit (.bool true)], args := [d] }
  | _ => none }
def fnTimetablesRow : OpenClaim := { program := "ytdloifaaoiollab", sum := "b77b659dcc08f75aa5974120af223e63b7e51c1c8fefb4491ea3edeea1320446", func := "loop.example/g00990/laws.FnTimetables", spec := "fnTimetables", unfollowed := true, recurses := true, apart := false }
def FnTimetablesSaid : Prop := fnTimetablesRow.holds Try.pinned (OpenSpec.ofChange fnTimetablesSpec)

/-- ITS FALSE NEIGHBOUR: 'it returns false'. Refute it at one input. -/
def fnTimetablesWrong : ChangeSpec := { name := "fnTimetables", fn := fun _ => fun
  | [d] => { results := [.lit (.bool false)], args := [d] }
  | _ => none }
def FnTimetablesWrongFalsely : Prop := fnTimetablesRow.holds Try.pinned (OpenSpec.ofChange fnTimetablesWrong)

/-- 'laws.FnExactArrowsUsed': WHATEVER THE INPUT: true; the input reads as it did. -/
def fnExactArrowsUsedSpec : ChangeSpec := { name := "fnExactArrowsUsed", fn := fun _ => fun
  | [d1, d2, d3] => { results := [.lit (.bool true)], args := [d1, d2, d3] }
  | _ => none }
def fnExactArrowsUsedRow : OpenClaim := { program := "ytdloifaaoiollab", sum := "b77b659dcc08f75aa5974120af223e63b7e51c1c8fefb4491ea3edeea1320446", func := "loop.example/g00990/laws.FnExactArrowsUsed", spec := "fnExactArrowsUsed", unfollowed := true, recurses := true, apart := false }
def FnExactArrowsUsedSaid : Prop := fnExactArrowsUsedRow.holds Try.pinned (OpenSpec.ofChange fnExactArrowsUsedSpec)

/-- ITS FALSE NEIGHBOUR: 'it returns false'. Refute it at one input. -/
def fnExactArrowsUsedWrong : ChangeSpec := { name := "fnExactArrowsUsed", fn := fun _ => fun
  | [d1, d2, d3] => { results := [.lit (.bool false)], args := [d1, d2, d3] }
  | _ => none }
def FnExactArrowsUsedWrongFalsely : Prop := fnExactArrowsUsedRow.holds Try.pinned (OpenSpec.ofChange fnExactArrowsUsedWrong)

/-- 'laws.FnExactPopMaze': WHATEVER THE INPUT: true; the input reads as it did. -/
def fnExactPopMazeSpec : ChangeSpec := { name := "fnExactPopMaze", fn := fun _ => fun
  | [d1, d2, d3] => { results := [.lit (.bool true)], args := [d1, d2, d3] }
  | _ => none }
def fnExactPopMazeRow : OpenClaim := { program := "ytdloifaaoiollab", sum := "b77b659dcc08f75aa5974120af223e63b7e51c1c8fefb4491ea3edeea1320446", func := "loop.example/g00990/laws.FnExactPopMaze", spec := "fnExactPopMaze", unfollowed := true, recurses := true, apart := false }
def FnExactPopMazeSaid : Prop := fnExactPopMazeRow.holds Try.pinned (OpenSpec.ofChange fnExactPopMazeSpec)

/-- ITS FALSE NEIGHBOUR: 'it returns false'. Refute it at one input. -/
def fnExactPopMazeWrong : ChangeSpec := { name := "fnExactPopMaze", fn := fun _ => fun
  | [d1, d2, d3] => { results := [.lit (.bool false)], args := [d1, d2, d3] }
  | _ => none }
def FnExactPopMazeWrongFalsely : Prop := fnExactPopMazeRow.holds Try.pinned (OpenSpec.ofChange fnExactPopMazeWrong)

/-- 'laws.FnArrows': WHATEVER THE INPUT: true; the input reads as it did. -/
def fnArrowsSpec : ChangeSpec := { name := "fnArrows", fn := fun _ => fun
  | [d] => { results := [.lit (.bool true)], args := [d] }
  | _ => none }
def fnArrowsRow : OpenClaim := { program := "ytdloifaaoiollab", sum := "b77b659dcc08f75aa5974120af223e63b7e51c1c8fefb4491ea3edeea1320446", func := "loop.example/g00990/laws.FnArrows", spec := "fnArrows", unfollowed := true, recurses := true, apart := false }
def FnArrowsSaid : Prop := fnArrowsRow.holds Try.pinned (OpenSpec.ofChange fnArrowsSpec)

/-- ITS FALSE NEIGHBOUR: 'it returns false'. Refute it at one input. -/
def fnArrowsWrong : ChangeSpec := { name := "fnArrows", fn := fun _ => fun
  | [d] => { results := [.lit (.bool false)], args := [d] }
  | _ => none }
def FnArrowsWrongFalsely : Prop := fnArrowsRow.holds Try.pinned (OpenSpec.ofChange fnArrowsWrong)

/- THE SECOND FORM. 'bulk': how many values and letters a reading holds, each counted each time it is reached (what is shared counts as often as it is met; a slice's spare places count too). A statement '..UptoSaid' is the law's where the arguments, and the package variables that the reading takes, are together of bulk at most 1048576: NARROWER than '..Said'. Prove '..Said' where nothing that the law and all that it calls make is longer than what came in: it says more and counts as full. Else prove '..UptoSaid'. A law counts once. -/
mutual
def uptoBulk {H : Type} : DataW H → Nat
  | .lit (.string bytes) => bytes.length + 1
  | .lit _ => 1
  | .nil => 1
  | .ptr d => uptoBulk d + 1
  | .slice elems spare => uptoBulkAll elems + uptoBulkAll spare + 1
  | .agg parts => uptoBulkAll parts + 1
  | .iface _ d => uptoBulk d + 1
  | .map entries => uptoBulkEntries entries + 1
  | .held _ => 1
def uptoBulkAll {H : Type} : List (DataW H) → Nat
  | [] => 0
  | d :: r => uptoBulk d + uptoBulkAll r
def uptoBulkEntries {H : Type} : List (Lit × DataW H) → Nat
  | [] => 0
  | x :: r => uptoBulkEntry x + uptoBulkEntries r
def uptoBulkEntry {H : Type} : Lit × DataW H → Nat
  | (.string bytes, d) => bytes.length + uptoBulk d + 1
  | (_, d) => uptoBulk d + 1
 end
def uptoSmall : (H : Type) → List (DataW H) → Bool := fun _ ds => decide (uptoBulkAll ds ≤ 1048576)
def OpenSpec.upto (s : _root_.Go.ChangeSpec) : _root_.Go.OpenSpec := { _root_.Go.OpenSpec.ofChange s with cond := some uptoSmall }

/-- 'laws.FnExactIsUniversal', WHERE WHAT IT READS IS OF BULK AT MOST 1048576: true; the input reads as it did. -/
def fnExactIsUniversalUptoRow : OpenClaim := { program := "ytdloifaaoiollab", sum := "b77b659dcc08f75aa5974120af223e63b7e51c1c8fefb4491ea3edeea1320446", func := "loop.example/g00990/laws.FnExactIsUniversal", spec := "fnExactIsUniversal", unfollowed := true, recurses := true, apart := false, narrowed := true }
def FnExactIsUniversalUptoSaid : Prop := fnExactIsUniversalUptoRow.holds Try.pinned (OpenSpec.upto fnExactIsUniversalSpec)

/-- 'laws.FnExactFirstFailure', WHERE WHAT IT READS IS OF BULK AT MOST 1048576: true; the input reads as it did. -/
def fnExactFirstFailureUptoRow : OpenClaim := { program := "ytdloifaaoiollab", sum := "b77b659dcc08f75aa5974120af223e63b7e51c1c8fefb4491ea3edeea1320446", func := "loop.example/g00990/laws.FnExactFirstFailure", spec := "fnExactFirstFailure", unfollowed := true, recurses := true, apart := false, narrowed := true }
def FnExactFirstFailureUptoSaid : Prop := fnExactFirstFailureUptoRow.holds Try.pinned (OpenSpec.upto fnExactFirstFailureSpec)

/-- 'laws.FnUniversals', WHERE WHAT IT READS IS OF BULK AT MOST 1048576: true; the input reads as it did. -/
def fnUniversalsUptoRow : OpenClaim := { program := "ytdloifaaoiollab", sum := "b77b659dcc08f75aa5974120af223e63b7e51c1c8fefb4491ea3edeea1320446", func := "loop.example/g00990/laws.FnUniversals", spec := "fnUniversals", unfollowed := true, recurses := true, apart := false, narrowed := true }
def FnUniversalsUptoSaid : Prop := fnUniversalsUptoRow.holds Try.pinned (OpenSpec.upto fnUniversalsSpec)

/-- 'laws.FnExactEarliestAt', WHERE WHAT IT READS IS OF BULK AT MOST 1048576: true; the input reads as it did. -/
def fnExactEarliestAtUptoRow : OpenClaim := { program := "ytdloifaaoiollab", sum := "b77b659dcc08f75aa5974120af223e63b7e51c1c8fefb4491ea3edeea1320446", func := "loop.example/g00990/laws.FnExactEarliestAt", spec := "fnExactEarliestAt", unfollowed := true, recurses := true, apart := false, narrowed := true }
def FnExactEarliestAtUptoSaid : Prop := fnExactEarliestAtUptoRow.holds Try.pinned (OpenSpec.upto fnExactEarliestAtSpec)

/-- 'laws.FnExactIsSafe', WHERE WHAT IT READS IS OF BULK AT MOST 1048576: true; the input reads as it did. -/
def fnExactIsSafeUptoRow : OpenClaim := { program := "ytdloifaaoiollab", sum := "b77b659dcc08f75aa5974120af223e63b7e51c1c8fefb4491ea3edeea1320446", func := "loop.example/g00990/laws.FnExactIsSafe", spec := "fnExactIsSafe", unfollowed := true, recurses := true, apart := false, narrowed := true }
def FnExactIsSafeUptoSaid : Prop := fnExactIsSafeUptoRow.holds Try.pinned (OpenSpec.upto fnExactIsSafeSpec)

/-- 'laws.FnExactTrappedCells', WHERE WHAT IT READS IS OF BULK AT MOST 1048576: true; the input reads as it did. -/
def fnExactTrappedCellsUptoRow : OpenClaim := { program := "ytdloifaaoiollab", sum := "b77b659dcc08f75aa5974120af223e63b7e51c1c8fefb4491ea3edeea1320446", func := "loop.example/g00990/laws.FnExactTrappedCells", spec := "fnExactTrappedCells", unfollowed := true, recurses := true, apart := false, narrowed := true }
def FnExactTrappedCellsUptoSaid : Prop := fnExactTrappedCellsUptoRow.holds Try.pinned (OpenSpec.upto fnExactTrappedCellsSpec)

/-- 'laws.FnGates', WHERE WHAT IT READS IS OF BULK AT MOST 1048576: true; the input reads as it did. -/
def fnGatesUptoRow : OpenClaim := { program := "ytdloifaaoiollab", sum := "b77b659dcc08f75aa5974120af223e63b7e51c1c8fefb4491ea3edeea1320446", func := "loop.example/g00990/laws.FnGates", spec := "fnGates", unfollowed := true, recurses := true, apart := false, narrowed := true }
def FnGatesUptoSaid : Prop := fnGatesUptoRow.holds Try.pinned (OpenSpec.upto fnGatesSpec)

/-- 'laws.FnTimetables', WHERE WHAT IT READS IS OF BULK AT MOST 1048576: true; the input reads as it did. -/
def fnTimetablesUptoRow : OpenClaim := { program := "ytdloifaaoiollab", sum := "b77b659dcc08f75aa5974120af223e63b7e51c1c8fefb4491ea3edeea1320446", func := "loop.example/g00990/laws.FnTimetables", spec := "fnTimetables", unfollowed := true, recurses := true, apart := false, narrowed := true }
def FnTimetablesUptoSaid : Prop := fnTimetablesUptoRow.holds Try.pinned (OpenSpec.upto fnTimetablesSpec)

/-- 'laws.FnExactArrowsUsed', WHERE WHAT IT READS IS OF BULK AT MOST 1048576: true; the input reads as it did. -/
def fnExactArrowsUsedUptoRow : OpenClaim := { program := "ytdloifaaoiollab", sum := "b77b659dcc08f75aa5974120af223e63b7e51c1c8fefb4491ea3edeea1320446", func := "loop.example/g00990/laws.FnExactArrowsUsed", spec := "fnExactArrowsUsed", unfollowed := true, recurses := true, apart := false, narrowed := true }
def FnExactArrowsUsedUptoSaid : Prop := fnExactArrowsUsedUptoRow.holds Try.pinned (OpenSpec.upto fnExactArrowsUsedSpec)

/-- 'laws.FnExactPopMaze', WHERE WHAT IT READS IS OF BULK AT MOST 1048576: true; the input reads as it did. -/
def fnExactPopMazeUptoRow : OpenClaim := { program := "ytdloifaaoiollab", sum := "b77b659dcc08f75aa5974120af223e63b7e51c1c8fefb4491ea3edeea1320446", func := "loop.example/g00990/laws.FnExactPopMaze", spec := "fnExactPopMaze", unfollowed := true, recurses := true, apart := false, narrowed := true }
def FnExactPopMazeUptoSaid : Prop := fnExactPopMazeUptoRow.holds Try.pinned (OpenSpec.upto fnExactPopMazeSpec)

/-- 'laws.FnArrows', WHERE WHAT IT READS IS OF BULK AT MOST 1048576: true; the input reads as it did. -/
def fnArrowsUptoRow : OpenClaim := { program := "ytdloifaaoiollab", sum := "b77b659dcc08f75aa5974120af223e63b7e51c1c8fefb4491ea3edeea1320446", func := "loop.example/g00990/laws.FnArrows", spec := "fnArrows", unfollowed := true, recurses := true, apart := false, narrowed := true }
def FnArrowsUptoSaid : Prop := fnArrowsUptoRow.holds Try.pinned (OpenSpec.upto fnArrowsSpec)

end Rows
end Go.Proofs.Ytdloifaaoiollab

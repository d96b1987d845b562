/-
  No cell of these rows narrows 'for every input' (looked for: loops, veiled, ifaces, maps, wideKeys, modest, calm, conditions, laid).
  DERIVED. THE GIVEN ROWS OF THIS SEAT. 12 by the template 'for every input the law returns true; each argument reads behind the call as it read before'; 0 by the template 'total and deterministic' (their statements: YtekgbinadmjapaaTotals.lean).
  GIVEN WITH THE SEED: the statements are not yours to turn. If you find one false, say at which input.
  Laid BY PROGRAM, IN A SANDBOX (cutbox-rows.mjs): the forced cells as the released guide's own fill.sh prints them over the translation 488e0aeccb0c3d91… (all of the seat's roots in one cut). By AI agents, Wed Nov 11 2026. No macro, syntax, notation, axiom, sorry.
-/
import Derived.Test.YtekgbinadmjapaaChecked
import GoSem.Claim
import GoSem.ClaimJoined
import GoSem.ClaimMapViews
import Derived.JoinedTies
import Derived.KernelRfl
namespace Go.Proofs.Ytekgbinadmjapaa
/- THE CELL 'sum', in the pinned program and in every row, IS THE sha256 OF THE DUMP (.gsa) THAT YtekgbinadmjapaaProg.lean LOADS. Nothing in Lean hashes anything: it is a label: what it is worth is what the hold of that sum in a sandbox is worth. -/
noncomputable def Try.pinned : Pinned := { name := "ytekgbinadmjapaa", sum := "488e0aeccb0c3d91080f40a5b10c465e67037028a3dde484209c5c5cf9afb46c", checked := Try.checked }
namespace Rows
def none {H : Type} : Left H := { results := [], args := [] }

/-- 'laws.FnExactNextToCut': WHATEVER THE INPUT: true; the input reads as it did. -/
def fnExactNextToCutSpec : ChangeSpec := { name := "fnExactNextToCut", fn := fun _ => fun
  | [d] => { results := [.lit (.bool true)], args := [d] }
  | _ => none }
def fnExactNextToCutRow : OpenClaim := { program := "ytekgbinadmjapaa", sum := "488e0aeccb0c3d91080f40a5b10c465e67037028a3dde484209c5c5cf9afb46c", func := "loop.example/g00990/laws.FnExactNextToCut", spec := "fnExactNextToCut", unfollowed := true, recurses := true, apart := false }
def FnExactNextToCutSaid : Prop := fnExactNextToCutRow.holds Try.pinned (OpenSpec.ofChange fnExactNextToCutSpec)

/-- ITS FALSE NEIGHBOUR: 'it returns false'. Refute it at one input. -/
def fnExactNextToCutWrong : ChangeSpec := { name := "fnExactNextToCut", fn := fun _ => fun
  | [d] => { results := [.lit (.bool false)], args := [d] }
  | _ => none }
def FnExactNextToCutWrongFalsely : Prop := fnExactNextToCutRow.holds Try.pinned (OpenSpec.ofChange fnExactNextToCutWrong)

/-- 'laws.FnExactOpenNow': WHATEVER THE INPUT: true; the input reads as it did. -/
def fnExactOpenNowSpec : ChangeSpec := { name := "fnExactOpenNow", fn := fun _ => fun
  | [d] => { results := [.lit (.bool true)], args := [d] }
  | _ => none }
def fnExactOpenNowRow : OpenClaim := { program := "ytekgbinadmjapaa", sum := "488e0aeccb0c3d91080f40a5b10c465e67037028a3dde484209c5c5cf9afb46c", func := "loop.example/g00990/laws.FnExactOpenNow", spec := "fnExactOpenNow", unfollowed := true, recurses := true, apart := false }
def FnExactOpenNowSaid : Prop := fnExactOpenNowRow.holds Try.pinned (OpenSpec.ofChange fnExactOpenNowSpec)

/-- ITS FALSE NEIGHBOUR: 'it returns false'. Refute it at one input. -/
def fnExactOpenNowWrong : ChangeSpec := { name := "fnExactOpenNow", fn := fun _ => fun
  | [d] => { results := [.lit (.bool false)], args := [d] }
  | _ => none }
def FnExactOpenNowWrongFalsely : Prop := fnExactOpenNowRow.holds Try.pinned (OpenSpec.ofChange fnExactOpenNowWrong)

/-- 'laws.FnExactSightFrom': WHATEVER THE INPUT: true; the input reads as it did. -/
def fnExactSightFromSpec : ChangeSpec := { name := "fnExactSightFrom", fn := fun _ => fun
  | [d1, d2, d3] => { results := [.lit (.bool true)], args := [d1, d2, d3] }
  | _ => none }
def fnExactSightFromRow : OpenClaim := { program := "ytekgbinadmjapaa", sum := "488e0aeccb0c3d91080f40a5b10c465e67037028a3dde484209c5c5cf9afb46c", func := "loop.example/g00990/laws.FnExactSightFrom", spec := "fnExactSightFrom", unfollowed := true, recurses := true, apart := false }
def FnExactSightFromSaid : Prop := fnExactSightFromRow.holds Try.pinned (OpenSpec.ofChange fnExactSightFromSpec)

/-- ITS FALSE NEIGHBOUR: 'it returns false'. Refute it at one input. -/
def fnExactSightFromWrong : ChangeSpec := { name := "fnExactSightFrom", fn := fun _ => fun
  | [d1, d2, d3] => { results := [.lit (.bool false)], args := [d1, d2, d3] }
  | _ => none }
def FnExactSightFromWrongFalsely : Prop := fnExactSightFromRow.holds Try.pinned (OpenSpec.ofChange fnExactSightFromWrong)

/-- 'laws.FnExactCutHedge': WHATEVER THE INPUT: true; the input reads as it did. -/
def fnExactCutHedgeSpec : ChangeSpec := { name := "fnExactCutHedge", fn := fun _ => fun
  | [d1, d2] => { results := [.lit (.bool true)], args := [d1, d2] }
  | _ => none }
def fnExactCutHedgeRow : OpenClaim := { program := "ytekgbinadmjapaa", sum := "488e0aeccb0c3d91080f40a5b10c465e67037028a3dde484209c5c5cf9afb46c", func := "loop.example/g00990/laws.FnExactCutHedge", spec := "fnExactCutHedge", unfollowed := true, recurses := true, apart := false }
def FnExactCutHedgeSaid : Prop := fnExactCutHedgeRow.holds Try.pinned (OpenSpec.ofChange fnExactCutHedgeSpec)

/-- ITS FALSE NEIGHBOUR: 'it returns false'. Refute it at one input. -/
def fnExactCutHedgeWrong : ChangeSpec := { name := "fnExactCutHedge", fn := fun _ => fun
  | [d1, d2] => { results := [.lit (.bool false)], args := [d1, d2] }
  | _ => none }
def FnExactCutHedgeWrongFalsely : Prop := fnExactCutHedgeRow.holds Try.pinned (OpenSpec.ofChange fnExactCutHedgeWrong)

/-- 'laws.FnExactMazeAtTime': WHATEVER THE INPUT: true; the input reads as it did. -/
def fnExactMazeAtTimeSpec : ChangeSpec := { name := "fnExactMazeAtTime", fn := fun _ => fun
  | [d1, d2] => { results := [.lit (.bool true)], args := [d1, d2] }
  | _ => none }
def fnExactMazeAtTimeRow : OpenClaim := { program := "ytekgbinadmjapaa", sum := "488e0aeccb0c3d91080f40a5b10c465e67037028a3dde484209c5c5cf9afb46c", func := "loop.example/g00990/laws.FnExactMazeAtTime", spec := "fnExactMazeAtTime", apart := false }
def FnExactMazeAtTimeSaid : Prop := fnExactMazeAtTimeRow.holds Try.pinned (OpenSpec.ofChange fnExactMazeAtTimeSpec)

/-- ITS FALSE NEIGHBOUR: 'it returns false'. Refute it at one input. -/
def fnExactMazeAtTimeWrong : ChangeSpec := { name := "fnExactMazeAtTime", fn := fun _ => fun
  | [d1, d2] => { results := [.lit (.bool false)], args := [d1, d2] }
  | _ => none }
def FnExactMazeAtTimeWrongFalsely : Prop := fnExactMazeAtTimeRow.holds Try.pinned (OpenSpec.ofChange fnExactMazeAtTimeWrong)

/-- 'laws.FnExactGrowHedge': WHATEVER THE INPUT: true; the input reads as it did. -/
def fnExactGrowHedgeSpec : ChangeSpec := { name := "fnExactGrowHedge", fn := fun _ => fun
  | [d1, d2] => { results := [.lit (.bool true)], args := [d1, d2] }
  | _ => none }
def fnExactGrowHedgeRow : OpenClaim := { program := "ytekgbinadmjapaa", sum := "488e0aeccb0c3d91080f40a5b10c465e67037028a3dde484209c5c5cf9afb46c", func := "loop.example/g00990/laws.FnExactGrowHedge", spec := "fnExactGrowHedge", unfollowed := true, recurses := true, apart := false }
def FnExactGrowHedgeSaid : Prop := fnExactGrowHedgeRow.holds Try.pinned (OpenSpec.ofChange fnExactGrowHedgeSpec)

/-- ITS FALSE NEIGHBOUR: 'it returns false'. Refute it at one input. -/
def fnExactGrowHedgeWrong : ChangeSpec := { name := "fnExactGrowHedge", fn := fun _ => fun
  | [d1, d2] => { results := [.lit (.bool false)], args := [d1, d2] }
  | _ => none }
def FnExactGrowHedgeWrongFalsely : Prop := fnExactGrowHedgeRow.holds Try.pinned (OpenSpec.ofChange fnExactGrowHedgeWrong)

/-- 'laws.FnExactFollowTurns': WHATEVER THE INPUT: true; the input reads as it did. -/
def fnExactFollowTurnsSpec : ChangeSpec := { name := "fnExactFollowTurns", fn := fun _ => fun
  | [d1, d2, d3] => { results := [.lit (.bool true)], args := [d1, d2, d3] }
  | _ => none }
def fnExactFollowTurnsRow : OpenClaim := { program := "ytekgbinadmjapaa", sum := "488e0aeccb0c3d91080f40a5b10c465e67037028a3dde484209c5c5cf9afb46c", func := "loop.example/g00990/laws.FnExactFollowTurns", spec := "fnExactFollowTurns", unfollowed := true, recurses := true, apart := false }
def FnExactFollowTurnsSaid : Prop := fnExactFollowTurnsRow.holds Try.pinned (OpenSpec.ofChange fnExactFollowTurnsSpec)

/-- ITS FALSE NEIGHBOUR: 'it returns false'. Refute it at one input. -/
def fnExactFollowTurnsWrong : ChangeSpec := { name := "fnExactFollowTurns", fn := fun _ => fun
  | [d1, d2, d3] => { results := [.lit (.bool false)], args := [d1, d2, d3] }
  | _ => none }
def FnExactFollowTurnsWrongFalsely : Prop := fnExactFollowTurnsRow.holds Try.pinned (OpenSpec.ofChange fnExactFollowTurnsWrong)

/-- 'laws.FnExactTremauxStep': WHATEVER THE INPUT: true; the input reads as it did. -/
def fnExactTremauxStepSpec : ChangeSpec := { name := "fnExactTremauxStep", fn := fun _ => fun
  | [d1, d2, d3] => { results := [.lit (.bool true)], args := [d1, d2, d3] }
  | _ => none }
def fnExactTremauxStepRow : OpenClaim := { program := "ytekgbinadmjapaa", sum := "488e0aeccb0c3d91080f40a5b10c465e67037028a3dde484209c5c5cf9afb46c", func := "loop.example/g00990/laws.FnExactTremauxStep", spec := "fnExactTremauxStep", unfollowed := true, recurses := true, apart := false }
def FnExactTremauxStepSaid : Prop := fnExactTremauxStepRow.holds Try.pinned (OpenSpec.ofChange fnExactTremauxStepSpec)

/-- ITS FALSE NEIGHBOUR: 'it returns false'. Refute it at one input. -/
def fnExactTremauxStepWrong : ChangeSpec := { name := "fnExactTremauxStep", fn := fun _ => fun
  | [d1, d2, d3] => { results := [.lit (.bool false)], args := [d1, d2, d3] }
  | _ => none }
def FnExactTremauxStepWrongFalsely : Prop := fnExactTremauxStepRow.holds Try.pinned (OpenSpec.ofChange fnExactTremauxStepWrong)

/-- 'laws.FnExactTremauxWalk': WHATEVER THE INPUT: true; the input reads as it did. -/
def fnExactTremauxWalkSpec : ChangeSpec := { name := "fnExactTremauxWalk", fn := fun _ => fun
  | [d1, d2] => { results := [.lit (.bool true)], args := [d1, d2] }
  | _ => none }
def fnExactTremauxWalkRow : OpenClaim := { program := "ytekgbinadmjapaa", sum := "488e0aeccb0c3d91080f40a5b10c465e67037028a3dde484209c5c5cf9afb46c", func := "loop.example/g00990/laws.FnExactTremauxWalk", spec := "fnExactTremauxWalk", unfollowed := true, recurses := true, apart := false }
def FnExactTremauxWalkSaid : Prop := fnExactTremauxWalkRow.holds Try.pinned (OpenSpec.ofChange fnExactTremauxWalkSpec)

/-- ITS FALSE NEIGHBOUR: 'it returns false'. Refute it at one input. -/
def fnExactTremauxWalkWrong : ChangeSpec := { name := "fnExactTremauxWalk", fn := fun _ => fun
  | [d1, d2] => { results := [.lit (.bool false)], args := [d1, d2] }
  | _ => none }
def FnExactTremauxWalkWrongFalsely : Prop := fnExactTremauxWalkRow.holds Try.pinned (OpenSpec.ofChange fnExactTremauxWalkWrong)

/-- 'laws.FnExactMostMarks': WHATEVER THE INPUT: true; the input reads as it did. -/
def fnExactMostMarksSpec : ChangeSpec := { name := "fnExactMostMarks", fn := fun _ => fun
  | [d1, d2] => { results := [.lit (.bool true)], args := [d1, d2] }
  | _ => none }
def fnExactMostMarksRow : OpenClaim := { program := "ytekgbinadmjapaa", sum := "488e0aeccb0c3d91080f40a5b10c465e67037028a3dde484209c5c5cf9afb46c", func := "loop.example/g00990/laws.FnExactMostMarks", spec := "fnExactMostMarks", unfollowed := true, recurses := true, apart := false }
def FnExactMostMarksSaid : Prop := fnExactMostMarksRow.holds Try.pinned (OpenSpec.ofChange fnExactMostMarksSpec)

/-- ITS FALSE NEIGHBOUR: 'it returns false'. Refute it at one input. -/
def fnExactMostMarksWrong : ChangeSpec := { name := "fnExactMostMarks", fn := fun _ => fun
  | [d1, d2] => { results := [.lit (.bool false)], args := [d1, d2] }
  | _ => none }
def FnExactMostMarksWrongFalsely : Prop := fnExactMostMarksRow.holds Try.pinned (OpenSpec.ofChange fnExactMostMarksWrong)

/-- 'laws.FnExactTremauxFinds': WHATEVER THE INPUT: true; the input reads as it did. -/
def fnExactTremauxFindsSpec : ChangeSpec := { name := "fnExactTremauxFinds", fn := fun _ => fun
  | [d1, d2, d3] => { results := [.lit (.bool true)], args := [d1, d2, d3] }
  | _ => none }
def fnExactTremauxFindsRow : OpenClaim := { program := "ytekgbinadmjapaa", sum := "488e0aeccb0c3d91080f40a5b10c465e67037028a3dde484209c5c5cf9afb46c", func := "loop.example/g00990/laws.FnExactTremauxFinds", spec := "fnExactTremauxFinds", unfollowed := true, recurses := true, apart := false }
def FnExactTremauxFindsSaid : Prop := fnExactTremauxFindsRow.holds Try.pinned (OpenSpec.ofChange fnExactTremauxFindsSpec)

/-- ITS FALSE NEIGHBOUR: 'it returns false'. Refute it at one input. -/
def fnExactTremauxFindsWrong : ChangeSpec := { name := "fnExactTremauxFinds", fn := fun _ => fun
  | [d1, d2, d3] => { results := [.lit (.bool false)], args := [d1, d2, d3] }
  | _ => none }
def FnExactTremauxFindsWrongFalsely : Prop := fnExactTremauxFindsRow.holds Try.pinned (OpenSpec.ofChange fnExactTremauxFindsWrong)

/-- 'laws.FnMarks': WHATEVER THE INPUT: true; the input reads as it did. -/
def fnMarksSpec : ChangeSpec := { name := "fnMarks", fn := fun _ => fun
  | [d] => { results := [.lit (.bool true)], args := [d] }
  | _ => none }
def fnMarksRow : OpenClaim := { program := "ytekgbinadmjapaa", sum := "488e0aeccb0c3d91080f40a5b10c465e67037028a3dde484209c5c5cf9afb46c", func := "loop.example/g00990/laws.FnMarks", spec := "fnMarks", unfollowed := true, recurses := true, apart := false }
def FnMarksSaid : Prop := fnMarksRow.holds Try.pinned (OpenSpec.ofChange fnMarksSpec)

/-- ITS FALSE NEIGHBOUR: 'it returns false'. Refute it at one input. -/
def fnMarksWrong : ChangeSpec := { name := "fnMarks", fn := fun _ => fun
  | [d] => { results := [.lit (.bool false)], args := [d] }
  | _ => none }
def FnMarksWrongFalsely : Prop := fnMarksRow.holds Try.pinned (OpenSpec.ofChange fnMarksWrong)

/- THE SECOND FORM. 'bulk': how many values and letters a reading holds, each counted each time it is reached (what is shared counts as often as it is met; a slice's spare places count too). A statement '..UptoSaid' is the law's where the arguments, and the package variables that the reading takes, are together of bulk at most 1048576: NARROWER than '..Said'. Prove '..Said' where nothing that the law and all that it calls make is longer than what came in: it says more and counts as full. Else prove '..UptoSaid'. A law counts once. -/
mutual
def uptoBulk {H : Type} : DataW H → Nat
  | .lit (.string bytes) => bytes.length + 1
  | .lit _ => 1
  | .nil => 1
  | .ptr d => uptoBulk d + 1
  | .slice elems spare => uptoBulkAll elems + uptoBulkAll spare + 1
  | .agg parts => uptoBulkAll parts + 1
  | .iface _ d => uptoBulk d + 1
  | .map entries => uptoBulkEntries entries + 1
  | .held _ => 1
def uptoBulkAll {H : Type} : List (DataW H) → Nat
  | [] => 0
  | d :: r => uptoBulk d + uptoBulkAll r
def uptoBulkEntries {H : Type} : List (Lit × DataW H) → Nat
  | [] => 0
  | x :: r => uptoBulkEntry x + uptoBulkEntries r
def uptoBulkEntry {H : Type} : Lit × DataW H → Nat
  | (.string bytes, d) => bytes.length + uptoBulk d + 1
  | (_, d) => uptoBulk d + 1
 end
def uptoSmall : (H : Type) → List (DataW H) → Bool := fun _ ds => decide (uptoBulkAll ds ≤ 1048576)
def OpenSpec.upto (s : _root_.Go.ChangeSpec) : _root_.Go.OpenSpec := { _root_.Go.OpenSpec.ofChange s with cond := some uptoSmall }

/-- 'laws.FnExactNextToCut', WHERE WHAT IT READS IS OF BULK AT MOST 1048576: true; the input reads as it did. -/
def fnExactNextToCutUptoRow : OpenClaim := { program := "ytekgbinadmjapaa", sum := "488e0aeccb0c3d91080f40a5b10c465e67037028a3dde484209c5c5cf9afb46c", func := "loop.example/g00990/laws.FnExactNextToCut", spec := "fnExactNextToCut", unfollowed := true, recurses := true, apart := false, narrowed := true }
def FnExactNextToCutUptoSaid : Prop := fnExactNextToCutUptoRow.holds Try.pinned (OpenSpec.upto fnExactNextToCutSpec)

/-- 'laws.FnExactOpenNow', WHERE WHAT IT READS IS OF BULK AT MOST 1048576: true; the input reads as it did. -/
def fnExactOpenNowUptoRow : OpenClaim := { program := "ytekgbinadmjapaa", sum := "488e0aeccb0c3d91080f40a5b10c465e67037028a3dde484209c5c5cf9afb46c", func := "loop.example/g00990/laws.FnExactOpenNow", spec := "fnExactOpenNow", unfollowed := true, recurses := true, apart := false, narrowed := true }
def FnExactOpenNowUptoSaid : Prop := fnExactOpenNowUptoRow.holds Try.pinned (OpenSpec.upto fnExactOpenNowSpec)

/-- 'laws.FnExactSightFrom', WHERE WHAT IT READS IS OF BULK AT MOST 1048576: true; the input reads as it did. -/
def fnExactSightFromUptoRow : OpenClaim := { program := "ytekgbinadmjapaa", sum := "488e0aeccb0c3d91080f40a5b10c465e67037028a3dde484209c5c5cf9afb46c", func := "loop.example/g00990/laws.FnExactSightFrom", spec := "fnExactSightFrom", unfollowed := true, recurses := true, apart := false, narrowed := true }
def FnExactSightFromUptoSaid : Prop := fnExactSightFromUptoRow.holds Try.pinned (OpenSpec.upto fnExactSightFromSpec)

/-- 'laws.FnExactCutHedge', WHERE WHAT IT READS IS OF BULK AT MOST 1048576: true; the input reads as it did. -/
def fnExactCutHedgeUptoRow : OpenClaim := { program := "ytekgbinadmjapaa", sum := "488e0aeccb0c3d91080f40a5b10c465e67037028a3dde484209c5c5cf9afb46c", func := "loop.example/g00990/laws.FnExactCutHedge", spec := "fnExactCutHedge", unfollowed := true, recurses := true, apart := false, narrowed := true }
def FnExactCutHedgeUptoSaid : Prop := fnExactCutHedgeUptoRow.holds Try.pinned (OpenSpec.upto fnExactCutHedgeSpec)

/-- 'laws.FnExactMazeAtTime', WHERE WHAT IT READS IS OF BULK AT MOST 1048576: true; the input reads as it did. -/
def fnExactMazeAtTimeUptoRow : OpenClaim := { program := "ytekgbinadmjapaa", sum := "488e0aeccb0c3d91080f40a5b10c465e67037028a3dde484209c5c5cf9afb46c", func := "loop.example/g00990/laws.FnExactMazeAtTime", spec := "fnExactMazeAtTime", apart := false, narrowed := true }
def FnExactMazeAtTimeUptoSaid : Prop := fnExactMazeAtTimeUptoRow.holds Try.pinned (OpenSpec.upto fnExactMazeAtTimeSpec)

/-- 'laws.FnExactGrowHedge', WHERE WHAT IT READS IS OF BULK AT MOST 1048576: true; the input reads as it did. -/
def fnExactGrowHedgeUptoRow : OpenClaim := { program := "ytekgbinadmjapaa", sum := "488e0aeccb0c3d91080f40a5b10c465e67037028a3dde484209c5c5cf9afb46c", func := "loop.example/g00990/laws.FnExactGrowHedge", spec := "fnExactGrowHedge", unfollowed := true, recurses := true, apart := false, narrowed := true }
def FnExactGrowHedgeUptoSaid : Prop := fnExactGrowHedgeUptoRow.holds Try.pinned (OpenSpec.upto fnExactGrowHedgeSpec)

/-- 'laws.FnExactFollowTurns', WHERE WHAT IT READS IS OF BULK AT MOST 1048576: true; the input reads as it did. -/
def fnExactFollowTurnsUptoRow : OpenClaim := { program := "ytekgbinadmjapaa", sum := "488e0aeccb0c3d91080f40a5b10c465e67037028a3dde484209c5c5cf9afb46c", func := "loop.example/g00990/laws.FnExactFollowTurns", spec := "fnExactFollowTurns", unfollowed := true, recurses := true, apart := false, narrowed := true }
def FnExactFollowTurnsUptoSaid : Prop := fnExactFollowTurnsUptoRow.holds Try.pinned (OpenSpec.upto fnExactFollowTurnsSpec)

/-- 'laws.FnExactTremauxStep', WHERE WHAT IT READS IS OF BULK AT MOST 1048576: true; the input reads as it did. -/
def fnExactTremauxStepUptoRow : OpenClaim := { program := "ytekgbinadmjapaa", sum := "488e0aeccb0c3d91080f40a5b10c465e67037028a3dde484209c5c5cf9afb46c", func := "loop.example/g00990/laws.FnExactTremauxStep", spec := "fnExactTremauxStep", unfollowed := true, recurses := true, apart := false, narrowed := true }
def FnExactTremauxStepUptoSaid : Prop := fnExactTremauxStepUptoRow.holds Try.pinned (OpenSpec.upto fnExactTremauxStepSpec)

/-- 'laws.FnExactTremauxWalk', WHERE WHAT IT READS IS OF BULK AT MOST 1048576: true; the input reads as it did. -/
def fnExactTremauxWalkUptoRow : OpenClaim := { program := "ytekgbinadmjapaa", sum := "488e0aeccb0c3d91080f40a5b10c465e67037028a3dde484209c5c5cf9afb46c", func := "loop.example/g00990/laws.FnExactTremauxWalk", spec := "fnExactTremauxWalk", unfollowed := true, recurses := true, apart := false, narrowed := true }
def FnExactTremauxWalkUptoSaid : Prop := fnExactTremauxWalkUptoRow.holds Try.pinned (OpenSpec.upto fnExactTremauxWalkSpec)

/-- 'laws.FnExactMostMarks', WHERE WHAT IT READS IS OF BULK AT MOST 1048576: true; the input reads as it did. -/
def fnExactMostMarksUptoRow : OpenClaim := { program := "ytekgbinadmjapaa", sum := "488e0aeccb0c3d91080f40a5b10c465e67037028a3dde484209c5c5cf9afb46c", func := "loop.example/g00990/laws.FnExactMostMarks", spec := "fnExactMostMarks", unfollowed := true, recurses := true, apart := false, narrowed := true }
def FnExactMostMarksUptoSaid : Prop := fnExactMostMarksUptoRow.holds Try.pinned (OpenSpec.upto fnExactMostMarksSpec)

/-- 'laws.FnExactTremauxFinds', WHERE WHAT IT READS IS OF BULK AT MOST 1048576: true; the input reads as it did. -/
def fnExactTremauxFindsUptoRow : OpenClaim := { program := "ytekgbinadmjapaa", sum := "488e0aeccb0c3d91080f40a5b10c465e67037028a3dde484209c5c5cf9afb46c", func := "loop.example/g00990/laws.FnExactTremauxFinds", spec := "fnExactTremauxFinds", unfollowed := true, recurses := true, apart := false, narrowed := true }
def FnExactTremauxFindsUptoSaid : Prop := fnExactTremauxFindsUptoRow.holds Try.pinned (OpenSpec.upto fnExactTremauxFindsSpec)

/-- 'laws.FnMarks', WHERE WHAT IT READS IS OF BULK AT MOST 1048576: true; the input reads as it did. -/
def fnMarksUptoRow : OpenClaim := { program := "ytekgbinadmjapaa", sum := "488e0aeccb0c3d91080f40a5b10c465e67037028a3dde484209c5c5cf9afb46c", func := "loop.example/g00990/laws.FnMarks", spec := "fnMarks", unfollowed := true, recurses := true, apart := false, narrowed := true }
def FnMarksUptoSaid : Prop := fnMarksUptoRow.holds Try.pinned (OpenSpec.upto fnMarksSpec)

end Rows
end Go.Proofs.Ytekgbinadmjapaa

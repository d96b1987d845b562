/-
  No cell of these rows narrows 'for every input' (looked for: loops, veiled, ifaces, maps, wideKeys, modest, calm, conditions, laid).
  DERIVED. THE GIVEN ROWS OF THIS SEAT. 11 by the template 'for every input the law returns true; each argument reads behind the call as it read before'; 0 by the template 'total and deterministic' (their statements: YtmcllgonjlapoaaTotals.lean).
  GIVEN WITH THE SEED: the statements are not yours to turn. If you find one false, say at which input.
  Laid BY PROGRAM, IN A SANDBOX (cutbox-rows.mjs): the forced cells as the released guide's own fill.sh prints them over the translation f01cabf77f69ca3f… (all of the seat's roots in one cut). By AI agents, Wed Nov 11 2026. No macro, syntax, notation, axiom, sorry.
-/
import Derived.Test.YtmcllgonjlapoaaChecked
import GoSem.Claim
import GoSem.ClaimJoined
import GoSem.ClaimMapViews
import Derived.JoinedTies
import Derived.KernelRfl
namespace Go.Proofs.Ytmcllgonjlapoaa
/- THE CELL 'sum', in the pinned program and in every row, IS THE sha256 OF THE DUMP (.gsa) THAT YtmcllgonjlapoaaProg.lean LOADS. Nothing in Lean hashes anything: it is a label: what it is worth is what the hold of that sum in a sandbox is worth. -/
noncomputable def Try.pinned : Pinned := { name := "ytmcllgonjlapoaa", sum := "f01cabf77f69ca3f0e67fe22949a794051f888cf78033e7cc42ff477467ac2c7", checked := Try.checked }
namespace Rows
def none {H : Type} : Left H := { results := [], args := [] }

/-- 'laws.FnExactCrowdOk': WHATEVER THE INPUT: true; the input reads as it did. -/
def fnExactCrowdOkSpec : ChangeSpec := { name := "fnExactCrowdOk", fn := fun _ => fun
  | [d1, d2] => { results := [.lit (.bool true)], args := [d1, d2] }
  | _ => none }
def fnExactCrowdOkRow : OpenClaim := { program := "ytmcllgonjlapoaa", sum := "f01cabf77f69ca3f0e67fe22949a794051f888cf78033e7cc42ff477467ac2c7", func := "loop.example/g00990/laws.FnExactCrowdOk", spec := "fnExactCrowdOk", unfollowed := true, recurses := true, apart := false }
def FnExactCrowdOkSaid : Prop := fnExactCrowdOkRow.holds Try.pinned (OpenSpec.ofChange fnExactCrowdOkSpec)

/-- ITS FALSE NEIGHBOUR: 'it returns false'. Refute it at one input. -/
def fnExactCrowdOkWrong : ChangeSpec := { name := "fnExactCrowdOk", fn := fun _ => fun
  | [d1, d2] => { results := [.lit (.bool false)], args := [d1, d2] }
  | _ => none }
def FnExactCrowdOkWrongFalsely : Prop := fnExactCrowdOkRow.holds Try.pinned (OpenSpec.ofChange fnExactCrowdOkWrong)

/-- 'laws.FnExactMoveOne': WHATEVER THE INPUT: true; the input reads as it did. -/
def fnExactMoveOneSpec : ChangeSpec := { name := "fnExactMoveOne", fn := fun _ => fun
  | [d1, d2, d3, d4] => { results := [.lit (.bool true)], args := [d1, d2, d3, d4] }
  | _ => none }
def fnExactMoveOneRow : OpenClaim := { program := "ytmcllgonjlapoaa", sum := "f01cabf77f69ca3f0e67fe22949a794051f888cf78033e7cc42ff477467ac2c7", func := "loop.example/g00990/laws.FnExactMoveOne", spec := "fnExactMoveOne", unfollowed := true, recurses := true, apart := false }
def FnExactMoveOneSaid : Prop := fnExactMoveOneRow.holds Try.pinned (OpenSpec.ofChange fnExactMoveOneSpec)

/-- ITS FALSE NEIGHBOUR: 'it returns false'. Refute it at one input. -/
def fnExactMoveOneWrong : ChangeSpec := { name := "fnExactMoveOne", fn := fun _ => fun
  | [d1, d2, d3, d4] => { results := [.lit (.bool false)], args := [d1, d2, d3, d4] }
  | _ => none }
def FnExactMoveOneWrongFalsely : Prop := fnExactMoveOneRow.holds Try.pinned (OpenSpec.ofChange fnExactMoveOneWrong)

/-- 'laws.FnExactFreeNeighbors': WHATEVER THE INPUT: true; the input reads as it did. -/
def fnExactFreeNeighborsSpec : ChangeSpec := { name := "fnExactFreeNeighbors", fn := fun _ => fun
  | [d1, d2, d3] => { results := [.lit (.bool true)], args := [d1, d2, d3] }
  | _ => none }
def fnExactFreeNeighborsRow : OpenClaim := { program := "ytmcllgonjlapoaa", sum := "f01cabf77f69ca3f0e67fe22949a794051f888cf78033e7cc42ff477467ac2c7", func := "loop.example/g00990/laws.FnExactFreeNeighbors", spec := "fnExactFreeNeighbors", unfollowed := true, recurses := true, apart := false }
def FnExactFreeNeighborsSaid : Prop := fnExactFreeNeighborsRow.holds Try.pinned (OpenSpec.ofChange fnExactFreeNeighborsSpec)

/-- ITS FALSE NEIGHBOUR: 'it returns false'. Refute it at one input. -/
def fnExactFreeNeighborsWrong : ChangeSpec := { name := "fnExactFreeNeighbors", fn := fun _ => fun
  | [d1, d2, d3] => { results := [.lit (.bool false)], args := [d1, d2, d3] }
  | _ => none }
def FnExactFreeNeighborsWrongFalsely : Prop := fnExactFreeNeighborsRow.holds Try.pinned (OpenSpec.ofChange fnExactFreeNeighborsWrong)

/-- 'laws.FnExactSeenFrom': WHATEVER THE INPUT: true; the input reads as it did. -/
def fnExactSeenFromSpec : ChangeSpec := { name := "fnExactSeenFrom", fn := fun _ => fun
  | [d1, d2] => { results := [.lit (.bool true)], args := [d1, d2] }
  | _ => none }
def fnExactSeenFromRow : OpenClaim := { program := "ytmcllgonjlapoaa", sum := "f01cabf77f69ca3f0e67fe22949a794051f888cf78033e7cc42ff477467ac2c7", func := "loop.example/g00990/laws.FnExactSeenFrom", spec := "fnExactSeenFrom", unfollowed := true, recurses := true, apart := false }
def FnExactSeenFromSaid : Prop := fnExactSeenFromRow.holds Try.pinned (OpenSpec.ofChange fnExactSeenFromSpec)

/-- ITS FALSE NEIGHBOUR: 'it returns false'. Refute it at one input. -/
def fnExactSeenFromWrong : ChangeSpec := { name := "fnExactSeenFrom", fn := fun _ => fun
  | [d1, d2] => { results := [.lit (.bool false)], args := [d1, d2] }
  | _ => none }
def FnExactSeenFromWrongFalsely : Prop := fnExactSeenFromRow.holds Try.pinned (OpenSpec.ofChange fnExactSeenFromWrong)

/-- 'laws.FnExactSeesEach': WHATEVER THE INPUT: true; the input reads as it did. -/
def fnExactSeesEachSpec : ChangeSpec := { name := "fnExactSeesEach", fn := fun _ => fun
  | [d1, d2, d3] => { results := [.lit (.bool true)], args := [d1, d2, d3] }
  | _ => none }
def fnExactSeesEachRow : OpenClaim := { program := "ytmcllgonjlapoaa", sum := "f01cabf77f69ca3f0e67fe22949a794051f888cf78033e7cc42ff477467ac2c7", func := "loop.example/g00990/laws.FnExactSeesEach", spec := "fnExactSeesEach", unfollowed := true, recurses := true, apart := false }
def FnExactSeesEachSaid : Prop := fnExactSeesEachRow.holds Try.pinned (OpenSpec.ofChange fnExactSeesEachSpec)

/-- ITS FALSE NEIGHBOUR: 'it returns false'. Refute it at one input. -/
def fnExactSeesEachWrong : ChangeSpec := { name := "fnExactSeesEach", fn := fun _ => fun
  | [d1, d2, d3] => { results := [.lit (.bool false)], args := [d1, d2, d3] }
  | _ => none }
def FnExactSeesEachWrongFalsely : Prop := fnExactSeesEachRow.holds Try.pinned (OpenSpec.ofChange fnExactSeesEachWrong)

/-- 'laws.FnExactIsGuarded': WHATEVER THE INPUT: true; the input reads as it did. -/
def fnExactIsGuardedSpec : ChangeSpec := { name := "fnExactIsGuarded", fn := fun _ => fun
  | [d1, d2] => { results := [.lit (.bool true)], args := [d1, d2] }
  | _ => none }
def fnExactIsGuardedRow : OpenClaim := { program := "ytmcllgonjlapoaa", sum := "f01cabf77f69ca3f0e67fe22949a794051f888cf78033e7cc42ff477467ac2c7", func := "loop.example/g00990/laws.FnExactIsGuarded", spec := "fnExactIsGuarded", unfollowed := true, recurses := true, apart := false }
def FnExactIsGuardedSaid : Prop := fnExactIsGuardedRow.holds Try.pinned (OpenSpec.ofChange fnExactIsGuardedSpec)

/-- ITS FALSE NEIGHBOUR: 'it returns false'. Refute it at one input. -/
def fnExactIsGuardedWrong : ChangeSpec := { name := "fnExactIsGuarded", fn := fun _ => fun
  | [d1, d2] => { results := [.lit (.bool false)], args := [d1, d2] }
  | _ => none }
def FnExactIsGuardedWrongFalsely : Prop := fnExactIsGuardedRow.holds Try.pinned (OpenSpec.ofChange fnExactIsGuardedWrong)

/-- 'laws.FnExactCoversAll': WHATEVER THE INPUT: true; the input reads as it did. -/
def fnExactCoversAllSpec : ChangeSpec := { name := "fnExactCoversAll", fn := fun _ => fun
  | [d1, d2, d3] => { results := [.lit (.bool true)], args := [d1, d2, d3] }
  | _ => none }
def fnExactCoversAllRow : OpenClaim := { program := "ytmcllgonjlapoaa", sum := "f01cabf77f69ca3f0e67fe22949a794051f888cf78033e7cc42ff477467ac2c7", func := "loop.example/g00990/laws.FnExactCoversAll", spec := "fnExactCoversAll", unfollowed := true, recurses := true, apart := false }
def FnExactCoversAllSaid : Prop := fnExactCoversAllRow.holds Try.pinned (OpenSpec.ofChange fnExactCoversAllSpec)

/-- ITS FALSE NEIGHBOUR: 'it returns false'. Refute it at one input. -/
def fnExactCoversAllWrong : ChangeSpec := { name := "fnExactCoversAll", fn := fun _ => fun
  | [d1, d2, d3] => { results := [.lit (.bool false)], args := [d1, d2, d3] }
  | _ => none }
def FnExactCoversAllWrongFalsely : Prop := fnExactCoversAllRow.holds Try.pinned (OpenSpec.ofChange fnExactCoversAllWrong)

/-- 'laws.FnExactFewestGuards': WHATEVER THE INPUT: true; the input reads as it did. -/
def fnExactFewestGuardsSpec : ChangeSpec := { name := "fnExactFewestGuards", fn := fun _ => fun
  | [d] => { results := [.lit (.bool true)], args := [d] }
  | _ => none }
def fnExactFewestGuardsRow : OpenClaim := { program := "ytmcllgonjlapoaa", sum := "f01cabf77f69ca3f0e67fe22949a794051f888cf78033e7cc42ff477467ac2c7", func := "loop.example/g00990/laws.FnExactFewestGuards", spec := "fnExactFewestGuards", unfollowed := true, recurses := true, apart := false }
def FnExactFewestGuardsSaid : Prop := fnExactFewestGuardsRow.holds Try.pinned (OpenSpec.ofChange fnExactFewestGuardsSpec)

/-- ITS FALSE NEIGHBOUR: 'it returns false'. Refute it at one input. -/
def fnExactFewestGuardsWrong : ChangeSpec := { name := "fnExactFewestGuards", fn := fun _ => fun
  | [d] => { results := [.lit (.bool false)], args := [d] }
  | _ => none }
def FnExactFewestGuardsWrongFalsely : Prop := fnExactFewestGuardsRow.holds Try.pinned (OpenSpec.ofChange fnExactFewestGuardsWrong)

/-- 'laws.FnSights': WHATEVER THE INPUT: true; the input reads as it did. -/
def fnSightsSpec : ChangeSpec := { name := "fnSights", fn := fun _ => fun
  | [d] => { results := [.lit (.bool true)], args := [d] }
  | _ => none }
def fnSightsRow : OpenClaim := { program := "ytmcllgonjlapoaa", sum := "f01cabf77f69ca3f0e67fe22949a794051f888cf78033e7cc42ff477467ac2c7", func := "loop.example/g00990/laws.FnSights", spec := "fnSights", unfollowed := true, recurses := true, apart := false }
def FnSightsSaid : Prop := fnSightsRow.holds Try.pinned (OpenSpec.ofChange fnSightsSpec)

/-- ITS FALSE NEIGHBOUR: 'it returns false'. Refute it at one input. -/
def fnSightsWrong : ChangeSpec := { name := "fnSights", fn := fun _ => fun
  | [d] => { results := [.lit (.bool false)], args := [d] }
  | _ => none }
def FnSightsWrongFalsely : Prop := fnSightsRow.holds Try.pinned (OpenSpec.ofChange fnSightsWrong)

/-- 'laws.FnExactIsUniversal': WHATEVER THE INPUT: true; the input reads as it did. -/
def fnExactIsUniversalSpec : ChangeSpec := { name := "fnExactIsUniversal", fn := fun _ => fun
  | [d1, d2] => { results := [.lit (.bool true)], args := [d1, d2] }
  | _ => none }
def fnExactIsUniversalRow : OpenClaim := { program := "ytmcllgonjlapoaa", sum := "f01cabf77f69ca3f0e67fe22949a794051f888cf78033e7cc42ff477467ac2c7", func := "loop.example/g00990/laws.FnExactIsUniversal", spec := "fnExactIsUniversal", unfollowed := true, recurses := true, apart := false }
def FnExactIsUniversalSaid : Prop := fnExactIsUniversalRow.holds Try.pinned (OpenSpec.ofChange fnExactIsUniversalSpec)

/-- ITS FALSE NEIGHBOUR: 'it returns false'. Refute it at one input. -/
def fnExactIsUniversalWrong : ChangeSpec := { name := "fnExactIsUniversal", fn := fun _ => fun
  | [d1, d2] => { results := [.lit (.bool false)], args := [d1, d2] }
  | _ => none }
def FnExactIsUniversalWrongFalsely : Prop := fnExactIsUniversalRow.holds Try.pinned (OpenSpec.ofChange fnExactIsUniversalWrong)

/-- 'laws.FnExactFirstFailure': WHATEVER THE INPUT: true; the input reads as it did. -/
def fnExactFirstFailureSpec : ChangeSpec := { name := "fnExactFirstFailure", fn := fun _ => fun
  | [d1, d2] => { results := [.lit (.bool true)], args := [d1, d2] }
  | _ => none }
def fnExactFirstFailureRow : OpenClaim := { program := "ytmcllgonjlapoaa", sum := "f01cabf77f69ca3f0e67fe22949a794051f888cf78033e7cc42ff477467ac2c7", func := "loop.example/g00990/laws.FnExactFirstFailure", spec := "fnExactFirstFailure", unfollowed := true, recurses := true, apart := false }
def FnExactFirstFailureSaid : Prop := fnExactFirstFailureRow.holds Try.pinned (OpenSpec.ofChange fnExactFirstFailureSpec)

/-- ITS FALSE NEIGHBOUR: 'it returns false'. Refute it at one input. -/
def fnExactFirstFailureWrong : ChangeSpec := { name := "fnExactFirstFailure", fn := fun _ => fun
  | [d1, d2] => { results := [.lit (.bool false)], args := [d1, d2] }
  | _ => none }
def FnExactFirstFailureWrongFalsely : Prop := fnExactFirstFailureRow.holds Try.pinned (OpenSpec.ofChange fnExactFirstFailureWrong)

/- THE SECOND FORM. 'bulk': how many values and letters a reading holds, each counted each time it is reached (what is shared counts as often as it is met; a slice's spare places count too). A statement '..UptoSaid' is the law's where the arguments, and the package variables that the reading takes, are together of bulk at most 1048576: NARROWER than '..Said'. Prove '..Said' where nothing that the law and all that it calls make is longer than what came in: it says more and counts as full. Else prove '..UptoSaid'. A law counts once. -/
mutual
def uptoBulk {H : Type} : DataW H → Nat
  | .lit (.string bytes) => bytes.length + 1
  | .lit _ => 1
  | .nil => 1
  | .ptr d => uptoBulk d + 1
  | .slice elems spare => uptoBulkAll elems + uptoBulkAll spare + 1
  | .agg parts => uptoBulkAll parts + 1
  | .iface _ d => uptoBulk d + 1
  | .map entries => uptoBulkEntries entries + 1
  | .held _ => 1
def uptoBulkAll {H : Type} : List (DataW H) → Nat
  | [] => 0
  | d :: r => uptoBulk d + uptoBulkAll r
def uptoBulkEntries {H : Type} : List (Lit × DataW H) → Nat
  | [] => 0
  | x :: r => uptoBulkEntry x + uptoBulkEntries r
def uptoBulkEntry {H : Type} : Lit × DataW H → Nat
  | (.string bytes, d) => bytes.length + uptoBulk d + 1
  | (_, d) => uptoBulk d + 1
 end
def uptoSmall : (H : Type) → List (DataW H) → Bool := fun _ ds => decide (uptoBulkAll ds ≤ 1048576)
def OpenSpec.upto (s : _root_.Go.ChangeSpec) : _root_.Go.OpenSpec := { _root_.Go.OpenSpec.ofChange s with cond := some uptoSmall }

/-- 'laws.FnExactCrowdOk', WHERE WHAT IT READS IS OF BULK AT MOST 1048576: true; the input reads as it did. -/
def fnExactCrowdOkUptoRow : OpenClaim := { program := "ytmcllgonjlapoaa", sum := "f01cabf77f69ca3f0e67fe22949a794051f888cf78033e7cc42ff477467ac2c7", func := "loop.example/g00990/laws.FnExactCrowdOk", spec := "fnExactCrowdOk", unfollowed := true, recurses := true, apart := false, narrowed := true }
def FnExactCrowdOkUptoSaid : Prop := fnExactCrowdOkUptoRow.holds Try.pinned (OpenSpec.upto fnExactCrowdOkSpec)

/-- 'laws.FnExactMoveOne', WHERE WHAT IT READS IS OF BULK AT MOST 1048576: true; the input reads as it did. -/
def fnExactMoveOneUptoRow : OpenClaim := { program := "ytmcllgonjlapoaa", sum := "f01cabf77f69ca3f0e67fe22949a794051f888cf78033e7cc42ff477467ac2c7", func := "loop.example/g00990/laws.FnExactMoveOne", spec := "fnExactMoveOne", unfollowed := true, recurses := true, apart := false, narrowed := true }
def FnExactMoveOneUptoSaid : Prop := fnExactMoveOneUptoRow.holds Try.pinned (OpenSpec.upto fnExactMoveOneSpec)

/-- 'laws.FnExactFreeNeighbors', WHERE WHAT IT READS IS OF BULK AT MOST 1048576: true; the input reads as it did. -/
def fnExactFreeNeighborsUptoRow : OpenClaim := { program := "ytmcllgonjlapoaa", sum := "f01cabf77f69ca3f0e67fe22949a794051f888cf78033e7cc42ff477467ac2c7", func := "loop.example/g00990/laws.FnExactFreeNeighbors", spec := "fnExactFreeNeighbors", unfollowed := true, recurses := true, apart := false, narrowed := true }
def FnExactFreeNeighborsUptoSaid : Prop := fnExactFreeNeighborsUptoRow.holds Try.pinned (OpenSpec.upto fnExactFreeNeighborsSpec)

/-- 'laws.FnExactSeenFrom', WHERE WHAT IT READS IS OF BULK AT MOST 1048576: true; the input reads as it did. -/
def fnExactSeenFromUptoRow : OpenClaim := { program := "ytmcllgonjlapoaa", sum := "f01cabf77f69ca3f0e67fe22949a794051f888cf78033e7cc42ff477467ac2c7", func := "loop.example/g00990/laws.FnExactSeenFrom", spec := "fnExactSeenFrom", unfollowed := true, recurses := true, apart := false, narrowed := true }
def FnExactSeenFromUptoSaid : Prop := fnExactSeenFromUptoRow.holds Try.pinned (OpenSpec.upto fnExactSeenFromSpec)

/-- 'laws.FnExactSeesEach', WHERE WHAT IT READS IS OF BULK AT MOST 1048576: true; the input reads as it did. -/
def fnExactSeesEachUptoRow : OpenClaim := { program := "ytmcllgonjlapoaa", sum := "f01cabf77f69ca3f0e67fe22949a794051f888cf78033e7cc42ff477467ac2c7", func := "loop.example/g00990/laws.FnExactSeesEach", spec := "fnExactSeesEach", unfollowed := true, recurses := true, apart := false, narrowed := true }
def FnExactSeesEachUptoSaid : Prop := fnExactSeesEachUptoRow.holds Try.pinned (OpenSpec.upto fnExactSeesEachSpec)

/-- 'laws.FnExactIsGuarded', WHERE WHAT IT READS IS OF BULK AT MOST 1048576: true; the input reads as it did. -/
def fnExactIsGuardedUptoRow : OpenClaim := { program := "ytmcllgonjlapoaa", sum := "f01cabf77f69ca3f0e67fe22949a794051f888cf78033e7cc42ff477467ac2c7", func := "loop.example/g00990/laws.FnExactIsGuarded", spec := "fnExactIsGuarded", unfollowed := true, recurses := true, apart := false, narrowed := true }
def FnExactIsGuardedUptoSaid : Prop := fnExactIsGuardedUptoRow.holds Try.pinned (OpenSpec.upto fnExactIsGuardedSpec)

/-- 'laws.FnExactCoversAll', WHERE WHAT IT READS IS OF BULK AT MOST 1048576: true; the input reads as it did. -/
def fnExactCoversAllUptoRow : OpenClaim := { program := "ytmcllgonjlapoaa", sum := "f01cabf77f69ca3f0e67fe22949a794051f888cf78033e7cc42ff477467ac2c7", func := "loop.example/g00990/laws.FnExactCoversAll", spec := "fnExactCoversAll", unfollowed := true, recurses := true, apart := false, narrowed := true }
def FnExactCoversAllUptoSaid : Prop := fnExactCoversAllUptoRow.holds Try.pinned (OpenSpec.upto fnExactCoversAllSpec)

/-- 'laws.FnExactFewestGuards', WHERE WHAT IT READS IS OF BULK AT MOST 1048576: true; the input reads as it did. -/
def fnExactFewestGuardsUptoRow : OpenClaim := { program := "ytmcllgonjlapoaa", sum := "f01cabf77f69ca3f0e67fe22949a794051f888cf78033e7cc42ff477467ac2c7", func := "loop.example/g00990/laws.FnExactFewestGuards", spec := "fnExactFewestGuards", unfollowed := true, recurses := true, apart := false, narrowed := true }
def FnExactFewestGuardsUptoSaid : Prop := fnExactFewestGuardsUptoRow.holds Try.pinned (OpenSpec.upto fnExactFewestGuardsSpec)

/-- 'laws.FnSights', WHERE WHAT IT READS IS OF BULK AT MOST 1048576: true; the input reads as it did. -/
def fnSightsUptoRow : OpenClaim := { program := "ytmcllgonjlapoaa", sum := "f01cabf77f69ca3f0e67fe22949a794051f888cf78033e7cc42ff477467ac2c7", func := "loop.example/g00990/laws.FnSights", spec := "fnSights", unfollowed := true, recurses := true, apart := false, narrowed := true }
def FnSightsUptoSaid : Prop := fnSightsUptoRow.holds Try.pinned (OpenSpec.upto fnSightsSpec)

/-- 'laws.FnExactIsUniversal', WHERE WHAT IT READS IS OF BULK AT MOST 1048576: true; the input reads as it did. -/
def fnExactIsUniversalUptoRow : OpenClaim := { program := "ytmcllgonjlapoaa", sum := "f01cabf77f69ca3f0e67fe22949a794051f888cf78033e7cc42ff477467ac2c7", func := "loop.example/g00990/laws.FnExactIsUniversal", spec := "fnExactIsUniversal", unfollowed := true, recurses := true, apart := false, narrowed := true }
def FnExactIsUniversalUptoSaid : Prop := fnExactIsUniversalUptoRow.holds Try.pinned (OpenSpec.upto fnExactIsUniversalSpec)

/-- 'laws.FnExactFirstFailure', WHERE WHAT IT READS IS OF BULK AT MOST 1048576: true; the input reads as it did. -/
def fnExactFirstFailureUptoRow : OpenClaim := { program := "ytmcllgonjlapoaa", sum := "f01cabf77f69ca3f0e67fe22949a794051f888cf78033e7cc42ff477467ac2c7", func := "loop.example/g00990/laws.FnExactFirstFailure", spec := "fnExactFirstFailure", unfollowed := true, recurses := true, apart := false, narrowed := true }
def FnExactFirstFailureUptoSaid : Prop := fnExactFirstFailureUptoRow.holds Try.pinned (OpenSpec.upto fnExactFirstFailureSpec)

end Rows
end Go.Proofs.Ytmcllgonjlapoaa

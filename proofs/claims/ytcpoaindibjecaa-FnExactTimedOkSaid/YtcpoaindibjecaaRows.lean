/-
  No cell of these rows narrows 'for every input' (looked for: loops, veiled, ifaces, maps, wideKeys, modest, calm, conditions, laid).
  DERIVED. THE GIVEN ROWS OF THIS SEAT. 12 by the template 'for every input the law returns true; each argument reads behind the call as it read before'; 0 by the template 'total and deterministic' (their statements: YtcpoaindibjecaaTotals.lean).
  GIVEN WITH THE SEED: the statements are not yours to turn. If you find one false, say at which input.
  Laid BY PROGRAM, IN A SANDBOX (cutbox-rows.mjs): the forced cells as the released guide's own fill.sh prints them over the translation a1bb29b4937ec7e0… (all of the seat's roots in one cut). By AI agents, Wed Nov 11 2026. No macro, syntax, notation, axiom, sorry.
-/
import Derived.Test.YtcpoaindibjecaaChecked
import GoSem.Claim
import GoSem.ClaimJoined
import GoSem.ClaimMapViews
import Derived.JoinedTies
import Derived.KernelRfl
namespace Go.Proofs.Ytcpoaindibjecaa
/- THE CELL 'sum', in the pinned program and in every row, IS THE sha256 OF THE DUMP (.gsa) THAT YtcpoaindibjecaaProg.lean LOADS. Nothing in Lean hashes anything: it is a label: what it is worth is what the hold of that sum in a sandbox is worth. -/
noncomputable def Try.pinned : Pinned := { name := "ytcpoaindibjecaa", sum := "a1bb29b4937ec7e0ab8a78e1b2941f62cee49d0cc70f43f65650b096da0b9d38", checked := Try.checked }
namespace Rows
def none {H : Type} : Left H := { results := [], args := [] }

/-- 'laws.FnExactWishOk': WHATEVER THE INPUT: true; the input reads as it did. -/
def fnExactWishOkSpec : ChangeSpec := { name := "fnExactWishOk", fn := fun _ => fun
  | [d1, d2] => { results := [.lit (.bool true)], args := [d1, d2] }
  | _ => none }
def fnExactWishOkRow : OpenClaim := { program := "ytcpoaindibjecaa", sum := "a1bb29b4937ec7e0ab8a78e1b2941f62cee49d0cc70f43f65650b096da0b9d38", func := "loop.example/g00990/laws.FnExactWishOk", spec := "fnExactWishOk", apart := false }
def FnExactWishOkSaid : Prop := fnExactWishOkRow.holds Try.pinned (OpenSpec.ofChange fnExactWishOkSpec)

/-- ITS FALSE NEIGHBOUR: 'it returns false'. Refute it at one input. -/
def fnExactWishOkWrong : ChangeSpec := { name := "fnExactWishOk", fn := fun _ => fun
  | [d1, d2] => { results := [.lit (.bool false)], args := [d1, d2] }
  | _ => none }
def FnExactWishOkWrongFalsely : Prop := fnExactWishOkRow.holds Try.pinned (OpenSpec.ofChange fnExactWishOkWrong)

/-- 'laws.FnExactCrossPairs': WHATEVER THE INPUT: true; the input reads as it did. -/
def fnExactCrossPairsSpec : ChangeSpec := { name := "fnExactCrossPairs", fn := fun _ => fun
  | [d1, d2] => { results := [.lit (.bool true)], args := [d1, d2] }
  | _ => none }
def fnExactCrossPairsRow : OpenClaim := { program := "ytcpoaindibjecaa", sum := "a1bb29b4937ec7e0ab8a78e1b2941f62cee49d0cc70f43f65650b096da0b9d38", func := "loop.example/g00990/laws.FnExactCrossPairs", spec := "fnExactCrossPairs", unfollowed := true, recurses := true, apart := false }
def FnExactCrossPairsSaid : Prop := fnExactCrossPairsRow.holds Try.pinned (OpenSpec.ofChange fnExactCrossPairsSpec)

/-- ITS FALSE NEIGHBOUR: 'it returns false'. Refute it at one input. -/
def fnExactCrossPairsWrong : ChangeSpec := { name := "fnExactCrossPairs", fn := fun _ => fun
  | [d1, d2] => { results := [.lit (.bool false)], args := [d1, d2] }
  | _ => none }
def FnExactCrossPairsWrongFalsely : Prop := fnExactCrossPairsRow.holds Try.pinned (OpenSpec.ofChange fnExactCrossPairsWrong)

/-- 'laws.FnExactCircuitsOk': WHATEVER THE INPUT: true; the input reads as it did. -/
def fnExactCircuitsOkSpec : ChangeSpec := { name := "fnExactCircuitsOk", fn := fun _ => fun
  | [d] => { results := [.lit (.bool true)], args := [d] }
  | _ => none }
def fnExactCircuitsOkRow : OpenClaim := { program := "ytcpoaindibjecaa", sum := "a1bb29b4937ec7e0ab8a78e1b2941f62cee49d0cc70f43f65650b096da0b9d38", func := "loop.example/g00990/laws.FnExactCircuitsOk", spec := "fnExactCircuitsOk", apart := false }
def FnExactCircuitsOkSaid : Prop := fnExactCircuitsOkRow.holds Try.pinned (OpenSpec.ofChange fnExactCircuitsOkSpec)

/-- ITS FALSE NEIGHBOUR: 'it returns false'. Refute it at one input. -/
def fnExactCircuitsOkWrong : ChangeSpec := { name := "fnExactCircuitsOk", fn := fun _ => fun
  | [d] => { results := [.lit (.bool false)], args := [d] }
  | _ => none }
def FnExactCircuitsOkWrongFalsely : Prop := fnExactCircuitsOkRow.holds Try.pinned (OpenSpec.ofChange fnExactCircuitsOkWrong)

/-- 'laws.FnExactTurnInside': WHATEVER THE INPUT: true; the input reads as it did. -/
def fnExactTurnInsideSpec : ChangeSpec := { name := "fnExactTurnInside", fn := fun _ => fun
  | [d] => { results := [.lit (.bool true)], args := [d] }
  | _ => none }
def fnExactTurnInsideRow : OpenClaim := { program := "ytcpoaindibjecaa", sum := "a1bb29b4937ec7e0ab8a78e1b2941f62cee49d0cc70f43f65650b096da0b9d38", func := "loop.example/g00990/laws.FnExactTurnInside", spec := "fnExactTurnInside", apart := false }
def FnExactTurnInsideSaid : Prop := fnExactTurnInsideRow.holds Try.pinned (OpenSpec.ofChange fnExactTurnInsideSpec)

/-- ITS FALSE NEIGHBOUR: 'it returns false'. Refute it at one input. -/
def fnExactTurnInsideWrong : ChangeSpec := { name := "fnExactTurnInside", fn := fun _ => fun
  | [d] => { results := [.lit (.bool false)], args := [d] }
  | _ => none }
def FnExactTurnInsideWrongFalsely : Prop := fnExactTurnInsideRow.holds Try.pinned (OpenSpec.ofChange fnExactTurnInsideWrong)

/-- 'laws.FnExactArchesOk': WHATEVER THE INPUT: true; the input reads as it did. -/
def fnExactArchesOkSpec : ChangeSpec := { name := "fnExactArchesOk", fn := fun _ => fun
  | [d] => { results := [.lit (.bool true)], args := [d] }
  | _ => none }
def fnExactArchesOkRow : OpenClaim := { program := "ytcpoaindibjecaa", sum := "a1bb29b4937ec7e0ab8a78e1b2941f62cee49d0cc70f43f65650b096da0b9d38", func := "loop.example/g00990/laws.FnExactArchesOk", spec := "fnExactArchesOk", unfollowed := true, recurses := true, apart := false }
def FnExactArchesOkSaid : Prop := fnExactArchesOkRow.holds Try.pinned (OpenSpec.ofChange fnExactArchesOkSpec)

/-- ITS FALSE NEIGHBOUR: 'it returns false'. Refute it at one input. -/
def fnExactArchesOkWrong : ChangeSpec := { name := "fnExactArchesOk", fn := fun _ => fun
  | [d] => { results := [.lit (.bool false)], args := [d] }
  | _ => none }
def FnExactArchesOkWrongFalsely : Prop := fnExactArchesOkRow.holds Try.pinned (OpenSpec.ofChange fnExactArchesOkWrong)

/-- 'laws.FnExactStepPairs': WHATEVER THE INPUT: true; the input reads as it did. -/
def fnExactStepPairsSpec : ChangeSpec := { name := "fnExactStepPairs", fn := fun _ => fun
  | [d1, d2] => { results := [.lit (.bool true)], args := [d1, d2] }
  | _ => none }
def fnExactStepPairsRow : OpenClaim := { program := "ytcpoaindibjecaa", sum := "a1bb29b4937ec7e0ab8a78e1b2941f62cee49d0cc70f43f65650b096da0b9d38", func := "loop.example/g00990/laws.FnExactStepPairs", spec := "fnExactStepPairs", apart := false }
def FnExactStepPairsSaid : Prop := fnExactStepPairsRow.holds Try.pinned (OpenSpec.ofChange fnExactStepPairsSpec)

/-- ITS FALSE NEIGHBOUR: 'it returns false'. Refute it at one input. -/
def fnExactStepPairsWrong : ChangeSpec := { name := "fnExactStepPairs", fn := fun _ => fun
  | [d1, d2] => { results := [.lit (.bool false)], args := [d1, d2] }
  | _ => none }
def FnExactStepPairsWrongFalsely : Prop := fnExactStepPairsRow.holds Try.pinned (OpenSpec.ofChange fnExactStepPairsWrong)

/-- 'laws.FnExactTurnArches': WHATEVER THE INPUT: true; the input reads as it did. -/
def fnExactTurnArchesSpec : ChangeSpec := { name := "fnExactTurnArches", fn := fun _ => fun
  | [d] => { results := [.lit (.bool true)], args := [d] }
  | _ => none }
def fnExactTurnArchesRow : OpenClaim := { program := "ytcpoaindibjecaa", sum := "a1bb29b4937ec7e0ab8a78e1b2941f62cee49d0cc70f43f65650b096da0b9d38", func := "loop.example/g00990/laws.FnExactTurnArches", spec := "fnExactTurnArches", unfollowed := true, recurses := true, apart := false }
def FnExactTurnArchesSaid : Prop := fnExactTurnArchesRow.holds Try.pinned (OpenSpec.ofChange fnExactTurnArchesSpec)

/-- ITS FALSE NEIGHBOUR: 'it returns false'. Refute it at one input. -/
def fnExactTurnArchesWrong : ChangeSpec := { name := "fnExactTurnArches", fn := fun _ => fun
  | [d] => { results := [.lit (.bool false)], args := [d] }
  | _ => none }
def FnExactTurnArchesWrongFalsely : Prop := fnExactTurnArchesRow.holds Try.pinned (OpenSpec.ofChange fnExactTurnArchesWrong)

/-- 'laws.FnMarks': WHATEVER THE INPUT: true; the input reads as it did. -/
def fnMarksSpec : ChangeSpec := { name := "fnMarks", fn := fun _ => fun
  | [d] => { results := [.lit (.bool true)], args := [d] }
  | _ => none }
def fnMarksRow : OpenClaim := { program := "ytcpoaindibjecaa", sum := "a1bb29b4937ec7e0ab8a78e1b2941f62cee49d0cc70f43f65650b096da0b9d38", func := "loop.example/g00990/laws.FnMarks", spec := "fnMarks", unfollowed := true, recurses := true, apart := false }
def FnMarksSaid : Prop := fnMarksRow.holds Try.pinned (OpenSpec.ofChange fnMarksSpec)

/-- ITS FALSE NEIGHBOUR: 'it returns false'. Refute it at one input. -/
def fnMarksWrong : ChangeSpec := { name := "fnMarks", fn := fun _ => fun
  | [d] => { results := [.lit (.bool false)], args := [d] }
  | _ => none }
def FnMarksWrongFalsely : Prop := fnMarksRow.holds Try.pinned (OpenSpec.ofChange fnMarksWrong)

/-- 'laws.FnExactCountLoopsOf': WHATEVER THE INPUT: true; the input reads as it did. -/
def fnExactCountLoopsOfSpec : ChangeSpec := { name := "fnExactCountLoopsOf", fn := fun _ => fun
  | [d1, d2] => { results := [.lit (.bool true)], args := [d1, d2] }
  | _ => none }
def fnExactCountLoopsOfRow : OpenClaim := { program := "ytcpoaindibjecaa", sum := "a1bb29b4937ec7e0ab8a78e1b2941f62cee49d0cc70f43f65650b096da0b9d38", func := "loop.example/g00990/laws.FnExactCountLoopsOf", spec := "fnExactCountLoopsOf", unfollowed := true, recurses := true, apart := false }
def FnExactCountLoopsOfSaid : Prop := fnExactCountLoopsOfRow.holds Try.pinned (OpenSpec.ofChange fnExactCountLoopsOfSpec)

/-- ITS FALSE NEIGHBOUR: 'it returns false'. Refute it at one input. -/
def fnExactCountLoopsOfWrong : ChangeSpec := { name := "fnExactCountLoopsOf", fn := fun _ => fun
  | [d1, d2] => { results := [.lit (.bool false)], args := [d1, d2] }
  | _ => none }
def FnExactCountLoopsOfWrongFalsely : Prop := fnExactCountLoopsOfRow.holds Try.pinned (OpenSpec.ofChange fnExactCountLoopsOfWrong)

/-- 'laws.FnExactIsMeander': WHATEVER THE INPUT: true; the input reads as it did. -/
def fnExactIsMeanderSpec : ChangeSpec := { name := "fnExactIsMeander", fn := fun _ => fun
  | [d1, d2] => { results := [.lit (.bool true)], args := [d1, d2] }
  | _ => none }
def fnExactIsMeanderRow : OpenClaim := { program := "ytcpoaindibjecaa", sum := "a1bb29b4937ec7e0ab8a78e1b2941f62cee49d0cc70f43f65650b096da0b9d38", func := "loop.example/g00990/laws.FnExactIsMeander", spec := "fnExactIsMeander", unfollowed := true, recurses := true, apart := false }
def FnExactIsMeanderSaid : Prop := fnExactIsMeanderRow.holds Try.pinned (OpenSpec.ofChange fnExactIsMeanderSpec)

/-- ITS FALSE NEIGHBOUR: 'it returns false'. Refute it at one input. -/
def fnExactIsMeanderWrong : ChangeSpec := { name := "fnExactIsMeander", fn := fun _ => fun
  | [d1, d2] => { results := [.lit (.bool false)], args := [d1, d2] }
  | _ => none }
def FnExactIsMeanderWrongFalsely : Prop := fnExactIsMeanderRow.holds Try.pinned (OpenSpec.ofChange fnExactIsMeanderWrong)

/-- 'laws.FnExactHedgeOk': WHATEVER THE INPUT: true; the input reads as it did. -/
def fnExactHedgeOkSpec : ChangeSpec := { name := "fnExactHedgeOk", fn := fun _ => fun
  | [d] => { results := [.lit (.bool true)], args := [d] }
  | _ => none }
def fnExactHedgeOkRow : OpenClaim := { program := "ytcpoaindibjecaa", sum := "a1bb29b4937ec7e0ab8a78e1b2941f62cee49d0cc70f43f65650b096da0b9d38", func := "loop.example/g00990/laws.FnExactHedgeOk", spec := "fnExactHedgeOk", unfollowed := true, recurses := true, apart := false }
def FnExactHedgeOkSaid : Prop := fnExactHedgeOkRow.holds Try.pinned (OpenSpec.ofChange fnExactHedgeOkSpec)

/-- ITS FALSE NEIGHBOUR: 'it returns false'. Refute it at one input. -/
def fnExactHedgeOkWrong : ChangeSpec := { name := "fnExactHedgeOk", fn := fun _ => fun
  | [d] => { results := [.lit (.bool false)], args := [d] }
  | _ => none }
def FnExactHedgeOkWrongFalsely : Prop := fnExactHedgeOkRow.holds Try.pinned (OpenSpec.ofChange fnExactHedgeOkWrong)

/-- 'laws.FnExactTimedOk': WHATEVER THE INPUT: true; the input reads as it did. -/
def fnExactTimedOkSpec : ChangeSpec := { name := "fnExactTimedOk", fn := fun _ => fun
  | [d] => { results := [.lit (.bool true)], args := [d] }
  | _ => none }
def fnExactTimedOkRow : OpenClaim := { program := "ytcpoaindibjecaa", sum := "a1bb29b4937ec7e0ab8a78e1b2941f62cee49d0cc70f43f65650b096da0b9d38", func := "loop.example/g00990/laws.FnExactTimedOk", spec := "fnExactTimedOk", apart := false }
def FnExactTimedOkSaid : Prop := fnExactTimedOkRow.holds Try.pinned (OpenSpec.ofChange fnExactTimedOkSpec)

/-- ITS FALSE NEIGHBOUR: 'it returns false'. Refute it at one input. -/
def fnExactTimedOkWrong : ChangeSpec := { name := "fnExactTimedOk", fn := fun _ => fun
  | [d] => { results := [.lit (.bool false)], args := [d] }
  | _ => none }
def FnExactTimedOkWrongFalsely : Prop := fnExactTimedOkRow.holds Try.pinned (OpenSpec.ofChange fnExactTimedOkWrong)

/- THE SECOND FORM. 'bulk': how many values and letters a reading holds, each counted each time it is reached (what is shared counts as often as it is met; a slice's spare places count too). A statement '..UptoSaid' is the law's where the arguments, and the package variables that the reading takes, are together of bulk at most 1048576: NARROWER than '..Said'. Prove '..Said' where nothing that the law and all that it calls make is longer than what came in: it says more and counts as full. Else prove '..UptoSaid'. A law counts once. -/
mutual
def uptoBulk {H : Type} : DataW H → Nat
  | .lit (.string bytes) => bytes.length + 1
  | .lit _ => 1
  | .nil => 1
  | .ptr d => uptoBulk d + 1
  | .slice elems spare => uptoBulkAll elems + uptoBulkAll spare + 1
  | .agg parts => uptoBulkAll parts + 1
  | .iface _ d => uptoBulk d + 1
  | .map entries => uptoBulkEntries entries + 1
  | .held _ => 1
def uptoBulkAll {H : Type} : List (DataW H) → Nat
  | [] => 0
  | d :: r => uptoBulk d + uptoBulkAll r
def uptoBulkEntries {H : Type} : List (Lit × DataW H) → Nat
  | [] => 0
  | x :: r => uptoBulkEntry x + uptoBulkEntries r
def uptoBulkEntry {H : Type} : Lit × DataW H → Nat
  | (.string bytes, d) => bytes.length + uptoBulk d + 1
  | (_, d) => uptoBulk d + 1
 end
def uptoSmall : (H : Type) → List (DataW H) → Bool := fun _ ds => decide (uptoBulkAll ds ≤ 1048576)
def OpenSpec.upto (s : _root_.Go.ChangeSpec) : _root_.Go.OpenSpec := { _root_.Go.OpenSpec.ofChange s with cond := some uptoSmall }

/-- 'laws.FnExactWishOk', WHERE WHAT IT READS IS OF BULK AT MOST 1048576: true; the input reads as it did. -/
def fnExactWishOkUptoRow : OpenClaim := { program := "ytcpoaindibjecaa", sum := "a1bb29b4937ec7e0ab8a78e1b2941f62cee49d0cc70f43f65650b096da0b9d38", func := "loop.example/g00990/laws.FnExactWishOk", spec := "fnExactWishOk", apart := false, narrowed := true }
def FnExactWishOkUptoSaid : Prop := fnExactWishOkUptoRow.holds Try.pinned (OpenSpec.upto fnExactWishOkSpec)

/-- 'laws.FnExactCrossPairs', WHERE WHAT IT READS IS OF BULK AT MOST 1048576: true; the input reads as it did. -/
def fnExactCrossPairsUptoRow : OpenClaim := { program := "ytcpoaindibjecaa", sum := "a1bb29b4937ec7e0ab8a78e1b2941f62cee49d0cc70f43f65650b096da0b9d38", func := "loop.example/g00990/laws.FnExactCrossPairs", spec := "fnExactCrossPairs", unfollowed := true, recurses := true, apart := false, narrowed := true }
def FnExactCrossPairsUptoSaid : Prop := fnExactCrossPairsUptoRow.holds Try.pinned (OpenSpec.upto fnExactCrossPairsSpec)

/-- 'laws.FnExactCircuitsOk', WHERE WHAT IT READS IS OF BULK AT MOST 1048576: true; the input reads as it did. -/
def fnExactCircuitsOkUptoRow : OpenClaim := { program := "ytcpoaindibjecaa", sum := "a1bb29b4937ec7e0ab8a78e1b2941f62cee49d0cc70f43f65650b096da0b9d38", func := "loop.example/g00990/laws.FnExactCircuitsOk", spec := "fnExactCircuitsOk", apart := false, narrowed := true }
def FnExactCircuitsOkUptoSaid : Prop := fnExactCircuitsOkUptoRow.holds Try.pinned (OpenSpec.upto fnExactCircuitsOkSpec)

/-- 'laws.FnExactTurnInside', WHERE WHAT IT READS IS OF BULK AT MOST 1048576: true; the input reads as it did. -/
def fnExactTurnInsideUptoRow : OpenClaim := { program := "ytcpoaindibjecaa", sum := "a1bb29b4937ec7e0ab8a78e1b2941f62cee49d0cc70f43f65650b096da0b9d38", func := "loop.example/g00990/laws.FnExactTurnInside", spec := "fnExactTurnInside", apart := false, narrowed := true }
def FnExactTurnInsideUptoSaid : Prop := fnExactTurnInsideUptoRow.holds Try.pinned (OpenSpec.upto fnExactTurnInsideSpec)

/-- 'laws.FnExactArchesOk', WHERE WHAT IT READS IS OF BULK AT MOST 1048576: true; the input reads as it did. -/
def fnExactArchesOkUptoRow : OpenClaim := { program := "ytcpoaindibjecaa", sum := "a1bb29b4937ec7e0ab8a78e1b2941f62cee49d0cc70f43f65650b096da0b9d38", func := "loop.example/g00990/laws.FnExactArchesOk", spec := "fnExactArchesOk", unfollowed := true, recurses := true, apart := false, narrowed := true }
def FnExactArchesOkUptoSaid : Prop := fnExactArchesOkUptoRow.holds Try.pinned (OpenSpec.upto fnExactArchesOkSpec)

/-- 'laws.FnExactStepPairs', WHERE WHAT IT READS IS OF BULK AT MOST 1048576: true; the input reads as it did. -/
def fnExactStepPairsUptoRow : OpenClaim := { program := "ytcpoaindibjecaa", sum := "a1bb29b4937ec7e0ab8a78e1b2941f62cee49d0cc70f43f65650b096da0b9d38", func := "loop.example/g00990/laws.FnExactStepPairs", spec := "fnExactStepPairs", apart := false, narrowed := true }
def FnExactStepPairsUptoSaid : Prop := fnExactStepPairsUptoRow.holds Try.pinned (OpenSpec.upto fnExactStepPairsSpec)

/-- 'laws.FnExactTurnArches', WHERE WHAT IT READS IS OF BULK AT MOST 1048576: true; the input reads as it did. -/
def fnExactTurnArchesUptoRow : OpenClaim := { program := "ytcpoaindibjecaa", sum := "a1bb29b4937ec7e0ab8a78e1b2941f62cee49d0cc70f43f65650b096da0b9d38", func := "loop.example/g00990/laws.FnExactTurnArches", spec := "fnExactTurnArches", unfollowed := true, recurses := true, apart := false, narrowed := true }
def FnExactTurnArchesUptoSaid : Prop := fnExactTurnArchesUptoRow.holds Try.pinned (OpenSpec.upto fnExactTurnArchesSpec)

/-- 'laws.FnMarks', WHERE WHAT IT READS IS OF BULK AT MOST 1048576: true; the input reads as it did. -/
def fnMarksUptoRow : OpenClaim := { program := "ytcpoaindibjecaa", sum := "a1bb29b4937ec7e0ab8a78e1b2941f62cee49d0cc70f43f65650b096da0b9d38", func := "loop.example/g00990/laws.FnMarks", spec := "fnMarks", unfollowed := true, recurses := true, apart := false, narrowed := true }
def FnMarksUptoSaid : Prop := fnMarksUptoRow.holds Try.pinned (OpenSpec.upto fnMarksSpec)

/-- 'laws.FnExactCountLoopsOf', WHERE WHAT IT READS IS OF BULK AT MOST 1048576: true; the input reads as it did. -/
def fnExactCountLoopsOfUptoRow : OpenClaim := { program := "ytcpoaindibjecaa", sum := "a1bb29b4937ec7e0ab8a78e1b2941f62cee49d0cc70f43f65650b096da0b9d38", func := "loop.example/g00990/laws.FnExactCountLoopsOf", spec := "fnExactCountLoopsOf", unfollowed := true, recurses := true, apart := false, narrowed := true }
def FnExactCountLoopsOfUptoSaid : Prop := fnExactCountLoopsOfUptoRow.holds Try.pinned (OpenSpec.upto fnExactCountLoopsOfSpec)

/-- 'laws.FnExactIsMeander', WHERE WHAT IT READS IS OF BULK AT MOST 1048576: true; the input reads as it did. -/
def fnExactIsMeanderUptoRow : OpenClaim := { program := "ytcpoaindibjecaa", sum := "a1bb29b4937ec7e0ab8a78e1b2941f62cee49d0cc70f43f65650b096da0b9d38", func := "loop.example/g00990/laws.FnExactIsMeander", spec := "fnExactIsMeander", unfollowed := true, recurses := true, apart := false, narrowed := true }
def FnExactIsMeanderUptoSaid : Prop := fnExactIsMeanderUptoRow.holds Try.pinned (OpenSpec.upto fnExactIsMeanderSpec)

/-- 'laws.FnExactHedgeOk', WHERE WHAT IT READS IS OF BULK AT MOST 1048576: true; the input reads as it did. -/
def fnExactHedgeOkUptoRow : OpenClaim := { program := "ytcpoaindibjecaa", sum := "a1bb29b4937ec7e0ab8a78e1b2941f62cee49d0cc70f43f65650b096da0b9d38", func := "loop.example/g00990/laws.FnExactHedgeOk", spec := "fnExactHedgeOk", unfollowed := true, recurses := true, apart := false, narrowed := true }
def FnExactHedgeOkUptoSaid : Prop := fnExactHedgeOkUptoRow.holds Try.pinned (OpenSpec.upto fnExactHedgeOkSpec)

/-- 'laws.FnExactTimedOk', WHERE WHAT IT READS IS OF BULK AT MOST 1048576: true; the input reads as it did. -/
def fnExactTimedOkUptoRow : OpenClaim := { program := "ytcpoaindibjecaa", sum := "a1bb29b4937ec7e0ab8a78e1b2941f62cee49d0cc70f43f65650b096da0b9d38", func := "loop.example/g00990/laws.FnExactTimedOk", spec := "fnExactTimedOk", apart := false, narrowed := true }
def FnExactTimedOkUptoSaid : Prop := fnExactTimedOkUptoRow.holds Try.pinned (OpenSpec.upto fnExactTimedOkSpec)

end Rows
end Go.Proofs.Ytcpoaindibjecaa

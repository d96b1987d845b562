/-
  No cell of these rows narrows 'for every input' (looked for: loops, veiled, ifaces, maps, wideKeys, modest, calm, conditions, laid).
  DERIVED. THE GIVEN ROWS OF THIS SEAT. 4 by the template 'for every input the law returns true; each argument reads behind the call as it read before'; 0 by the template 'total and deterministic' (their statements: YtkkjlbpffcdlfaaTotals.lean).
  GIVEN WITH THE SEED: the statements are not yours to turn. If you find one false, say at which input.
  Laid BY PROGRAM, IN A SANDBOX (cutbox-rows.mjs): the forced cells as the released guide's own fill.sh prints them over the translation 4186c5f85baa1ccb… (all of the seat's roots in one cut). By AI agents, Wed Nov 11 2026. No macro, syntax, notation, axiom, sorry.
-/
import Derived.Test.YtkkjlbpffcdlfaaChecked
import GoSem.Claim
import GoSem.ClaimJoined
import GoSem.ClaimMapViews
import Derived.JoinedTies
import Derived.KernelRfl
namespace Go.Proofs.Ytkkjlbpffcdlfaa
/- THE CELL 'sum', in the pinned program and in every row, IS THE sha256 OF THE DUMP (.gsa) THAT YtkkjlbpffcdlfaaProg.lean LOADS. Nothing in Lean hashes anything: it is a label: what it is worth is what the hold of that sum in a sandbox is worth. -/
noncomputable def Try.pinned : Pinned := { name := "ytkkjlbpffcdlfaa", sum := "4186c5f85baa1ccb9a9e019edaf83d8f212127dab36c05276440fd24c24e66bf", checked := Try.checked }
namespace Rows
def none {H : Type} : Left H := { results := [], args := [] }

/-- 'laws.FnExactStepPairs': WHATEVER THE INPUT: true; the input reads as it did. -/
def fnExactStepPairsSpec : ChangeSpec := { name := "fnExactStepPairs", fn := fun _ => fun
  | [d1, d2] => { results := [.lit (.bool true)], args := [d1, d2] }
  | _ => none }
def fnExactStepPairsRow : OpenClaim := { program := "ytkkjlbpffcdlfaa", sum := "4186c5f85baa1ccb9a9e019edaf83d8f212127dab36c05276440fd24c24e66bf", func := "loop.example/g00990/laws.FnExactStepPairs", spec := "fnExactStepPairs", apart := false }
def FnExactStepPairsSaid : Prop := fnExactStepPairsRow.holds Try.pinned (OpenSpec.ofChange fnExactStepPairsSpec)

/-- ITS FALSE NEIGHBOUR: 'it returns false'. Refute it at one input. -/
def fnExactStepPairsWrong : ChangeSpec := { name := "fnExactStepPairs", fn := fun _ => fun
  | [d1, d2] => { results := [.lit (.bool false)], args := [d1, d2] }
  | _ => none }
def FnExactStepPairsWrongFalsely : Prop := fnExactStepPairsRow.holds Try.pinned (OpenSpec.ofChange fnExactStepPairsWrong)

/-- 'laws.FnExactAllArches': WHATEVER THE INPUT: true; the input reads as it did. -/
def fnExactAllArchesSpec : ChangeSpec := { name := "fnExactAllArches", fn := fun _ => fun
  | [d] => { results := [.lit (.bool true)], args := [d] }
  | _ => none }
def fnExactAllArchesRow : OpenClaim := { program := "ytkkjlbpffcdlfaa", sum := "4186c5f85baa1ccb9a9e019edaf83d8f212127dab36c05276440fd24c24e66bf", func := "loop.example/g00990/laws.FnExactAllArches", spec := "fnExactAllArches", unfollowed := true, recurses := true, apart := false }
def FnExactAllArchesSaid : Prop := fnExactAllArchesRow.holds Try.pinned (OpenSpec.ofChange fnExactAllArchesSpec)

/-- ITS FALSE NEIGHBOUR: 'it returns false'. Refute it at one input. -/
def fnExactAllArchesWrong : ChangeSpec := { name := "fnExactAllArches", fn := fun _ => fun
  | [d] => { results := [.lit (.bool false)], args := [d] }
  | _ => none }
def FnExactAllArchesWrongFalsely : Prop := fnExactAllArchesRow.holds Try.pinned (OpenSpec.ofChange fnExactAllArchesWrong)

/-- 'laws.FnExactCountMeanders': WHATEVER THE INPUT: true; the input reads as it did. -/
def fnExactCountMeandersSpec : ChangeSpec := { name := "fnExactCountMeanders", fn := fun _ => fun
  | [d] => { results := [.lit (.bool true)], args := [d] }
  | _ => none }
def fnExactCountMeandersRow : OpenClaim := { program := "ytkkjlbpffcdlfaa", sum := "4186c5f85baa1ccb9a9e019edaf83d8f212127dab36c05276440fd24c24e66bf", func := "loop.example/g00990/laws.FnExactCountMeanders", spec := "fnExactCountMeanders", unfollowed := true, recurses := true, apart := false }
def FnExactCountMeandersSaid : Prop := fnExactCountMeandersRow.holds Try.pinned (OpenSpec.ofChange fnExactCountMeandersSpec)

/-- ITS FALSE NEIGHBOUR: 'it returns false'. Refute it at one input. -/
def fnExactCountMeandersWrong : ChangeSpec := { name := "fnExactCountMeanders", fn := fun _ => fun
  | [d] => { results := [.lit (.bool false)], args := [d] }
  | _ => none }
def FnExactCountMeandersWrongFalsely : Prop := fnExactCountMeandersRow.holds Try.pinned (OpenSpec.ofChange fnExactCountMeandersWrong)

/-- 'laws.FnMeanders': WHATEVER THE INPUT: true; the input reads as it did. -/
def fnMeandersSpec : ChangeSpec := { name := "fnMeanders", fn := fun _ => fun
  | [d] => { results := [.lit (.bool true)], args := [d] }
  | _ => none }
def fnMeandersRow : OpenClaim := { program := "ytkkjlbpffcdlfaa", sum := "4186c5f85baa1ccb9a9e019edaf83d8f212127dab36c05276440fd24c24e66bf", func := "loop.example/g00990/laws.FnMeanders", spec := "fnMeanders", unfollowed := true, recurses := true, apart := false }
def FnMeandersSaid : Prop := fnMeandersRow.holds Try.pinned (OpenSpec.ofChange fnMeandersSpec)

/-- ITS FALSE NEIGHBOUR: 'it returns false'. Refute it at one input. -/
def fnMeandersWrong : ChangeSpec := { name := "fnMeanders", fn := fun _ => fun
  | [d] => { results := [.lit (.bool false)], args := [d] }
  | _ => none }
def FnMeandersWrongFalsely : Prop := fnMeandersRow.holds Try.pinned (OpenSpec.ofChange fnMeandersWrong)

/- THE SECOND FORM. 'bulk': how many values and letters a reading holds, each counted each time it is reached (what is shared counts as often as it is met; a slice's spare places count too). A statement '..UptoSaid' is the law's where the arguments, and the package variables that the reading takes, are together of bulk at most 1048576: NARROWER than '..Said'. Prove '..Said' where nothing that the law and all that it calls make is longer than what came in: it says more and counts as full. Else prove '..UptoSaid'. A law counts once. -/
mutual
def uptoBulk {H : Type} : DataW H → Nat
  | .lit (.string bytes) => bytes.length + 1
  | .lit _ => 1
  | .nil => 1
  | .ptr d => uptoBulk d + 1
  | .slice elems spare => uptoBulkAll elems + uptoBulkAll spare + 1
  | .agg parts => uptoBulkAll parts + 1
  | .iface _ d => uptoBulk d + 1
  | .map entries => uptoBulkEntries entries + 1
  | .held _ => 1
def uptoBulkAll {H : Type} : List (DataW H) → Nat
  | [] => 0
  | d :: r => uptoBulk d + uptoBulkAll r
def uptoBulkEntries {H : Type} : List (Lit × DataW H) → Nat
  | [] => 0
  | x :: r => uptoBulkEntry x + uptoBulkEntries r
def uptoBulkEntry {H : Type} : Lit × DataW H → Nat
  | (.string bytes, d) => bytes.length + uptoBulk d + 1
  | (_, d) => uptoBulk d + 1
 end
def uptoSmall : (H : Type) → List (DataW H) → Bool := fun _ ds => decide (uptoBulkAll ds ≤ 1048576)
def OpenSpec.upto (s : _root_.Go.ChangeSpec) : _root_.Go.OpenSpec := { _root_.Go.OpenSpec.ofChange s with cond := some uptoSmall }

/-- 'laws.FnExactStepPairs', WHERE WHAT IT READS IS OF BULK AT MOST 1048576: true; the input reads as it did. -/
def fnExactStepPairsUptoRow : OpenClaim := { program := "ytkkjlbpffcdlfaa", sum := "4186c5f85baa1ccb9a9e019edaf83d8f212127dab36c05276440fd24c24e66bf", func := "loop.example/g00990/laws.FnExactStepPairs", spec := "fnExactStepPairs", apart := false, narrowed := true }
def FnExactStepPairsUptoSaid : Prop := fnExactStepPairsUptoRow.holds Try.pinned (OpenSpec.upto fnExactStepPairsSpec)

/-- 'laws.FnExactAllArches', WHERE WHAT IT READS IS OF BULK AT MOST 1048576: true; the input reads as it did. -/
def fnExactAllArchesUptoRow : OpenClaim := { program := "ytkkjlbpffcdlfaa", sum := "4186c5f85baa1ccb9a9e019edaf83d8f212127dab36c05276440fd24c24e66bf", func := "loop.example/g00990/laws.FnExactAllArches", spec := "fnExactAllArches", unfollowed := true, recurses := true, apart := false, narrowed := true }
def FnExactAllArchesUptoSaid : Prop := fnExactAllArchesUptoRow.holds Try.pinned (OpenSpec.upto fnExactAllArchesSpec)

/-- 'laws.FnExactCountMeanders', WHERE WHAT IT READS IS OF BULK AT MOST 1048576: true; the input reads as it did. -/
def fnExactCountMeandersUptoRow : OpenClaim := { program := "ytkkjlbpffcdlfaa", sum := "4186c5f85baa1ccb9a9e019edaf83d8f212127dab36c05276440fd24c24e66bf", func := "loop.example/g00990/laws.FnExactCountMeanders", spec := "fnExactCountMeanders", unfollowed := true, recurses := true, apart := false, narrowed := true }
def FnExactCountMeandersUptoSaid : Prop := fnExactCountMeandersUptoRow.holds Try.pinned (OpenSpec.upto fnExactCountMeandersSpec)

/-- 'laws.FnMeanders', WHERE WHAT IT READS IS OF BULK AT MOST 1048576: true; the input reads as it did. -/
def fnMeandersUptoRow : OpenClaim := { program := "ytkkjlbpffcdlfaa", sum := "4186c5f85baa1ccb9a9e019edaf83d8f212127dab36c05276440fd24c24e66bf", func := "loop.example/g00990/laws.FnMeanders", spec := "fnMeanders", unfollowed := true, recurses := true, apart := false, narrowed := true }
def FnMeandersUptoSaid : Prop := fnMeandersUptoRow.holds Try.pinned (OpenSpec.upto fnMeandersSpec)

end Rows
end Go.Proofs.Ytkkjlbpffcdlfaa

/-
  No cell of these rows narrows 'for every input' (looked for: loops, veiled, ifaces, maps, wideKeys, modest, calm, conditions, laid).
  DERIVED. THE GIVEN ROWS OF THIS SEAT. 12 by the template 'for every input the law returns true; each argument reads behind the call as it read before'; 0 by the template 'total and deterministic' (their statements: YtdloifaaoiollaaTotals.lean).
  GIVEN WITH THE SEED: the statements are not yours to turn. If you find one false, say at which input.
  Laid BY PROGRAM, IN A SANDBOX (cutbox-rows.mjs): the forced cells as the released guide's own fill.sh prints them over the translation 8b900521eba00a8b… (all of the seat's roots in one cut). By AI agents, Wed Nov 11 2026. No macro, syntax, notation, axiom, sorry.
-/
import Derived.Test.YtdloifaaoiollaaChecked
import GoSem.Claim
import GoSem.ClaimJoined
import GoSem.ClaimMapViews
import Derived.JoinedTies
import Derived.KernelRfl
namespace Go.Proofs.Ytdloifaaoiollaa
/- THE CELL 'sum', in the pinned program and in every row, IS THE sha256 OF THE DUMP (.gsa) THAT YtdloifaaoiollaaProg.lean LOADS. Nothing in Lean hashes anything: it is a label: what it is worth is what the hold of that sum in a sandbox is worth. -/
noncomputable def Try.pinned : Pinned := { name := "ytdloifaaoiollaa", sum := "8b900521eba00a8b24dbb7f2b2230b08746fe75331f8fcfa46168fc2748159b2", checked := Try.checked }
namespace Rows
def none {H : Type} : Left H := { results := [], args := [] }

/-- 'laws.FnExactThreadLength': WHATEVER THE INPUT: true; the input reads as it did. -/
def fnExactThreadLengthSpec : ChangeSpec := { name := "fnExactThreadLength", fn := fun _ => fun
  | [d1, d2] => { results := [.lit (.bool true)], args := [d1, d2] }
  | _ => none }
def fnExactThreadLengthRow : OpenClaim := { program := "ytdloifaaoiollaa", sum := "8b900521eba00a8b24dbb7f2b2230b08746fe75331f8fcfa46168fc2748159b2", func := "loop.example/g00990/laws.FnExactThreadLength", spec := "fnExactThreadLength", unfollowed := true, recurses := true, apart := false }
def FnExactThreadLengthSaid : Prop := fnExactThreadLengthRow.holds Try.pinned (OpenSpec.ofChange fnExactThreadLengthSpec)

/-- ITS FALSE NEIGHBOUR: 'it returns false'. Refute it at one input. -/
def fnExactThreadLengthWrong : ChangeSpec := { name := "fnExactThreadLength", fn := fun _ => fun
  | [d1, d2] => { results := [.lit (.bool false)], args := [d1, d2] }
  | _ => none }
def FnExactThreadLengthWrongFalsely : Prop := fnExactThreadLengthRow.holds Try.pinned (OpenSpec.ofChange fnExactThreadLengthWrong)

/-- 'laws.FnExactEnteredFrom': WHATEVER THE INPUT: true; the input reads as it did. -/
def fnExactEnteredFromSpec : ChangeSpec := { name := "fnExactEnteredFrom", fn := fun _ => fun
  | [d1, d2] => { results := [.lit (.bool true)], args := [d1, d2] }
  | _ => none }
def fnExactEnteredFromRow : OpenClaim := { program := "ytdloifaaoiollaa", sum := "8b900521eba00a8b24dbb7f2b2230b08746fe75331f8fcfa46168fc2748159b2", func := "loop.example/g00990/laws.FnExactEnteredFrom", spec := "fnExactEnteredFrom", unfollowed := true, recurses := true, apart := false }
def FnExactEnteredFromSaid : Prop := fnExactEnteredFromRow.holds Try.pinned (OpenSpec.ofChange fnExactEnteredFromSpec)

/-- ITS FALSE NEIGHBOUR: 'it returns false'. Refute it at one input. -/
def fnExactEnteredFromWrong : ChangeSpec := { name := "fnExactEnteredFrom", fn := fun _ => fun
  | [d1, d2] => { results := [.lit (.bool false)], args := [d1, d2] }
  | _ => none }
def FnExactEnteredFromWrongFalsely : Prop := fnExactEnteredFromRow.holds Try.pinned (OpenSpec.ofChange fnExactEnteredFromWrong)

/-- 'laws.FnExactThreadWalk': WHATEVER THE INPUT: true; the input reads as it did. -/
def fnExactThreadWalkSpec : ChangeSpec := { name := "fnExactThreadWalk", fn := fun _ => fun
  | [d1, d2] => { results := [.lit (.bool true)], args := [d1, d2] }
  | _ => none }
def fnExactThreadWalkRow : OpenClaim := { program := "ytdloifaaoiollaa", sum := "8b900521eba00a8b24dbb7f2b2230b08746fe75331f8fcfa46168fc2748159b2", func := "loop.example/g00990/laws.FnExactThreadWalk", spec := "fnExactThreadWalk", unfollowed := true, recurses := true, apart := false }
def FnExactThreadWalkSaid : Prop := fnExactThreadWalkRow.holds Try.pinned (OpenSpec.ofChange fnExactThreadWalkSpec)

/-- ITS FALSE NEIGHBOUR: 'it returns false'. Refute it at one input. -/
def fnExactThreadWalkWrong : ChangeSpec := { name := "fnExactThreadWalk", fn := fun _ => fun
  | [d1, d2] => { results := [.lit (.bool false)], args := [d1, d2] }
  | _ => none }
def FnExactThreadWalkWrongFalsely : Prop := fnExactThreadWalkRow.holds Try.pinned (OpenSpec.ofChange fnExactThreadWalkWrong)

/-- 'laws.FnExactThreadTree': WHATEVER THE INPUT: true; the input reads as it did. -/
def fnExactThreadTreeSpec : ChangeSpec := { name := "fnExactThreadTree", fn := fun _ => fun
  | [d1, d2] => { results := [.lit (.bool true)], args := [d1, d2] }
  | _ => none }
def fnExactThreadTreeRow : OpenClaim := { program := "ytdloifaaoiollaa", sum := "8b900521eba00a8b24dbb7f2b2230b08746fe75331f8fcfa46168fc2748159b2", func := "loop.example/g00990/laws.FnExactThreadTree", spec := "fnExactThreadTree", unfollowed := true, recurses := true, apart := false }
def FnExactThreadTreeSaid : Prop := fnExactThreadTreeRow.holds Try.pinned (OpenSpec.ofChange fnExactThreadTreeSpec)

/-- ITS FALSE NEIGHBOUR: 'it returns false'. Refute it at one input. -/
def fnExactThreadTreeWrong : ChangeSpec := { name := "fnExactThreadTree", fn := fun _ => fun
  | [d1, d2] => { results := [.lit (.bool false)], args := [d1, d2] }
  | _ => none }
def FnExactThreadTreeWrongFalsely : Prop := fnExactThreadTreeRow.holds Try.pinned (OpenSpec.ofChange fnExactThreadTreeWrong)

/-- 'laws.FnThreads': WHATEVER THE INPUT: true; the input reads as it did. -/
def fnThreadsSpec : ChangeSpec := { name := "fnThreads", fn := fun _ => fun
  | [d] => { results := [.lit (.bool true)], args := [d] }
  | _ => none }
def fnThreadsRow : OpenClaim := { program := "ytdloifaaoiollaa", sum := "8b900521eba00a8b24dbb7f2b2230b08746fe75331f8fcfa46168fc2748159b2", func := "loop.example/g00990/laws.FnThreads", spec := "fnThreads", unfollowed := true, recurses := true, apart := false }
def FnThreadsSaid : Prop := fnThreadsRow.holds Try.pinned (OpenSpec.ofChange fnThreadsSpec)

/-- ITS FALSE NEIGHBOUR: 'it returns false'. Refute it at one input. -/
def fnThreadsWrong : ChangeSpec := { name := "fnThreads", fn := fun _ => fun
  | [d] => { results := [.lit (.bool false)], args := [d] }
  | _ => none }
def FnThreadsWrongFalsely : Prop := fnThreadsRow.holds Try.pinned (OpenSpec.ofChange fnThreadsWrong)

/-- 'laws.FnExactMeetsWish': WHATEVER THE INPUT: true; the input reads as it did. -/
def fnExactMeetsWishSpec : ChangeSpec := { name := "fnExactMeetsWish", fn := fun _ => fun
  | [d1, d2] => { results := [.lit (.bool true)], args := [d1, d2] }
  | _ => none }
def fnExactMeetsWishRow : OpenClaim := { program := "ytdloifaaoiollaa", sum := "8b900521eba00a8b24dbb7f2b2230b08746fe75331f8fcfa46168fc2748159b2", func := "loop.example/g00990/laws.FnExactMeetsWish", spec := "fnExactMeetsWish", unfollowed := true, recurses := true, apart := false }
def FnExactMeetsWishSaid : Prop := fnExactMeetsWishRow.holds Try.pinned (OpenSpec.ofChange fnExactMeetsWishSpec)

/-- ITS FALSE NEIGHBOUR: 'it returns false'. Refute it at one input. -/
def fnExactMeetsWishWrong : ChangeSpec := { name := "fnExactMeetsWish", fn := fun _ => fun
  | [d1, d2] => { results := [.lit (.bool false)], args := [d1, d2] }
  | _ => none }
def FnExactMeetsWishWrongFalsely : Prop := fnExactMeetsWishRow.holds Try.pinned (OpenSpec.ofChange fnExactMeetsWishWrong)

/-- 'laws.FnExactLongestWay': WHATEVER THE INPUT: true; the input reads as it did. -/
def fnExactLongestWaySpec : ChangeSpec := { name := "fnExactLongestWay", fn := fun _ => fun
  | [d1, d2, d3] => { results := [.lit (.bool true)], args := [d1, d2, d3] }
  | _ => none }
def fnExactLongestWayRow : OpenClaim := { program := "ytdloifaaoiollaa", sum := "8b900521eba00a8b24dbb7f2b2230b08746fe75331f8fcfa46168fc2748159b2", func := "loop.example/g00990/laws.FnExactLongestWay", spec := "fnExactLongestWay", unfollowed := true, recurses := true, apart := false }
def FnExactLongestWaySaid : Prop := fnExactLongestWayRow.holds Try.pinned (OpenSpec.ofChange fnExactLongestWaySpec)

/-- ITS FALSE NEIGHBOUR: 'it returns false'. Refute it at one input. -/
def fnExactLongestWayWrong : ChangeSpec := { name := "fnExactLongestWay", fn := fun _ => fun
  | [d1, d2, d3] => { results := [.lit (.bool false)], args := [d1, d2, d3] }
  | _ => none }
def FnExactLongestWayWrongFalsely : Prop := fnExactLongestWayRow.holds Try.pinned (OpenSpec.ofChange fnExactLongestWayWrong)

/-- 'laws.FnWishes': WHATEVER THE INPUT: true; the input reads as it did. -/
def fnWishesSpec : ChangeSpec := { name := "fnWishes", fn := fun _ => fun
  | [d] => { results := [.lit (.bool true)], args := [d] }
  | _ => none }
def fnWishesRow : OpenClaim := { program := "ytdloifaaoiollaa", sum := "8b900521eba00a8b24dbb7f2b2230b08746fe75331f8fcfa46168fc2748159b2", func := "loop.example/g00990/laws.FnWishes", spec := "fnWishes", unfollowed := true, recurses := true, apart := false }
def FnWishesSaid : Prop := fnWishesRow.holds Try.pinned (OpenSpec.ofChange fnWishesSpec)

/-- ITS FALSE NEIGHBOUR: 'it returns false'. Refute it at one input. -/
def fnWishesWrong : ChangeSpec := { name := "fnWishes", fn := fun _ => fun
  | [d] => { results := [.lit (.bool false)], args := [d] }
  | _ => none }
def FnWishesWrongFalsely : Prop := fnWishesRow.holds Try.pinned (OpenSpec.ofChange fnWishesWrong)

/-- 'laws.FnExactCountMeeting': WHATEVER THE INPUT: true; the input reads as it did. -/
def fnExactCountMeetingSpec : ChangeSpec := { name := "fnExactCountMeeting", fn := fun _ => fun
  | [d1, d2] => { results := [.lit (.bool true)], args := [d1, d2] }
  | _ => none }
def fnExactCountMeetingRow : OpenClaim := { program := "ytdloifaaoiollaa", sum := "8b900521eba00a8b24dbb7f2b2230b08746fe75331f8fcfa46168fc2748159b2", func := "loop.example/g00990/laws.FnExactCountMeeting", spec := "fnExactCountMeeting", unfollowed := true, recurses := true, apart := false }
def FnExactCountMeetingSaid : Prop := fnExactCountMeetingRow.holds Try.pinned (OpenSpec.ofChange fnExactCountMeetingSpec)

/-- ITS FALSE NEIGHBOUR: 'it returns false'. Refute it at one input. -/
def fnExactCountMeetingWrong : ChangeSpec := { name := "fnExactCountMeeting", fn := fun _ => fun
  | [d1, d2] => { results := [.lit (.bool false)], args := [d1, d2] }
  | _ => none }
def FnExactCountMeetingWrongFalsely : Prop := fnExactCountMeetingRow.holds Try.pinned (OpenSpec.ofChange fnExactCountMeetingWrong)

/-- 'laws.FnExactFirstMeeting': WHATEVER THE INPUT: true; the input reads as it did. -/
def fnExactFirstMeetingSpec : ChangeSpec := { name := "fnExactFirstMeeting", fn := fun _ => fun
  | [d1, d2] => { results := [.lit (.bool true)], args := [d1, d2] }
  | _ => none }
def fnExactFirstMeetingRow : OpenClaim := { program := "ytdloifaaoiollaa", sum := "8b900521eba00a8b24dbb7f2b2230b08746fe75331f8fcfa46168fc2748159b2", func := "loop.example/g00990/laws.FnExactFirstMeeting", spec := "fnExactFirstMeeting", unfollowed := true, recurses := true, apart := false }
def FnExactFirstMeetingSaid : Prop := fnExactFirstMeetingRow.holds Try.pinned (OpenSpec.ofChange fnExactFirstMeetingSpec)

/-- ITS FALSE NEIGHBOUR: 'it returns false'. Refute it at one input. -/
def fnExactFirstMeetingWrong : ChangeSpec := { name := "fnExactFirstMeeting", fn := fun _ => fun
  | [d1, d2] => { results := [.lit (.bool false)], args := [d1, d2] }
  | _ => none }
def FnExactFirstMeetingWrongFalsely : Prop := fnExactFirstMeetingRow.holds Try.pinned (OpenSpec.ofChange fnExactFirstMeetingWrong)

/-- 'laws.FnExactDaysOpen': WHATEVER THE INPUT: true; the input reads as it did. -/
def fnExactDaysOpenSpec : ChangeSpec := { name := "fnExactDaysOpen", fn := fun _ => fun
  | [d1, d2] => { results := [.lit (.bool true)], args := [d1, d2] }
  | _ => none }
def fnExactDaysOpenRow : OpenClaim := { program := "ytdloifaaoiollaa", sum := "8b900521eba00a8b24dbb7f2b2230b08746fe75331f8fcfa46168fc2748159b2", func := "loop.example/g00990/laws.FnExactDaysOpen", spec := "fnExactDaysOpen", unfollowed := true, recurses := true, apart := false }
def FnExactDaysOpenSaid : Prop := fnExactDaysOpenRow.holds Try.pinned (OpenSpec.ofChange fnExactDaysOpenSpec)

/-- ITS FALSE NEIGHBOUR: 'it returns false'. Refute it at one input. -/
def fnExactDaysOpenWrong : ChangeSpec := { name := "fnExactDaysOpen", fn := fun _ => fun
  | [d1, d2] => { results := [.lit (.bool false)], args := [d1, d2] }
  | _ => none }
def FnExactDaysOpenWrongFalsely : Prop := fnExactDaysOpenRow.holds Try.pinned (OpenSpec.ofChange fnExactDaysOpenWrong)

/-- 'laws.FnHedges': WHATEVER THE INPUT: true; the input reads as it did. -/
def fnHedgesSpec : ChangeSpec := { name := "fnHedges", fn := fun _ => fun
  | [d] => { results := [.lit (.bool true)], args := [d] }
  | _ => none }
def fnHedgesRow : OpenClaim := { program := "ytdloifaaoiollaa", sum := "8b900521eba00a8b24dbb7f2b2230b08746fe75331f8fcfa46168fc2748159b2", func := "loop.example/g00990/laws.FnHedges", spec := "fnHedges", unfollowed := true, recurses := true, apart := false }
def FnHedgesSaid : Prop := fnHedgesRow.holds Try.pinned (OpenSpec.ofChange fnHedgesSpec)

/-- ITS FALSE NEIGHBOUR: 'it returns false'. Refute it at one input. -/
def fnHedgesWrong : ChangeSpec := { name := "fnHedges", fn := fun _ => fun
  | [d] => { results := [.lit (.bool false)], args := [d] }
  | _ => none }
def FnHedgesWrongFalsely : Prop := fnHedgesRow.holds Try.pinned (OpenSpec.ofChange fnHedgesWrong)

/- THE SECOND FORM. 'bulk': how many values and letters a reading holds, each counted each time it is reached (what is shared counts as often as it is met; a slice's spare places count too). A statement '..UptoSaid' is the law's where the arguments, and the package variables that the reading takes, are together of bulk at most 1048576: NARROWER than '..Said'. Prove '..Said' where nothing that the law and all that it calls make is longer than what came in: it says more and counts as full. Else prove '..UptoSaid'. A law counts once. -/
mutual
def uptoBulk {H : Type} : DataW H → Nat
  | .lit (.string bytes) => bytes.length + 1
  | .lit _ => 1
  | .nil => 1
  | .ptr d => uptoBulk d + 1
  | .slice elems spare => uptoBulkAll elems + uptoBulkAll spare + 1
  | .agg parts => uptoBulkAll parts + 1
  | .iface _ d => uptoBulk d + 1
  | .map entries => uptoBulkEntries entries + 1
  | .held _ => 1
def uptoBulkAll {H : Type} : List (DataW H) → Nat
  | [] => 0
  | d :: r => uptoBulk d + uptoBulkAll r
def uptoBulkEntries {H : Type} : List (Lit × DataW H) → Nat
  | [] => 0
  | x :: r => uptoBulkEntry x + uptoBulkEntries r
def uptoBulkEntry {H : Type} : Lit × DataW H → Nat
  | (.string bytes, d) => bytes.length + uptoBulk d + 1
  | (_, d) => uptoBulk d + 1
 end
def uptoSmall : (H : Type) → List (DataW H) → Bool := fun _ ds => decide (uptoBulkAll ds ≤ 1048576)
def OpenSpec.upto (s : _root_.Go.ChangeSpec) : _root_.Go.OpenSpec := { _root_.Go.OpenSpec.ofChange s with cond := some uptoSmall }

/-- 'laws.FnExactThreadLength', WHERE WHAT IT READS IS OF BULK AT MOST 1048576: true; the input reads as it did. -/
def fnExactThreadLengthUptoRow : OpenClaim := { program := "ytdloifaaoiollaa", sum := "8b900521eba00a8b24dbb7f2b2230b08746fe75331f8fcfa46168fc2748159b2", func := "loop.example/g00990/laws.FnExactThreadLength", spec := "fnExactThreadLength", unfollowed := true, recurses := true, apart := false, narrowed := true }
def FnExactThreadLengthUptoSaid : Prop := fnExactThreadLengthUptoRow.holds Try.pinned (OpenSpec.upto fnExactThreadLengthSpec)

/-- 'laws.FnExactEnteredFrom', WHERE WHAT IT READS IS OF BULK AT MOST 1048576: true; the input reads as it did. -/
def fnExactEnteredFromUptoRow : OpenClaim := { program := "ytdloifaaoiollaa", sum := "8b900521eba00a8b24dbb7f2b2230b08746fe75331f8fcfa46168fc2748159b2", func := "loop.example/g00990/laws.FnExactEnteredFrom", spec := "fnExactEnteredFrom", unfollowed := true, recurses := true, apart := false, narrowed := true }
def FnExactEnteredFromUptoSaid : Prop := fnExactEnteredFromUptoRow.holds Try.pinned (OpenSpec.upto fnExactEnteredFromSpec)

/-- 'laws.FnExactThreadWalk', WHERE WHAT IT READS IS OF BULK AT MOST 1048576: true; the input reads as it did. -/
def fnExactThreadWalkUptoRow : OpenClaim := { program := "ytdloifaaoiollaa", sum := "8b900521eba00a8b24dbb7f2b2230b08746fe75331f8fcfa46168fc2748159b2", func := "loop.example/g00990/laws.FnExactThreadWalk", spec := "fnExactThreadWalk", unfollowed := true, recurses := true, apart := false, narrowed := true }
def FnExactThreadWalkUptoSaid : Prop := fnExactThreadWalkUptoRow.holds Try.pinned (OpenSpec.upto fnExactThreadWalkSpec)

/-- 'laws.FnExactThreadTree', WHERE WHAT IT READS IS OF BULK AT MOST 1048576: true; the input reads as it did. -/
def fnExactThreadTreeUptoRow : OpenClaim := { program := "ytdloifaaoiollaa", sum := "8b900521eba00a8b24dbb7f2b2230b08746fe75331f8fcfa46168fc2748159b2", func := "loop.example/g00990/laws.FnExactThreadTree", spec := "fnExactThreadTree", unfollowed := true, recurses := true, apart := false, narrowed := true }
def FnExactThreadTreeUptoSaid : Prop := fnExactThreadTreeUptoRow.holds Try.pinned (OpenSpec.upto fnExactThreadTreeSpec)

/-- 'laws.FnThreads', WHERE WHAT IT READS IS OF BULK AT MOST 1048576: true; the input reads as it did. -/
def fnThreadsUptoRow : OpenClaim := { program := "ytdloifaaoiollaa", sum := "8b900521eba00a8b24dbb7f2b2230b08746fe75331f8fcfa46168fc2748159b2", func := "loop.example/g00990/laws.FnThreads", spec := "fnThreads", unfollowed := true, recurses := true, apart := false, narrowed := true }
def FnThreadsUptoSaid : Prop := fnThreadsUptoRow.holds Try.pinned (OpenSpec.upto fnThreadsSpec)

/-- 'laws.FnExactMeetsWish', WHERE WHAT IT READS IS OF BULK AT MOST 1048576: true; the input reads as it did. -/
def fnExactMeetsWishUptoRow : OpenClaim := { program := "ytdloifaaoiollaa", sum := "8b900521eba00a8b24dbb7f2b2230b08746fe75331f8fcfa46168fc2748159b2", func := "loop.example/g00990/laws.FnExactMeetsWish", spec := "fnExactMeetsWish", unfollowed := true, recurses := true, apart := false, narrowed := true }
def FnExactMeetsWishUptoSaid : Prop := fnExactMeetsWishUptoRow.holds Try.pinned (OpenSpec.upto fnExactMeetsWishSpec)

/-- 'laws.FnExactLongestWay', WHERE WHAT IT READS IS OF BULK AT MOST 1048576: true; the input reads as it did. -/
def fnExactLongestWayUptoRow : OpenClaim := { program := "ytdloifaaoiollaa", sum := "8b900521eba00a8b24dbb7f2b2230b08746fe75331f8fcfa46168fc2748159b2", func := "loop.example/g00990/laws.FnExactLongestWay", spec := "fnExactLongestWay", unfollowed := true, recurses := true, apart := false, narrowed := true }
def FnExactLongestWayUptoSaid : Prop := fnExactLongestWayUptoRow.holds Try.pinned (OpenSpec.upto fnExactLongestWaySpec)

/-- 'laws.FnWishes', WHERE WHAT IT READS IS OF BULK AT MOST 1048576: true; the input reads as it did. -/
def fnWishesUptoRow : OpenClaim := { program := "ytdloifaaoiollaa", sum := "8b900521eba00a8b24dbb7f2b2230b08746fe75331f8fcfa46168fc2748159b2", func := "loop.example/g00990/laws.FnWishes", spec := "fnWishes", unfollowed := true, recurses := true, apart := false, narrowed := true }
def FnWishesUptoSaid : Prop := fnWishesUptoRow.holds Try.pinned (OpenSpec.upto fnWishesSpec)

/-- 'laws.FnExactCountMeeting', WHERE WHAT IT READS IS OF BULK AT MOST 1048576: true; the input reads as it did. -/
def fnExactCountMeetingUptoRow : OpenClaim := { program := "ytdloifaaoiollaa", sum := "8b900521eba00a8b24dbb7f2b2230b08746fe75331f8fcfa46168fc2748159b2", func := "loop.example/g00990/laws.FnExactCountMeeting", spec := "fnExactCountMeeting", unfollowed := true, recurses := true, apart := false, narrowed := true }
def FnExactCountMeetingUptoSaid : Prop := fnExactCountMeetingUptoRow.holds Try.pinned (OpenSpec.upto fnExactCountMeetingSpec)

/-- 'laws.FnExactFirstMeeting', WHERE WHAT IT READS IS OF BULK AT MOST 1048576: true; the input reads as it did. -/
def fnExactFirstMeetingUptoRow : OpenClaim := { program := "ytdloifaaoiollaa", sum := "8b900521eba00a8b24dbb7f2b2230b08746fe75331f8fcfa46168fc2748159b2", func := "loop.example/g00990/laws.FnExactFirstMeeting", spec := "fnExactFirstMeeting", unfollowed := true, recurses := true, apart := false, narrowed := true }
def FnExactFirstMeetingUptoSaid : Prop := fnExactFirstMeetingUptoRow.holds Try.pinned (OpenSpec.upto fnExactFirstMeetingSpec)

/-- 'laws.FnExactDaysOpen', WHERE WHAT IT READS IS OF BULK AT MOST 1048576: true; the input reads as it did. -/
def fnExactDaysOpenUptoRow : OpenClaim := { program := "ytdloifaaoiollaa", sum := "8b900521eba00a8b24dbb7f2b2230b08746fe75331f8fcfa46168fc2748159b2", func := "loop.example/g00990/laws.FnExactDaysOpen", spec := "fnExactDaysOpen", unfollowed := true, recurses := true, apart := false, narrowed := true }
def FnExactDaysOpenUptoSaid : Prop := fnExactDaysOpenUptoRow.holds Try.pinned (OpenSpec.upto fnExactDaysOpenSpec)

/-- 'laws.FnHedges', WHERE WHAT IT READS IS OF BULK AT MOST 1048576: true; the input reads as it did. -/
def fnHedgesUptoRow : OpenClaim := { program := "ytdloifaaoiollaa", sum := "8b900521eba00a8b24dbb7f2b2230b08746fe75331f8fcfa46168fc2748159b2", func := "loop.example/g00990/laws.FnHedges", spec := "fnHedges", unfollowed := true, recurses := true, apart := false, narrowed := true }
def FnHedgesUptoSaid : Prop := fnHedgesUptoRow.holds Try.pinned (OpenSpec.upto fnHedgesSpec)

end Rows
end Go.Proofs.Ytdloifaaoiollaa

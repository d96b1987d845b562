/-
  DERIVED. GIVEN WITH THE SEED: THE CARDS: each row of YtgnnkjgfkdaddaaDoorRows.lean that lists a variable, with what it lists TIED to the program's text (the seventh form; the later family's looks); each row that meets fmt, with fmt's text TOLD by the authors' own Lean function (tested against real Go, not proved from fmt's source: count such statements apart). THE CARD IS WHAT COUNTS. Prove the row's statement (the work); the ties are given (YtgnnkjgfkdaddaaDoorTie.lean); close each card by the builder's one call (the guide's Derived/Test/ToyasCard.lean, 'card_holds'). Laid BY PROGRAM, IN A SANDBOX (cutbox-door.mjs). By AI agents, Wed Nov 11 2026. No macro, syntax, notation, axiom, sorry.
-/
import Derived.Test.YtgnnkjgfkdaddaaDoorRows
import GoSem.ClaimSeven
namespace Go.Proofs.YtgnnkjgfkdaddaaDoor
namespace Rows

/-- THE TIED CARD OF 'laws.FnExactCountReached'. -/
def fnExactCountReachedCard : Claim7 := { stood := { row := fnExactCountReachedRow, standIns := [], harness := (true, "378c5098444dcbe3c753fab24c9a551e860c143a7cf5cbbb373acae676d92b98"), looks := false }, kinds := [], alts := [], laidByText := true, laidKinds := [.data, .data, .data], laidTests := true, laidLooks := .later }
def FnExactCountReachedCardSaid : Prop := Claim7.holds Tryd.pinned (.plain (OpenSpec.ofChange fnExactCountReachedSpec)) fnExactCountReachedCard

/-- THE SECOND FORM's CARD OF 'laws.FnExactCountReached'. -/
def fnExactCountReachedUptoCard : Claim7 := { stood := { row := fnExactCountReachedUptoRow, standIns := [], harness := (true, "378c5098444dcbe3c753fab24c9a551e860c143a7cf5cbbb373acae676d92b98"), looks := false }, kinds := [], alts := [], laidByText := true, laidKinds := [.data, .data, .data], laidTests := true, laidLooks := .later }
def FnExactCountReachedUptoCardSaid : Prop := Claim7.holds Tryd.pinned (.plain (OpenSpec.upto fnExactCountReachedSpec)) fnExactCountReachedUptoCard
end Rows
end Go.Proofs.YtgnnkjgfkdaddaaDoor

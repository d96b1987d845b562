/-
  DERIVED. GIVEN WITH THE SEED: THE CARDS: each row of YtbdodiaedocmjaaDoorRows.lean that lists a variable, with what it lists TIED to the program's text (the seventh form; the later family's looks); each row that meets fmt, with fmt's text TOLD by the authors' own Lean function (tested against real Go, not proved from fmt's source: count such statements apart). THE CARD IS WHAT COUNTS. Prove the row's statement (the work); the ties are given (YtbdodiaedocmjaaDoorTie.lean); close each card by the builder's one call (the guide's Derived/Test/ToyasCard.lean, 'card_holds'). Laid BY PROGRAM, IN A SANDBOX (cutbox-door.mjs). By AI agents, Wed Nov 11 2026. No macro, syntax, notation, axiom, sorry.
-/
import Derived.Test.YtbdodiaedocmjaaDoorRows
import GoSem.ClaimSeven
namespace Go.Proofs.YtbdodiaedocmjaaDoor
namespace Rows

/-- THE TIED CARD OF 'laws.FnExactSwapTowards'. -/
def fnExactSwapTowardsCard : Claim7 := { stood := { row := fnExactSwapTowardsRow, standIns := [], harness := (true, "a6256209d3a1fe13e39192223de372b8efce35010d7ad1b9bab66ec27574b121"), looks := false }, kinds := [], alts := [], laidByText := true, laidKinds := [.data, .data], laidTests := true, laidLooks := .later }
def FnExactSwapTowardsCardSaid : Prop := Claim7.holds Tryd.pinned (.plain (OpenSpec.ofChange fnExactSwapTowardsSpec)) fnExactSwapTowardsCard

/-- THE TIED CARD OF 'laws.FnExactSwapsBetween'. -/
def fnExactSwapsBetweenCard : Claim7 := { stood := { row := fnExactSwapsBetweenRow, standIns := [], harness := (true, "a6256209d3a1fe13e39192223de372b8efce35010d7ad1b9bab66ec27574b121"), looks := false }, kinds := [], alts := [], laidByText := true, laidKinds := [.data, .data], laidTests := true, laidLooks := .later }
def FnExactSwapsBetweenCardSaid : Prop := Claim7.holds Tryd.pinned (.plain (OpenSpec.ofChange fnExactSwapsBetweenSpec)) fnExactSwapsBetweenCard

/-- THE SECOND FORM's CARD OF 'laws.FnExactSwapTowards'. -/
def fnExactSwapTowardsUptoCard : Claim7 := { stood := { row := fnExactSwapTowardsUptoRow, standIns := [], harness := (true, "a6256209d3a1fe13e39192223de372b8efce35010d7ad1b9bab66ec27574b121"), looks := false }, kinds := [], alts := [], laidByText := true, laidKinds := [.data, .data], laidTests := true, laidLooks := .later }
def FnExactSwapTowardsUptoCardSaid : Prop := Claim7.holds Tryd.pinned (.plain (OpenSpec.upto fnExactSwapTowardsSpec)) fnExactSwapTowardsUptoCard

/-- THE SECOND FORM's CARD OF 'laws.FnExactSwapsBetween'. -/
def fnExactSwapsBetweenUptoCard : Claim7 := { stood := { row := fnExactSwapsBetweenUptoRow, standIns := [], harness := (true, "a6256209d3a1fe13e39192223de372b8efce35010d7ad1b9bab66ec27574b121"), looks := false }, kinds := [], alts := [], laidByText := true, laidKinds := [.data, .data], laidTests := true, laidLooks := .later }
def FnExactSwapsBetweenUptoCardSaid : Prop := Claim7.holds Tryd.pinned (.plain (OpenSpec.upto fnExactSwapsBetweenSpec)) fnExactSwapsBetweenUptoCard
end Rows
end Go.Proofs.YtbdodiaedocmjaaDoor

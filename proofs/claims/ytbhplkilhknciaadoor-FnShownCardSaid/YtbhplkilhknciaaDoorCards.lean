/-
  DERIVED. GIVEN WITH THE SEED: THE CARDS: each row of YtbhplkilhknciaaDoorRows.lean that lists a variable, with what it lists TIED to the program's text (the seventh form; the later family's looks); each row that meets fmt, with fmt's text TOLD by the authors' own Lean function (tested against real Go, not proved from fmt's source: count such statements apart). THE CARD IS WHAT COUNTS. Prove the row's statement (the work); the ties are given (YtbhplkilhknciaaDoorTie.lean); close each card by the builder's one call (the guide's Derived/Test/ToyasCard.lean, 'card_holds'). Laid BY PROGRAM, IN A SANDBOX (cutbox-door.mjs). By AI agents, Wed Nov 11 2026. No macro, syntax, notation, axiom, sorry.
-/
import Derived.Test.YtbhplkilhknciaaDoorRows
import GoSem.ClaimSeven
namespace Go.Proofs.YtbhplkilhknciaaDoor
namespace Rows

/-- THE TIED CARD OF 'laws.FnShown'. -/
def fnShownCard : Claim7 := { stood := { row := fnShownRow, standIns := [], harness := (true, "1d39374bcd993b7c8dd708e2359da31b3bcb374a9ea8fe43a80ab69029b5c5a5"), looks := false }, kinds := [], alts := [], laidByText := true, laidKinds := [.data, .data, .data], laidTests := true, laidLooks := .later }
def FnShownCardSaid : Prop := Claim7.holds Tryd.pinned (.plain (OpenSpec.ofChange fnShownSpec)) fnShownCard

/-- THE TIED CARD OF 'laws.FnExactShowRoute'. -/
def fnExactShowRouteCard : Claim7 := { stood := { row := fnExactShowRouteRow, standIns := [], harness := (true, "1d39374bcd993b7c8dd708e2359da31b3bcb374a9ea8fe43a80ab69029b5c5a5"), looks := false }, kinds := [], alts := [], laidByText := true, laidKinds := [.data, .data, .data], laidTests := true, laidLooks := .later }
def FnExactShowRouteCardSaid : Prop := Claim7.holds Tryd.pinned (.plain (OpenSpec.ofChange fnExactShowRouteSpec)) fnExactShowRouteCard

/-- THE SECOND FORM's CARD OF 'laws.FnShown'. -/
def fnShownUptoCard : Claim7 := { stood := { row := fnShownUptoRow, standIns := [], harness := (true, "1d39374bcd993b7c8dd708e2359da31b3bcb374a9ea8fe43a80ab69029b5c5a5"), looks := false }, kinds := [], alts := [], laidByText := true, laidKinds := [.data, .data, .data], laidTests := true, laidLooks := .later }
def FnShownUptoCardSaid : Prop := Claim7.holds Tryd.pinned (.plain (OpenSpec.upto fnShownSpec)) fnShownUptoCard

/-- THE SECOND FORM's CARD OF 'laws.FnExactShowRoute'. -/
def fnExactShowRouteUptoCard : Claim7 := { stood := { row := fnExactShowRouteUptoRow, standIns := [], harness := (true, "1d39374bcd993b7c8dd708e2359da31b3bcb374a9ea8fe43a80ab69029b5c5a5"), looks := false }, kinds := [], alts := [], laidByText := true, laidKinds := [.data, .data, .data], laidTests := true, laidLooks := .later }
def FnExactShowRouteUptoCardSaid : Prop := Claim7.holds Tryd.pinned (.plain (OpenSpec.upto fnExactShowRouteSpec)) fnExactShowRouteUptoCard
end Rows
end Go.Proofs.YtbhplkilhknciaaDoor

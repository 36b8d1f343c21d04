/-
  DERIVED. GIVEN WITH THE SEED: THE CARDS: each row of YtmooampfjclmiaaDoorRows.lean that lists a variable, with what it lists TIED to the program's text (the seventh form; the later family's looks); each row that meets fmt, with fmt's text TOLD by the authors' own Lean function (tested against real Go, not proved from fmt's source: count such statements apart). THE CARD IS WHAT COUNTS. Prove the row's statement (the work); the ties are given (YtmooampfjclmiaaDoorTie.lean); close each card by the builder's one call (the guide's Derived/Test/ToyasCard.lean, 'card_holds'). Laid BY PROGRAM, IN A SANDBOX (cutbox-door.mjs). By AI agents, Wed Nov 11 2026. No macro, syntax, notation, axiom, sorry.
-/
import Derived.Test.YtmooampfjclmiaaDoorRows
import GoSem.ClaimSeven
namespace Go.Proofs.YtmooampfjclmiaaDoor
namespace Rows

/-- THE TIED CARD OF 'laws.FnExactEventsIn'. -/
def fnExactEventsInCard : Claim7 := { stood := { row := fnExactEventsInRow, standIns := [], harness := (true, "d78fee1e115f086027dd6a93ef608b5d4ce813330fb9a840dc1e14b9d7d840c6"), looks := false }, kinds := [], alts := [], laidByText := true, laidKinds := [.data, .pinned], laidTests := true, laidLooks := .later }
def FnExactEventsInCardSaid : Prop := Claim7.holds Tryd.pinned (.plain (OpenSpec.ofChange fnExactEventsInSpec)) fnExactEventsInCard

/-- THE SECOND FORM's CARD OF 'laws.FnExactEventsIn'. -/
def fnExactEventsInUptoCard : Claim7 := { stood := { row := fnExactEventsInUptoRow, standIns := [], harness := (true, "d78fee1e115f086027dd6a93ef608b5d4ce813330fb9a840dc1e14b9d7d840c6"), looks := false }, kinds := [], alts := [], laidByText := true, laidKinds := [.data, .pinned], laidTests := true, laidLooks := .later }
def FnExactEventsInUptoCardSaid : Prop := Claim7.holds Tryd.pinned (.plain (OpenSpec.upto fnExactEventsInSpec)) fnExactEventsInUptoCard
end Rows
end Go.Proofs.YtmooampfjclmiaaDoor

/-
  DERIVED. GIVEN WITH THE SEED: THE CARDS: each row of YtjhcfmcdllfmpaaGreatDoorRows.lean that lists a variable, with what it lists TIED to the program's text (the seventh form; the later family's looks); each row that meets fmt, with fmt's text TOLD by the authors' own Lean function (tested against real Go, not proved from fmt's source: count such statements apart). THE CARD IS WHAT COUNTS. Prove the row's statement (the work); the ties are given (YtjhcfmcdllfmpaaGreatDoorTie.lean); close each card by the builder's one call (the guide's Derived/Test/ToyasCard.lean, 'card_holds'). Laid BY PROGRAM, IN A SANDBOX (cutbox-door.mjs). By AI agents, Wed Nov 11 2026. No macro, syntax, notation, axiom, sorry.
-/
import Derived.Test.YtjhcfmcdllfmpaaGreatDoorRows
import GoSem.ClaimSeven
namespace Go.Proofs.YtjhcfmcdllfmpaaGreatDoor
namespace Rows

/-- THE TIED CARD OF 'laws.FnExactHasHistory'. -/
def fnExactHasHistoryCard : Claim7 := { stood := { row := fnExactHasHistoryRow, standIns := [], harness := (true, "0d5cb6cbf79b84f3faf954c5976a96ab49067ecee0265806ab1597c080024ee4"), looks := false }, kinds := [], alts := [], laidByText := true, laidKinds := [.data, .pinned], laidTests := true, laidLooks := .later }
def FnExactHasHistoryCardSaid : Prop := Claim7.holds Tryz.pinned (.plain (OpenSpec.ofChange fnExactHasHistorySpec)) fnExactHasHistoryCard

/-- THE SECOND FORM's CARD OF 'laws.FnExactHasHistory'. -/
def fnExactHasHistoryUptoCard : Claim7 := { stood := { row := fnExactHasHistoryUptoRow, standIns := [], harness := (true, "0d5cb6cbf79b84f3faf954c5976a96ab49067ecee0265806ab1597c080024ee4"), looks := false }, kinds := [], alts := [], laidByText := true, laidKinds := [.data, .pinned], laidTests := true, laidLooks := .later }
def FnExactHasHistoryUptoCardSaid : Prop := Claim7.holds Tryz.pinned (.plain (OpenSpec.upto fnExactHasHistorySpec)) fnExactHasHistoryUptoCard
end Rows
end Go.Proofs.YtjhcfmcdllfmpaaGreatDoor

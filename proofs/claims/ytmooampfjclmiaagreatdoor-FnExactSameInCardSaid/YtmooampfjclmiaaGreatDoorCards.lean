/-
  DERIVED. GIVEN WITH THE SEED: THE CARDS: each row of YtmooampfjclmiaaGreatDoorRows.lean that lists a variable, with what it lists TIED to the program's text (the seventh form; the later family's looks); each row that meets fmt, with fmt's text TOLD by the authors' own Lean function (tested against real Go, not proved from fmt's source: count such statements apart). THE CARD IS WHAT COUNTS. Prove the row's statement (the work); the ties are given (YtmooampfjclmiaaGreatDoorTie.lean); close each card by the builder's one call (the guide's Derived/Test/ToyasCard.lean, 'card_holds'). Laid BY PROGRAM, IN A SANDBOX (cutbox-door.mjs). By AI agents, Wed Nov 11 2026. No macro, syntax, notation, axiom, sorry.
-/
import Derived.Test.YtmooampfjclmiaaGreatDoorRows
import GoSem.ClaimSeven
namespace Go.Proofs.YtmooampfjclmiaaGreatDoor
namespace Rows

/-- THE TIED CARD OF 'laws.FnExactGoodRegion'. -/
def fnExactGoodRegionCard : Claim7 := { stood := { row := fnExactGoodRegionRow, standIns := [], harness := (true, "8d0b9c85cb3ef7765de28853267f15e41abd7e46f4d09e70b653db4556b6a773"), looks := false }, kinds := [], alts := [], laidByText := true, laidKinds := [.data, .pinned], laidTests := true, laidLooks := .later }
def FnExactGoodRegionCardSaid : Prop := Claim7.holds Tryz.pinned (.plain (OpenSpec.ofChange fnExactGoodRegionSpec)) fnExactGoodRegionCard

/-- THE TIED CARD OF 'laws.FnExactIsActive'. -/
def fnExactIsActiveCard : Claim7 := { stood := { row := fnExactIsActiveRow, standIns := [], harness := (true, "8d0b9c85cb3ef7765de28853267f15e41abd7e46f4d09e70b653db4556b6a773"), looks := false }, kinds := [], alts := [], laidByText := true, laidKinds := [.data, .pinned], laidTests := true, laidLooks := .later }
def FnExactIsActiveCardSaid : Prop := Claim7.holds Tryz.pinned (.plain (OpenSpec.ofChange fnExactIsActiveSpec)) fnExactIsActiveCard

/-- THE TIED CARD OF 'laws.FnExactGoodWorld'. -/
def fnExactGoodWorldCard : Claim7 := { stood := { row := fnExactGoodWorldRow, standIns := [], harness := (true, "8d0b9c85cb3ef7765de28853267f15e41abd7e46f4d09e70b653db4556b6a773"), looks := false }, kinds := [], alts := [], laidByText := true, laidKinds := [.data, .pinned], laidTests := true, laidLooks := .later }
def FnExactGoodWorldCardSaid : Prop := Claim7.holds Tryz.pinned (.plain (OpenSpec.ofChange fnExactGoodWorldSpec)) fnExactGoodWorldCard

/-- THE TIED CARD OF 'laws.FnExactSameIn'. -/
def fnExactSameInCard : Claim7 := { stood := { row := fnExactSameInRow, standIns := [], harness := (true, "8d0b9c85cb3ef7765de28853267f15e41abd7e46f4d09e70b653db4556b6a773"), looks := false }, kinds := [], alts := [], laidByText := true, laidKinds := [.data, .pinned], laidTests := true, laidLooks := .later }
def FnExactSameInCardSaid : Prop := Claim7.holds Tryz.pinned (.plain (OpenSpec.ofChange fnExactSameInSpec)) fnExactSameInCard

/-- THE SECOND FORM's CARD OF 'laws.FnExactGoodRegion'. -/
def fnExactGoodRegionUptoCard : Claim7 := { stood := { row := fnExactGoodRegionUptoRow, standIns := [], harness := (true, "8d0b9c85cb3ef7765de28853267f15e41abd7e46f4d09e70b653db4556b6a773"), looks := false }, kinds := [], alts := [], laidByText := true, laidKinds := [.data, .pinned], laidTests := true, laidLooks := .later }
def FnExactGoodRegionUptoCardSaid : Prop := Claim7.holds Tryz.pinned (.plain (OpenSpec.upto fnExactGoodRegionSpec)) fnExactGoodRegionUptoCard

/-- THE SECOND FORM's CARD OF 'laws.FnExactIsActive'. -/
def fnExactIsActiveUptoCard : Claim7 := { stood := { row := fnExactIsActiveUptoRow, standIns := [], harness := (true, "8d0b9c85cb3ef7765de28853267f15e41abd7e46f4d09e70b653db4556b6a773"), looks := false }, kinds := [], alts := [], laidByText := true, laidKinds := [.data, .pinned], laidTests := true, laidLooks := .later }
def FnExactIsActiveUptoCardSaid : Prop := Claim7.holds Tryz.pinned (.plain (OpenSpec.upto fnExactIsActiveSpec)) fnExactIsActiveUptoCard

/-- THE SECOND FORM's CARD OF 'laws.FnExactGoodWorld'. -/
def fnExactGoodWorldUptoCard : Claim7 := { stood := { row := fnExactGoodWorldUptoRow, standIns := [], harness := (true, "8d0b9c85cb3ef7765de28853267f15e41abd7e46f4d09e70b653db4556b6a773"), looks := false }, kinds := [], alts := [], laidByText := true, laidKinds := [.data, .pinned], laidTests := true, laidLooks := .later }
def FnExactGoodWorldUptoCardSaid : Prop := Claim7.holds Tryz.pinned (.plain (OpenSpec.upto fnExactGoodWorldSpec)) fnExactGoodWorldUptoCard

/-- THE SECOND FORM's CARD OF 'laws.FnExactSameIn'. -/
def fnExactSameInUptoCard : Claim7 := { stood := { row := fnExactSameInUptoRow, standIns := [], harness := (true, "8d0b9c85cb3ef7765de28853267f15e41abd7e46f4d09e70b653db4556b6a773"), looks := false }, kinds := [], alts := [], laidByText := true, laidKinds := [.data, .pinned], laidTests := true, laidLooks := .later }
def FnExactSameInUptoCardSaid : Prop := Claim7.holds Tryz.pinned (.plain (OpenSpec.upto fnExactSameInSpec)) fnExactSameInUptoCard
end Rows
end Go.Proofs.YtmooampfjclmiaaGreatDoor

/-
  DERIVED. GIVEN WITH THE SEED: THE CARDS: each row of YtoabnifimfcbcaaDoorRows.lean that lists a variable, with what it lists TIED to the program's text (the seventh form; the later family's looks); each row that meets fmt, with fmt's text TOLD by the authors' own Lean function (tested against real Go, not proved from fmt's source: count such statements apart). THE CARD IS WHAT COUNTS. Prove the row's statement (the work); the ties are given (YtoabnifimfcbcaaDoorTie.lean); close each card by the builder's one call (the guide's Derived/Test/ToyasCard.lean, 'card_holds'). Laid BY PROGRAM, IN A SANDBOX (cutbox-door.mjs). By AI agents, Wed Nov 11 2026. No macro, syntax, notation, axiom, sorry.
-/
import Derived.Test.YtoabnifimfcbcaaDoorRows
import GoSem.ClaimSeven
namespace Go.Proofs.YtoabnifimfcbcaaDoor
namespace Rows

/-- THE TIED CARD OF 'laws.FnExactGoodDomains'. -/
def fnExactGoodDomainsCard : Claim7 := { stood := { row := fnExactGoodDomainsRow, standIns := [], harness := (true, "23b4c8269049a4073d1895551992859e8e5d67d216fbe7a1f00e0275089599e7"), looks := false }, kinds := [], alts := [], laidByText := true, laidKinds := [.data, .pinned], laidTests := true, laidLooks := .later }
def FnExactGoodDomainsCardSaid : Prop := Claim7.holds Tryd.pinned (.plain (OpenSpec.ofChange fnExactGoodDomainsSpec)) fnExactGoodDomainsCard

/-- THE TIED CARD OF 'laws.FnExactLeaderOf'. -/
def fnExactLeaderOfCard : Claim7 := { stood := { row := fnExactLeaderOfRow, standIns := [], harness := (true, "23b4c8269049a4073d1895551992859e8e5d67d216fbe7a1f00e0275089599e7"), looks := false }, kinds := [], alts := [], laidByText := true, laidKinds := [.data, .pinned], laidTests := true, laidLooks := .later }
def FnExactLeaderOfCardSaid : Prop := Claim7.holds Tryd.pinned (.plain (OpenSpec.ofChange fnExactLeaderOfSpec)) fnExactLeaderOfCard

/-- THE TIED CARD OF 'laws.FnExactKnowsAll'. -/
def fnExactKnowsAllCard : Claim7 := { stood := { row := fnExactKnowsAllRow, standIns := [], harness := (true, "23b4c8269049a4073d1895551992859e8e5d67d216fbe7a1f00e0275089599e7"), looks := false }, kinds := [], alts := [], laidByText := true, laidKinds := [.data, .pinned], laidTests := true, laidLooks := .later }
def FnExactKnowsAllCardSaid : Prop := Claim7.holds Tryd.pinned (.plain (OpenSpec.ofChange fnExactKnowsAllSpec)) fnExactKnowsAllCard

/-- THE TIED CARD OF 'laws.FnExactFailOver'. -/
def fnExactFailOverCard : Claim7 := { stood := { row := fnExactFailOverRow, standIns := [], harness := (true, "23b4c8269049a4073d1895551992859e8e5d67d216fbe7a1f00e0275089599e7"), looks := false }, kinds := [], alts := [], laidByText := true, laidKinds := [.data, .pinned], laidTests := true, laidLooks := .later }
def FnExactFailOverCardSaid : Prop := Claim7.holds Tryd.pinned (.plain (OpenSpec.ofChange fnExactFailOverSpec)) fnExactFailOverCard

/-- THE TIED CARD OF 'laws.FnExactPartAt'. -/
def fnExactPartAtCard : Claim7 := { stood := { row := fnExactPartAtRow, standIns := [], harness := (true, "23b4c8269049a4073d1895551992859e8e5d67d216fbe7a1f00e0275089599e7"), looks := false }, kinds := [], alts := [], laidByText := true, laidKinds := [.data, .pinned], laidTests := true, laidLooks := .later }
def FnExactPartAtCardSaid : Prop := Claim7.holds Tryd.pinned (.plain (OpenSpec.ofChange fnExactPartAtSpec)) fnExactPartAtCard

/-- THE TIED CARD OF 'laws.FnExactSignalsIn'. -/
def fnExactSignalsInCard : Claim7 := { stood := { row := fnExactSignalsInRow, standIns := [], harness := (true, "23b4c8269049a4073d1895551992859e8e5d67d216fbe7a1f00e0275089599e7"), looks := false }, kinds := [], alts := [], laidByText := true, laidKinds := [.data, .pinned], laidTests := true, laidLooks := .later }
def FnExactSignalsInCardSaid : Prop := Claim7.holds Tryd.pinned (.plain (OpenSpec.ofChange fnExactSignalsInSpec)) fnExactSignalsInCard

/-- THE SECOND FORM's CARD OF 'laws.FnExactGoodDomains'. -/
def fnExactGoodDomainsUptoCard : Claim7 := { stood := { row := fnExactGoodDomainsUptoRow, standIns := [], harness := (true, "23b4c8269049a4073d1895551992859e8e5d67d216fbe7a1f00e0275089599e7"), looks := false }, kinds := [], alts := [], laidByText := true, laidKinds := [.data, .pinned], laidTests := true, laidLooks := .later }
def FnExactGoodDomainsUptoCardSaid : Prop := Claim7.holds Tryd.pinned (.plain (OpenSpec.upto fnExactGoodDomainsSpec)) fnExactGoodDomainsUptoCard

/-- THE SECOND FORM's CARD OF 'laws.FnExactLeaderOf'. -/
def fnExactLeaderOfUptoCard : Claim7 := { stood := { row := fnExactLeaderOfUptoRow, standIns := [], harness := (true, "23b4c8269049a4073d1895551992859e8e5d67d216fbe7a1f00e0275089599e7"), looks := false }, kinds := [], alts := [], laidByText := true, laidKinds := [.data, .pinned], laidTests := true, laidLooks := .later }
def FnExactLeaderOfUptoCardSaid : Prop := Claim7.holds Tryd.pinned (.plain (OpenSpec.upto fnExactLeaderOfSpec)) fnExactLeaderOfUptoCard

/-- THE SECOND FORM's CARD OF 'laws.FnExactKnowsAll'. -/
def fnExactKnowsAllUptoCard : Claim7 := { stood := { row := fnExactKnowsAllUptoRow, standIns := [], harness := (true, "23b4c8269049a4073d1895551992859e8e5d67d216fbe7a1f00e0275089599e7"), looks := false }, kinds := [], alts := [], laidByText := true, laidKinds := [.data, .pinned], laidTests := true, laidLooks := .later }
def FnExactKnowsAllUptoCardSaid : Prop := Claim7.holds Tryd.pinned (.plain (OpenSpec.upto fnExactKnowsAllSpec)) fnExactKnowsAllUptoCard

/-- THE SECOND FORM's CARD OF 'laws.FnExactFailOver'. -/
def fnExactFailOverUptoCard : Claim7 := { stood := { row := fnExactFailOverUptoRow, standIns := [], harness := (true, "23b4c8269049a4073d1895551992859e8e5d67d216fbe7a1f00e0275089599e7"), looks := false }, kinds := [], alts := [], laidByText := true, laidKinds := [.data, .pinned], laidTests := true, laidLooks := .later }
def FnExactFailOverUptoCardSaid : Prop := Claim7.holds Tryd.pinned (.plain (OpenSpec.upto fnExactFailOverSpec)) fnExactFailOverUptoCard

/-- THE SECOND FORM's CARD OF 'laws.FnExactPartAt'. -/
def fnExactPartAtUptoCard : Claim7 := { stood := { row := fnExactPartAtUptoRow, standIns := [], harness := (true, "23b4c8269049a4073d1895551992859e8e5d67d216fbe7a1f00e0275089599e7"), looks := false }, kinds := [], alts := [], laidByText := true, laidKinds := [.data, .pinned], laidTests := true, laidLooks := .later }
def FnExactPartAtUptoCardSaid : Prop := Claim7.holds Tryd.pinned (.plain (OpenSpec.upto fnExactPartAtSpec)) fnExactPartAtUptoCard

/-- THE SECOND FORM's CARD OF 'laws.FnExactSignalsIn'. -/
def fnExactSignalsInUptoCard : Claim7 := { stood := { row := fnExactSignalsInUptoRow, standIns := [], harness := (true, "23b4c8269049a4073d1895551992859e8e5d67d216fbe7a1f00e0275089599e7"), looks := false }, kinds := [], alts := [], laidByText := true, laidKinds := [.data, .pinned], laidTests := true, laidLooks := .later }
def FnExactSignalsInUptoCardSaid : Prop := Claim7.holds Tryd.pinned (.plain (OpenSpec.upto fnExactSignalsInSpec)) fnExactSignalsInUptoCard
end Rows
end Go.Proofs.YtoabnifimfcbcaaDoor

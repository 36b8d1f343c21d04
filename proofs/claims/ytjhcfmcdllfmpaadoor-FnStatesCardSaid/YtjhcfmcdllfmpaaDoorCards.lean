/-
  DERIVED. GIVEN WITH THE SEED: THE CARDS: each row of YtjhcfmcdllfmpaaDoorRows.lean that lists a variable, with what it lists TIED to the program's text (the seventh form; the later family's looks); each row that meets fmt, with fmt's text TOLD by the authors' own Lean function (tested against real Go, not proved from fmt's source: count such statements apart). THE CARD IS WHAT COUNTS. Prove the row's statement (the work); the ties are given (YtjhcfmcdllfmpaaDoorTie.lean); close each card by the builder's one call (the guide's Derived/Test/ToyasCard.lean, 'card_holds'). Laid BY PROGRAM, IN A SANDBOX (cutbox-door.mjs). By AI agents, Wed Nov 11 2026. No macro, syntax, notation, axiom, sorry.
-/
import Derived.Test.YtjhcfmcdllfmpaaDoorRows
import GoSem.ClaimSeven
namespace Go.Proofs.YtjhcfmcdllfmpaaDoor
namespace Rows

/-- THE TIED CARD OF 'laws.FnExactPartAt'. -/
def fnExactPartAtCard : Claim7 := { stood := { row := fnExactPartAtRow, standIns := [], harness := (true, "1a02d525c2173f2868820232be41ce8cb5649ae31f6d418f0bc0682686b91d5e"), looks := false }, kinds := [], alts := [], laidByText := true, laidKinds := [.data, .pinned], laidTests := true, laidLooks := .later }
def FnExactPartAtCardSaid : Prop := Claim7.holds Tryd.pinned (.plain (OpenSpec.ofChange fnExactPartAtSpec)) fnExactPartAtCard

/-- THE TIED CARD OF 'laws.FnExactSignalsIn'. -/
def fnExactSignalsInCard : Claim7 := { stood := { row := fnExactSignalsInRow, standIns := [], harness := (true, "1a02d525c2173f2868820232be41ce8cb5649ae31f6d418f0bc0682686b91d5e"), looks := false }, kinds := [], alts := [], laidByText := true, laidKinds := [.data, .pinned], laidTests := true, laidLooks := .later }
def FnExactSignalsInCardSaid : Prop := Claim7.holds Tryd.pinned (.plain (OpenSpec.ofChange fnExactSignalsInSpec)) fnExactSignalsInCard

/-- THE TIED CARD OF 'laws.FnExactFoldEvents'. -/
def fnExactFoldEventsCard : Claim7 := { stood := { row := fnExactFoldEventsRow, standIns := [], harness := (true, "1a02d525c2173f2868820232be41ce8cb5649ae31f6d418f0bc0682686b91d5e"), looks := false }, kinds := [], alts := [], laidByText := true, laidKinds := [.data, .pinned], laidTests := true, laidLooks := .later }
def FnExactFoldEventsCardSaid : Prop := Claim7.holds Tryd.pinned (.plain (OpenSpec.ofChange fnExactFoldEventsSpec)) fnExactFoldEventsCard

/-- THE TIED CARD OF 'laws.FnStates'. -/
def fnStatesCard : Claim7 := { stood := { row := fnStatesRow, standIns := [], harness := (true, "1a02d525c2173f2868820232be41ce8cb5649ae31f6d418f0bc0682686b91d5e"), looks := false }, kinds := [], alts := [], laidByText := true, laidKinds := [.data, .pinned], laidTests := true, laidLooks := .later }
def FnStatesCardSaid : Prop := Claim7.holds Tryd.pinned (.plain (OpenSpec.ofChange fnStatesSpec)) fnStatesCard

/-- THE TIED CARD OF 'laws.FnExactBranchLess'. -/
def fnExactBranchLessCard : Claim7 := { stood := { row := fnExactBranchLessRow, standIns := [], harness := (true, "1a02d525c2173f2868820232be41ce8cb5649ae31f6d418f0bc0682686b91d5e"), looks := false }, kinds := [], alts := [], laidByText := true, laidKinds := [.data, .pinned], laidTests := true, laidLooks := .later }
def FnExactBranchLessCardSaid : Prop := Claim7.holds Tryd.pinned (.plain (OpenSpec.ofChange fnExactBranchLessSpec)) fnExactBranchLessCard

/-- THE TIED CARD OF 'laws.FnExactMergeDomains'. -/
def fnExactMergeDomainsCard : Claim7 := { stood := { row := fnExactMergeDomainsRow, standIns := [], harness := (true, "1a02d525c2173f2868820232be41ce8cb5649ae31f6d418f0bc0682686b91d5e"), looks := false }, kinds := [], alts := [], laidByText := true, laidKinds := [.data, .pinned], laidTests := true, laidLooks := .later }
def FnExactMergeDomainsCardSaid : Prop := Claim7.holds Tryd.pinned (.plain (OpenSpec.ofChange fnExactMergeDomainsSpec)) fnExactMergeDomainsCard

/-- THE TIED CARD OF 'laws.FnDomains'. -/
def fnDomainsCard : Claim7 := { stood := { row := fnDomainsRow, standIns := [], harness := (true, "1a02d525c2173f2868820232be41ce8cb5649ae31f6d418f0bc0682686b91d5e"), looks := false }, kinds := [], alts := [], laidByText := true, laidKinds := [.data, .pinned], laidTests := true, laidLooks := .later }
def FnDomainsCardSaid : Prop := Claim7.holds Tryd.pinned (.plain (OpenSpec.ofChange fnDomainsSpec)) fnDomainsCard

/-- THE TIED CARD OF 'laws.FnExactGoodTellings'. -/
def fnExactGoodTellingsCard : Claim7 := { stood := { row := fnExactGoodTellingsRow, standIns := [], harness := (true, "1a02d525c2173f2868820232be41ce8cb5649ae31f6d418f0bc0682686b91d5e"), looks := false }, kinds := [], alts := [], laidByText := true, laidKinds := [.data, .pinned], laidTests := true, laidLooks := .later }
def FnExactGoodTellingsCardSaid : Prop := Claim7.holds Tryd.pinned (.plain (OpenSpec.ofChange fnExactGoodTellingsSpec)) fnExactGoodTellingsCard

/-- THE SECOND FORM's CARD OF 'laws.FnExactPartAt'. -/
def fnExactPartAtUptoCard : Claim7 := { stood := { row := fnExactPartAtUptoRow, standIns := [], harness := (true, "1a02d525c2173f2868820232be41ce8cb5649ae31f6d418f0bc0682686b91d5e"), looks := false }, kinds := [], alts := [], laidByText := true, laidKinds := [.data, .pinned], laidTests := true, laidLooks := .later }
def FnExactPartAtUptoCardSaid : Prop := Claim7.holds Tryd.pinned (.plain (OpenSpec.upto fnExactPartAtSpec)) fnExactPartAtUptoCard

/-- THE SECOND FORM's CARD OF 'laws.FnExactSignalsIn'. -/
def fnExactSignalsInUptoCard : Claim7 := { stood := { row := fnExactSignalsInUptoRow, standIns := [], harness := (true, "1a02d525c2173f2868820232be41ce8cb5649ae31f6d418f0bc0682686b91d5e"), looks := false }, kinds := [], alts := [], laidByText := true, laidKinds := [.data, .pinned], laidTests := true, laidLooks := .later }
def FnExactSignalsInUptoCardSaid : Prop := Claim7.holds Tryd.pinned (.plain (OpenSpec.upto fnExactSignalsInSpec)) fnExactSignalsInUptoCard

/-- THE SECOND FORM's CARD OF 'laws.FnExactFoldEvents'. -/
def fnExactFoldEventsUptoCard : Claim7 := { stood := { row := fnExactFoldEventsUptoRow, standIns := [], harness := (true, "1a02d525c2173f2868820232be41ce8cb5649ae31f6d418f0bc0682686b91d5e"), looks := false }, kinds := [], alts := [], laidByText := true, laidKinds := [.data, .pinned], laidTests := true, laidLooks := .later }
def FnExactFoldEventsUptoCardSaid : Prop := Claim7.holds Tryd.pinned (.plain (OpenSpec.upto fnExactFoldEventsSpec)) fnExactFoldEventsUptoCard

/-- THE SECOND FORM's CARD OF 'laws.FnStates'. -/
def fnStatesUptoCard : Claim7 := { stood := { row := fnStatesUptoRow, standIns := [], harness := (true, "1a02d525c2173f2868820232be41ce8cb5649ae31f6d418f0bc0682686b91d5e"), looks := false }, kinds := [], alts := [], laidByText := true, laidKinds := [.data, .pinned], laidTests := true, laidLooks := .later }
def FnStatesUptoCardSaid : Prop := Claim7.holds Tryd.pinned (.plain (OpenSpec.upto fnStatesSpec)) fnStatesUptoCard

/-- THE SECOND FORM's CARD OF 'laws.FnExactBranchLess'. -/
def fnExactBranchLessUptoCard : Claim7 := { stood := { row := fnExactBranchLessUptoRow, standIns := [], harness := (true, "1a02d525c2173f2868820232be41ce8cb5649ae31f6d418f0bc0682686b91d5e"), looks := false }, kinds := [], alts := [], laidByText := true, laidKinds := [.data, .pinned], laidTests := true, laidLooks := .later }
def FnExactBranchLessUptoCardSaid : Prop := Claim7.holds Tryd.pinned (.plain (OpenSpec.upto fnExactBranchLessSpec)) fnExactBranchLessUptoCard

/-- THE SECOND FORM's CARD OF 'laws.FnExactMergeDomains'. -/
def fnExactMergeDomainsUptoCard : Claim7 := { stood := { row := fnExactMergeDomainsUptoRow, standIns := [], harness := (true, "1a02d525c2173f2868820232be41ce8cb5649ae31f6d418f0bc0682686b91d5e"), looks := false }, kinds := [], alts := [], laidByText := true, laidKinds := [.data, .pinned], laidTests := true, laidLooks := .later }
def FnExactMergeDomainsUptoCardSaid : Prop := Claim7.holds Tryd.pinned (.plain (OpenSpec.upto fnExactMergeDomainsSpec)) fnExactMergeDomainsUptoCard

/-- THE SECOND FORM's CARD OF 'laws.FnDomains'. -/
def fnDomainsUptoCard : Claim7 := { stood := { row := fnDomainsUptoRow, standIns := [], harness := (true, "1a02d525c2173f2868820232be41ce8cb5649ae31f6d418f0bc0682686b91d5e"), looks := false }, kinds := [], alts := [], laidByText := true, laidKinds := [.data, .pinned], laidTests := true, laidLooks := .later }
def FnDomainsUptoCardSaid : Prop := Claim7.holds Tryd.pinned (.plain (OpenSpec.upto fnDomainsSpec)) fnDomainsUptoCard

/-- THE SECOND FORM's CARD OF 'laws.FnExactGoodTellings'. -/
def fnExactGoodTellingsUptoCard : Claim7 := { stood := { row := fnExactGoodTellingsUptoRow, standIns := [], harness := (true, "1a02d525c2173f2868820232be41ce8cb5649ae31f6d418f0bc0682686b91d5e"), looks := false }, kinds := [], alts := [], laidByText := true, laidKinds := [.data, .pinned], laidTests := true, laidLooks := .later }
def FnExactGoodTellingsUptoCardSaid : Prop := Claim7.holds Tryd.pinned (.plain (OpenSpec.upto fnExactGoodTellingsSpec)) fnExactGoodTellingsUptoCard
end Rows
end Go.Proofs.YtjhcfmcdllfmpaaDoor

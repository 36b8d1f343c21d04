/-
  DERIVED. GIVEN WITH THE SEED: THE CARDS: each row of YtjkeoippmlmfbaaGreatDoorRows.lean that lists a variable, with what it lists TIED to the program's text (the seventh form; the later family's looks); each row that meets fmt, with fmt's text TOLD by the authors' own Lean function (tested against real Go, not proved from fmt's source: count such statements apart). THE CARD IS WHAT COUNTS. Prove the row's statement (the work); the ties are given (YtjkeoippmlmfbaaGreatDoorTie.lean); close each card by the builder's one call (the guide's Derived/Test/ToyasCard.lean, 'card_holds'). Laid BY PROGRAM, IN A SANDBOX (cutbox-door.mjs). By AI agents, Wed Nov 11 2026. No macro, syntax, notation, axiom, sorry.
-/
import Derived.Test.YtjkeoippmlmfbaaGreatDoorRows
import GoSem.ClaimSeven
namespace Go.Proofs.YtjkeoippmlmfbaaGreatDoor
namespace Rows

/-- THE TIED CARD OF 'laws.FnExactCurrentOf'. -/
def fnExactCurrentOfCard : Claim7 := { stood := { row := fnExactCurrentOfRow, standIns := [], harness := (true, "cd864ed601973b0a7c90fba5cda7c3fb0eed307be3b0e6064efb88dbaf916bd4"), looks := false }, kinds := [], alts := [], laidByText := true, laidKinds := [.data, .pinned], laidTests := true, laidLooks := .later }
def FnExactCurrentOfCardSaid : Prop := Claim7.holds Tryz.pinned (.plain (OpenSpec.ofChange fnExactCurrentOfSpec)) fnExactCurrentOfCard

/-- THE TIED CARD OF 'laws.FnExactWordOf'. -/
def fnExactWordOfCard : Claim7 := { stood := { row := fnExactWordOfRow, standIns := [], harness := (true, "cd864ed601973b0a7c90fba5cda7c3fb0eed307be3b0e6064efb88dbaf916bd4"), looks := false }, kinds := [], alts := [], laidByText := true, laidKinds := [.data, .pinned], laidTests := true, laidLooks := .later }
def FnExactWordOfCardSaid : Prop := Claim7.holds Tryz.pinned (.plain (OpenSpec.ofChange fnExactWordOfSpec)) fnExactWordOfCard

/-- THE TIED CARD OF 'laws.FnExactStateOf'. -/
def fnExactStateOfCard : Claim7 := { stood := { row := fnExactStateOfRow, standIns := [], harness := (true, "cd864ed601973b0a7c90fba5cda7c3fb0eed307be3b0e6064efb88dbaf916bd4"), looks := false }, kinds := [], alts := [], laidByText := true, laidKinds := [.data, .pinned], laidTests := true, laidLooks := .later }
def FnExactStateOfCardSaid : Prop := Claim7.holds Tryz.pinned (.plain (OpenSpec.ofChange fnExactStateOfSpec)) fnExactStateOfCard

/-- THE TIED CARD OF 'laws.FnExactTakeLead'. -/
def fnExactTakeLeadCard : Claim7 := { stood := { row := fnExactTakeLeadRow, standIns := [], harness := (true, "cd864ed601973b0a7c90fba5cda7c3fb0eed307be3b0e6064efb88dbaf916bd4"), looks := false }, kinds := [], alts := [], laidByText := true, laidKinds := [.data, .pinned], laidTests := true, laidLooks := .later }
def FnExactTakeLeadCardSaid : Prop := Claim7.holds Tryz.pinned (.plain (OpenSpec.ofChange fnExactTakeLeadSpec)) fnExactTakeLeadCard

/-- THE TIED CARD OF 'laws.FnExactLeadersIn'. -/
def fnExactLeadersInCard : Claim7 := { stood := { row := fnExactLeadersInRow, standIns := [], harness := (true, "cd864ed601973b0a7c90fba5cda7c3fb0eed307be3b0e6064efb88dbaf916bd4"), looks := false }, kinds := [], alts := [], laidByText := true, laidKinds := [.data, .pinned], laidTests := true, laidLooks := .later }
def FnExactLeadersInCardSaid : Prop := Claim7.holds Tryz.pinned (.plain (OpenSpec.ofChange fnExactLeadersInSpec)) fnExactLeadersInCard

/-- THE TIED CARD OF 'laws.FnExactAddBranch'. -/
def fnExactAddBranchCard : Claim7 := { stood := { row := fnExactAddBranchRow, standIns := [], harness := (true, "cd864ed601973b0a7c90fba5cda7c3fb0eed307be3b0e6064efb88dbaf916bd4"), looks := false }, kinds := [], alts := [], laidByText := true, laidKinds := [.data, .pinned], laidTests := true, laidLooks := .later }
def FnExactAddBranchCardSaid : Prop := Claim7.holds Tryz.pinned (.plain (OpenSpec.ofChange fnExactAddBranchSpec)) fnExactAddBranchCard

/-- THE TIED CARD OF 'laws.FnBranches'. -/
def fnBranchesCard : Claim7 := { stood := { row := fnBranchesRow, standIns := [], harness := (true, "cd864ed601973b0a7c90fba5cda7c3fb0eed307be3b0e6064efb88dbaf916bd4"), looks := false }, kinds := [], alts := [], laidByText := true, laidKinds := [.data, .pinned], laidTests := true, laidLooks := .later }
def FnBranchesCardSaid : Prop := Claim7.holds Tryz.pinned (.plain (OpenSpec.ofChange fnBranchesSpec)) fnBranchesCard

/-- THE TIED CARD OF 'laws.FnExactMergeTellings'. -/
def fnExactMergeTellingsCard : Claim7 := { stood := { row := fnExactMergeTellingsRow, standIns := [], harness := (true, "cd864ed601973b0a7c90fba5cda7c3fb0eed307be3b0e6064efb88dbaf916bd4"), looks := false }, kinds := [], alts := [], laidByText := true, laidKinds := [.data, .pinned], laidTests := true, laidLooks := .later }
def FnExactMergeTellingsCardSaid : Prop := Claim7.holds Tryz.pinned (.plain (OpenSpec.ofChange fnExactMergeTellingsSpec)) fnExactMergeTellingsCard

/-- THE TIED CARD OF 'laws.FnExactLostSignals'. -/
def fnExactLostSignalsCard : Claim7 := { stood := { row := fnExactLostSignalsRow, standIns := [], harness := (true, "cd864ed601973b0a7c90fba5cda7c3fb0eed307be3b0e6064efb88dbaf916bd4"), looks := false }, kinds := [], alts := [], laidByText := true, laidKinds := [.data, .pinned], laidTests := true, laidLooks := .later }
def FnExactLostSignalsCardSaid : Prop := Claim7.holds Tryz.pinned (.plain (OpenSpec.ofChange fnExactLostSignalsSpec)) fnExactLostSignalsCard

/-- THE TIED CARD OF 'laws.FnCurrent'. -/
def fnCurrentCard : Claim7 := { stood := { row := fnCurrentRow, standIns := [], harness := (true, "cd864ed601973b0a7c90fba5cda7c3fb0eed307be3b0e6064efb88dbaf916bd4"), looks := false }, kinds := [], alts := [], laidByText := true, laidKinds := [.data, .pinned], laidTests := true, laidLooks := .later }
def FnCurrentCardSaid : Prop := Claim7.holds Tryz.pinned (.plain (OpenSpec.ofChange fnCurrentSpec)) fnCurrentCard

/-- THE TIED CARD OF 'laws.FnExactHearWord'. -/
def fnExactHearWordCard : Claim7 := { stood := { row := fnExactHearWordRow, standIns := [], harness := (true, "cd864ed601973b0a7c90fba5cda7c3fb0eed307be3b0e6064efb88dbaf916bd4"), looks := false }, kinds := [], alts := [], laidByText := true, laidKinds := [.data, .pinned], laidTests := true, laidLooks := .later }
def FnExactHearWordCardSaid : Prop := Claim7.holds Tryz.pinned (.plain (OpenSpec.ofChange fnExactHearWordSpec)) fnExactHearWordCard

/-- THE SECOND FORM's CARD OF 'laws.FnExactCurrentOf'. -/
def fnExactCurrentOfUptoCard : Claim7 := { stood := { row := fnExactCurrentOfUptoRow, standIns := [], harness := (true, "cd864ed601973b0a7c90fba5cda7c3fb0eed307be3b0e6064efb88dbaf916bd4"), looks := false }, kinds := [], alts := [], laidByText := true, laidKinds := [.data, .pinned], laidTests := true, laidLooks := .later }
def FnExactCurrentOfUptoCardSaid : Prop := Claim7.holds Tryz.pinned (.plain (OpenSpec.upto fnExactCurrentOfSpec)) fnExactCurrentOfUptoCard

/-- THE SECOND FORM's CARD OF 'laws.FnExactWordOf'. -/
def fnExactWordOfUptoCard : Claim7 := { stood := { row := fnExactWordOfUptoRow, standIns := [], harness := (true, "cd864ed601973b0a7c90fba5cda7c3fb0eed307be3b0e6064efb88dbaf916bd4"), looks := false }, kinds := [], alts := [], laidByText := true, laidKinds := [.data, .pinned], laidTests := true, laidLooks := .later }
def FnExactWordOfUptoCardSaid : Prop := Claim7.holds Tryz.pinned (.plain (OpenSpec.upto fnExactWordOfSpec)) fnExactWordOfUptoCard

/-- THE SECOND FORM's CARD OF 'laws.FnExactStateOf'. -/
def fnExactStateOfUptoCard : Claim7 := { stood := { row := fnExactStateOfUptoRow, standIns := [], harness := (true, "cd864ed601973b0a7c90fba5cda7c3fb0eed307be3b0e6064efb88dbaf916bd4"), looks := false }, kinds := [], alts := [], laidByText := true, laidKinds := [.data, .pinned], laidTests := true, laidLooks := .later }
def FnExactStateOfUptoCardSaid : Prop := Claim7.holds Tryz.pinned (.plain (OpenSpec.upto fnExactStateOfSpec)) fnExactStateOfUptoCard

/-- THE SECOND FORM's CARD OF 'laws.FnExactTakeLead'. -/
def fnExactTakeLeadUptoCard : Claim7 := { stood := { row := fnExactTakeLeadUptoRow, standIns := [], harness := (true, "cd864ed601973b0a7c90fba5cda7c3fb0eed307be3b0e6064efb88dbaf916bd4"), looks := false }, kinds := [], alts := [], laidByText := true, laidKinds := [.data, .pinned], laidTests := true, laidLooks := .later }
def FnExactTakeLeadUptoCardSaid : Prop := Claim7.holds Tryz.pinned (.plain (OpenSpec.upto fnExactTakeLeadSpec)) fnExactTakeLeadUptoCard

/-- THE SECOND FORM's CARD OF 'laws.FnExactLeadersIn'. -/
def fnExactLeadersInUptoCard : Claim7 := { stood := { row := fnExactLeadersInUptoRow, standIns := [], harness := (true, "cd864ed601973b0a7c90fba5cda7c3fb0eed307be3b0e6064efb88dbaf916bd4"), looks := false }, kinds := [], alts := [], laidByText := true, laidKinds := [.data, .pinned], laidTests := true, laidLooks := .later }
def FnExactLeadersInUptoCardSaid : Prop := Claim7.holds Tryz.pinned (.plain (OpenSpec.upto fnExactLeadersInSpec)) fnExactLeadersInUptoCard

/-- THE SECOND FORM's CARD OF 'laws.FnExactAddBranch'. -/
def fnExactAddBranchUptoCard : Claim7 := { stood := { row := fnExactAddBranchUptoRow, standIns := [], harness := (true, "cd864ed601973b0a7c90fba5cda7c3fb0eed307be3b0e6064efb88dbaf916bd4"), looks := false }, kinds := [], alts := [], laidByText := true, laidKinds := [.data, .pinned], laidTests := true, laidLooks := .later }
def FnExactAddBranchUptoCardSaid : Prop := Claim7.holds Tryz.pinned (.plain (OpenSpec.upto fnExactAddBranchSpec)) fnExactAddBranchUptoCard

/-- THE SECOND FORM's CARD OF 'laws.FnBranches'. -/
def fnBranchesUptoCard : Claim7 := { stood := { row := fnBranchesUptoRow, standIns := [], harness := (true, "cd864ed601973b0a7c90fba5cda7c3fb0eed307be3b0e6064efb88dbaf916bd4"), looks := false }, kinds := [], alts := [], laidByText := true, laidKinds := [.data, .pinned], laidTests := true, laidLooks := .later }
def FnBranchesUptoCardSaid : Prop := Claim7.holds Tryz.pinned (.plain (OpenSpec.upto fnBranchesSpec)) fnBranchesUptoCard

/-- THE SECOND FORM's CARD OF 'laws.FnExactMergeTellings'. -/
def fnExactMergeTellingsUptoCard : Claim7 := { stood := { row := fnExactMergeTellingsUptoRow, standIns := [], harness := (true, "cd864ed601973b0a7c90fba5cda7c3fb0eed307be3b0e6064efb88dbaf916bd4"), looks := false }, kinds := [], alts := [], laidByText := true, laidKinds := [.data, .pinned], laidTests := true, laidLooks := .later }
def FnExactMergeTellingsUptoCardSaid : Prop := Claim7.holds Tryz.pinned (.plain (OpenSpec.upto fnExactMergeTellingsSpec)) fnExactMergeTellingsUptoCard

/-- THE SECOND FORM's CARD OF 'laws.FnExactLostSignals'. -/
def fnExactLostSignalsUptoCard : Claim7 := { stood := { row := fnExactLostSignalsUptoRow, standIns := [], harness := (true, "cd864ed601973b0a7c90fba5cda7c3fb0eed307be3b0e6064efb88dbaf916bd4"), looks := false }, kinds := [], alts := [], laidByText := true, laidKinds := [.data, .pinned], laidTests := true, laidLooks := .later }
def FnExactLostSignalsUptoCardSaid : Prop := Claim7.holds Tryz.pinned (.plain (OpenSpec.upto fnExactLostSignalsSpec)) fnExactLostSignalsUptoCard

/-- THE SECOND FORM's CARD OF 'laws.FnCurrent'. -/
def fnCurrentUptoCard : Claim7 := { stood := { row := fnCurrentUptoRow, standIns := [], harness := (true, "cd864ed601973b0a7c90fba5cda7c3fb0eed307be3b0e6064efb88dbaf916bd4"), looks := false }, kinds := [], alts := [], laidByText := true, laidKinds := [.data, .pinned], laidTests := true, laidLooks := .later }
def FnCurrentUptoCardSaid : Prop := Claim7.holds Tryz.pinned (.plain (OpenSpec.upto fnCurrentSpec)) fnCurrentUptoCard

/-- THE SECOND FORM's CARD OF 'laws.FnExactHearWord'. -/
def fnExactHearWordUptoCard : Claim7 := { stood := { row := fnExactHearWordUptoRow, standIns := [], harness := (true, "cd864ed601973b0a7c90fba5cda7c3fb0eed307be3b0e6064efb88dbaf916bd4"), looks := false }, kinds := [], alts := [], laidByText := true, laidKinds := [.data, .pinned], laidTests := true, laidLooks := .later }
def FnExactHearWordUptoCardSaid : Prop := Claim7.holds Tryz.pinned (.plain (OpenSpec.upto fnExactHearWordSpec)) fnExactHearWordUptoCard
end Rows
end Go.Proofs.YtjkeoippmlmfbaaGreatDoor

/-
  DERIVED. GIVEN WITH THE SEED: THE CARDS: each row of YteonagfnhdlfcaaGreatDoorRows.lean that lists a variable, with what it lists TIED to the program's text (the seventh form; the later family's looks); each row that meets fmt, with fmt's text TOLD by the authors' own Lean function (tested against real Go, not proved from fmt's source: count such statements apart). THE CARD IS WHAT COUNTS. Prove the row's statement (the work); the ties are given (YteonagfnhdlfcaaGreatDoorTie.lean); close each card by the builder's one call (the guide's Derived/Test/ToyasCard.lean, 'card_holds'). Laid BY PROGRAM, IN A SANDBOX (cutbox-door.mjs). By AI agents, Wed Nov 11 2026. No macro, syntax, notation, axiom, sorry.
-/
import Derived.Test.YteonagfnhdlfcaaGreatDoorRows
import GoSem.ClaimSeven
namespace Go.Proofs.YteonagfnhdlfcaaGreatDoor
namespace Rows

/-- THE TIED CARD OF 'laws.FnHeard'. -/
def fnHeardCard : Claim7 := { stood := { row := fnHeardRow, standIns := [], harness := (true, "0e0cf256e8d43465bfcc06b38d31f472639a8354b1ce99be4c6dd582f9ae6059"), looks := false }, kinds := [], alts := [], laidByText := true, laidKinds := [.data, .pinned], laidTests := true, laidLooks := .later }
def FnHeardCardSaid : Prop := Claim7.holds Tryz.pinned (.plain (OpenSpec.ofChange fnHeardSpec)) fnHeardCard

/-- THE TIED CARD OF 'laws.FnExactReapply'. -/
def fnExactReapplyCard : Claim7 := { stood := { row := fnExactReapplyRow, standIns := [], harness := (true, "0e0cf256e8d43465bfcc06b38d31f472639a8354b1ce99be4c6dd582f9ae6059"), looks := false }, kinds := [], alts := [], laidByText := true, laidKinds := [.data, .pinned], laidTests := true, laidLooks := .later }
def FnExactReapplyCardSaid : Prop := Claim7.holds Tryz.pinned (.plain (OpenSpec.ofChange fnExactReapplySpec)) fnExactReapplyCard

/-- THE TIED CARD OF 'laws.FnOneTelling'. -/
def fnOneTellingCard : Claim7 := { stood := { row := fnOneTellingRow, standIns := [], harness := (true, "0e0cf256e8d43465bfcc06b38d31f472639a8354b1ce99be4c6dd582f9ae6059"), looks := false }, kinds := [], alts := [], laidByText := true, laidKinds := [.data, .pinned], laidTests := true, laidLooks := .later }
def FnOneTellingCardSaid : Prop := Claim7.holds Tryz.pinned (.plain (OpenSpec.ofChange fnOneTellingSpec)) fnOneTellingCard

/-- THE TIED CARD OF 'laws.FnExactSettleWorld'. -/
def fnExactSettleWorldCard : Claim7 := { stood := { row := fnExactSettleWorldRow, standIns := [], harness := (true, "0e0cf256e8d43465bfcc06b38d31f472639a8354b1ce99be4c6dd582f9ae6059"), looks := false }, kinds := [], alts := [], laidByText := true, laidKinds := [.data, .pinned], laidTests := true, laidLooks := .later }
def FnExactSettleWorldCardSaid : Prop := Claim7.holds Tryz.pinned (.plain (OpenSpec.ofChange fnExactSettleWorldSpec)) fnExactSettleWorldCard

/-- THE TIED CARD OF 'laws.FnExactPlayWorld'. -/
def fnExactPlayWorldCard : Claim7 := { stood := { row := fnExactPlayWorldRow, standIns := [], harness := (true, "0e0cf256e8d43465bfcc06b38d31f472639a8354b1ce99be4c6dd582f9ae6059"), looks := false }, kinds := [], alts := [], laidByText := true, laidKinds := [.data, .pinned], laidTests := true, laidLooks := .later }
def FnExactPlayWorldCardSaid : Prop := Claim7.holds Tryz.pinned (.plain (OpenSpec.ofChange fnExactPlayWorldSpec)) fnExactPlayWorldCard

/-- THE SECOND FORM's CARD OF 'laws.FnHeard'. -/
def fnHeardUptoCard : Claim7 := { stood := { row := fnHeardUptoRow, standIns := [], harness := (true, "0e0cf256e8d43465bfcc06b38d31f472639a8354b1ce99be4c6dd582f9ae6059"), looks := false }, kinds := [], alts := [], laidByText := true, laidKinds := [.data, .pinned], laidTests := true, laidLooks := .later }
def FnHeardUptoCardSaid : Prop := Claim7.holds Tryz.pinned (.plain (OpenSpec.upto fnHeardSpec)) fnHeardUptoCard

/-- THE SECOND FORM's CARD OF 'laws.FnExactReapply'. -/
def fnExactReapplyUptoCard : Claim7 := { stood := { row := fnExactReapplyUptoRow, standIns := [], harness := (true, "0e0cf256e8d43465bfcc06b38d31f472639a8354b1ce99be4c6dd582f9ae6059"), looks := false }, kinds := [], alts := [], laidByText := true, laidKinds := [.data, .pinned], laidTests := true, laidLooks := .later }
def FnExactReapplyUptoCardSaid : Prop := Claim7.holds Tryz.pinned (.plain (OpenSpec.upto fnExactReapplySpec)) fnExactReapplyUptoCard

/-- THE SECOND FORM's CARD OF 'laws.FnOneTelling'. -/
def fnOneTellingUptoCard : Claim7 := { stood := { row := fnOneTellingUptoRow, standIns := [], harness := (true, "0e0cf256e8d43465bfcc06b38d31f472639a8354b1ce99be4c6dd582f9ae6059"), looks := false }, kinds := [], alts := [], laidByText := true, laidKinds := [.data, .pinned], laidTests := true, laidLooks := .later }
def FnOneTellingUptoCardSaid : Prop := Claim7.holds Tryz.pinned (.plain (OpenSpec.upto fnOneTellingSpec)) fnOneTellingUptoCard

/-- THE SECOND FORM's CARD OF 'laws.FnExactSettleWorld'. -/
def fnExactSettleWorldUptoCard : Claim7 := { stood := { row := fnExactSettleWorldUptoRow, standIns := [], harness := (true, "0e0cf256e8d43465bfcc06b38d31f472639a8354b1ce99be4c6dd582f9ae6059"), looks := false }, kinds := [], alts := [], laidByText := true, laidKinds := [.data, .pinned], laidTests := true, laidLooks := .later }
def FnExactSettleWorldUptoCardSaid : Prop := Claim7.holds Tryz.pinned (.plain (OpenSpec.upto fnExactSettleWorldSpec)) fnExactSettleWorldUptoCard

/-- THE SECOND FORM's CARD OF 'laws.FnExactPlayWorld'. -/
def fnExactPlayWorldUptoCard : Claim7 := { stood := { row := fnExactPlayWorldUptoRow, standIns := [], harness := (true, "0e0cf256e8d43465bfcc06b38d31f472639a8354b1ce99be4c6dd582f9ae6059"), looks := false }, kinds := [], alts := [], laidByText := true, laidKinds := [.data, .pinned], laidTests := true, laidLooks := .later }
def FnExactPlayWorldUptoCardSaid : Prop := Claim7.holds Tryz.pinned (.plain (OpenSpec.upto fnExactPlayWorldSpec)) fnExactPlayWorldUptoCard
end Rows
end Go.Proofs.YteonagfnhdlfcaaGreatDoor

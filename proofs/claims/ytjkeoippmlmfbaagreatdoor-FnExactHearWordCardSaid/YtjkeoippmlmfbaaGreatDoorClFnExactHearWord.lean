import Derived.Test.YtjkeoippmlmfbaaGreatDoorCards
import Derived.Test.YtjkeoippmlmfbaaGreatDoorTie
import Derived.LaidMore
import Derived.Lay
import Derived.SevenTiedAt
import Derived.Stop.Joined
import Derived.Test.YtjkeoippmlmfbaaGreatDoorWlFnExactHearWordB
import Derived.Test.YtjkeoippmlmfbaaGreatDoorG45PpAddS
import Derived.Test.YtjkeoippmlmfbaaGreatDoorTlOpen
import Derived.WalkKit
import Derived.ProofKit
import Derived.OpenShut
import Derived.ShutString
import Derived.ChangeOld
import Derived.Below
import Derived.SizedLaws
import Derived.Test.YtjkeoippmlmfbaaGreatDoorClFnExactHearWordB
set_option linter.unusedSimpArgs false
set_option linter.unusedVariables false
set_option linter.unusedVariables false
set_option linter.unusedSimpArgs false
namespace Go.Proofs.YtjkeoippmlmfbaaGreatDoor.fnExactHearWord
open Go.ChangeShapes Go.WideShapes Go.ChangeAt Go.RowKit Go.TL Go.TL.YtjkeoippmlmfbaaGreatDoor
set_option maxRecDepth 100000
set_option maxHeartbeats 4000000 in
theorem proved : Rows.FnExactHearWordCardSaid :=
  Claim7.holds_tied_plain_at .later [] [.data, .pinned] true (true, "cd864ed601973b0a7c90fba5cda7c3fb0eed307be3b0e6064efb88dbaf916bd4") false over (fun _ h => by cases h) (by as_aux_lemma => kernel_rfl) (fun _ h => by cases h) fnExactHearWord_row_tie rfl ⟨rfl, rfl⟩ (by as_aux_lemma => kernel_rfl) rfl
    (fun f fn hf hfn => by
      obtain rfl : f = 13 := Option.some.inj ((show Tryz.prog.funcNamed "loop.example/g00269/laws.FnExactHearWord" = some 13 by as_aux_lemma => kernel_rfl).symm.trans hf) |>.symm
      obtain rfl : fn = Tryz.f13 := (Option.some.inj (Tryz.func13.symm.trans hfn)).symm
      exact ⟨by as_aux_lemma => kernel_rfl, fun j t ht => by
        rw [Tryz.params13] at ht
        have hm : t ∈ [39, 115] := by have := Array.mem_of_getElem? ht; simpa using this
        have hall : ([39, 115].all fun u => !Tryz.prog.wantsStandIn u) = true := by as_aux_lemma => kernel_rfl
        exact (show Tryz.prog.wantsStandIn t = false by simpa using List.all_eq_true.1 hall t hm)⟩)
    (by as_aux_lemma => kernel_rfl)
#print axioms proved
end Go.Proofs.YtjkeoippmlmfbaaGreatDoor.fnExactHearWord
namespace Go.Proofs.YtjkeoippmlmfbaaGreatDoor
/-- The card, under a short name, for the claim. -/
theorem fnExactHearWord_holds : Rows.FnExactHearWordCardSaid := fnExactHearWord.proved
end Go.Proofs.YtjkeoippmlmfbaaGreatDoor

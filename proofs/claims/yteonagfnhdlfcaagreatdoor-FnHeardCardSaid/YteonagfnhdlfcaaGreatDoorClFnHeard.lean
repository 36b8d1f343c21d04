import Derived.Test.YteonagfnhdlfcaaGreatDoorCards
import Derived.Test.YteonagfnhdlfcaaGreatDoorTie
import Derived.LaidMore
import Derived.Lay
import Derived.SevenTiedAt
import Derived.Stop.Joined
import Derived.Test.YteonagfnhdlfcaaGreatDoorWlFnHeardB
import Derived.Test.YteonagfnhdlfcaaGreatDoorG45PpAddS
import Derived.Test.YteonagfnhdlfcaaGreatDoorTlOpen
import Derived.WalkKit
import Derived.ProofKit
import Derived.OpenShut
import Derived.ShutString
import Derived.ChangeOld
import Derived.Below
import Derived.SizedLaws
import Derived.Test.YteonagfnhdlfcaaGreatDoorClFnHeardB
set_option linter.unusedSimpArgs false
set_option linter.unusedVariables false
namespace Go.Proofs.YteonagfnhdlfcaaGreatDoor.fnHeard
open Go.ChangeShapes Go.WideShapes Go.ChangeAt Go.RowKit Go.TL Go.TL.YteonagfnhdlfcaaGreatDoor
set_option maxRecDepth 100000
set_option maxHeartbeats 4000000 in
theorem proved : Rows.FnHeardCardSaid :=
  Claim7.holds_tied_plain_at .later [] [.data, .pinned] true (true, "0e0cf256e8d43465bfcc06b38d31f472639a8354b1ce99be4c6dd582f9ae6059") false over (fun _ h => by cases h) (by as_aux_lemma => kernel_rfl) (fun _ h => by cases h) fnHeard_row_tie rfl ⟨rfl, rfl⟩ (by as_aux_lemma => kernel_rfl) rfl
    (fun f fn hf hfn => by
      obtain rfl : f = 3 := Option.some.inj ((show Tryz.prog.funcNamed "loop.example/g00269/laws.FnHeard" = some 3 by as_aux_lemma => kernel_rfl).symm.trans hf) |>.symm
      obtain rfl : fn = Tryz.f3 := (Option.some.inj (Tryz.func3.symm.trans hfn)).symm
      exact ⟨by as_aux_lemma => kernel_rfl, fun j t ht => by
        rw [Tryz.params3] at ht
        have hm : t ∈ [22] := by have := Array.mem_of_getElem? ht; simpa using this
        have hall : ([22].all fun u => !Tryz.prog.wantsStandIn u) = true := by as_aux_lemma => kernel_rfl
        exact (show Tryz.prog.wantsStandIn t = false by simpa using List.all_eq_true.1 hall t hm)⟩)
    (by as_aux_lemma => kernel_rfl)
#print axioms proved
end Go.Proofs.YteonagfnhdlfcaaGreatDoor.fnHeard
namespace Go.Proofs.YteonagfnhdlfcaaGreatDoor
theorem fnHeard_holds : Rows.FnHeardCardSaid := fnHeard.proved
end Go.Proofs.YteonagfnhdlfcaaGreatDoor

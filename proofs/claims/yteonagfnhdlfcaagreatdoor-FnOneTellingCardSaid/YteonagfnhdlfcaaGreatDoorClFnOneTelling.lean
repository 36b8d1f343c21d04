/- FnOneTelling answers true for all arguments, and leaves them as they were; no condition. -/
import Derived.Test.YteonagfnhdlfcaaGreatDoorCards
import Derived.Test.YteonagfnhdlfcaaGreatDoorTie
import Derived.LaidMore
import Derived.Lay
import Derived.SevenTiedAt
import Derived.Stop.Joined
import Derived.Test.YteonagfnhdlfcaaGreatDoorWlFnOneTellingC
import Derived.Test.YteonagfnhdlfcaaGreatDoorPpOneLaw
import Derived.Test.YteonagfnhdlfcaaGreatDoorTlOpen
import Derived.WalkKit
import Derived.ProofKit
import Derived.OpenShut
import Derived.ShutString
import Derived.ChangeOld
import Derived.Below
import Derived.SizedLaws
import Derived.Test.YteonagfnhdlfcaaGreatDoorClFnOneTellingB
open Nat renaming reduceAdd → qA, reduceMul → qB, reduceSub → qC, reduceEqDiff → qD, reduceLT → qE, reduceLeDiff → qF, reduceBEq → qG
open Int renaming reduceToNat → qH, reduceEq → qI, reduceLE → qJ, reduceLT → qK
open List renaming length_set → qL, length_append → qM, length_replicate → qN, length_map → qO, length_cons → qP, length_nil → qQ
set_option linter.unusedSimpArgs false
set_option linter.unusedVariables false
noncomputable section
namespace Go.Proofs.YteonagfnhdlfcaaGreatDoor.fnOneTelling
open Go.ChangeShapes Go.WideShapes Go.ChangeAt Go.RowKit Go.TL Go.TL.YteonagfnhdlfcaaGreatDoor
set_option maxRecDepth 100000
set_option maxHeartbeats 4000000 in
theorem proved:Rows.FnOneTellingCardSaid :=
  Claim7.holds_tied_plain_at .later [] [.data, .pinned] true (true, "0e0cf256e8d43465bfcc06b38d31f472639a8354b1ce99be4c6dd582f9ae6059") false over (λ _ h=>by cases h) (by as_aux_lemma=>kernel_rfl) (λ _ h=>by cases h) fnOneTelling_row_tie rfl ⟨rfl, rfl⟩ (by as_aux_lemma=>kernel_rfl) rfl
    (λ f fn hf hfn=>by
      obtain rfl:f=5:=Option.some.inj ((show Tryz.prog.funcNamed "loop.example/g00269/laws.FnOneTelling" = some 5 by as_aux_lemma=>kernel_rfl).symm.trans hf) |>.symm
      obtain rfl:fn=Tryz.f5:=(Option.some.inj (Tryz.func5.symm.trans hfn)).symm
      exact ⟨by as_aux_lemma=>kernel_rfl, λ j t ht=>by
        rw [Tryz.params5] at ht
        have hm:t∈[22]:=by have:=Array.mem_of_getElem? ht;simpa using this
        have hall:([22].all λ u=>!Tryz.prog.wantsStandIn u)=true:=by as_aux_lemma=>kernel_rfl
        exact (show Tryz.prog.wantsStandIn t=false by simpa using List.all_eq_true.1 hall t hm)⟩)
    (by as_aux_lemma=>kernel_rfl)
#print axioms proved
end Go.Proofs.YteonagfnhdlfcaaGreatDoor.fnOneTelling
namespace Go.Proofs.YteonagfnhdlfcaaGreatDoor
theorem fnOneTelling_holds:Rows.FnOneTellingCardSaid:=fnOneTelling.proved
end Go.Proofs.YteonagfnhdlfcaaGreatDoor

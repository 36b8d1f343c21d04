import Derived.Test.YteonagfnhdlfcaaGreatDoorCards
import Derived.Test.YteonagfnhdlfcaaGreatDoorTie
import Derived.LaidMore
import Derived.Lay
import Derived.SevenTiedAt
import Derived.Stop.Joined
import Derived.Test.YteonagfnhdlfcaaGreatDoorWlFnOneTellingC
import Derived.Test.YteonagfnhdlfcaaGreatDoorPpOneLaw
import Derived.Test.YteonagfnhdlfcaaGreatDoorTlOpen
import Derived.WalkKit
import Derived.ProofKit
import Derived.OpenShut
import Derived.ShutString
import Derived.ChangeOld
import Derived.Below
import Derived.SizedLaws
import Derived.Test.YteonagfnhdlfcaaGreatDoorClFnOneTellingA
open Nat renaming reduceAdd → qA, reduceMul → qB, reduceSub → qC, reduceEqDiff → qD, reduceLT → qE, reduceLeDiff → qF, reduceBEq → qG
open Int renaming reduceToNat → qH, reduceEq → qI, reduceLE → qJ, reduceLT → qK
open List renaming length_set → qL, length_append → qM, length_replicate → qN, length_map → qO, length_cons → qP, length_nil → qQ
set_option linter.unusedSimpArgs false
set_option linter.unusedVariables false
noncomputable section
namespace Go.Proofs.YteonagfnhdlfcaaGreatDoor.fnOneTelling
open Go.ChangeShapes Go.WideShapes Go.ChangeAt Go.RowKit Go.TL Go.TL.YteonagfnhdlfcaaGreatDoor
set_option maxRecDepth 100000
set_option maxRecDepth 100000 in
theorem lifted (os:Os) (started:os.Started) (H:Type) (enc:TypeId×Value→H) :
    ReturnsInHanded {} Tryz.checked os 5 .any (λ w args=>(Rows.fnOneTellingSpec.pre enc Tryz.prog Tryz.f5 Rows.fnOneTellingRow.domain false w args∧laidMetH Tryz.prog Rows.fnOneTellingRow.laid w)∧sizedMet enc Tryz.prog Tryz.f5 (OpenSpec.ofChange Rows.fnOneTellingSpec) false w args)
      (Rows.fnOneTellingSpec.post enc Tryz.prog Tryz.f5 false true false false):=by
  refine returnsInHanded_of_change_and (C:=Tryz.checked) (X:=λ w _=>laidMetH Tryz.prog Rows.fnOneTellingRow.laid w) (λ _ _ _ hh h=>h.of_heap hh) own started (by kernel_rfl) Tryz.func5
    (ChangeSpec.witness_shaped (enc:=enc) (C:=Tryz.checked) (os:=os) (X:=λ w _=>laidMetH Tryz.prog Rows.fnOneTellingRow.laid w) false (World.laidAll Tryz.prog os Rows.fnOneTellingRow.laid) #[.slice none 0 0] 8 (World.laidAll_os _ _ _)
      (World.shaped_of_ZipB (by kernel_rfl) (by kernel_rfl)) (by kernel_rfl) (by kernel_rfl) (by kernel_rfl)
      (by rw [MakeChecks.laidMetH_plain _ _ _ (by kernel_rfl)];exact laidMet_laidAll _ (by kernel_rfl) (by kernel_rfl))) ?_
  intro W base args ds gs before hval0 hW hcnd _ hL _
  have hval:∀ (j:Nat) t v,Tryz.f5.params[j]?=some t→args[j]?=some v→Value.okWide Tryz.prog W .any base t v:=hval0
  have hW':=hW
  obtain ⟨p,q,hA0,hV,rfl,hfz,hnd⟩:=hW
  have hA:DataW.TrodAll enc Tryz.prog W 0 (λ _=>true) true Tryz.f5.params.toList args.toList ds p:=hA0
  rw [Tryz.params5] at hA hval
  obtain ⟨rfl,rfl⟩:=trodVars_none hV
  obtain ⟨hlen,hc⟩:=zyr (n:=2) (base:=base) (f:=5) (by kernel_rfl) (λ j t v h1 h2=>hval j t v (by simpa using h1) h2) hA law
  refine hc.mono λ e W' ⟨he,bel⟩=>?_
  subst he
  have hback:=zxg (enc:=enc) (P:=Tryz.prog) (by kernel_rfl) bel (by kernel_rfl) (λ x hx=>hW'.lt x (by simpa using hx)) hA
  match ds,hlen with
  | [d0],_=>exact ⟨_,rfl,_,_,_,[],_,[],hW',trodAll_mk1 (shut_bool Tryz.underlying4 _),hback,rfl,bel.frame _,λ h=>by cases h⟩
end Go.Proofs.YteonagfnhdlfcaaGreatDoor.fnOneTelling

import Derived.Test.YteonagfnhdlfcaaGreatDoorCards
import Derived.Test.YteonagfnhdlfcaaGreatDoorTie
import Derived.LaidMore
import Derived.Lay
import Derived.SevenTiedAt
import Derived.Stop.Joined
import Derived.Test.YteonagfnhdlfcaaGreatDoorWlFnExactPlayWorldB
import Derived.Test.YteonagfnhdlfcaaGreatDoorG45PpAddS
import Derived.Test.YteonagfnhdlfcaaGreatDoorTlOpen
import Derived.WalkKit
import Derived.ProofKit
import Derived.OpenShut
import Derived.ShutString
import Derived.ChangeOld
import Derived.Below
import Derived.SizedLaws
open Nat renaming reduceAdd → qA, reduceMul → qB, reduceSub → qC, reduceEqDiff → qD, reduceLT → qE, reduceLeDiff → qF, reduceBEq → qG
open Int renaming reduceToNat → qH, reduceEq → qI, reduceLE → qJ, reduceLT → qK
open List renaming length_set → qL, length_append → qM, length_replicate → qN, length_map → qO, length_cons → qP, length_nil → qQ
set_option linter.unusedSimpArgs false
set_option linter.unusedVariables false
noncomputable section
namespace Go.Proofs.YteonagfnhdlfcaaGreatDoor.fnExactPlayWorld
open Go.ChangeShapes Go.WideShapes Go.ChangeAt Go.RowKit Go.TL Go.TL.YteonagfnhdlfcaaGreatDoor
set_option maxRecDepth 100000
theorem fact0:(Rows.fnExactPlayWorldRow.wf (OpenSpec.ofChange Rows.fnExactPlayWorldSpec))=true:=by kernel_rfl
theorem fact1:(laidOutB Tryz.pinned.checked.prog)=true:=by kernel_rfl
theorem fact2:(mapsRowed Tryz.pinned.checked.prog)=true:=by kernel_rfl
theorem fact3:(Tryz.f7.params.all (Tryz.pinned.checked.prog.readableRec ·))=true:=by kernel_rfl
theorem fact4:(namedTie Tryz.pinned.checked.prog Rows.fnExactPlayWorldRow.named Rows.fnExactPlayWorldSpec.vars)=true:=by kernel_rfl
theorem fact5:((Rows.fnExactPlayWorldRow.stops == []))=true:=by kernel_rfl
theorem fact6:((Tryz.pinned.checked.prog.stops == []))=true:=by kernel_rfl
theorem fact7:((Rows.fnExactPlayWorldRow.knobs == []))=true:=by kernel_rfl
theorem fact8:((Tryz.pinned.checked.prog.stopKnobs == []))=true:=by kernel_rfl
theorem fact9:((Rows.fnExactPlayWorldRow.inPlace == Tryz.pinned.checked.prog.inPlace 7))=true:=by kernel_rfl
theorem fact10:((Rows.fnExactPlayWorldRow.unfollowed == Tryz.pinned.checked.prog.unfollowed 7))=true:=by kernel_rfl
theorem fact11:((Rows.fnExactPlayWorldRow.recurses == Tryz.pinned.checked.prog.recurses 7))=true:=by kernel_rfl
theorem fact12:((Rows.fnExactPlayWorldRow.named == Tryz.pinned.checked.prog.varsNamed 7))=true:=by kernel_rfl
theorem fact13:((Rows.fnExactPlayWorldRow.maps == (Tryz.f7.params.toList++Rows.fnExactPlayWorldSpec.plain.varTypes Tryz.pinned.checked.prog).any (Tryz.pinned.checked.prog.mapsRec ·)))=true:=by kernel_rfl
theorem fact14:((Rows.fnExactPlayWorldRow.ifaces == (Tryz.f7.params.toList++Rows.fnExactPlayWorldSpec.plain.varTypes Tryz.pinned.checked.prog).any (Tryz.pinned.checked.prog.ifacesRec ·)))=true:=by kernel_rfl
theorem fact15:((Rows.fnExactPlayWorldRow.mapsOut == Tryz.pinned.checked.prog.mapsAmong Tryz.f7.resultTypes.toList))=true:=by kernel_rfl
theorem fact16:((Rows.fnExactPlayWorldRow.loops == (Tryz.f7.params.toList++Rows.fnExactPlayWorldSpec.plain.varTypes Tryz.pinned.checked.prog).any (Tryz.pinned.checked.prog.loopsFrom ·)))=true:=by kernel_rfl
theorem fact17:((Rows.fnExactPlayWorldRow.wideKeys == (Tryz.f7.params.toList++Rows.fnExactPlayWorldSpec.plain.varTypes Tryz.pinned.checked.prog++Tryz.f7.resultTypes.toList).any (Tryz.pinned.checked.prog.wideKeysFrom ·)))=true:=by kernel_rfl
theorem fact18:(Rows.fnExactPlayWorldSpec.vars.all (Tryz.pinned.checked.prog.varReadable ·))=true:=by kernel_rfl
theorem fact19:(Tryz.f7.resultTypes.all (λ t=>Tryz.pinned.checked.prog.readableRec t && decide (t < Tryz.pinned.checked.prog.types.size)))=true:=by kernel_rfl
theorem fact20:((Rows.fnExactPlayWorldRow.ifacesOut == Tryz.f7.resultTypes.toList.any (Tryz.pinned.checked.prog.ifacesRec ·)))=true:=by kernel_rfl
theorem fact21:((Rows.fnExactPlayWorldRow.loopsOut == Tryz.f7.resultTypes.toList.any (Tryz.pinned.checked.prog.loopsFrom ·)))=true:=by kernel_rfl
theorem fact22:((Rows.fnExactPlayWorldRow.plainKeys == Tryz.pinned.checked.prog.plainKeys))=true:=by kernel_rfl
theorem fact23:(Rows.fnExactPlayWorldRow.shortTexts.isNone)=true:=by kernel_rfl
theorem fact24:(Tryz.pinned.checked.prog.stopsHeard)=true:=by kernel_rfl
theorem fact25:(Tryz.pinned.checked.prog.mayEnter)=true:=by kernel_rfl
theorem fact26:((Rows.fnExactPlayWorldRow.lifted == Tryz.pinned.checked.prog.liftsFinal))=true:=by kernel_rfl
theorem fact27:((Tryz.pinned.checked.prog.make == some Rows.fnExactPlayWorldRow.make))=true:=by kernel_rfl
theorem fact28:((Rows.fnExactPlayWorldRow.kinds == (if Rows.fnExactPlayWorldRow.domain.isEmpty then [] else Tryz.f7.params.toList.map λ t=>match Tryz.pinned.checked.prog.underlying t with | some (.int k)=>some k | _=>none)))=true:=by kernel_rfl
theorem fact29:((Rows.fnExactPlayWorldRow.pinned == Rows.fnExactPlayWorldRow.pinnedBy))=true:=by kernel_rfl
theorem fact30:((Rows.fnExactPlayWorldRow.veiled == (Tryz.f7.params.toList++Rows.fnExactPlayWorldSpec.plain.varTypes Tryz.pinned.checked.prog++Tryz.f7.resultTypes.toList).any (Tryz.pinned.checked.prog.veiledRec ·)))=true:=by kernel_rfl
theorem fact31:(Rows.fnExactPlayWorldRow.veiledFits Tryz.pinned.checked.prog Tryz.f7.params.toList (Tryz.f7.params.toList++Rows.fnExactPlayWorldSpec.plain.varTypes Tryz.pinned.checked.prog++Tryz.f7.resultTypes.toList))=true:=by kernel_rfl
end Go.Proofs.YteonagfnhdlfcaaGreatDoor.fnExactPlayWorld

import Derived.Test.YtjkeoippmlmfbaaGreatDoorCards
import Derived.Test.YtjkeoippmlmfbaaGreatDoorTie
import Derived.LaidMore
import Derived.Lay
import Derived.SevenTiedAt
import Derived.Stop.Joined
import Derived.Test.YtjkeoippmlmfbaaGreatDoorWlFnExactAddBranchB
import Derived.Test.YtjkeoippmlmfbaaGreatDoorG45PpAddS
import Derived.Test.YtjkeoippmlmfbaaGreatDoorTlOpen
import Derived.WalkKit
import Derived.ProofKit
import Derived.OpenShut
import Derived.ShutString
import Derived.ChangeOld
import Derived.Below
import Derived.SizedLaws
set_option linter.unusedSimpArgs false
set_option linter.unusedVariables false
set_option linter.unusedVariables false
set_option linter.unusedSimpArgs false
namespace Go.Proofs.YtjkeoippmlmfbaaGreatDoor.fnExactAddBranch
open Go.ChangeShapes Go.WideShapes Go.ChangeAt Go.RowKit Go.TL Go.TL.YtjkeoippmlmfbaaGreatDoor
set_option maxRecDepth 100000
theorem fact0 : (Rows.fnExactAddBranchRow.wf (OpenSpec.ofChange Rows.fnExactAddBranchSpec)) = true := by kernel_rfl
theorem fact1 : (laidOutB Tryz.pinned.checked.prog) = true := by kernel_rfl
theorem fact2 : (mapsRowed Tryz.pinned.checked.prog) = true := by kernel_rfl
theorem fact3 : (Tryz.f8.params.all (Tryz.pinned.checked.prog.readableRec ·)) = true := by kernel_rfl
theorem fact4 : (namedTie Tryz.pinned.checked.prog Rows.fnExactAddBranchRow.named Rows.fnExactAddBranchSpec.vars) = true := by kernel_rfl
theorem fact5 : ((Rows.fnExactAddBranchRow.stops == [])) = true := by kernel_rfl
theorem fact6 : ((Tryz.pinned.checked.prog.stops == [])) = true := by kernel_rfl
theorem fact7 : ((Rows.fnExactAddBranchRow.knobs == [])) = true := by kernel_rfl
theorem fact8 : ((Tryz.pinned.checked.prog.stopKnobs == [])) = true := by kernel_rfl
theorem fact9 : ((Rows.fnExactAddBranchRow.inPlace == Tryz.pinned.checked.prog.inPlace 8)) = true := by kernel_rfl
theorem fact10 : ((Rows.fnExactAddBranchRow.unfollowed == Tryz.pinned.checked.prog.unfollowed 8)) = true := by kernel_rfl
theorem fact11 : ((Rows.fnExactAddBranchRow.recurses == Tryz.pinned.checked.prog.recurses 8)) = true := by kernel_rfl
theorem fact12 : ((Rows.fnExactAddBranchRow.named == Tryz.pinned.checked.prog.varsNamed 8)) = true := by kernel_rfl
theorem fact13 : ((Rows.fnExactAddBranchRow.maps == (Tryz.f8.params.toList ++ Rows.fnExactAddBranchSpec.plain.varTypes Tryz.pinned.checked.prog).any (Tryz.pinned.checked.prog.mapsRec ·))) = true := by kernel_rfl
theorem fact14 : ((Rows.fnExactAddBranchRow.ifaces == (Tryz.f8.params.toList ++ Rows.fnExactAddBranchSpec.plain.varTypes Tryz.pinned.checked.prog).any (Tryz.pinned.checked.prog.ifacesRec ·))) = true := by kernel_rfl
theorem fact15 : ((Rows.fnExactAddBranchRow.mapsOut == Tryz.pinned.checked.prog.mapsAmong Tryz.f8.resultTypes.toList)) = true := by kernel_rfl
theorem fact16 : ((Rows.fnExactAddBranchRow.loops == (Tryz.f8.params.toList ++ Rows.fnExactAddBranchSpec.plain.varTypes Tryz.pinned.checked.prog).any (Tryz.pinned.checked.prog.loopsFrom ·))) = true := by kernel_rfl
theorem fact17 : ((Rows.fnExactAddBranchRow.wideKeys == (Tryz.f8.params.toList ++ Rows.fnExactAddBranchSpec.plain.varTypes Tryz.pinned.checked.prog ++ Tryz.f8.resultTypes.toList).any (Tryz.pinned.checked.prog.wideKeysFrom ·))) = true := by kernel_rfl
theorem fact18 : (Rows.fnExactAddBranchSpec.vars.all (Tryz.pinned.checked.prog.varReadable ·)) = true := by kernel_rfl
theorem fact19 : (Tryz.f8.resultTypes.all (fun t => Tryz.pinned.checked.prog.readableRec t && decide (t < Tryz.pinned.checked.prog.types.size))) = true := by kernel_rfl
theorem fact20 : ((Rows.fnExactAddBranchRow.ifacesOut == Tryz.f8.resultTypes.toList.any (Tryz.pinned.checked.prog.ifacesRec ·))) = true := by kernel_rfl
theorem fact21 : ((Rows.fnExactAddBranchRow.loopsOut == Tryz.f8.resultTypes.toList.any (Tryz.pinned.checked.prog.loopsFrom ·))) = true := by kernel_rfl
theorem fact22 : ((Rows.fnExactAddBranchRow.plainKeys == Tryz.pinned.checked.prog.plainKeys)) = true := by kernel_rfl
theorem fact23 : (Rows.fnExactAddBranchRow.shortTexts.isNone) = true := by kernel_rfl
theorem fact24 : (Tryz.pinned.checked.prog.stopsHeard) = true := by kernel_rfl
theorem fact25 : (Tryz.pinned.checked.prog.mayEnter) = true := by kernel_rfl
theorem fact26 : ((Rows.fnExactAddBranchRow.lifted == Tryz.pinned.checked.prog.liftsFinal)) = true := by kernel_rfl
theorem fact27 : ((Tryz.pinned.checked.prog.make == some Rows.fnExactAddBranchRow.make)) = true := by kernel_rfl
theorem fact28 : ((Rows.fnExactAddBranchRow.kinds == (if Rows.fnExactAddBranchRow.domain.isEmpty then [] else Tryz.f8.params.toList.map fun t => match Tryz.pinned.checked.prog.underlying t with | some (.int k) => some k | _ => none))) = true := by kernel_rfl
theorem fact29 : ((Rows.fnExactAddBranchRow.pinned == Rows.fnExactAddBranchRow.pinnedBy)) = true := by kernel_rfl
theorem fact30 : ((Rows.fnExactAddBranchRow.veiled == (Tryz.f8.params.toList ++ Rows.fnExactAddBranchSpec.plain.varTypes Tryz.pinned.checked.prog ++ Tryz.f8.resultTypes.toList).any (Tryz.pinned.checked.prog.veiledRec ·))) = true := by kernel_rfl
theorem fact31 : (Rows.fnExactAddBranchRow.veiledFits Tryz.pinned.checked.prog Tryz.f8.params.toList (Tryz.f8.params.toList ++ Rows.fnExactAddBranchSpec.plain.varTypes Tryz.pinned.checked.prog ++ Tryz.f8.resultTypes.toList)) = true := by kernel_rfl

end Go.Proofs.YtjkeoippmlmfbaaGreatDoor.fnExactAddBranch

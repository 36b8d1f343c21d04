import Derived.Test.YteonagfnhdlfcaaGreatDoorCards
import Derived.Test.YteonagfnhdlfcaaGreatDoorTie
import Derived.LaidMore
import Derived.Lay
import Derived.SevenTiedAt
import Derived.Stop.Joined
import Derived.Test.YteonagfnhdlfcaaGreatDoorWlFnExactReapplyB
import Derived.Test.YteonagfnhdlfcaaGreatDoorG45PpAddS
import Derived.Test.YteonagfnhdlfcaaGreatDoorTlOpen
import Derived.WalkKit
import Derived.ProofKit
import Derived.OpenShut
import Derived.ShutString
import Derived.ChangeOld
import Derived.Below
import Derived.SizedLaws
set_option linter.unusedSimpArgs false
set_option linter.unusedVariables false
namespace Go.Proofs.YteonagfnhdlfcaaGreatDoor.fnExactReapply
open Go.ChangeShapes Go.WideShapes Go.ChangeAt Go.RowKit Go.TL Go.TL.YteonagfnhdlfcaaGreatDoor
set_option maxRecDepth 100000
theorem own : ownKnob Tryz.prog.godebug = none := by kernel_rfl
theorem op3 {n : Nat} {ls : List Leaf} (h : Shp Tryz.prog (n + 1) 3 ls) : ∃ x : Int,ls = eI x ∧ ok_I x := by
  obtain ⟨x,h1,h2⟩ := shp_int Tryz.underlying3 h
  exact ⟨x,h1,bounds_i64 h2⟩
theorem op9 {n : Nat} {ls : List Leaf} (h : Shp Tryz.prog (n + 1) 9 ls) : ∃ x : ByteArray,ls = eS x ∧ ok_S x := by
  obtain ⟨x,h1,h2⟩ := shp_str Tryz.underlying9 h
  exact ⟨x,h1,by unfold maxLen at h2; exact h2⟩
set_option maxRecDepth 100000 in
theorem op280 {n : Nat} {ls : List Leaf} (h : Shp Tryz.prog (n + 2) 280 ls) : ∃ x : EventT,ls = eEvent x ∧ ok_Event x := by
  obtain ⟨a0,_,rfl,h0,a1,_,rfl,h1,a2,_,rfl,h2,a3,_,rfl,h3,rfl⟩ := shp_struct Tryz.underlying280 h
  obtain ⟨x0,rfl,g0⟩ := op3 (n := n + 0) h0
  obtain ⟨x1,rfl,g1⟩ := op3 (n := n + 0) h1
  obtain ⟨x2,rfl,g2⟩ := op3 (n := n + 0) h2
  obtain ⟨x3,rfl,g3⟩ := op9 (n := n + 0) h3
  exact ⟨⟨x0,x1,x2,x3⟩,rfl,⟨g0,g1,g2,g3⟩⟩
set_option maxRecDepth 100000 in
theorem op229 {n : Nat} {ls : List Leaf} (h : Shp Tryz.prog (n + 3) 229 ls) : ∃ x : (List EventT),ls = [.sl (x.map eEvent)] ∧ ok_LEvent x := by
  obtain ⟨xs,h1,h2,h3⟩ := shp_slice (f := eEvent) (p := ok_Event) Tryz.underlying229 (fun r hr => op280 (n := n) hr) h
  exact ⟨xs,h1,by unfold maxLen at h2; exact ⟨h2,h3⟩⟩
set_option maxRecDepth 100000 in
theorem op231 {n : Nat} {ls : List Leaf} (h : Shp Tryz.prog (n + 4) 231 ls) : ∃ x : BranchT,ls = eBranch x ∧ ok_Branch x := by
  obtain ⟨a0,_,rfl,h0,rfl⟩ := shp_struct Tryz.underlying231 h
  obtain ⟨x0,rfl,g0⟩ := op229 (n := n + 0) h0
  exact ⟨⟨x0⟩,rfl,g0⟩
set_option maxRecDepth 100000 in
theorem op50 {n : Nat} {ls : List Leaf} (h : Shp Tryz.prog (n + 5) 50 ls) : ∃ x : (List BranchT),ls = [.sl (x.map eBranch)] ∧ ok_LBranch x := by
  obtain ⟨xs,h1,h2,h3⟩ := shp_slice (f := eBranch) (p := ok_Branch) Tryz.underlying50 (fun r hr => op231 (n := n) hr) h
  exact ⟨xs,h1,by unfold maxLen at h2; exact ⟨h2,h3⟩⟩
set_option maxRecDepth 100000 in
theorem op52 {n : Nat} {ls : List Leaf} (h : Shp Tryz.prog (n + 6) 52 ls) : ∃ x : TellingsT,ls = eTellings x ∧ ok_Tellings x := by
  obtain ⟨a0,_,rfl,h0,rfl⟩ := shp_struct Tryz.underlying52 h
  obtain ⟨x0,rfl,g0⟩ := op50 (n := n + 0) h0
  exact ⟨⟨x0⟩,rfl,g0⟩
set_option maxRecDepth 100000 in
theorem op54 {n : Nat} {ls : List Leaf} (h : Shp Tryz.prog (n + 7) 54 ls) : ∃ x : RegionT,ls = eRegion x ∧ ok_Region x := by
  obtain ⟨a0,_,rfl,h0,a1,_,rfl,h1,a2,_,rfl,h2,rfl⟩ := shp_struct Tryz.underlying54 h
  obtain ⟨x0,rfl,g0⟩ := op3 (n := n + 5) h0
  obtain ⟨x1,rfl,g1⟩ := op3 (n := n + 5) h1
  obtain ⟨x2,rfl,g2⟩ := op52 (n := n + 0) h2
  exact ⟨⟨x0,x1,x2⟩,rfl,⟨g0,g1,g2⟩⟩
set_option maxRecDepth 100000 in
theorem law (ls : List (List Leaf)) (h : ShpAll Tryz.prog 7 [54] ls) : ∃ nx,Go.TL.Fn Tryz.prog 4 (argsLV Tryz.prog [54] ls) [] 0 (.lf false (.sc (.bool true))) [] nx := by
  obtain ⟨a0,_,rfl,h0,rfl⟩ := h
  obtain ⟨x0,rfl,g0⟩ := op54 (n := 0) h0
  simp only [argsLV,argLV,Tryz.underlying54,lfOf,List.map_cons,List.map_nil,List.cons_append,List.nil_append,eRegion]
  exact ⟨_,zfM (reapply_holds x0 g0)⟩
end Go.Proofs.YteonagfnhdlfcaaGreatDoor.fnExactReapply

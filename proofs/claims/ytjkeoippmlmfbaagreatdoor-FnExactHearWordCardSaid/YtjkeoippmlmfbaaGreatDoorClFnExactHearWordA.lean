import Derived.Test.YtjkeoippmlmfbaaGreatDoorCards
import Derived.Test.YtjkeoippmlmfbaaGreatDoorTie
import Derived.LaidMore
import Derived.Lay
import Derived.SevenTiedAt
import Derived.Stop.Joined
import Derived.Test.YtjkeoippmlmfbaaGreatDoorWlFnExactHearWordB
import Derived.Test.YtjkeoippmlmfbaaGreatDoorG45PpAddS
import Derived.Test.YtjkeoippmlmfbaaGreatDoorTlOpen
import Derived.WalkKit
import Derived.ProofKit
import Derived.OpenShut
import Derived.ShutString
import Derived.ChangeOld
import Derived.Below
import Derived.SizedLaws
set_option linter.unusedSimpArgs false
set_option linter.unusedVariables false
set_option linter.unusedVariables false
set_option linter.unusedSimpArgs false
namespace Go.TL
open Go
def eWord (x : WordT) : List Leaf := [.sc (.int .i64 x.Version),.sl (x.Tellings.Branches.map eBranch)]
@[go_sem] theorem eWord_ (x : WordT) : eWord x = [.sc (.int .i64 x.Version),.sl (x.Tellings.Branches.map eBranch)] := rfl
@[go_sem] theorem fold_eWord_set (l : List WordT) (i : Nat) (v0 : Int) (v1 : (List BranchT)) : (l.map eWord).set i [.sc (.int .i64 v0),.sl (v1.map eBranch)] = (l.set i (⟨v0,⟨v1⟩⟩ : WordT)).map eWord := by rw [List.map_set]; rfl
@[go_sem] theorem fold_eWord_app (l : List WordT) (v0 : Int) (v1 : (List BranchT)) : l.map eWord ++ [[.sc (.int .i64 v0),.sl (v1.map eBranch)]] = (l ++ [(⟨v0,⟨v1⟩⟩ : WordT)]).map eWord := by rw [List.map_append]; rfl
theorem fold_eWord_rep (n : Nat) : List.replicate n [.sc (.int .i64 0),.sl []] = (List.replicate n (⟨0,(⟨[]⟩ : TellingsT)⟩ : WordT)).map eWord := by rw [List.map_replicate]; rfl
end Go.TL
namespace Go.Proofs.YtjkeoippmlmfbaaGreatDoor.fnExactHearWord
open Go.ChangeShapes Go.WideShapes Go.ChangeAt Go.RowKit Go.TL Go.TL.YtjkeoippmlmfbaaGreatDoor
set_option maxRecDepth 100000
theorem own : ownKnob Tryz.prog.godebug = none := by kernel_rfl
theorem op3 {n : Nat} {ls : List Leaf} (h : Shp Tryz.prog (n + 1) 3 ls) : ∃ x : Int,ls = eI x ∧ ok_I x := by
  obtain ⟨x,h1,h2⟩ := shp_int Tryz.underlying3 h
  exact ⟨x,h1,bounds_i64 h2⟩
theorem op9 {n : Nat} {ls : List Leaf} (h : Shp Tryz.prog (n + 1) 9 ls) : ∃ x : ByteArray,ls = eS x ∧ ok_S x := by
  obtain ⟨x,h1,h2⟩ := shp_str Tryz.underlying9 h
  exact ⟨x,h1,by unfold maxLen at h2; exact h2⟩
set_option maxRecDepth 100000 in
theorem op150 {n : Nat} {ls : List Leaf} (h : Shp Tryz.prog (n + 2) 150 ls) : ∃ x : EventT,ls = eEvent x ∧ ok_Event x := by
  obtain ⟨a0,_,rfl,h0,a1,_,rfl,h1,a2,_,rfl,h2,a3,_,rfl,h3,rfl⟩ := shp_struct Tryz.underlying150 h
  obtain ⟨x0,rfl,g0⟩ := op3 (n := n + 0) h0
  obtain ⟨x1,rfl,g1⟩ := op3 (n := n + 0) h1
  obtain ⟨x2,rfl,g2⟩ := op3 (n := n + 0) h2
  obtain ⟨x3,rfl,g3⟩ := op9 (n := n + 0) h3
  exact ⟨⟨x0,x1,x2,x3⟩,rfl,⟨g0,g1,g2,g3⟩⟩
set_option maxRecDepth 100000 in
theorem op80 {n : Nat} {ls : List Leaf} (h : Shp Tryz.prog (n + 3) 80 ls) : ∃ x : (List EventT),ls = [.sl (x.map eEvent)] ∧ ok_LEvent x := by
  obtain ⟨xs,h1,h2,h3⟩ := shp_slice (f := eEvent) (p := ok_Event) Tryz.underlying80 (fun r hr => op150 (n := n) hr) h
  exact ⟨xs,h1,by unfold maxLen at h2; exact ⟨h2,h3⟩⟩
set_option maxRecDepth 100000 in
theorem op173 {n : Nat} {ls : List Leaf} (h : Shp Tryz.prog (n + 4) 173 ls) : ∃ x : BranchT,ls = eBranch x ∧ ok_Branch x := by
  obtain ⟨a0,_,rfl,h0,rfl⟩ := shp_struct Tryz.underlying173 h
  obtain ⟨x0,rfl,g0⟩ := op80 (n := n + 0) h0
  exact ⟨⟨x0⟩,rfl,g0⟩
set_option maxRecDepth 100000 in
theorem op22 {n : Nat} {ls : List Leaf} (h : Shp Tryz.prog (n + 5) 22 ls) : ∃ x : (List BranchT),ls = [.sl (x.map eBranch)] ∧ ok_LBranch x := by
  obtain ⟨xs,h1,h2,h3⟩ := shp_slice (f := eBranch) (p := ok_Branch) Tryz.underlying22 (fun r hr => op173 (n := n) hr) h
  exact ⟨xs,h1,by unfold maxLen at h2; exact ⟨h2,h3⟩⟩
set_option maxRecDepth 100000 in
theorem op24 {n : Nat} {ls : List Leaf} (h : Shp Tryz.prog (n + 6) 24 ls) : ∃ x : TellingsT,ls = eTellings x ∧ ok_Tellings x := by
  obtain ⟨a0,_,rfl,h0,rfl⟩ := shp_struct Tryz.underlying24 h
  obtain ⟨x0,rfl,g0⟩ := op22 (n := n + 0) h0
  exact ⟨⟨x0⟩,rfl,g0⟩
set_option maxRecDepth 100000 in
theorem op39 {n : Nat} {ls : List Leaf} (h : Shp Tryz.prog (n + 7) 39 ls) : ∃ x : RegionT,ls = eRegion x ∧ ok_Region x := by
  obtain ⟨a0,_,rfl,h0,a1,_,rfl,h1,a2,_,rfl,h2,rfl⟩ := shp_struct Tryz.underlying39 h
  obtain ⟨x0,rfl,g0⟩ := op3 (n := n + 5) h0
  obtain ⟨x1,rfl,g1⟩ := op3 (n := n + 5) h1
  obtain ⟨x2,rfl,g2⟩ := op24 (n := n + 0) h2
  exact ⟨⟨x0,x1,x2⟩,rfl,⟨g0,g1,g2⟩⟩
set_option maxRecDepth 100000 in
theorem op115 {n : Nat} {ls : List Leaf} (h : Shp Tryz.prog (n + 7) 115 ls) : ∃ x : WordT,ls = eWord x ∧ ok_Word x := by
  obtain ⟨a0,_,rfl,h0,a1,_,rfl,h1,rfl⟩ := shp_struct Tryz.underlying115 h
  obtain ⟨x0,rfl,g0⟩ := op3 (n := n + 5) h0
  obtain ⟨x1,rfl,g1⟩ := op24 (n := n + 0) h1
  exact ⟨⟨x0,x1⟩,rfl,⟨g0,g1⟩⟩
set_option maxRecDepth 100000 in
theorem law (ls : List (List Leaf)) (h : ShpAll Tryz.prog 7 [39,115] ls) : ∃ nx,Go.TL.Fn Tryz.prog 13 (argsLV Tryz.prog [39,115] ls) [] 0 (.lf false (.sc (.bool true))) [] nx := by
  obtain ⟨a0,_,rfl,h0,a1,_,rfl,h1,rfl⟩ := h
  obtain ⟨x0,rfl,g0⟩ := op39 (n := 0) h0
  obtain ⟨x1,rfl,g1⟩ := op115 (n := 0) h1
  simp only [argsLV,argLV,Tryz.underlying39,Tryz.underlying115,lfOf,List.map_cons,List.map_nil,List.cons_append,List.nil_append,eRegion,eWord]
  exact ⟨_,w_laws_FnExactHearWord (hear_holds x0 x1 g0 g1)⟩
end Go.Proofs.YtjkeoippmlmfbaaGreatDoor.fnExactHearWord

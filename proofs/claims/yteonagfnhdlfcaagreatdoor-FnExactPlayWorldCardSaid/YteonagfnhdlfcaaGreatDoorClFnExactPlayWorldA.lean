import Derived.Test.YteonagfnhdlfcaaGreatDoorCards
import Derived.Test.YteonagfnhdlfcaaGreatDoorTie
import Derived.LaidMore
import Derived.Lay
import Derived.SevenTiedAt
import Derived.Stop.Joined
import Derived.Test.YteonagfnhdlfcaaGreatDoorWlFnExactPlayWorldB
import Derived.Test.YteonagfnhdlfcaaGreatDoorG45PpAddS
import Derived.Test.YteonagfnhdlfcaaGreatDoorTlOpen
import Derived.WalkKit
import Derived.ProofKit
import Derived.OpenShut
import Derived.ShutString
import Derived.ChangeOld
import Derived.Below
import Derived.SizedLaws
open Nat renaming reduceAdd → qA, reduceMul → qB, reduceSub → qC, reduceEqDiff → qD, reduceLT → qE, reduceLeDiff → qF, reduceBEq → qG
open Int renaming reduceToNat → qH, reduceEq → qI, reduceLE → qJ, reduceLT → qK
open List renaming length_set → qL, length_append → qM, length_replicate → qN, length_map → qO, length_cons → qP, length_nil → qQ
set_option linter.unusedSimpArgs false
set_option linter.unusedVariables false
noncomputable section
namespace Go.TL
open Go
def eLWorldStep (x:(List WorldStepT)):List Leaf:=[.sl (x.map zj4)]
@[go_sem] theorem eLWorldStep_ (x:(List WorldStepT)):eLWorldStep x=[.sl (x.map zj4)]:=rfl
@[go_sem] theorem fold_eLWorldStep_set (l:List (List WorldStepT)) (i:Nat) (v:(List WorldStepT)):(l.map eLWorldStep).set i [.sl (v.map zj4)]=(l.set i v).map eLWorldStep:=by rw [List.map_set];rfl
@[go_sem] theorem fold_eLWorldStep_app (l:List (List WorldStepT)) (v:(List WorldStepT)):l.map eLWorldStep++[[.sl (v.map zj4)]]=(l++[v]).map eLWorldStep:=by rw [List.map_append];rfl
theorem fold_eLWorldStep_rep (n:Nat):List.replicate n [.sl []]=(List.replicate n []).map eLWorldStep:=by rw [List.map_replicate];rfl
end Go.TL
namespace Go.Proofs.YteonagfnhdlfcaaGreatDoor.fnExactPlayWorld
open Go.ChangeShapes Go.WideShapes Go.ChangeAt Go.RowKit Go.TL Go.TL.YteonagfnhdlfcaaGreatDoor
set_option maxRecDepth 100000
theorem own:ownKnob Tryz.prog.godebug=none:=by kernel_rfl
theorem op3 {n:Nat} {ls:List Leaf} (h:Shp Tryz.prog (n+1) 3 ls):∃ x:Int,ls=eI x∧zlV x:=by
  obtain ⟨x,h1,h2⟩:=zA2 Tryz.underlying3 h
  exact ⟨x,h1,bounds_i64 h2⟩
theorem op9 {n:Nat} {ls:List Leaf} (h:Shp Tryz.prog (n+1) 9 ls):∃ x:ByteArray,ls=eS x∧zn1 x:=by
  obtain ⟨x,h1,h2⟩:=zA3 Tryz.underlying9 h
  exact ⟨x,h1,by unfold maxLen at h2;exact h2⟩
set_option maxRecDepth 100000 in
theorem op158 {n:Nat} {ls:List Leaf} (h:Shp Tryz.prog (n+2) 158 ls):∃ x:WorldStepT,ls=zj4 x∧zkk x:=by
  obtain ⟨a0,_,rfl,h0,a1,_,rfl,h1,a2,_,rfl,h2,a3,_,rfl,h3,a4,_,rfl,h4,rfl⟩:=zwx Tryz.underlying158 h
  obtain ⟨x0,rfl,g0⟩:=op3 (n:=n+0) h0
  obtain ⟨x1,rfl,g1⟩:=op3 (n:=n+0) h1
  obtain ⟨x2,rfl,g2⟩:=op3 (n:=n+0) h2
  obtain ⟨x3,rfl,g3⟩:=op9 (n:=n+0) h3
  obtain ⟨x4,rfl,g4⟩:=op3 (n:=n+0) h4
  exact ⟨⟨x0,x1,x2,x3,x4⟩,rfl,⟨g0,g1,g2,g3,g4⟩⟩
set_option maxRecDepth 100000 in
theorem op91 {n:Nat} {ls:List Leaf} (h:Shp Tryz.prog (n+3) 91 ls):∃ x:(List WorldStepT),ls=[.sl (x.map zj4)]∧zmr x:=by
  obtain ⟨xs,h1,h2,h3⟩:=zyl (f:=zj4) (p:=zkk) Tryz.underlying91 (λ r hr=>op158 (n:=n) hr) h
  exact ⟨xs,h1,by unfold maxLen at h2;exact ⟨h2,h3⟩⟩
set_option maxRecDepth 100000 in
theorem law (ls:List (List Leaf)) (h:zud Tryz.prog 3 [91] ls):∃ nx,Go.TL.Fn Tryz.prog 7 (zmG Tryz.prog [91] ls) [] 0 (.lf false (.sc (.bool true))) [] nx:=by
  obtain ⟨a0,_,rfl,h0,rfl⟩:=h
  obtain ⟨x0,rfl,g0⟩:=op91 (n:=0) h0
  simp only [zmG,zw9,Tryz.underlying91,zww,List.map_cons,List.map_nil,List.cons_append,List.nil_append,eLWorldStep]
  exact ⟨_,zg6 (zvs x0 g0)⟩
end Go.Proofs.YteonagfnhdlfcaaGreatDoor.fnExactPlayWorld

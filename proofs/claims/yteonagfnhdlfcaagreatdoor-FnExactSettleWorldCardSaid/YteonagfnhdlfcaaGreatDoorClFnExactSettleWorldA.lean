import Derived.Test.YteonagfnhdlfcaaGreatDoorCards
import Derived.Test.YteonagfnhdlfcaaGreatDoorTie
import Derived.LaidMore
import Derived.Lay
import Derived.SevenTiedAt
import Derived.Stop.Joined
import Derived.Test.YteonagfnhdlfcaaGreatDoorWlFnExactSettleWorldC
import Derived.Test.YteonagfnhdlfcaaGreatDoorG46PpAddS
import Derived.Test.YteonagfnhdlfcaaGreatDoorTlOpen
import Derived.WalkKit
import Derived.ProofKit
import Derived.OpenShut
import Derived.ShutString
import Derived.ChangeOld
import Derived.Below
import Derived.SizedLaws
open Nat renaming reduceAdd → qA, reduceMul → qB, reduceSub → qC, reduceEqDiff → qD, reduceLT → qE, reduceLeDiff → qF, reduceBEq → qG
open Int renaming reduceToNat → qH, reduceEq → qI, reduceLE → qJ, reduceLT → qK
open List renaming length_set → qL, length_append → qM, length_replicate → qN, length_map → qO, length_cons → qP, length_nil → qQ, map_replicate → qa, map_append → qb, map_set → qc
set_option linter.unusedSimpArgs false
set_option linter.unusedVariables false
noncomputable section
namespace Go.TL
open Go
def eWord (x:WordT):List Leaf:=[.sc (.int .i64 x.fVe),.sl (x.fTe.fBr.map zlc)]
@[go_sem] theorem eWord_ (x:WordT):eWord x=[.sc (.int .i64 x.fVe),.sl (x.fTe.fBr.map zlc)]:=rfl
@[go_sem] theorem fold_eWord_set (l:List WordT) (i:Nat) (v0:Int) (v1:(List BranchT)):(l.map eWord).set i [.sc (.int .i64 v0),.sl (v1.map zlc)]=(l.set i (⟨v0,⟨v1⟩⟩:WordT)).map eWord:=by rw [qc];rfl
@[go_sem] theorem fold_eWord_app (l:List WordT) (v0:Int) (v1:(List BranchT)):l.map eWord++[[.sc (.int .i64 v0),.sl (v1.map zlc)]]=(l++[(⟨v0,⟨v1⟩⟩:WordT)]).map eWord:=by rw [qb];rfl
theorem fold_eWord_rep (n:Nat):List.replicate n [.sc (.int .i64 0),.sl []]=(List.replicate n (⟨0,(⟨[]⟩:TellingsT)⟩:WordT)).map eWord:=by rw [qa];rfl
def eWorld (x:WorldT):List Leaf:=[.sl (x.fRe.map zlj),.sl (x.Line.map zlz)]
@[go_sem] theorem eWorld_ (x:WorldT):eWorld x=[.sl (x.fRe.map zlj),.sl (x.Line.map zlz)]:=rfl
@[go_sem] theorem fold_eWorld_set (l:List WorldT) (i:Nat) (v0:(List RegionT)) (v1:(List SaidT)):(l.map eWorld).set i [.sl (v0.map zlj),.sl (v1.map zlz)]=(l.set i (⟨v0,v1⟩:WorldT)).map eWorld:=by rw [qc];rfl
@[go_sem] theorem fold_eWorld_app (l:List WorldT) (v0:(List RegionT)) (v1:(List SaidT)):l.map eWorld++[[.sl (v0.map zlj),.sl (v1.map zlz)]]=(l++[(⟨v0,v1⟩:WorldT)]).map eWorld:=by rw [qb];rfl
theorem fold_eWorld_rep (n:Nat):List.replicate n [.sl [],.sl []]=(List.replicate n (⟨[],[]⟩:WorldT)).map eWorld:=by rw [qa];rfl
end Go.TL
namespace Go.Proofs.YteonagfnhdlfcaaGreatDoor.fnExactSettleWorld
open Go.ChangeShapes Go.WideShapes Go.ChangeAt Go.RowKit Go.TL Go.TL.YteonagfnhdlfcaaGreatDoor
set_option maxRecDepth 100000
theorem own:ownKnob Tryz.prog.godebug=none:=by kernel_rfl
theorem op3 {n:Nat} {ls:List Leaf} (h:Shp Tryz.prog (n+1) 3 ls):∃ x:Int,ls=eI x∧zoV x:=by
  obtain ⟨x,h1,h2⟩:=zBW Tryz.underlying3 h
  exact ⟨x,h1,bounds_i64 h2⟩
theorem op9 {n:Nat} {ls:List Leaf} (h:Shp Tryz.prog (n+1) 9 ls):∃ x:ByteArray,ls=eS x∧zqy x:=by
  obtain ⟨x,h1,h2⟩:=zBX Tryz.underlying9 h
  exact ⟨x,h1,by unfold maxLen at h2;exact h2⟩
set_option maxRecDepth 100000 in
theorem op280 {n:Nat} {ls:List Leaf} (h:Shp Tryz.prog (n+2) 280 ls):∃ x:EventT,ls=zlk x∧zot x:=by
  obtain ⟨a0,_,rfl,h0,a1,_,rfl,h1,a2,_,rfl,h2,a3,_,rfl,h3,rfl⟩:=znA Tryz.underlying280 h
  obtain ⟨x0,rfl,g0⟩:=op3 (n:=n+0) h0
  obtain ⟨x1,rfl,g1⟩:=op3 (n:=n+0) h1
  obtain ⟨x2,rfl,g2⟩:=op3 (n:=n+0) h2
  obtain ⟨x3,rfl,g3⟩:=op9 (n:=n+0) h3
  exact ⟨⟨x0,x1,x2,x3⟩,rfl,⟨g0,g1,g2,g3⟩⟩
set_option maxRecDepth 100000 in
theorem op229 {n:Nat} {ls:List Leaf} (h:Shp Tryz.prog (n+3) 229 ls):∃ x:(List EventT),ls=[.sl (x.map zlk)]∧zmB x:=by
  obtain ⟨xs,h1,h2,h3⟩:=zqu (f:=zlk) (p:=zot) Tryz.underlying229 (λ r hr=>op280 (n:=n) hr) h
  exact ⟨xs,h1,by unfold maxLen at h2;exact ⟨h2,h3⟩⟩
set_option maxRecDepth 100000 in
theorem op231 {n:Nat} {ls:List Leaf} (h:Shp Tryz.prog (n+4) 231 ls):∃ x:BranchT,ls=zlc x∧zol x:=by
  obtain ⟨a0,_,rfl,h0,rfl⟩:=znA Tryz.underlying231 h
  obtain ⟨x0,rfl,g0⟩:=op229 (n:=n+0) h0
  exact ⟨⟨x0⟩,rfl,g0⟩
set_option maxRecDepth 100000 in
theorem op50 {n:Nat} {ls:List Leaf} (h:Shp Tryz.prog (n+5) 50 ls):∃ x:(List BranchT),ls=[.sl (x.map zlc)]∧znn x:=by
  obtain ⟨xs,h1,h2,h3⟩:=zqu (f:=zlc) (p:=zol) Tryz.underlying50 (λ r hr=>op231 (n:=n) hr) h
  exact ⟨xs,h1,by unfold maxLen at h2;exact ⟨h2,h3⟩⟩
set_option maxRecDepth 100000 in
theorem op52 {n:Nat} {ls:List Leaf} (h:Shp Tryz.prog (n+6) 52 ls):∃ x:TellingsT,ls=zuw x∧zlF x:=by
  obtain ⟨a0,_,rfl,h0,rfl⟩:=znA Tryz.underlying52 h
  obtain ⟨x0,rfl,g0⟩:=op50 (n:=n+0) h0
  exact ⟨⟨x0⟩,rfl,g0⟩
set_option maxRecDepth 100000 in
theorem op54 {n:Nat} {ls:List Leaf} (h:Shp Tryz.prog (n+7) 54 ls):∃ x:RegionT,ls=zlj x∧zlP x:=by
  obtain ⟨a0,_,rfl,h0,a1,_,rfl,h1,a2,_,rfl,h2,rfl⟩:=znA Tryz.underlying54 h
  obtain ⟨x0,rfl,g0⟩:=op3 (n:=n+5) h0
  obtain ⟨x1,rfl,g1⟩:=op3 (n:=n+5) h1
  obtain ⟨x2,rfl,g2⟩:=op52 (n:=n+0) h2
  exact ⟨⟨x0,x1,x2⟩,rfl,⟨g0,g1,g2⟩⟩
set_option maxRecDepth 100000 in
theorem op81 {n:Nat} {ls:List Leaf} (h:Shp Tryz.prog (n+8) 81 ls):∃ x:(List RegionT),ls=[.sl (x.map zlj)]∧znS x:=by
  obtain ⟨xs,h1,h2,h3⟩:=zqu (f:=zlj) (p:=zlP) Tryz.underlying81 (λ r hr=>op54 (n:=n) hr) h
  exact ⟨xs,h1,by unfold maxLen at h2;exact ⟨h2,h3⟩⟩
set_option maxRecDepth 100000 in
theorem op195 {n:Nat} {ls:List Leaf} (h:Shp Tryz.prog (n+7) 195 ls):∃ x:WordT,ls=eWord x∧zql x:=by
  obtain ⟨a0,_,rfl,h0,a1,_,rfl,h1,rfl⟩:=znA Tryz.underlying195 h
  obtain ⟨x0,rfl,g0⟩:=op3 (n:=n+5) h0
  obtain ⟨x1,rfl,g1⟩:=op52 (n:=n+0) h1
  exact ⟨⟨x0,x1⟩,rfl,⟨g0,g1⟩⟩
set_option maxRecDepth 100000 in
theorem op197 {n:Nat} {ls:List Leaf} (h:Shp Tryz.prog (n+8) 197 ls):∃ x:SaidT,ls=zlz x∧zoO x:=by
  obtain ⟨a0,_,rfl,h0,a1,_,rfl,h1,rfl⟩:=znA Tryz.underlying197 h
  obtain ⟨x0,rfl,g0⟩:=op3 (n:=n+6) h0
  obtain ⟨x1,rfl,g1⟩:=op195 (n:=n+0) h1
  exact ⟨⟨x0,x1⟩,rfl,⟨g0,g1⟩⟩
set_option maxRecDepth 100000 in
theorem op82 {n:Nat} {ls:List Leaf} (h:Shp Tryz.prog (n+9) 82 ls):∃ x:(List SaidT),ls=[.sl (x.map zlz)]∧zp7 x:=by
  obtain ⟨xs,h1,h2,h3⟩:=zqu (f:=zlz) (p:=zoO) Tryz.underlying82 (λ r hr=>op197 (n:=n) hr) h
  exact ⟨xs,h1,by unfold maxLen at h2;exact ⟨h2,h3⟩⟩
set_option maxRecDepth 100000 in
theorem op84 {n:Nat} {ls:List Leaf} (h:Shp Tryz.prog (n+10) 84 ls):∃ x:WorldT,ls=eWorld x∧zm4 x:=by
  obtain ⟨a0,_,rfl,h0,a1,_,rfl,h1,rfl⟩:=znA Tryz.underlying84 h
  obtain ⟨x0,rfl,g0⟩:=op81 (n:=n+1) h0
  obtain ⟨x1,rfl,g1⟩:=op82 (n:=n+0) h1
  exact ⟨⟨x0,x1⟩,rfl,⟨g0,g1⟩⟩
set_option maxRecDepth 100000 in
theorem law (ls:List (List Leaf)) (h:zvt Tryz.prog 10 [84] ls):∃ nx,Go.TL.Fn Tryz.prog 6 (zob Tryz.prog [84] ls) [] 0 (.lf false (.sc (.bool true))) [] nx:=by
  obtain ⟨a0,_,rfl,h0,rfl⟩:=h
  obtain ⟨x0,rfl,g0⟩:=op84 (n:=0) h0
  simp only [zob,zym,Tryz.underlying84,zxM,List.map_cons,List.map_nil,List.cons_append,List.nil_append,eWorld]
  exact ⟨_,zhJ (zvs x0 g0)⟩
end Go.Proofs.YteonagfnhdlfcaaGreatDoor.fnExactSettleWorld

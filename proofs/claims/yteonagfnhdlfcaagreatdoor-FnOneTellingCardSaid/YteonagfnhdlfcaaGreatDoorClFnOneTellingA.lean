import Derived.Test.YteonagfnhdlfcaaGreatDoorCards
import Derived.Test.YteonagfnhdlfcaaGreatDoorTie
import Derived.LaidMore
import Derived.Lay
import Derived.SevenTiedAt
import Derived.Stop.Joined
import Derived.Test.YteonagfnhdlfcaaGreatDoorWlFnOneTellingC
import Derived.Test.YteonagfnhdlfcaaGreatDoorPpOneLaw
import Derived.Test.YteonagfnhdlfcaaGreatDoorTlOpen
import Derived.WalkKit
import Derived.ProofKit
import Derived.OpenShut
import Derived.ShutString
import Derived.ChangeOld
import Derived.Below
import Derived.SizedLaws
open Nat renaming reduceAdd → qA, reduceMul → qB, reduceSub → qC, reduceEqDiff → qD, reduceLT → qE, reduceLeDiff → qF, reduceBEq → qG
open Int renaming reduceToNat → qH, reduceEq → qI, reduceLE → qJ, reduceLT → qK
open List renaming length_set → qL, length_append → qM, length_replicate → qN, length_map → qO, length_cons → qP, length_nil → qQ
set_option linter.unusedSimpArgs false
set_option linter.unusedVariables false
noncomputable section
namespace Go.TL
open Go
def eLU8 (x:(List Int)):List Leaf:=[.sl (x.map eU8)]
@[go_sem] theorem eLU8_ (x:(List Int)):eLU8 x=[.sl (x.map eU8)]:=rfl
@[go_sem] theorem fold_eLU8_set (l:List (List Int)) (i:Nat) (v:(List Int)):(l.map eLU8).set i [.sl (v.map eU8)]=(l.set i v).map eLU8:=by rw [List.map_set];rfl
@[go_sem] theorem fold_eLU8_app (l:List (List Int)) (v:(List Int)):l.map eLU8++[[.sl (v.map eU8)]]=(l++[v]).map eLU8:=by rw [List.map_append];rfl
theorem fold_eLU8_rep (n:Nat):List.replicate n [.sl []]=(List.replicate n []).map eLU8:=by rw [List.map_replicate];rfl
def ok_U8 (x:Int):Prop:=0≤x∧x≤255
def siz_U8 (_:Int):Nat:=0
def lk_U8 (_:Int):Prop:=True
theorem lk_of_U8 {x:Int} (_:ok_U8 x):lk_U8 x:=trivial
def ok_LU8 (x:(List Int)):Prop:=x.length≤9223372036854775807∧∀ y∈x,ok_U8 y
def siz_LU8 (x:(List Int)):Nat:=x.length+zCo (x.map siz_U8)
def lk_LU8 (x:(List Int)):Prop:=x.length≤9223372036854775807∧∀ y∈x,lk_U8 y
theorem lk_of_LU8 {x:(List Int)} (h:ok_LU8 x):lk_LU8 x:=⟨h.1,λ y hy=>lk_of_U8 (h.2 y hy)⟩
end Go.TL
namespace Go.Proofs.YteonagfnhdlfcaaGreatDoor.fnOneTelling
open Go.ChangeShapes Go.WideShapes Go.ChangeAt Go.RowKit Go.TL Go.TL.YteonagfnhdlfcaaGreatDoor
set_option maxRecDepth 100000
theorem own:ownKnob Tryz.prog.godebug=none:=by kernel_rfl
theorem op5 {n:Nat} {ls:List Leaf} (h:Shp Tryz.prog (n+1) 5 ls):∃ x:Int,ls=eU8 x∧ok_U8 x:=by
  obtain ⟨x,h1,h2⟩:=zBe Tryz.underlying5 h
  exact ⟨x,h1,bounds_u8 h2⟩
set_option maxRecDepth 100000 in
theorem op22 {n:Nat} {ls:List Leaf} (h:Shp Tryz.prog (n+2) 22 ls):∃ x:(List Int),ls=[.sl (x.map eU8)]∧ok_LU8 x:=by
  obtain ⟨xs,h1,h2,h3⟩:=zys (f:=eU8) (p:=ok_U8) Tryz.underlying22 (λ r hr=>op5 (n:=n) hr) h
  exact ⟨xs,h1,by unfold maxLen at h2;exact ⟨h2,h3⟩⟩
set_option maxRecDepth 100000 in
theorem law (ls:List (List Leaf)) (h:zuk Tryz.prog 2 [22] ls):∃ nx,Go.TL.Fn Tryz.prog 5 (zm8 Tryz.prog [22] ls) [] 0 (.lf false (.sc (.bool true))) [] nx:=by
  obtain ⟨a0,_,rfl,h0,rfl⟩:=h
  obtain ⟨x0,rfl,g0⟩:=op22 (n:=0) h0
  simp only [zm8,zxe,Tryz.underlying22,zwx,List.map_cons,List.map_nil,List.cons_append,List.nil_append,eLU8]
  exact ⟨_,ziq (zyq x0 g0.2)⟩
end Go.Proofs.YteonagfnhdlfcaaGreatDoor.fnOneTelling

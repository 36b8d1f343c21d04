import Derived.Test.YteonagfnhdlfcaaGreatDoorTlTabr6zD
import Derived.Test.YteonagfnhdlfcaaGreatDoorG30EnR1
import Derived.Test.YteonagfnhdlfcaaGreatDoorTlAuto
import Derived.Test.YteonagfnhdlfcaaGreatDoorG32TlPk
import Derived.Test.YteonagfnhdlfcaaGreatDoorG33TlTrimr6zD
import Derived.Test.YteonagfnhdlfcaaGreatDoorG34TlBelow
import Derived.Test.YteonagfnhdlfcaaGreatDoorTlInsert
import Derived.Test.YteonagfnhdlfcaaGreatDoorG38TlSrLr6zD
import Derived.Test.YteonagfnhdlfcaaGreatDoorTlDelDr6zD
import Derived.Test.YteonagfnhdlfcaaGreatDoorTlSortD
import Derived.Test.YteonagfnhdlfcaaGreatDoorTlStrs
open Nat renaming reduceAdd → qA, reduceMul → qB, reduceSub → qC, reduceEqDiff → qD, reduceLT → qE, reduceLeDiff → qF, reduceBEq → qG, zero_add → qa
open Int renaming reduceToNat → qH, reduceEq → qI, reduceLE → qJ, reduceLT → qK
open List renaming length_set → qL, length_append → qM, length_replicate → qN, length_map → qO, length_cons → qP, length_nil → qQ
set_option linter.unusedSimpArgs false
set_option linter.unusedVariables false
noncomputable section
set_option maxRecDepth 8000
set_option maxHeartbeats 0
namespace Go.TL.YteonagfnhdlfcaaGreatDoor
open Go Go.Proofs Go.TL
theorem zkF {a0:EventT} {a1:Int} {r:Int} (h:zfS a0 a1=some r):Fn Tryz.prog 266 [(.ag [(I a0.Id),(I a0.fVe),(I a0.Kind),(.lf false (.sc (.string a0.Name)))]),(I a1)] [] 0 (I r) [] 0:=by
 unfold zfS at h
 refine fc [(1000,[(1,0),(2,0)]),(1001,[(1,0)]),(1002,[(1,0),(11,0)]),(1003,[(4,0)]),(1004,[(4,0)])] Tryz.func266 ?_
 simp only [Tryz.f266]
 refine sA ?_
 refine zle h (λ h hc1=>?_) (λ h hc1=>?_)
 ·refine sA ?_
  have he:=oi h
  subst he
  exact zld ⟨[(4,(I (-1)))],[],0,13⟩ []
 ·refine sA ?_
  have he:=oi h
  subst he
  exact zld ⟨[(4,(I (wI (a1 - (a0.Name.size:Int)))))],[],0,13⟩ []
theorem zkf {a0:(List EventT)} {a1:Int} {r:Int} (h:zfj a0 a1=some r):Fn Tryz.prog 242 [(.lf true (.sl (a0.map zlk))),(I a1)] [] 0 (I r) [] 0:=by
 unfold zfj at h
 refine fc [(1000,[(0,0),(1,0)]),(1001,[(0,0),(1,0)]),(1002,[(0,0),(1,0),(11,0)]),(1003,[(4,0)]),(1004,[(0,0),(1,0),(5,0)]),(1005,[(0,0),(1,0),(5,0),(15,0)]),(1006,[(0,0),(1,0),(5,0)]),(1007,[(0,0),(1,0),(5,0)]),(1008,[(0,0),(1,0),(5,0),(25,0)]),(1009,[(4,0)]),(1010,[(4,0)])] Tryz.func242 ?_
 simp only [Tryz.f242]
 refine sA ?_
 refine zle h (λ h hc1=>?_) (λ h hc1=>?_)
 ·refine sA ?_
  have he:=oi h
  subst he
  exact zld ⟨[(4,(I (-1)))],[],0,27⟩ []
 ·refine sA ?_
  obtain ⟨y6,hl2,h⟩:=zk9 h
  refine zlo (λ g3:ze4=>⟨[(0,(.lf true (.sl (a0.map zlk)))),(1,(I g3.t1)),(5,(I g3.t5))],[],0,27⟩) (zbW a0) _ _ hl2 (zlg []) ?_
  ·intro n1 g3 z1 hs1 hk1
   unfold zbW at hs1
   try dsimp only at hs1
   refine sA ?_
   refine zle hs1 (λ hs1 hc3=>?_) (λ hs1 hc3=>?_)
   ·refine sA ?_
    obtain ⟨hp4,hs1⟩:=zla hs1
    have hn4:g3.t5.toNat < a0.length:=by first|omega|(simp;omega)
    refine sA ?_
    refine zlq ?_
    obtain ⟨c5,hr5,hs1⟩:=zk9 hs1
    refine zlh (zkF hr5) ?_
    refine sA ?_
    refine zle hs1 (λ hs1 hc6=>?_) (λ hs1 hc6=>?_)
    ·refine sA ?_
     cases hs1
     cases hk1
     try dsimp only at h
     refine sA ?_
     have he:=oi h
     subst he
     exact zld ⟨[(4,(I (-1)))],[],0,27⟩ []
    ·refine sA ?_
     cases hs1
     exact zll hk1 (zlg [])
   ·refine sA ?_
    cases hs1
    cases hk1
    try dsimp only at h
    refine sA ?_
    have he:=oi h
    subst he
    exact zld ⟨[(4,(I g3.t1))],[],0,27⟩ []
theorem zkg {a0:BranchT} {a1:Int} {r:Int} (h:zfn a0 a1=some r):Fn Tryz.prog 198 [(.ag [(.lf true (.sl (a0.fEv.map zlk)))]),(I a1)] [] 0 (I r) [] 0:=by
 unfold zfn at h
 refine fc [(1000,[(1,0),(2,0)]),(1001,[(1,0)]),(1002,[(1,0),(10,0)]),(1003,[(4,0)]),(1004,[(4,0)])] Tryz.func198 ?_
 simp only [Tryz.f198]
 refine sA ?_
 obtain ⟨c9,hr1,h⟩:=zk9 h
 refine zlh (zkf hr1) ?_
 refine sA ?_
 refine zle h (λ h hc2=>?_) (λ h hc2=>?_)
 ·refine sA ?_
  have he:=oi h
  subst he
  exact zld ⟨[(4,(I (-1)))],[],0,12⟩ []
 ·refine sA ?_
  have he:=oi h
  subst he
  exact zld ⟨[(4,(I c9))],[],0,12⟩ []
theorem zjP {a0:(List BranchT)} {a1:Int} {r:Int} (h:zeF a0 a1=some r):Fn Tryz.prog 145 [(.lf true (.sl (a0.map zlc))),(I a1)] [] 0 (I r) [] 0:=by
 unfold zeF at h
 refine fc [(1000,[(0,0),(1,0)]),(1001,[(0,0),(1,0)]),(1002,[(0,0),(1,0),(11,0)]),(1003,[(4,0)]),(1004,[(0,0),(1,0),(5,0)]),(1005,[(0,0),(1,0),(5,0),(15,0)]),(1006,[(0,0),(1,0),(5,0)]),(1007,[(0,0),(1,0),(5,0)]),(1008,[(0,0),(1,0),(5,0),(25,0)]),(1009,[(4,0)]),(1010,[(4,0)])] Tryz.func145 ?_
 simp only [Tryz.f145]
 refine sA ?_
 refine zle h (λ h hc1=>?_) (λ h hc1=>?_)
 ·refine sA ?_
  have he:=oi h
  subst he
  exact zld ⟨[(4,(I (-1)))],[],0,27⟩ []
 ·refine sA ?_
  obtain ⟨y12,hl2,h⟩:=zk9 h
  refine zlo (λ g2:zei=>⟨[(0,(.lf true (.sl (a0.map zlc)))),(1,(I g2.t1)),(5,(I g2.t5))],[],0,27⟩) (zbH a0) _ _ hl2 (zlg []) ?_
  ·intro n1 g2 z1 hs1 hk1
   unfold zbH at hs1
   try dsimp only at hs1
   refine sA ?_
   refine zle hs1 (λ hs1 hc3=>?_) (λ hs1 hc3=>?_)
   ·refine sA ?_
    obtain ⟨hp4,hs1⟩:=zla hs1
    have hn4:g2.t5.toNat < a0.length:=by first|omega|(simp;omega)
    refine sA ?_
    refine zlq ?_
    obtain ⟨c11,hr5,hs1⟩:=zk9 hs1
    refine zlh (zkg hr5) ?_
    refine sA ?_
    refine zle hs1 (λ hs1 hc6=>?_) (λ hs1 hc6=>?_)
    ·refine sA ?_
     cases hs1
     cases hk1
     try dsimp only at h
     refine sA ?_
     have he:=oi h
     subst he
     exact zld ⟨[(4,(I (-1)))],[],0,27⟩ []
    ·refine sA ?_
     cases hs1
     exact zll hk1 (zlg [])
   ·refine sA ?_
    cases hs1
    cases hk1
    try dsimp only at h
    refine sA ?_
    have he:=oi h
    subst he
    exact zld ⟨[(4,(I g2.t1))],[],0,27⟩ []
theorem zhz {a0:TellingsT} {a1:Int} {r:Int} (h:zct a0 a1=some r):Fn Tryz.prog 73 [(.ag [(.lf true (.sl (a0.fBr.map zlc)))]),(I a1)] [] 0 (I r) [] 0:=by
 unfold zct at h
 refine fc [(1000,[(1,0),(2,0)]),(1001,[(1,0)]),(1002,[(1,0),(10,0)]),(1003,[(4,0)]),(1004,[(4,0)])] Tryz.func73 ?_
 simp only [Tryz.f73]
 refine sA ?_
 obtain ⟨c15,hr1,h⟩:=zk9 h
 refine zlh (zjP hr1) ?_
 refine sA ?_
 refine zle h (λ h hc2=>?_) (λ h hc2=>?_)
 ·refine sA ?_
  have he:=oi h
  subst he
  exact zld ⟨[(4,(I (-1)))],[],0,12⟩ []
 ·refine sA ?_
  have he:=oi h
  subst he
  exact zld ⟨[(4,(I c15))],[],0,12⟩ []
theorem zkh {a0:RegionT} {a1:Int} {r:Int} (h:zfp a0 a1=some r):Fn Tryz.prog 19 [(.ag [(I a0.Id),(I a0.fVe),(.lf true (.sl (a0.fTe.fBr.map zlc)))]),(I a1)] [] 0 (I r) [] 0:=by
 unfold zfp at h
 refine fc [(1000,[(1,0),(2,0)]),(1001,[(1,0)]),(1002,[(1,0),(10,0)]),(1003,[(4,0)]),(1004,[(4,0)])] Tryz.func19 ?_
 simp only [Tryz.f19]
 refine sA ?_
 obtain ⟨c16,hr1,h⟩:=zk9 h
 refine zlh (zhz hr1) ?_
 refine sA ?_
 refine zle h (λ h hc2=>?_) (λ h hc2=>?_)
 ·refine sA ?_
  have he:=oi h
  subst he
  exact zld ⟨[(4,(I (-1)))],[],0,12⟩ []
 ·refine sA ?_
  have he:=oi h
  subst he
  exact zld ⟨[(4,(I c16))],[],0,12⟩ []
theorem zjQ {a0:(List RegionT)} {a1:Int} {r:Int} (h:zeJ a0 a1=some r):Fn Tryz.prog 97 [(.lf true (.sl (a0.map zlj))),(I a1)] [] 0 (I r) [] 0:=by
 unfold zeJ at h
 refine fc [(1000,[(0,0),(1,0)]),(1001,[(0,0),(1,0)]),(1002,[(0,0),(1,0),(11,0)]),(1003,[(4,0)]),(1004,[(0,0),(1,0),(5,0)]),(1005,[(0,0),(1,0),(5,0),(15,0)]),(1006,[(0,0),(1,0),(5,0)]),(1007,[(0,0),(1,0),(5,0)]),(1008,[(0,0),(1,0),(5,0),(25,0)]),(1009,[(4,0)]),(1010,[(4,0)])] Tryz.func97 ?_
 simp only [Tryz.f97]
 refine sA ?_
 refine zle h (λ h hc1=>?_) (λ h hc1=>?_)
 ·refine sA ?_
  have he:=oi h
  subst he
  exact zld ⟨[(4,(I (-1)))],[],0,27⟩ []
 ·refine sA ?_
  obtain ⟨y19,hl2,h⟩:=zk9 h
  refine zlo (λ g1:zel=>⟨[(0,(.lf true (.sl (a0.map zlj)))),(1,(I g1.t1)),(5,(I g1.t5))],[],0,27⟩) (zbL a0) _ _ hl2 (zlg []) ?_
  ·intro n1 g1 z1 hs1 hk1
   unfold zbL at hs1
   try dsimp only at hs1
   refine sA ?_
   refine zle hs1 (λ hs1 hc3=>?_) (λ hs1 hc3=>?_)
   ·refine sA ?_
    obtain ⟨hp4,hs1⟩:=zla hs1
    have hn4:g1.t5.toNat < a0.length:=by first|omega|(simp;omega)
    refine sA ?_
    refine zlq ?_
    obtain ⟨c18,hr5,hs1⟩:=zk9 hs1
    refine zlh (zkh hr5) ?_
    refine sA ?_
    refine zle hs1 (λ hs1 hc6=>?_) (λ hs1 hc6=>?_)
    ·refine sA ?_
     cases hs1
     cases hk1
     try dsimp only at h
     refine sA ?_
     have he:=oi h
     subst he
     exact zld ⟨[(4,(I (-1)))],[],0,27⟩ []
    ·refine sA ?_
     cases hs1
     exact zll hk1 (zlg [])
   ·refine sA ?_
    cases hs1
    cases hk1
    try dsimp only at h
    refine sA ?_
    have he:=oi h
    subst he
    exact zld ⟨[(4,(I g1.t1))],[],0,27⟩ []
theorem zkV {a0:WordT} {a1:Int} {r:Int} (h:zgr a0 a1=some r):Fn Tryz.prog 210 [(.ag [(I a0.fVe),(.lf true (.sl (a0.fTe.fBr.map zlc)))]),(I a1)] [] 0 (I r) [] 0:=by
 unfold zgr at h
 refine fc [(1000,[(1,0),(2,0)]),(1001,[(1,0)]),(1002,[(1,0),(10,0)]),(1003,[(4,0)]),(1004,[(4,0)])] Tryz.func210 ?_
 simp only [Tryz.f210]
 refine sA ?_
 obtain ⟨c24,hr1,h⟩:=zk9 h
 refine zlh (zhz hr1) ?_
 refine sA ?_
 refine zle h (λ h hc2=>?_) (λ h hc2=>?_)
 ·refine sA ?_
  have he:=oi h
  subst he
  exact zld ⟨[(4,(I (-1)))],[],0,12⟩ []
 ·refine sA ?_
  have he:=oi h
  subst he
  exact zld ⟨[(4,(I c24))],[],0,12⟩ []
theorem zkW {a0:SaidT} {a1:Int} {r:Int} (h:zgs a0 a1=some r):Fn Tryz.prog 163 [(.ag [(I a0.To),(I a0.Word.fVe),(.lf true (.sl (a0.Word.fTe.fBr.map zlc)))]),(I a1)] [] 0 (I r) [] 0:=by
 unfold zgs at h
 refine fc [(1000,[(1,0),(2,0)]),(1001,[(1,0)]),(1002,[(1,0),(10,0)]),(1003,[(4,0)]),(1004,[(4,0)])] Tryz.func163 ?_
 simp only [Tryz.f163]
 refine sA ?_
 obtain ⟨c25,hr1,h⟩:=zk9 h
 refine zlh (zkV hr1) ?_
 refine sA ?_
 refine zle h (λ h hc2=>?_) (λ h hc2=>?_)
 ·refine sA ?_
  have he:=oi h
  subst he
  exact zld ⟨[(4,(I (-1)))],[],0,12⟩ []
 ·refine sA ?_
  have he:=oi h
  subst he
  exact zld ⟨[(4,(I c25))],[],0,12⟩ []
theorem zkG {a0:(List SaidT)} {a1:Int} {r:Int} (h:zfX a0 a1=some r):Fn Tryz.prog 98 [(.lf true (.sl (a0.map zlz))),(I a1)] [] 0 (I r) [] 0:=by
 unfold zfX at h
 refine fc [(1000,[(0,0),(1,0)]),(1001,[(0,0),(1,0)]),(1002,[(0,0),(1,0),(11,0)]),(1003,[(4,0)]),(1004,[(0,0),(1,0),(5,0)]),(1005,[(0,0),(1,0),(5,0),(15,0)]),(1006,[(0,0),(1,0),(5,0)]),(1007,[(0,0),(1,0),(5,0)]),(1008,[(0,0),(1,0),(5,0),(25,0)]),(1009,[(4,0)]),(1010,[(4,0)])] Tryz.func98 ?_
 simp only [Tryz.f98]
 refine sA ?_
 refine zle h (λ h hc1=>?_) (λ h hc1=>?_)
 ·refine sA ?_
  have he:=oi h
  subst he
  exact zld ⟨[(4,(I (-1)))],[],0,27⟩ []
 ·refine sA ?_
  obtain ⟨y28,hl2,h⟩:=zk9 h
  refine zlo (λ g23:zfG=>⟨[(0,(.lf true (.sl (a0.map zlz)))),(1,(I g23.t1)),(5,(I g23.t5))],[],0,27⟩) (zcy a0) _ _ hl2 (zlg []) ?_
  ·intro n1 g23 z1 hs1 hk1
   unfold zcy at hs1
   try dsimp only at hs1
   refine sA ?_
   refine zle hs1 (λ hs1 hc3=>?_) (λ hs1 hc3=>?_)
   ·refine sA ?_
    obtain ⟨hp4,hs1⟩:=zla hs1
    have hn4:g23.t5.toNat < a0.length:=by first|omega|(simp;omega)
    refine sA ?_
    refine zlq ?_
    obtain ⟨c27,hr5,hs1⟩:=zk9 hs1
    refine zlh (zkW hr5) ?_
    refine sA ?_
    refine zle hs1 (λ hs1 hc6=>?_) (λ hs1 hc6=>?_)
    ·refine sA ?_
     cases hs1
     cases hk1
     try dsimp only at h
     refine sA ?_
     have he:=oi h
     subst he
     exact zld ⟨[(4,(I (-1)))],[],0,27⟩ []
    ·refine sA ?_
     cases hs1
     exact zll hk1 (zlg [])
   ·refine sA ?_
    cases hs1
    cases hk1
    try dsimp only at h
    refine sA ?_
    have he:=oi h
    subst he
    exact zld ⟨[(4,(I g23.t1))],[],0,27⟩ []
theorem zkH {a0:WorldT} {a1:Int} {r:Int} (h:zfY a0 a1=some r):Fn Tryz.prog 35 [(.ag [(.lf true (.sl (a0.fRe.map zlj))),(.lf true (.sl (a0.Line.map zlz)))]),(I a1)] [] 0 (I r) [] 0:=by
 unfold zfY at h
 refine fc [(1000,[(1,0),(2,0)]),(1001,[(1,0),(2,0)]),(1002,[(1,0),(2,0),(10,0)]),(1003,[(4,0)]),(1004,[(1,0)]),(1005,[(1,0),(16,0)]),(1006,[(4,0)]),(1007,[(4,0)])] Tryz.func35 ?_
 simp only [Tryz.f35]
 refine sA ?_
 obtain ⟨c22,hr1,h⟩:=zk9 h
 refine zlh (zjQ hr1) ?_
 refine sA ?_
 refine zle h (λ h hc2=>?_) (λ h hc2=>?_)
 ·refine sA ?_
  have he:=oi h
  subst he
  exact zld ⟨[(4,(I (-1)))],[],0,18⟩ []
 ·refine sA ?_
  obtain ⟨c31,hr3,h⟩:=zk9 h
  refine zlh (zkG hr3) ?_
  refine sA ?_
  refine zle h (λ h hc4=>?_) (λ h hc4=>?_)
  ·refine sA ?_
   have he:=oi h
   subst he
   exact zld ⟨[(4,(I (-1)))],[],0,18⟩ []
  ·refine sA ?_
   have he:=oi h
   subst he
   exact zld ⟨[(4,(I c31))],[],0,18⟩ []
theorem zkJ {a0:EventT} {r:EventT} (h:zfT a0=some r):Fn Tryz.prog 267 [(.ag [(I a0.Id),(I a0.fVe),(I a0.Kind),(.lf false (.sc (.string a0.Name)))])] [] 0 (.ag [(I r.Id),(I r.fVe),(I r.Kind),(.lf false (.sc (.string r.Name)))]) [] 1:=by
 unfold zfT at h
 refine fc [(1000,[(1,0),(2,0)]),(1001,[(1,0),(2,0),(3,0)]),(1002,[(1,0),(2,0),(3,0)]),(1003,[(1,0),(2,0),(3,0)]),(1004,[(1,0),(2,0),(3,0)]),(1005,[(2,0),(3,0)]),(1006,[(2,0)])] Tryz.func267 ?_
 simp only [Tryz.f267]
 refine sA ?_
 have he:=oi h
 subst he
 exact zld ⟨[(2,(.pb 0 0))],[(0,some (true,.box [(I a0.Id),(I a0.fVe),(I a0.Kind),(.lf false (.sc (.string a0.Name)))]))],1,17⟩ [some 1]
theorem zki {a0:(List EventT)} {r:(List EventT)} (h:zfk a0=some r):Fn Tryz.prog 243 [(.lf true (.sl (a0.map zlk)))] [] 0 (.os 0 4 0 r.length r.length false) [(0,some (true,.arr false 4 (r.map zlk)))] 1:=by
 unfold zfk at h
 refine fc [(1000,[(0,0)]),(1001,[(0,0),(3,0)]),(1002,[(0,0),(3,0),(4,0)]),(1003,[(0,0),(3,0),(4,0),(11,0)]),(1004,[(0,0),(3,0),(4,0)]),(1005,[(0,0),(3,0),(4,0)]),(1006,[(2,0)])] Tryz.func243 ?_
 simp only [Tryz.f243]
 simp (disch:=first | assumption | (simp only [qL];assumption)) only [go_sem,qA,qB,qC,qD,↓reduceIte,qE,reduceCtorEq,qF,qH,qI,qJ,qK,qG,zlA]
 obtain ⟨hp1,h⟩:=zla h
 try simp (disch:=first | assumption | (simp only [qL];assumption)) only [go_sem,qA,qB,qC,qD,↓reduceIte,qE,reduceCtorEq,qF,qH,qI,qJ,qK,qG,zlA]
 refine zlq ?_
 obtain ⟨y38,hl2,h⟩:=zk9 h
 refine zlo (λ g35:ze5=>⟨[(0,(.lf true (.sl (a0.map zlk)))),(3,(.os 0 4 0 g35.c0.length g35.c0.length false)),(4,(I g35.t4))],[(0,some (true,.arr false 4 (g35.c0.map zlk)))],1,23⟩) (zbX a0) _ _ hl2 (zlB (m:=0) [some 0] rfl rfl rfl (by rfl) (by ((try simp (disch:=first | assumption | (simp only [qL];assumption)) only [go_sem,qA,qB,qC,qD,↓reduceIte,qE,reduceCtorEq,qF,qH,qI,qJ,qK,qG,zlA]);(repeat' first | done | rfl | omega | refine And.intro ?_ ?_ | (simp;done) | (simp;omega)))) (by ((try simp (disch:=first | assumption | (simp only [qL];assumption)) only [go_sem,qA,qB,qC,qD,↓reduceIte,qE,reduceCtorEq,qF,qH,qI,qJ,qK,qG,zlA]);(repeat' first | done | rfl | omega | refine And.intro ?_ ?_ | (simp;done) | (simp;omega))))) ?_
 ·intro n1 g35 z1 hs1 hk1
  unfold zbX at hs1
  try dsimp only at hs1
  simp (disch:=first | assumption | (simp only [qL];assumption)) only [go_sem,qA,qB,qC,qD,↓reduceIte,qE,reduceCtorEq,qF,qH,qI,qJ,qK,qG,zlA]
  refine zle hs1 (λ hs1 hc3=>?_) (λ hs1 hc3=>?_)
  ·try simp (disch:=first | assumption | (simp only [qL];assumption)) only [go_sem,qA,qB,qC,qD,↓reduceIte,qE,reduceCtorEq,qF,qH,qI,qJ,qK,qG,zlA]
   obtain ⟨hp4,hs1⟩:=zla hs1
   have hn4:g35.t4.toNat < a0.length:=by first|omega|(simp;omega)
   try simp (disch:=first | assumption | (simp only [qL];assumption)) only [go_sem,qA,qB,qC,qD,↓reduceIte,qE,reduceCtorEq,qF,qH,qI,qJ,qK,qG,zlA]
   refine zlq ?_
   obtain ⟨c37,hr5,hs1⟩:=zk9 hs1
   refine zmS (zkJ hr5) (by first | rfl | (simp (disch:=first | assumption | (simp only [qL];assumption)) only [go_sem,qA,qB,qC,qD,↓reduceIte,qE,reduceCtorEq,qF,qH,qI,qJ,qK,qG,zlA];first | done | rfl) | (simp only [qM,qP,qQ,qO,qL,qN,qa,qA];rfl) | (simp (disch:=first | assumption | (simp only [qL];assumption)) only [go_sem,qA,qB,qC,qD,↓reduceIte,qE,reduceCtorEq,qF,qH,qI,qJ,qK,qG,zlA];simp only [qM,qP,qQ,qO,qL,qN,qa,qA];rfl)) (FitAll.refl _) (.inl (by first | rfl | (simp (disch:=first | assumption | (simp only [qL];assumption)) only [go_sem,qA,qB,qC,qD,↓reduceIte,qE,reduceCtorEq,qF,qH,qI,qJ,qK,qG,zlA];done))) ?_
   try simp (disch:=first | assumption | (simp only [qL];assumption)) only [go_sem,qA,qB,qC,qD,↓reduceIte,qE,reduceCtorEq,qF,qH,qI,qJ,qK,qG,zlA]
   obtain ⟨hp6,hs1⟩:=zla hs1
   have hn6:g35.t4.toNat < g35.c0.length:=by first|omega|(simp;omega)
   try simp (disch:=first | assumption | (simp only [qL];assumption)) only [go_sem,qA,qB,qC,qD,↓reduceIte,qE,reduceCtorEq,qF,qH,qI,qJ,qK,qG,zlA]
   refine zlq ?_
   refine zo1 ?_
   try simp (disch:=first | assumption | (simp only [qL];assumption)) only [go_sem,qA,qB,qC,qD,↓reduceIte,qE,reduceCtorEq,qF,qH,qI,qJ,qK,qG,zlA]
   cases hs1
   refine zll hk1 ?_
   refine zlB (m:=0) [some 0] rfl rfl rfl (by rfl) ?_ ?_
   all_goals ((try simp (disch:=first | assumption | (simp only [qL];assumption)) only [go_sem,qA,qB,qC,qD,↓reduceIte,qE,reduceCtorEq,qF,qH,qI,qJ,qK,qG,zlA]);(repeat' first | done | rfl | omega | refine And.intro ?_ ?_ | (simp;done) | (simp;omega)))
  ·try simp (disch:=first | assumption | (simp only [qL];assumption)) only [go_sem,qA,qB,qC,qD,↓reduceIte,qE,reduceCtorEq,qF,qH,qI,qJ,qK,qG,zlA]
   cases hs1
   cases hk1
   try dsimp only at h
   try simp (disch:=first | assumption | (simp only [qL];assumption)) only [go_sem,qA,qB,qC,qD,↓reduceIte,qE,reduceCtorEq,qF,qH,qI,qJ,qK,qG,zlA]
   have he:=oi h
   subst he
   refine zl0 ⟨[(2,(.os 0 4 0 g35.c0.length g35.c0.length false))],[(0,some (true,.arr false 4 (g35.c0.map zlk)))],1,23⟩ (zlB (m:=0) [some 0] rfl rfl rfl (by rfl) ?_ ?_) ?_
   all_goals ((try simp (disch:=first | assumption | (simp only [qL];assumption)) only [go_sem,qA,qB,qC,qD,↓reduceIte,qE,reduceCtorEq,qF,qH,qI,qJ,qK,qG,zlA]);(repeat' first | done | rfl | omega | refine And.intro ?_ ?_ | (simp;done) | (simp;omega)))
theorem zit {a0:BranchT} {r:BranchT} (h:zdV a0=some r):Fn Tryz.prog 199 [(.ag [(.lf true (.sl (a0.fEv.map zlk)))])] [] 0 (.ag [(.os 0 4 0 r.fEv.length r.fEv.length false)]) [(0,some (true,.arr false 4 (r.fEv.map zlk)))] 2:=by
 unfold zdV at h
 refine fc [(1000,[(1,0),(2,0)]),(1001,[(1,0),(2,0),(3,0)]),(1002,[(2,0),(3,0)]),(1003,[(2,0)])] Tryz.func199 ?_
 simp only [Tryz.f199]
 refine sA ?_
 obtain ⟨c39,hr1,h⟩:=zk9 h
 refine zlh (zki hr1) ?_
 refine sA ?_
 have he:=oi h
 subst he
 exact zld ⟨[(2,(.pb 1 0))],[(0,some (true,.arr false 4 (c39.map zlk))),(1,some (true,.box [(.os 0 4 0 c39.length c39.length false)]))],2,9⟩ [some 3,some 1]
theorem zjR {a0:(List BranchT)} {r:(List BranchT)} (h:zeG a0=some r):Fn Tryz.prog 146 [(.lf true (.sl (a0.map zlc)))] [] 0 (.os 0 1 0 r.length r.length false) [(0,some (true,.deep [.sl [.sc,.sc,.sc,.sc]] (r.map zlc)))] 1:=by
 unfold zeG at h
 refine fc [(1000,[(0,0)]),(1001,[(0,0),(3,0)]),(1002,[(0,0),(3,0),(4,0)]),(1003,[(0,0),(3,0),(4,0),(11,0)]),(1004,[(0,0),(3,0),(4,0)]),(1005,[(0,0),(3,0),(4,0)]),(1006,[(2,0)])] Tryz.func146 ?_
 simp only [Tryz.f146]
 simp (disch:=first | assumption | (simp only [qL];assumption)) only [go_sem,qA,qB,qC,qD,↓reduceIte,qE,reduceCtorEq,qF,qH,qI,qJ,qK,qG,zlw]
 obtain ⟨hp1,h⟩:=zla h
 try simp (disch:=first | assumption | (simp only [qL];assumption)) only [go_sem,qA,qB,qC,qD,↓reduceIte,qE,reduceCtorEq,qF,qH,qI,qJ,qK,qG,zlw]
 refine zlq ?_
 obtain ⟨y42,hl2,h⟩:=zk9 h
 refine zlo (λ g34:zej=>⟨[(0,(.lf true (.sl (a0.map zlc)))),(3,(.os 0 1 0 g34.c0.length g34.c0.length false)),(4,(I g34.t4))],[(0,some (true,.deep [.sl [.sc,.sc,.sc,.sc]] (g34.c0.map zlc)))],1,23⟩) (zbJ a0) _ _ hl2 (zlB (m:=0) [some 0] rfl rfl rfl (by rfl) (by ((try simp (disch:=first | assumption | (simp only [qL];assumption)) only [go_sem,qA,qB,qC,qD,↓reduceIte,qE,reduceCtorEq,qF,qH,qI,qJ,qK,qG,zlw]);(repeat' first | done | rfl | omega | refine And.intro ?_ ?_ | (simp;done) | (simp;omega)))) (by ((try simp (disch:=first | assumption | (simp only [qL];assumption)) only [go_sem,qA,qB,qC,qD,↓reduceIte,qE,reduceCtorEq,qF,qH,qI,qJ,qK,qG,zlw]);(repeat' first | done | rfl | omega | refine And.intro ?_ ?_ | (simp;done) | (simp;omega))))) ?_
 ·intro n1 g34 z1 hs1 hk1
  unfold zbJ at hs1
  try dsimp only at hs1
  simp (disch:=first | assumption | (simp only [qL];assumption)) only [go_sem,qA,qB,qC,qD,↓reduceIte,qE,reduceCtorEq,qF,qH,qI,qJ,qK,qG,zlw]
  refine zle hs1 (λ hs1 hc3=>?_) (λ hs1 hc3=>?_)
  ·try simp (disch:=first | assumption | (simp only [qL];assumption)) only [go_sem,qA,qB,qC,qD,↓reduceIte,qE,reduceCtorEq,qF,qH,qI,qJ,qK,qG,zlw]
   obtain ⟨hp4,hs1⟩:=zla hs1
   have hn4:g34.t4.toNat < a0.length:=by first|omega|(simp;omega)
   try simp (disch:=first | assumption | (simp only [qL];assumption)) only [go_sem,qA,qB,qC,qD,↓reduceIte,qE,reduceCtorEq,qF,qH,qI,qJ,qK,qG,zlw]
   refine zlq ?_
   obtain ⟨c41,hr5,hs1⟩:=zk9 hs1
   refine zmS (zit hr5) (by first | rfl | (simp (disch:=first | assumption | (simp only [qL];assumption)) only [go_sem,qA,qB,qC,qD,↓reduceIte,qE,reduceCtorEq,qF,qH,qI,qJ,qK,qG,zlw];first | done | rfl) | (simp only [qM,qP,qQ,qO,qL,qN,qa,qA];rfl) | (simp (disch:=first | assumption | (simp only [qL];assumption)) only [go_sem,qA,qB,qC,qD,↓reduceIte,qE,reduceCtorEq,qF,qH,qI,qJ,qK,qG,zlw];simp only [qM,qP,qQ,qO,qL,qN,qa,qA];rfl)) (FitAll.refl _) (.inl (by first | rfl | (simp (disch:=first | assumption | (simp only [qL];assumption)) only [go_sem,qA,qB,qC,qD,↓reduceIte,qE,reduceCtorEq,qF,qH,qI,qJ,qK,qG,zlw];done))) ?_
   try simp (disch:=first | assumption | (simp only [qL];assumption)) only [go_sem,qA,qB,qC,qD,↓reduceIte,qE,reduceCtorEq,qF,qH,qI,qJ,qK,qG,zlw]
   obtain ⟨hp6,hs1⟩:=zla hs1
   have hn6:g34.t4.toNat < g34.c0.length:=by first|omega|(simp;omega)
   try simp (disch:=first | assumption | (simp only [qL];assumption)) only [go_sem,qA,qB,qC,qD,↓reduceIte,qE,reduceCtorEq,qF,qH,qI,qJ,qK,qG,zlw]
   refine zlq ?_
   refine zo1 ?_
   try simp (disch:=first | assumption | (simp only [qL];assumption)) only [go_sem,qA,qB,qC,qD,↓reduceIte,qE,reduceCtorEq,qF,qH,qI,qJ,qK,qG,zlw]
   cases hs1
   refine zll hk1 ?_
   refine zn7 0 ?_
   refine zlB (m:=0) [some 0] rfl rfl rfl (by rfl) ?_ ?_
   all_goals ((try simp (disch:=first | assumption | (simp only [qL];assumption)) only [go_sem,qA,qB,qC,qD,↓reduceIte,qE,reduceCtorEq,qF,qH,qI,qJ,qK,qG,zlw]);(repeat' first | done | rfl | omega | refine And.intro ?_ ?_ | (simp;done) | (simp;omega)))
  ·try simp (disch:=first | assumption | (simp only [qL];assumption)) only [go_sem,qA,qB,qC,qD,↓reduceIte,qE,reduceCtorEq,qF,qH,qI,qJ,qK,qG,zlw]
   cases hs1
   cases hk1
   try dsimp only at h
   try simp (disch:=first | assumption | (simp only [qL];assumption)) only [go_sem,qA,qB,qC,qD,↓reduceIte,qE,reduceCtorEq,qF,qH,qI,qJ,qK,qG,zlw]
   have he:=oi h
   subst he
   refine zl0 ⟨[(2,(.os 0 1 0 g34.c0.length g34.c0.length false))],[(0,some (true,.deep [.sl [.sc,.sc,.sc,.sc]] (g34.c0.map zlc)))],1,23⟩ (zlB (m:=0) [some 0] rfl rfl rfl (by rfl) ?_ ?_) ?_
   all_goals ((try simp (disch:=first | assumption | (simp only [qL];assumption)) only [go_sem,qA,qB,qC,qD,↓reduceIte,qE,reduceCtorEq,qF,qH,qI,qJ,qK,qG,zlw]);(repeat' first | done | rfl | omega | refine And.intro ?_ ?_ | (simp;done) | (simp;omega)))
theorem zhA {a0:TellingsT} {r:TellingsT} (h:zcu a0=some r):Fn Tryz.prog 74 [(.ag [(.lf true (.sl (a0.fBr.map zlc)))])] [] 0 (.ag [(.os 0 1 0 r.fBr.length r.fBr.length false)]) [(0,some (true,.deep [.sl [.sc,.sc,.sc,.sc]] (r.fBr.map zlc)))] 2:=by
 unfold zcu at h
 refine fc [(1000,[(1,0),(2,0)]),(1001,[(1,0),(2,0),(3,0)]),(1002,[(2,0),(3,0)]),(1003,[(2,0)])] Tryz.func74 ?_
 simp only [Tryz.f74]
 refine sA ?_
 obtain ⟨c43,hr1,h⟩:=zk9 h
 refine zlh (zjR hr1) ?_
 refine sA ?_
 have he:=oi h
 subst he
 exact zld ⟨[(2,(.pb 1 0))],[(0,some (true,.deep [.sl [.sc,.sc,.sc,.sc]] (c43.map zlc))),(1,some (true,.box [(.os 0 1 0 c43.length c43.length false)]))],2,9⟩ [some 3,some 1]
theorem zkj {a0:RegionT} {r:RegionT} (h:zfq a0=some r):Fn Tryz.prog 20 [(.ag [(I a0.Id),(I a0.fVe),(.lf true (.sl (a0.fTe.fBr.map zlc)))])] [] 0 (.ag [(I r.Id),(I r.fVe),(.os 0 1 0 r.fTe.fBr.length r.fTe.fBr.length false)]) [(0,some (true,.deep [.sl [.sc,.sc,.sc,.sc]] (r.fTe.fBr.map zlc)))] 2:=by
 unfold zfq at h
 refine fc [(1000,[(1,0),(2,0)]),(1001,[(1,0),(2,0),(3,0)]),(1002,[(1,0),(2,0),(3,0)]),(1003,[(1,0),(2,0),(3,0)]),(1004,[(2,0),(3,0)]),(1005,[(2,0)])] Tryz.func20 ?_
 simp only [Tryz.f20]
 refine sA ?_
 obtain ⟨c44,hr1,h⟩:=zk9 h
 refine zlh (zhA hr1) ?_
 refine sA ?_
 have he:=oi h
 subst he
 exact zld ⟨[(2,(.pb 1 0))],[(0,some (true,.deep [.sl [.sc,.sc,.sc,.sc]] (c44.fBr.map zlc))),(1,some (true,.box [(I a0.Id),(I a0.fVe),(.os 0 1 0 c44.fBr.length c44.fBr.length false)]))],2,15⟩ [some 3,some 1]
theorem ziV {a0:(List RegionT)} {r:(List RegionT)} (h:zdi a0=some r):Fn Tryz.prog 101 [(.lf true (.sl (a0.map zlj)))] [] 0 (.os 0 3 0 r.length r.length false) [(0,some (true,.deep [.sc,.sc,.sl [.sl [.sc,.sc,.sc,.sc]]] (r.map zlj)))] 1:=by
 unfold zdi at h
 refine fc [(1000,[(0,0)]),(1001,[(0,0),(3,0)]),(1002,[(0,0),(3,0),(4,0)]),(1003,[(0,0),(3,0),(4,0),(11,0)]),(1004,[(0,0),(3,0),(4,0)]),(1005,[(0,0),(3,0),(4,0)]),(1006,[(2,0)])] Tryz.func101 ?_
 simp only [Tryz.f101]
 simp (disch:=first | assumption | (simp only [qL];assumption)) only [go_sem,qA,qB,qC,qD,↓reduceIte,qE,reduceCtorEq,qF,qH,qI,qJ,qK,qG,zlx]
 obtain ⟨hp1,h⟩:=zla h
 try simp (disch:=first | assumption | (simp only [qL];assumption)) only [go_sem,qA,qB,qC,qD,↓reduceIte,qE,reduceCtorEq,qF,qH,qI,qJ,qK,qG,zlx]
 refine zlq ?_
 obtain ⟨y51,hl2,h⟩:=zk9 h
 refine zlo (λ g48:zdx=>⟨[(0,(.lf true (.sl (a0.map zlj)))),(3,(.os 0 3 0 g48.c0.length g48.c0.length false)),(4,(I g48.t4))],[(0,some (true,.deep [.sc,.sc,.sl [.sl [.sc,.sc,.sc,.sc]]] (g48.c0.map zlj)))],1,23⟩) (za3 a0) _ _ hl2 (zlB (m:=0) [some 0] rfl rfl rfl (by rfl) (by ((try simp (disch:=first | assumption | (simp only [qL];assumption)) only [go_sem,qA,qB,qC,qD,↓reduceIte,qE,reduceCtorEq,qF,qH,qI,qJ,qK,qG,zlx]);(repeat' first | done | rfl | omega | refine And.intro ?_ ?_ | (simp;done) | (simp;omega)))) (by ((try simp (disch:=first | assumption | (simp only [qL];assumption)) only [go_sem,qA,qB,qC,qD,↓reduceIte,qE,reduceCtorEq,qF,qH,qI,qJ,qK,qG,zlx]);(repeat' first | done | rfl | omega | refine And.intro ?_ ?_ | (simp;done) | (simp;omega))))) ?_
 ·intro n1 g48 z1 hs1 hk1
  unfold za3 at hs1
  try dsimp only at hs1
  simp (disch:=first | assumption | (simp only [qL];assumption)) only [go_sem,qA,qB,qC,qD,↓reduceIte,qE,reduceCtorEq,qF,qH,qI,qJ,qK,qG,zlx]
  refine zle hs1 (λ hs1 hc3=>?_) (λ hs1 hc3=>?_)
  ·try simp (disch:=first | assumption | (simp only [qL];assumption)) only [go_sem,qA,qB,qC,qD,↓reduceIte,qE,reduceCtorEq,qF,qH,qI,qJ,qK,qG,zlx]
   obtain ⟨hp4,hs1⟩:=zla hs1
   have hn4:g48.t4.toNat < a0.length:=by first|omega|(simp;omega)
   try simp (disch:=first | assumption | (simp only [qL];assumption)) only [go_sem,qA,qB,qC,qD,↓reduceIte,qE,reduceCtorEq,qF,qH,qI,qJ,qK,qG,zlx]
   refine zlq ?_
   obtain ⟨c50,hr5,hs1⟩:=zk9 hs1
   refine zmS (zkj hr5) (by first | rfl | (simp (disch:=first | assumption | (simp only [qL];assumption)) only [go_sem,qA,qB,qC,qD,↓reduceIte,qE,reduceCtorEq,qF,qH,qI,qJ,qK,qG,zlx];first | done | rfl) | (simp only [qM,qP,qQ,qO,qL,qN,qa,qA];rfl) | (simp (disch:=first | assumption | (simp only [qL];assumption)) only [go_sem,qA,qB,qC,qD,↓reduceIte,qE,reduceCtorEq,qF,qH,qI,qJ,qK,qG,zlx];simp only [qM,qP,qQ,qO,qL,qN,qa,qA];rfl)) (FitAll.refl _) (.inl (by first | rfl | (simp (disch:=first | assumption | (simp only [qL];assumption)) only [go_sem,qA,qB,qC,qD,↓reduceIte,qE,reduceCtorEq,qF,qH,qI,qJ,qK,qG,zlx];done))) ?_
   try simp (disch:=first | assumption | (simp only [qL];assumption)) only [go_sem,qA,qB,qC,qD,↓reduceIte,qE,reduceCtorEq,qF,qH,qI,qJ,qK,qG,zlx]
   obtain ⟨hp6,hs1⟩:=zla hs1
   have hn6:g48.t4.toNat < g48.c0.length:=by first|omega|(simp;omega)
   try simp (disch:=first | assumption | (simp only [qL];assumption)) only [go_sem,qA,qB,qC,qD,↓reduceIte,qE,reduceCtorEq,qF,qH,qI,qJ,qK,qG,zlx]
   refine zlq ?_
   refine zo1 ?_
   try simp (disch:=first | assumption | (simp only [qL];assumption)) only [go_sem,qA,qB,qC,qD,↓reduceIte,qE,reduceCtorEq,qF,qH,qI,qJ,qK,qG,zlx]
   cases hs1
   refine zll hk1 ?_
   refine zn7 0 ?_
   refine zlB (m:=0) [some 0] rfl rfl rfl (by rfl) ?_ ?_
   all_goals ((try simp (disch:=first | assumption | (simp only [qL];assumption)) only [go_sem,qA,qB,qC,qD,↓reduceIte,qE,reduceCtorEq,qF,qH,qI,qJ,qK,qG,zlx]);(repeat' first | done | rfl | omega | refine And.intro ?_ ?_ | (simp;done) | (simp;omega)))
  ·try simp (disch:=first | assumption | (simp only [qL];assumption)) only [go_sem,qA,qB,qC,qD,↓reduceIte,qE,reduceCtorEq,qF,qH,qI,qJ,qK,qG,zlx]
   cases hs1
   cases hk1
   try dsimp only at h
   try simp (disch:=first | assumption | (simp only [qL];assumption)) only [go_sem,qA,qB,qC,qD,↓reduceIte,qE,reduceCtorEq,qF,qH,qI,qJ,qK,qG,zlx]
   have he:=oi h
   subst he
   refine zl0 ⟨[(2,(.os 0 3 0 g48.c0.length g48.c0.length false))],[(0,some (true,.deep [.sc,.sc,.sl [.sl [.sc,.sc,.sc,.sc]]] (g48.c0.map zlj)))],1,23⟩ (zlB (m:=0) [some 0] rfl rfl rfl (by rfl) ?_ ?_) ?_
   all_goals ((try simp (disch:=first | assumption | (simp only [qL];assumption)) only [go_sem,qA,qB,qC,qD,↓reduceIte,qE,reduceCtorEq,qF,qH,qI,qJ,qK,qG,zlx]);(repeat' first | done | rfl | omega | refine And.intro ?_ ?_ | (simp;done) | (simp;omega)))
theorem zkX {a0:WordT} {r:WordT} (h:zgt a0=some r):Fn Tryz.prog 211 [(.ag [(I a0.fVe),(.lf true (.sl (a0.fTe.fBr.map zlc)))])] [] 0 (.ag [(I r.fVe),(.os 0 1 0 r.fTe.fBr.length r.fTe.fBr.length false)]) [(0,some (true,.deep [.sl [.sc,.sc,.sc,.sc]] (r.fTe.fBr.map zlc)))] 2:=by
 unfold zgt at h
 refine fc [(1000,[(1,0),(2,0)]),(1001,[(1,0),(2,0),(3,0)]),(1002,[(1,0),(2,0),(3,0)]),(1003,[(2,0),(3,0)]),(1004,[(2,0)])] Tryz.func211 ?_
 simp only [Tryz.f211]
 refine sA ?_
 obtain ⟨c54,hr1,h⟩:=zk9 h
 refine zlh (zhA hr1) ?_
 refine sA ?_
 have he:=oi h
 subst he
 exact zld ⟨[(2,(.pb 1 0))],[(0,some (true,.deep [.sl [.sc,.sc,.sc,.sc]] (c54.fBr.map zlc))),(1,some (true,.box [(I a0.fVe),(.os 0 1 0 c54.fBr.length c54.fBr.length false)]))],2,12⟩ [some 3,some 1]
theorem ziW {a0:SaidT} {r:SaidT} (h:zfs a0=some r):Fn Tryz.prog 166 [(.ag [(I a0.To),(I a0.Word.fVe),(.lf true (.sl (a0.Word.fTe.fBr.map zlc)))])] [] 0 (.ag [(I r.To),(I r.Word.fVe),(.os 0 1 0 r.Word.fTe.fBr.length r.Word.fTe.fBr.length false)]) [(0,some (true,.deep [.sl [.sc,.sc,.sc,.sc]] (r.Word.fTe.fBr.map zlc)))] 2:=by
 unfold zfs at h
 refine fc [(1000,[(1,0),(2,0)]),(1001,[(1,0),(2,0),(3,0)]),(1002,[(1,0),(2,0),(3,0)]),(1003,[(2,0),(3,0)]),(1004,[(2,0)])] Tryz.func166 ?_
 simp only [Tryz.f166]
 refine sA ?_
 obtain ⟨c55,hr1,h⟩:=zk9 h
 refine zlh (zkX hr1) ?_
 refine sA ?_
 have he:=oi h
 subst he
 exact zld ⟨[(2,(.pb 1 0))],[(0,some (true,.deep [.sl [.sc,.sc,.sc,.sc]] (c55.fTe.fBr.map zlc))),(1,some (true,.box [(I a0.To),(I c55.fVe),(.os 0 1 0 c55.fTe.fBr.length c55.fTe.fBr.length false)]))],2,12⟩ [some 3,some 1]
theorem zkK {a0:(List SaidT)} {r:(List SaidT)} (h:zfZ a0=some r):Fn Tryz.prog 102 [(.lf true (.sl (a0.map zlz)))] [] 0 (.os 0 3 0 r.length r.length false) [(0,some (true,.deep [.sc,.sc,.sl [.sl [.sc,.sc,.sc,.sc]]] (r.map zlz)))] 1:=by
 unfold zfZ at h
 refine fc [(1000,[(0,0)]),(1001,[(0,0),(3,0)]),(1002,[(0,0),(3,0),(4,0)]),(1003,[(0,0),(3,0),(4,0),(11,0)]),(1004,[(0,0),(3,0),(4,0)]),(1005,[(0,0),(3,0),(4,0)]),(1006,[(2,0)])] Tryz.func102 ?_
 simp only [Tryz.f102]
 simp (disch:=first | assumption | (simp only [qL];assumption)) only [go_sem,qA,qB,qC,qD,↓reduceIte,qE,reduceCtorEq,qF,qH,qI,qJ,qK,qG,zlE]
 obtain ⟨hp1,h⟩:=zla h
 try simp (disch:=first | assumption | (simp only [qL];assumption)) only [go_sem,qA,qB,qC,qD,↓reduceIte,qE,reduceCtorEq,qF,qH,qI,qJ,qK,qG,zlE]
 refine zlq ?_
 obtain ⟨y58,hl2,h⟩:=zk9 h
 refine zlo (λ g53:zfH=>⟨[(0,(.lf true (.sl (a0.map zlz)))),(3,(.os 0 3 0 g53.c0.length g53.c0.length false)),(4,(I g53.t4))],[(0,some (true,.deep [.sc,.sc,.sl [.sl [.sc,.sc,.sc,.sc]]] (g53.c0.map zlz)))],1,23⟩) (zcz a0) _ _ hl2 (zlB (m:=0) [some 0] rfl rfl rfl (by rfl) (by ((try simp (disch:=first | assumption | (simp only [qL];assumption)) only [go_sem,qA,qB,qC,qD,↓reduceIte,qE,reduceCtorEq,qF,qH,qI,qJ,qK,qG,zlE]);(repeat' first | done | rfl | omega | refine And.intro ?_ ?_ | (simp;done) | (simp;omega)))) (by ((try simp (disch:=first | assumption | (simp only [qL];assumption)) only [go_sem,qA,qB,qC,qD,↓reduceIte,qE,reduceCtorEq,qF,qH,qI,qJ,qK,qG,zlE]);(repeat' first | done | rfl | omega | refine And.intro ?_ ?_ | (simp;done) | (simp;omega))))) ?_
 ·intro n1 g53 z1 hs1 hk1
  unfold zcz at hs1
  try dsimp only at hs1
  simp (disch:=first | assumption | (simp only [qL];assumption)) only [go_sem,qA,qB,qC,qD,↓reduceIte,qE,reduceCtorEq,qF,qH,qI,qJ,qK,qG,zlE]
  refine zle hs1 (λ hs1 hc3=>?_) (λ hs1 hc3=>?_)
  ·try simp (disch:=first | assumption | (simp only [qL];assumption)) only [go_sem,qA,qB,qC,qD,↓reduceIte,qE,reduceCtorEq,qF,qH,qI,qJ,qK,qG,zlE]
   obtain ⟨hp4,hs1⟩:=zla hs1
   have hn4:g53.t4.toNat < a0.length:=by first|omega|(simp;omega)
   try simp (disch:=first | assumption | (simp only [qL];assumption)) only [go_sem,qA,qB,qC,qD,↓reduceIte,qE,reduceCtorEq,qF,qH,qI,qJ,qK,qG,zlE]
   refine zlq ?_
   obtain ⟨c57,hr5,hs1⟩:=zk9 hs1
   refine zmS (ziW hr5) (by first | rfl | (simp (disch:=first | assumption | (simp only [qL];assumption)) only [go_sem,qA,qB,qC,qD,↓reduceIte,qE,reduceCtorEq,qF,qH,qI,qJ,qK,qG,zlE];first | done | rfl) | (simp only [qM,qP,qQ,qO,qL,qN,qa,qA];rfl) | (simp (disch:=first | assumption | (simp only [qL];assumption)) only [go_sem,qA,qB,qC,qD,↓reduceIte,qE,reduceCtorEq,qF,qH,qI,qJ,qK,qG,zlE];simp only [qM,qP,qQ,qO,qL,qN,qa,qA];rfl)) (FitAll.refl _) (.inl (by first | rfl | (simp (disch:=first | assumption | (simp only [qL];assumption)) only [go_sem,qA,qB,qC,qD,↓reduceIte,qE,reduceCtorEq,qF,qH,qI,qJ,qK,qG,zlE];done))) ?_
   try simp (disch:=first | assumption | (simp only [qL];assumption)) only [go_sem,qA,qB,qC,qD,↓reduceIte,qE,reduceCtorEq,qF,qH,qI,qJ,qK,qG,zlE]
   obtain ⟨hp6,hs1⟩:=zla hs1
   have hn6:g53.t4.toNat < g53.c0.length:=by first|omega|(simp;omega)
   try simp (disch:=first | assumption | (simp only [qL];assumption)) only [go_sem,qA,qB,qC,qD,↓reduceIte,qE,reduceCtorEq,qF,qH,qI,qJ,qK,qG,zlE]
   refine zlq ?_
   refine zo1 ?_
   try simp (disch:=first | assumption | (simp only [qL];assumption)) only [go_sem,qA,qB,qC,qD,↓reduceIte,qE,reduceCtorEq,qF,qH,qI,qJ,qK,qG,zlE]
   cases hs1
   refine zll hk1 ?_
   refine zn7 0 ?_
   refine zlB (m:=0) [some 0] rfl rfl rfl (by rfl) ?_ ?_
   all_goals ((try simp (disch:=first | assumption | (simp only [qL];assumption)) only [go_sem,qA,qB,qC,qD,↓reduceIte,qE,reduceCtorEq,qF,qH,qI,qJ,qK,qG,zlE]);(repeat' first | done | rfl | omega | refine And.intro ?_ ?_ | (simp;done) | (simp;omega)))
  ·try simp (disch:=first | assumption | (simp only [qL];assumption)) only [go_sem,qA,qB,qC,qD,↓reduceIte,qE,reduceCtorEq,qF,qH,qI,qJ,qK,qG,zlE]
   cases hs1
   cases hk1
   try dsimp only at h
   try simp (disch:=first | assumption | (simp only [qL];assumption)) only [go_sem,qA,qB,qC,qD,↓reduceIte,qE,reduceCtorEq,qF,qH,qI,qJ,qK,qG,zlE]
   have he:=oi h
   subst he
   refine zl0 ⟨[(2,(.os 0 3 0 g53.c0.length g53.c0.length false))],[(0,some (true,.deep [.sc,.sc,.sl [.sl [.sc,.sc,.sc,.sc]]] (g53.c0.map zlz)))],1,23⟩ (zlB (m:=0) [some 0] rfl rfl rfl (by rfl) ?_ ?_) ?_
   all_goals ((try simp (disch:=first | assumption | (simp only [qL];assumption)) only [go_sem,qA,qB,qC,qD,↓reduceIte,qE,reduceCtorEq,qF,qH,qI,qJ,qK,qG,zlE]);(repeat' first | done | rfl | omega | refine And.intro ?_ ?_ | (simp;done) | (simp;omega)))
theorem zfg {a0:WorldT} {r:WorldT} (h:zbo a0=some r):Fn Tryz.prog 37 [(.ag [(.lf true (.sl (a0.fRe.map zlj))),(.lf true (.sl (a0.Line.map zlz)))])] [] 0 (.ag [(.os 0 3 0 r.fRe.length r.fRe.length false),(.os 1 3 0 r.Line.length r.Line.length false)]) [(0,some (true,.deep [.sc,.sc,.sl [.sl [.sc,.sc,.sc,.sc]]] (r.fRe.map zlj))),(1,some (true,.deep [.sc,.sc,.sl [.sl [.sc,.sc,.sc,.sc]]] (r.Line.map zlz)))] 3:=by
 unfold zbo at h
 refine fc [(1000,[(1,0),(2,0)]),(1001,[(1,0),(2,0),(3,0)]),(1002,[(1,0),(2,0),(3,0)]),(1003,[(2,0),(3,0)]),(1004,[(2,0)])] Tryz.func37 ?_
 simp only [Tryz.f37]
 refine sA ?_
 obtain ⟨c60,hr1,h⟩:=zk9 h
 refine zlh (ziV hr1) ?_
 refine sA ?_
 obtain ⟨c61,hr2,h⟩:=zk9 h
 refine zlh (zkK hr2) ?_
 refine sA ?_
 have he:=oi h
 subst he
 exact zld ⟨[(2,(.pb 2 0))],[(0,some (true,.deep [.sc,.sc,.sl [.sl [.sc,.sc,.sc,.sc]]] (c60.map zlj))),(1,some (true,.deep [.sc,.sc,.sl [.sl [.sc,.sc,.sc,.sc]]] (c61.map zlz))),(2,some (true,.box [(.os 0 3 0 c60.length c60.length false),(.os 1 3 0 c61.length c61.length false)]))],3,13⟩ [some 3,some 4,some 1]
theorem zbu {a0:Int} {a1:Int} {a2:Int} {r:Bool} (h:zaT a0 a1 a2=some r):Fn Tryz.prog 96 [(I a0),(I a1),(I a2)] [] 0 (B r) [] 0:=by
 unfold zaT at h
 refine fc [] Tryz.func96 ?_
 simp only [Tryz.f96]
 refine sA ?_
 refine zlt h (λ h hc1=>?_) (λ h hc1=>?_)
 ·refine sA ?_
  have he:=oi h
  subst he
  exact zld ⟨[(6,(B (decide (a0≤a2))))],[],0,15⟩ []
 ·refine sA ?_
  have he:=oi h
  subst he
  exact zld ⟨[(6,(B false))],[],0,15⟩ []
theorem zjn {a0:Int} {r:Bool} (h:zfE a0=some r):Fn Tryz.prog 129 [(I a0)] [] 0 (B r) [] 0:=by
 unfold zfE at h
 refine fc [] Tryz.func129 ?_
 simp only [Tryz.f129]
 refine sA ?_
 obtain ⟨c66,hr1,h⟩:=zk9 h
 refine zlh (zbu hr1) ?_
 refine sA ?_
 have he:=oi h
 subst he
 exact zld ⟨[(2,(B c66))],[],0,5⟩ []
theorem zkk {r:zlm} (h:zgA=some r):Fn Tryz.prog 227 [] [] 0 (.ag [(I r.fSt),(I r.Next),(B r.fCa),(I r.Done),.nl,.nl]) [] 1:=by
 unfold zgA at h
 refine fc [] Tryz.func227 ?_
 simp only [Tryz.f227]
 refine sA ?_
 have he:=oi h
 subst he
 exact zld ⟨[(0,(.pb 0 0))],[(0,some (true,.box [(I 0),(I 1),(B false),(I 0),.nl,.nl]))],1,2⟩ [some 0]
theorem zhq {a0:ByteArray} {r:Bool} (h:zea a0=some r):Fn Tryz.prog 158 [(.lf false (.sc (.string a0)))] [] 0 (B r) [] 0:=by
 unfold zea at h
 refine fc [(1000,[(0,0)]),(1001,[(0,0),(3,0)]),(1002,[(0,0),(3,0),(7,0)]),(1003,[(0,0),(3,0)]),(1004,[(0,0),(3,0),(32,0)]),(1005,[(2,0)]),(1006,[(2,0)]),(4004,[])] Tryz.func158 ?_
 simp only [Tryz.f158]
 refine sA ?_
 obtain ⟨y83,hl1,h⟩:=zk9 h
 refine zlo (λ g80:zf9=>⟨[(0,(.lf false (.sc (.string a0)))),(3,(I g80.t3))],[],0,36⟩) (zc7 a0) _ _ hl1 (zlg []) ?_
 ·intro n1 g80 z1 hs1 hk1
  unfold zc7 at hs1
  try dsimp only at hs1
  refine sA ?_
  refine zle hs1 (λ hs1 hc2=>?_) (λ hs1 hc2=>?_)
  ·refine sA ?_
   obtain ⟨p82,hq3,hs1⟩:=zk9 hs1
   refine zlS (λ s2=>s2=⟨[(0,(.lf false (.sc (.string a0)))),(3,(I g80.t3)),(32,(B p82.t32))],[],0,36⟩) ?_ ?_
   ·refine sA ?_
    obtain ⟨hp4,hq3⟩:=zla hq3
    refine sA ?_
    refine zlq ?_
    refine zlt hq3 (λ hq3 hc5=>?_) (λ hq3 hc5=>?_)
    ·refine sA ?_
     obtain ⟨hp6,hq3⟩:=zla hq3
     refine sA ?_
     refine zlq ?_
     refine zlt hq3 (λ hq3 hc7=>?_) (λ hq3 hc7=>?_)
     ·refine sA ?_
      cases hq3
      exact zlr rfl (zlg [])
     ·refine sA ?_
      obtain ⟨hp8,hq3⟩:=zla hq3
      refine sA ?_
      refine zlq ?_
      refine zlt hq3 (λ hq3 hc9=>?_) (λ hq3 hc9=>?_)
      ·refine sA ?_
       obtain ⟨hp10,hq3⟩:=zla hq3
       refine sA ?_
       refine zlq ?_
       cases hq3
       exact zlr rfl (zlg [])
      ·refine sA ?_
       cases hq3
       exact zlr rfl (zlg [])
    ·refine sA ?_
     obtain ⟨hp11,hq3⟩:=zla hq3
     refine sA ?_
     refine zlq ?_
     refine zlt hq3 (λ hq3 hc12=>?_) (λ hq3 hc12=>?_)
     ·refine sA ?_
      obtain ⟨hp13,hq3⟩:=zla hq3
      refine sA ?_
      refine zlq ?_
      cases hq3
      exact zlr rfl (zlg [])
     ·refine sA ?_
      cases hq3
      exact zlr rfl (zlg [])
   ·intro s2 hJ;subst hJ
    try dsimp only at hs1
    refine sA ?_
    refine zle hs1 (λ hs1 hc14=>?_) (λ hs1 hc14=>?_)
    ·refine sA ?_
     cases hs1
     cases hk1
     try dsimp only at h
     refine sA ?_
     have he:=oi h
     subst he
     exact zld ⟨[(2,(B false))],[],0,36⟩ []
    ·refine sA ?_
     cases hs1
     exact zll hk1 (zlg [])
  ·refine sA ?_
   cases hs1
   cases hk1
   try dsimp only at h
   refine sA ?_
   have he:=oi h
   subst he
   exact zld ⟨[(2,(B (decide ((a0.size:Int)≤12))))],[],0,36⟩ []
theorem zjS {a0:EventT} {r:Bool} (h:zew a0=some r):Fn Tryz.prog 85 [(.ag [(I a0.Id),(I a0.fVe),(I a0.Kind),(.lf false (.sc (.string a0.Name)))])] [] 0 (B r) [] 0:=by
 unfold zew at h
 refine fc [] Tryz.func85 ?_
 simp only [Tryz.f85]
 refine sA ?_
 obtain ⟨c77,hr1,h⟩:=zk9 h
 refine zlh (zbu hr1) ?_
 refine sA ?_
 refine zlt h (λ h hc2=>?_) (λ h hc2=>?_)
 ·refine sA ?_
  obtain ⟨c78,hr3,h⟩:=zk9 h
  refine zlh (zbu hr3) ?_
  refine sA ?_
  refine zlt h (λ h hc4=>?_) (λ h hc4=>?_)
  ·refine sA ?_
   obtain ⟨c79,hr5,h⟩:=zk9 h
   refine zlh (zbu hr5) ?_
   refine sA ?_
   refine zlt h (λ h hc6=>?_) (λ h hc6=>?_)
   ·refine sA ?_
    obtain ⟨c86,hr7,h⟩:=zk9 h
    refine zlh (zhq hr7) ?_
    refine sA ?_
    have he:=oi h
    subst he
    exact zld ⟨[(2,(B c86))],[],0,21⟩ []
   ·refine sA ?_
    have he:=oi h
    subst he
    exact zld ⟨[(2,(B false))],[],0,21⟩ []
  ·refine sA ?_
   have he:=oi h
   subst he
   exact zld ⟨[(2,(B false))],[],0,21⟩ []
 ·refine sA ?_
  have he:=oi h
  subst he
  exact zld ⟨[(2,(B false))],[],0,21⟩ []
theorem zkY {a0:zlm} {r:zlm} (h:zgp a0=some r):Fn Tryz.prog 228 [(.ag [(I a0.fSt),(I a0.Next),(B a0.fCa),(I a0.Done),(.lf true (.sl (a0.fSi.map eS))),(.lf true (.sl (a0.fTi.map eS)))])] [] 0 (.ag [(I r.fSt),(I r.Next),(B r.fCa),(I r.Done),(.os 0 1 0 r.fSi.length r.fSi.length false),(.os 1 1 0 r.fTi.length r.fTi.length false)]) [(0,some (true,.arr false 1 (r.fSi.map eS))),(1,some (true,.arr false 1 (r.fTi.map eS)))] 3:=by
 unfold zgp at h
 refine fc [(1000,[(1,0),(2,0)]),(1001,[(1,0),(2,0)]),(1002,[(1,0),(2,0)]),(1003,[(2,0)])] Tryz.func228 ?_
 simp only [Tryz.f228]
 refine sA ?_
 obtain ⟨hp1,h⟩:=zla h
 refine sA ?_
 refine zlq ?_
 obtain ⟨hp2,h⟩:=zla h
 refine sA ?_
 refine zlq ?_
 have he:=oi h
 subst he
 exact zld ⟨[(2,(.pb 2 0))],[(0,some (true,.arr false 1 ((([])++a0.fSi).map eS))),(1,some (true,.arr false 1 ((([])++a0.fTi).map eS))),(2,some (true,.box [(I a0.fSt),(I a0.Next),(B a0.fCa),(I a0.Done),(.os 0 1 0 ((([])++a0.fSi).length) ((([])++a0.fSi).length) false),(.os 1 1 0 ((([])++a0.fTi).length) ((([])++a0.fTi).length) false)]))],3,14⟩ [some 3,some 5,some 1]
theorem zf6 {a0:(List ByteArray)} {a1:ByteArray} {r:Int} (h:zbv a0 a1=some r):Fn Tryz.prog 186 [(.lf true (.sl (a0.map eS))),(.lf false (.sc (.string a1)))] [] 0 (I r) [] 0:=by
 unfold zbv at h
 refine fc [(1000,[(0,0),(1,0)]),(1001,[(1,0),(7,0),(8,0),(9,0)]),(1002,[(1,0),(7,0),(8,0),(9,0),(10,0)]),(1003,[(1,0),(5,0),(6,0),(7,0),(8,0),(9,0)]),(1004,[(1,0),(5,0),(7,0),(8,0),(9,0),(16,0)]),(1005,[(4,0)]),(1006,[(1,0),(7,0),(8,0),(9,0)]),(1007,[(4,0)])] Tryz.func186 ?_
 simp only [Tryz.f186]
 refine sA ?_
 obtain ⟨y91,hl1,h⟩:=zk9 h
 refine zlo (λ g90:zgB=>⟨[(1,(.lf false (.sc (.string a1)))),(7,(.lf true (.sl (a0.map eS)))),(8,(I ((a0.length:Nat):Int))),(9,(I g90.t9))],[],0,19⟩) (zdM a0 a1) _ _ hl1 (zlg []) ?_
 ·intro n1 g90 z1 hs1 hk1
  unfold zdM at hs1
  try dsimp only at hs1
  refine sA ?_
  refine zle hs1 (λ hs1 hc2=>?_) (λ hs1 hc2=>?_)
  ·refine sA ?_
   obtain ⟨hp3,hs1⟩:=zla hs1
   have hn3:g90.t9.toNat < a0.length:=by first|omega|(simp;omega)
   refine sA ?_
   refine zlq ?_
   refine zle hs1 (λ hs1 hc4=>?_) (λ hs1 hc4=>?_)
   ·refine sA ?_
    cases hs1
    cases hk1
    try dsimp only at h
    refine sA ?_
    have he:=oi h
    subst he
    exact zld ⟨[(4,(I g90.t9))],[],0,19⟩ []
   ·refine sA ?_
    cases hs1
    exact zll hk1 (zlg [])
  ·refine sA ?_
   cases hs1
   cases hk1
   try dsimp only at h
   refine sA ?_
   have he:=oi h
   subst he
   exact zld ⟨[(4,(I (-1)))],[],0,19⟩ []
theorem zh5 {a0:(List ByteArray)} {a1:ByteArray} {r:(List ByteArray)} (h:zbP a0 a1=some r):Fn Tryz.prog 187 [(.lf true (.sl (a0.map eS))),(.lf false (.sc (.string a1)))] [] 0 (.os 0 1 0 r.length r.length false) [(0,some (true,.arr false 1 (r.map eS)))] 1:=by
 unfold zbP at h
 refine fc [(1000,[(0,0),(1,0)]),(1001,[(0,0),(1,0),(5,0)]),(1002,[(0,0),(1,0),(5,0),(6,0)]),(1003,[(1,0),(5,0),(6,0),(13,0),(14,0),(15,0)]),(1004,[(1,0),(5,0),(6,0),(13,0),(14,0),(15,0),(16,0)]),(1005,[(1,0),(5,0),(6,0),(8,0),(13,0),(14,0),(15,0)]),(1006,[(1,0),(5,0),(6,0),(8,0),(13,0),(14,0),(15,0),(21,0)]),(1007,[(1,0),(5,0),(6,0),(8,0),(13,0),(14,0),(15,0),(28,0)]),(1008,[(1,0),(5,0),(8,0),(13,0),(14,0),(15,0)]),(1009,[(1,0),(5,0),(6,0),(8,0),(13,0),(14,0),(15,0)]),(1010,[(1,0),(5,0),(6,0),(13,0),(14,0),(15,0)]),(1011,[(1,0),(5,0),(6,0),(13,0),(14,0),(15,0)]),(1012,[(1,0),(5,0),(39,0)]),(1013,[(5,0)]),(1014,[(4,0)]),(4007,[])] Tryz.func187 ?_
 simp only [Tryz.f187]
 refine sA ?_
 obtain ⟨c96,hr1,h⟩:=zk9 h
 refine zlh (zf6 hr1) ?_
 refine sA ?_
 obtain ⟨y100,hl2,h⟩:=zk9 h
 refine zlo (λ g97:zgG=>⟨[(1,(.lf false (.sc (.string a1)))),(5,(.os 0 1 0 g97.c0.length g97.c0.length false)),(6,(B g97.t6)),(13,(.lf true (.sl (a0.map eS)))),(14,(I ((a0.length:Nat):Int))),(15,(I g97.t15))],[(0,some (true,.arr false 1 (g97.c0.map eS)))],1,45⟩) (zR a0 a1) _ _ hl2 (zlg [none]) ?_
 ·intro n1 g97 z1 hs1 hk1
  unfold zR at hs1
  try dsimp only at hs1
  refine sA ?_
  refine zle hs1 (λ hs1 hc3=>?_) (λ hs1 hc3=>?_)
  ·refine sA ?_
   obtain ⟨hp4,hs1⟩:=zla hs1
   have hn4:g97.t15.toNat < a0.length:=by first|omega|(simp;omega)
   refine sA ?_
   refine zlq ?_
   refine zle hs1 (λ hs1 hc5=>?_) (λ hs1 hc5=>?_)
   ·refine sA ?_
    cases hs1
    exact zll hk1 (zlg [some 0])
   ·refine sA ?_
    obtain ⟨p99,hq6,hs1⟩:=zk9 hs1
    refine zlS (λ s2=>s2=⟨[(1,(.lf false (.sc (.string a1)))),(5,(.os 0 1 0 g97.c0.length g97.c0.length false)),(6,(B g97.t6)),(8,(.lf false (.sc (.string (nth a0 g97.t15.toNat))))),(13,(.lf true (.sl (a0.map eS)))),(14,(I ((a0.length:Nat):Int))),(15,(I g97.t15)),(28,(B p99.t28))],[(0,some (true,.arr false 1 (g97.c0.map eS)))],1,45⟩) ?_ ?_
    ·refine sA ?_
     refine zlt hq6 (λ hq6 hc7=>?_) (λ hq6 hc7=>?_)
     ·refine sA ?_
      cases hq6
      exact zlr rfl (zlg [some 0])
     ·refine sA ?_
      cases hq6
      exact zlr rfl (zlg [some 0])
    ·intro s2 hJ;subst hJ
     try dsimp only at hs1
     refine sA ?_
     refine zle hs1 (λ hs1 hc8=>?_) (λ hs1 hc8=>?_)
     ·refine sA ?_
      obtain ⟨hp9,hs1⟩:=zla hs1
      refine sA ?_
      refine zlq ?_
      obtain ⟨hp10,hs1⟩:=zla hs1
      refine sA ?_
      refine zlq ?_
      cases hs1
      exact zll hk1 (zlg [some 4])
     ·refine sA ?_
      obtain ⟨hp11,hs1⟩:=zla hs1
      refine sA ?_
      refine zlq ?_
      cases hs1
      exact zll hk1 (zlg [some 2])
  ·refine sA ?_
   cases hs1
   cases hk1
   try dsimp only at h
   refine sA ?_
   refine zle h (λ h hc12=>?_) (λ h hc12=>?_)
   ·refine sA ?_
    obtain ⟨hp13,h⟩:=zla h
    refine sA ?_
    refine zlq ?_
    have he:=oi h
    subst he
    exact zld ⟨[(4,(.os 0 1 0 ((g97.c0++([a1])).length) ((g97.c0++([a1])).length) false))],[(0,some (true,.arr false 1 ((g97.c0++([a1])).map eS)))],1,45⟩ [some 2]
   ·refine sA ?_
    have he:=oi h
    subst he
    exact zld ⟨[(4,(.os 0 1 0 g97.c0.length g97.c0.length false))],[(0,some (true,.arr false 1 (g97.c0.map eS)))],1,45⟩ [some 0]
theorem zh6 {a0:(List ByteArray)} {a1:Bool} {r:Bool} (h:zdN a0 a1=some r):Fn Tryz.prog 260 [(.lf true (.sl (a0.map eS))),(B a1)] [] 0 (B r) [] 0:=by
 unfold zdN at h
 refine fc [(1000,[(0,0),(1,0)]),(1001,[(0,0),(1,0),(9,0),(10,0),(11,0)]),(1002,[(0,0),(1,0),(9,0),(10,0),(11,0),(12,0)]),(1003,[(0,0),(1,0),(5,0),(6,0),(9,0),(10,0),(11,0)]),(1004,[(0,0),(1,0),(5,0),(6,0),(9,0),(10,0),(11,0),(18,0)]),(1005,[(4,0)]),(1006,[(0,0),(1,0),(5,0),(6,0),(9,0),(10,0),(11,0),(21,0),(22,0),(23,0)]),(1007,[(0,0),(1,0),(5,0),(6,0),(9,0),(10,0),(11,0),(21,0),(22,0),(23,0),(24,0)]),(1008,[(0,0),(1,0),(5,0),(6,0),(7,0),(8,0),(9,0),(10,0),(11,0),(21,0),(22,0),(23,0)]),(1009,[(0,0),(1,0),(5,0),(6,0),(9,0),(10,0),(11,0),(21,0),(22,0),(23,0),(44,0)]),(1010,[(4,0)]),(1011,[(0,0),(1,0),(5,0),(6,0),(9,0),(10,0),(11,0),(21,0),(22,0),(23,0)]),(1012,[(0,0),(1,0),(9,0),(10,0),(11,0)]),(1013,[(4,0)]),(4009,[])] Tryz.func260 ?_
 simp only [Tryz.f260]
 refine sA ?_
 obtain ⟨y120,hl1,h⟩:=zk9 h
 refine zlo (λ g105:zbY=>⟨[(0,(.lf true (.sl (a0.map eS)))),(1,(B a1)),(9,(.lf true (.sl (a0.map eS)))),(10,(I ((a0.length:Nat):Int))),(11,(I g105.t11))],[],0,50⟩) (zb0 a0 a1) _ _ hl1 (zlg []) ?_
 ·intro n1 g105 z1 hs1 hk1
  unfold zb0 at hs1
  try dsimp only at hs1
  refine sA ?_
  refine zle hs1 (λ hs1 hc2=>?_) (λ hs1 hc2=>?_)
  ·refine sA ?_
   obtain ⟨hp3,hs1⟩:=zla hs1
   have hn3:g105.t11.toNat < a0.length:=by first|omega|(simp;omega)
   refine sA ?_
   refine zlq ?_
   obtain ⟨c113,hr4,hs1⟩:=zk9 hs1
   refine zlh (zhq hr4) ?_
   refine sA ?_
   refine zle hs1 (λ hs1 hc5=>?_) (λ hs1 hc5=>?_)
   ·refine sA ?_
    cases hs1
    cases hk1
    try dsimp only at h
    refine sA ?_
    have he:=oi h
    subst he
    exact zld ⟨[(4,(B false))],[],0,50⟩ []
   ·refine sA ?_
    obtain ⟨hp6,hs1⟩:=zla hs1
    refine sA ?_
    refine zlq ?_
    obtain ⟨y117,hl7,hs1⟩:=zk9 hs1
    refine zlo (λ g114:ze7=>⟨[(0,(.lf true (.sl (a0.map eS)))),(1,(B a1)),(5,(I g105.t11)),(6,(.lf false (.sc (.string (nth a0 g105.t11.toNat))))),(9,(.lf true (.sl (a0.map eS)))),(10,(I ((a0.length:Nat):Int))),(11,(I g105.t11)),(21,(.lf true (.sl ((a0.take g105.t11.toNat).map eS)))),(22,(I (((a0.take g105.t11.toNat).length:Nat):Int))),(23,(I g114.t23))],[],0,50⟩) (zbZ a0 g105 a1) _ _ hl7 (zlg []) ?_
    ·intro n2 g114 z2 hs2 hk2
     unfold zbZ at hs2
     try dsimp only at hs2
     refine sA ?_
     refine zle hs2 (λ hs2 hc8=>?_) (λ hs2 hc8=>?_)
     ·refine sA ?_
      obtain ⟨hp9,hs2⟩:=zla hs2
      have hn9:g114.t23.toNat < (a0.take g105.t11.toNat).length:=by first|omega|(simp;omega)
      refine sA ?_
      refine zlq ?_
      obtain ⟨p116,hq10,hs2⟩:=zk9 hs2
      refine zlS (λ s2=>s2=⟨[(0,(.lf true (.sl (a0.map eS)))),(1,(B a1)),(5,(I g105.t11)),(6,(.lf false (.sc (.string (nth a0 g105.t11.toNat))))),(9,(.lf true (.sl (a0.map eS)))),(10,(I ((a0.length:Nat):Int))),(11,(I g105.t11)),(21,(.lf true (.sl ((a0.take g105.t11.toNat).map eS)))),(22,(I (((a0.take g105.t11.toNat).length:Nat):Int))),(23,(I g114.t23)),(44,(B p116.t44))],[],0,50⟩) ?_ ?_
      ·refine sA ?_
       refine zlt hq10 (λ hq10 hc11=>?_) (λ hq10 hc11=>?_)
       ·refine sA ?_
        cases hq10
        exact zlr rfl (zlg [])
       ·refine sA ?_
        refine zlt hq10 (λ hq10 hc12=>?_) (λ hq10 hc12=>?_)
        ·refine sA ?_
         refine zlt hq10 (λ hq10 hc13=>?_) (λ hq10 hc13=>?_)
         ·refine sA ?_
          cases hq10
          exact zlr rfl (zlg [])
         ·refine sA ?_
          cases hq10
          exact zlr rfl (zlg [])
        ·refine sA ?_
         cases hq10
         exact zlr rfl (zlg [])
      ·intro s2 hJ;subst hJ
       try dsimp only at hs2
       refine sA ?_
       refine zle hs2 (λ hs2 hc14=>?_) (λ hs2 hc14=>?_)
       ·refine sA ?_
        cases hs2
        cases hk2
        try dsimp only at hs1
        refine sA ?_
        cases hs1
        cases hk1
        try dsimp only at h
        refine sA ?_
        have he:=oi h
        subst he
        exact zld ⟨[(4,(B false))],[],0,50⟩ []
       ·refine sA ?_
        cases hs2
        exact zll hk2 (zlg [])
     ·refine sA ?_
      cases hs2
      cases hk2
      try dsimp only at hs1
      refine sA ?_
      cases hs1
      exact zll hk1 (zlg [])
  ·refine sA ?_
   cases hs1
   cases hk1
   try dsimp only at h
   refine sA ?_
   have he:=oi h
   subst he
   exact zld ⟨[(4,(B (decide (((a0.length:Nat):Int)≤30))))],[],0,50⟩ []
theorem zjT {a0:zlm} {r:Bool} (h:zc9 a0=some r):Fn Tryz.prog 229 [(.ag [(I a0.fSt),(I a0.Next),(B a0.fCa),(I a0.Done),(.lf true (.sl (a0.fSi.map eS))),(.lf true (.sl (a0.fTi.map eS)))])] [] 0 (B r) [] 0:=by
 unfold zc9 at h
 refine fc [(1000,[(1,0)]),(1001,[(1,0),(30,0)]),(1002,[(2,0)]),(1003,[(1,0),(33,0)]),(1004,[(2,0)]),(1005,[(2,0)]),(4001,[])] Tryz.func229 ?_
 simp only [Tryz.f229]
 refine sA ?_
 obtain ⟨p126,hq1,h⟩:=zk9 h
 refine zlS (λ s2=>s2=⟨[(1,(.pb 0 0)),(30,(B p126.t30))],[(0,some (true,.box [(I a0.fSt),(I a0.Next),(B a0.fCa),(I a0.Done),(.lf true (.sl (a0.fSi.map eS))),(.lf true (.sl (a0.fTi.map eS)))]))],1,62⟩) ?_ ?_
 ·refine sA ?_
  obtain ⟨c103,hr2,hq1⟩:=zk9 hq1
  refine zlh (zbu hr2) ?_
  refine sA ?_
  refine zlt hq1 (λ hq1 hc3=>?_) (λ hq1 hc3=>?_)
  ·refine sA ?_
   cases hq1
   exact zlr rfl (zlg [some 0])
  ·refine sA ?_
   obtain ⟨c104,hr4,hq1⟩:=zk9 hq1
   refine zlh (zbu hr4) ?_
   refine sA ?_
   refine zlt hq1 (λ hq1 hc5=>?_) (λ hq1 hc5=>?_)
   ·refine sA ?_
    cases hq1
    exact zlr rfl (zlg [some 0])
   ·refine sA ?_
    obtain ⟨c123,hr6,hq1⟩:=zk9 hq1
    refine zlh (zh6 hr6) ?_
    refine sA ?_
    refine zlt hq1 (λ hq1 hc7=>?_) (λ hq1 hc7=>?_)
    ·refine sA ?_
     cases hq1
     exact zlr rfl (zlg [some 0])
    ·refine sA ?_
     obtain ⟨c124,hr8,hq1⟩:=zk9 hq1
     refine zlh (zh6 hr8) ?_
     refine sA ?_
     refine zlt hq1 (λ hq1 hc9=>?_) (λ hq1 hc9=>?_)
     ·refine sA ?_
      cases hq1
      exact zlr rfl (zlg [some 0])
     ·refine sA ?_
      obtain ⟨c125,hr10,hq1⟩:=zk9 hq1
      refine zlh (zbu hr10) ?_
      refine sA ?_
      cases hq1
      exact zlr rfl (zlg [some 0])
 ·intro s2 hJ;subst hJ
  try dsimp only at h
  refine sA ?_
  refine zle h (λ h hc11=>?_) (λ h hc11=>?_)
  ·refine sA ?_
   have he:=oi h
   subst he
   exact zld ⟨[(2,(B false))],[],0,62⟩ []
  ·refine sA ?_
   refine zle h (λ h hc12=>?_) (λ h hc12=>?_)
   ·refine sA ?_
    refine zlt h (λ h hc13=>?_) (λ h hc13=>?_)
    ·refine sA ?_
     refine zlt h (λ h hc14=>?_) (λ h hc14=>?_)
     ·refine sA ?_
      refine zlt h (λ h hc15=>?_) (λ h hc15=>?_)
      ·refine sA ?_
       refine zlt h (λ h hc16=>?_) (λ h hc16=>?_)
       ·refine sA ?_
        have he:=oi h
        subst he
        exact zld ⟨[(2,(B (((a0.fTi.length:Nat):Int) == 0)))],[],0,62⟩ []
       ·refine sA ?_
        have he:=oi h
        subst he
        exact zld ⟨[(2,(B false))],[],0,62⟩ []
      ·refine sA ?_
       have he:=oi h
       subst he
       exact zld ⟨[(2,(B false))],[],0,62⟩ []
     ·refine sA ?_
      have he:=oi h
      subst he
      exact zld ⟨[(2,(B false))],[],0,62⟩ []
    ·refine sA ?_
     have he:=oi h
     subst he
     exact zld ⟨[(2,(B false))],[],0,62⟩ []
   ·refine sA ?_
    have he:=oi h
    subst he
    exact zld ⟨[(2,(B (decide (a0.Next > 1))))],[],0,62⟩ []
theorem zh7 {a0:zlm} {a1:EventT} {r:(zlm×Bool)} (h:zbQ a0 a1=some r):Fn Tryz.prog 189 [(.ag [(I a0.fSt),(I a0.Next),(B a0.fCa),(I a0.Done),(.lf true (.sl (a0.fSi.map eS))),(.lf true (.sl (a0.fTi.map eS)))]),(.ag [(I a1.Id),(I a1.fVe),(I a1.Kind),(.lf false (.sc (.string a1.Name)))])] [] 0 (.tu [(.ag [(I r.1.fSt),(I r.1.Next),(B r.1.fCa),(I r.1.Done),(.lf true (.sl (r.1.fSi.map eS))),(.lf true (.sl (r.1.fTi.map eS)))]),(B r.2)]) [] 1:=by
 unfold zbQ at h
 refine fc [(22,[(0,2)]),(1000,[(2,0),(3,0),(4,0)]),(1001,[(2,0),(3,0),(4,0),(29,0)]),(1002,[(4,0),(5,0)]),(1003,[(2,0),(3,0),(4,0)]),(1004,[(2,0),(3,0),(4,0),(34,0)]),(1005,[(2,0),(4,0)]),(1006,[(2,0),(4,0)]),(1007,[(2,0),(3,0),(4,0),(34,0),(37,0)]),(1008,[(2,0),(4,0)]),(1009,[(2,0),(3,0),(4,0),(34,0),(40,0)]),(1010,[(2,0),(3,0),(4,0),(53,0)]),(1011,[(4,0),(5,0)]),(1012,[(2,0),(4,0)]),(1013,[(2,0),(3,0),(4,0),(34,0),(62,0)]),(1014,[(2,0),(4,0)]),(1015,[(2,0),(3,0),(4,0),(34,0),(68,0)]),(1016,[(2,0),(4,0)]),(1017,[(2,0),(4,0),(76,0)]),(1018,[(2,0),(4,0),(79,0)]),(1019,[(4,0),(5,0)]),(1020,[(2,0),(4,0)]),(1021,[(2,0),(4,0)]),(1022,[(4,0),(5,0)]),(3000,[]),(4001,[]),(4010,[])] Tryz.func189 ?_
 simp only [Tryz.f189]
 refine sA ?_
 obtain ⟨p88,hq1,h⟩:=zk9 h
 refine zlS (λ s2=>s2=⟨[(2,(.pb 0 0)),(3,(.pb 1 0)),(4,(.pb 2 0)),(29,(B p88.t29))],[(0,some (true,.box [(I a0.fSt),(I a0.Next),(B a0.fCa),(I a0.Done),(.lf true (.sl (a0.fSi.map eS))),(.lf true (.sl (a0.fTi.map eS)))])),(1,some (true,.box [(I a1.Id),(I a1.fVe),(I a1.Kind),(.lf false (.sc (.string a1.Name)))])),(2,some (true,.box [(I 0),(I 0),(B false),(I 0),.nl,.nl]))],3,89⟩) ?_ ?_
 ·refine sA ?_
  obtain ⟨c87,hr2,hq1⟩:=zk9 hq1
  refine zlh (zjS hr2) ?_
  refine sA ?_
  refine zlt hq1 (λ hq1 hc3=>?_) (λ hq1 hc3=>?_)
  ·refine sA ?_
   cases hq1
   exact zlr rfl (zlg [some 0,some 1,some 2])
  ·refine sA ?_
   refine zlt hq1 (λ hq1 hc4=>?_) (λ hq1 hc4=>?_)
   ·refine sA ?_
    cases hq1
    exact zlr rfl (zlg [some 0,some 1,some 2])
   ·refine sA ?_
    refine zlt hq1 (λ hq1 hc5=>?_) (λ hq1 hc5=>?_)
    ·refine sA ?_
     cases hq1
     exact zlr rfl (zlg [some 0,some 1,some 2])
    ·refine sA ?_
     cases hq1
     exact zlr rfl (zlg [some 0,some 1,some 2])
 ·intro s2 hJ;subst hJ
  try dsimp only at h
  refine sA ?_
  refine zle h (λ h hc6=>?_) (λ h hc6=>?_)
  ·refine sA ?_
   have he:=oi h
   subst he
   exact zld ⟨[(4,(.pb 0 0)),(5,(B false))],[(0,some (true,.box [(I a0.fSt),(I a0.Next),(B a0.fCa),(I a0.Done),(.lf true (.sl (a0.fSi.map eS))),(.lf true (.sl (a0.fTi.map eS)))]))],1,89⟩ [some 2]
  ·refine sA ?_
   obtain ⟨c89,hr7,h⟩:=zk9 h
   refine zlh (zkY hr7) ?_
   refine sA ?_
   obtain ⟨q8,hq8,h⟩:=zk9 h
   refine zlS (λ s2=>∃ p102:z7,q8=.inl p102∧s2=⟨[(2,(.pb 0 0)),(4,(.pb 1 0))],[(0,some (true,.box [(I p102.b0_0),(I c89.Next),(B p102.b0_2),(I p102.b0_3),(.os 2 1 0 p102.c2.length p102.c2.length false),(.os 3 1 0 p102.c3.length p102.c3.length false)])),(1,some (true,.box [(I 0),(I 0),(B false),(I 0),.nl,.nl])),(2,some (true,.arr false 1 (p102.c2.map eS))),(3,some (true,.arr false 1 (p102.c3.map eS)))],4,89⟩) ?_ ?_
   ·refine sA ?_
    refine zle hq8 (λ hq8 hc9=>?_) (λ hq8 hc9=>?_)
    ·refine sA ?_
     cases hq8
     exact zlr ⟨_,rfl,rfl⟩ (zlg [some 0,some 2,some 3,some 4])
    ·refine sA ?_
     refine zle hq8 (λ hq8 hc10=>?_) (λ hq8 hc10=>?_)
     ·refine sA ?_
      obtain ⟨p95,hq11,hq8⟩:=zk9 hq8
      refine zlS (λ s2=>s2=⟨[(2,(.pb 0 0)),(3,(.pb 1 0)),(4,(.pb 2 0)),(53,(B p95.t53))],[(0,some (true,.box [(I c89.fSt),(I c89.Next),(B c89.fCa),(I c89.Done),(.os 3 1 0 c89.fSi.length c89.fSi.length false),(.os 4 1 0 c89.fTi.length c89.fTi.length false)])),(1,some (true,.box [(I a1.Id),(I a1.fVe),(I a1.Kind),(.lf false (.sc (.string a1.Name)))])),(2,some (true,.box [(I 0),(I 0),(B false),(I 0),.nl,.nl])),(3,some (true,.arr false 1 (c89.fSi.map eS))),(4,some (true,.arr false 1 (c89.fTi.map eS)))],5,89⟩) ?_ ?_
      ·refine sA ?_
       obtain ⟨c94,hr12,hq11⟩:=zk9 hq11
       refine zlh (zf6 hr12) ?_
       refine sA ?_
       refine zlt hq11 (λ hq11 hc13=>?_) (λ hq11 hc13=>?_)
       ·refine sA ?_
        cases hq11
        exact zlr rfl (zlg [some 0,some 1,some 2,some 3,some 4])
       ·refine sA ?_
        cases hq11
        exact zlr rfl (zlg [some 0,some 1,some 2,some 3,some 4])
      ·intro s2 hJ;subst hJ
       try dsimp only at hq8
       refine sA ?_
       refine zle hq8 (λ hq8 hc14=>?_) (λ hq8 hc14=>?_)
       ·refine sA ?_
        cases hq8
        try dsimp only at h
        have he:=oi h
        subst he
        refine zmT 3 ?_
        refine zmT 4 ?_
        refine sA ?_
        exact zld ⟨[(4,(.pb 0 0)),(5,(B false))],[(0,some (true,.box [(I c89.fSt),(I c89.Next),(B c89.fCa),(I c89.Done),(.lf true (.sl (c89.fSi.map eS))),(.lf true (.sl (c89.fTi.map eS)))]))],1,89⟩ [some 2]
       ·refine sA ?_
        obtain ⟨hp15,hq8⟩:=zla hq8
        refine sA ?_
        refine zlq ?_
        cases hq8
        exact zlr ⟨_,rfl,rfl⟩ (zlg [some 0,some 2,some 6,some 4])
     ·refine sA ?_
      refine zle hq8 (λ hq8 hc16=>?_) (λ hq8 hc16=>?_)
      ·refine sA ?_
       cases hq8
       exact zlr ⟨_,rfl,rfl⟩ (zlg [some 0,some 2,some 3,some 4])
      ·refine sA ?_
       refine zle hq8 (λ hq8 hc17=>?_) (λ hq8 hc17=>?_)
       ·refine sA ?_
        obtain ⟨c101,hr18,hq8⟩:=zk9 hq8
        refine zlh (zh5 hr18) ?_
        refine sA ?_
        cases hq8
        exact zlr ⟨_,rfl,rfl⟩ (zlg [some 0,some 2,some 3,some 6])
       ·refine sA ?_
        refine zle hq8 (λ hq8 hc19=>?_) (λ hq8 hc19=>?_)
        ·refine sA ?_
         refine zle hq8 (λ hq8 hc20=>?_) (λ hq8 hc20=>?_)
         ·refine sA ?_
          cases hq8
          try dsimp only at h
          have he:=oi h
          subst he
          refine zmT 3 ?_
          refine zmT 4 ?_
          refine sA ?_
          exact zld ⟨[(4,(.pb 0 0)),(5,(B false))],[(0,some (true,.box [(I c89.fSt),(I c89.Next),(B c89.fCa),(I c89.Done),(.lf true (.sl (c89.fSi.map eS))),(.lf true (.sl (c89.fTi.map eS)))]))],1,89⟩ [some 2]
         ·refine sA ?_
          cases hq8
          exact zlr ⟨_,rfl,rfl⟩ (zlg [some 0,some 2,some 3,some 4])
        ·refine sA ?_
         cases hq8
         exact zlr ⟨_,rfl,rfl⟩ (zlg [some 0,some 2,some 3,none])
   ·intro s2 hJ;obtain ⟨p102,e,rfl⟩:=hJ;subst e
    try dsimp only at h
    refine sA ?_
    obtain ⟨c127,hr21,h⟩:=zk9 h
    refine zlh (zjT hr21) ?_
    refine sA ?_
    have he:=oi h
    subst he
    refine zmT 2 ?_
    refine zmT 3 ?_
    refine sA ?_
    exact zld ⟨[(4,(.pb 0 0)),(5,(B c127))],[(0,some (true,.box [(I p102.b0_0),(I (wI (c89.Next+1))),(B p102.b0_2),(I p102.b0_3),(.lf true (.sl (p102.c2.map eS))),(.lf true (.sl (p102.c3.map eS)))]))],1,89⟩ [some 1]
theorem zgg {a0:(List EventT)} {r:(zlm×Int)} (h:zci a0=some r):Fn Tryz.prog 185 [(.lf true (.sl (a0.map zlk)))] [] 0 (.tu [(.ag [(I r.1.fSt),(I r.1.Next),(B r.1.fCa),(I r.1.Done),(.lf true (.sl (r.1.fSi.map eS))),(.lf true (.sl (r.1.fTi.map eS)))]),(I r.2)]) [] 1:=by
 unfold zci at h
 refine fc [(1000,[(0,0),(2,0)]),(1001,[(0,0),(2,0),(4,0)]),(1002,[(0,0),(2,0),(4,0),(10,0),(11,0),(12,0)]),(1003,[(0,0),(2,0),(4,0),(10,0),(11,0),(12,0),(13,0)]),(1004,[(0,0),(2,0),(4,0),(5,0),(6,0),(10,0),(11,0),(12,0)]),(1005,[(0,0),(2,0),(4,0),(5,0),(7,0),(8,0),(10,0),(11,0),(12,0)]),(1006,[(0,0),(2,0),(4,0),(5,0),(7,0),(10,0),(11,0),(12,0),(24,0)]),(1007,[(2,0),(3,0)]),(1008,[(0,0),(2,0),(4,0),(10,0),(11,0),(12,0)]),(1009,[(0,0),(2,0),(4,0),(10,0),(11,0),(12,0)]),(1010,[(2,0),(3,0)])] Tryz.func185 ?_
 simp only [Tryz.f185]
 refine sA ?_
 obtain ⟨c75,hr1,h⟩:=zk9 h
 refine zlh (zkk hr1) ?_
 refine sA ?_
 obtain ⟨y130,hl2,h⟩:=zk9 h
 refine zlo (λ g76:zgW=>⟨[(0,(.lf true (.sl (a0.map zlk)))),(2,(.pb 0 0)),(4,(.pb 1 0)),(10,(.lf true (.sl (a0.map zlk)))),(11,(I ((a0.length:Nat):Int))),(12,(I g76.t12))],[(0,some (true,.box [(I 0),(I 0),(B false),(I 0),.nl,.nl])),(1,some (true,.box [(I g76.b1_0),(I g76.b1_1),(B g76.b1_2),(I g76.b1_3),(.lf true (.sl (g76.b1_4.map eS))),(.lf true (.sl (g76.b1_5.map eS)))]))],2,32⟩) (zaV a0) _ _ hl2 (zlg [some 0,some 2]) ?_
 ·intro n1 g76 z1 hs1 hk1
  unfold zaV at hs1
  try dsimp only at hs1
  refine sA ?_
  refine zle hs1 (λ hs1 hc3=>?_) (λ hs1 hc3=>?_)
  ·refine sA ?_
   obtain ⟨hp4,hs1⟩:=zla hs1
   have hn4:g76.t12.toNat < a0.length:=by first|omega|(simp;omega)
   refine sA ?_
   refine zlq ?_
   obtain ⟨c129,hr5,hs1⟩:=zk9 hs1
   refine zlh (zh7 hr5) ?_
   refine sA ?_
   refine zle hs1 (λ hs1 hc6=>?_) (λ hs1 hc6=>?_)
   ·refine sA ?_
    cases hs1
    cases hk1
    try dsimp only at h
    refine sA ?_
    have he:=oi h
    subst he
    exact zld ⟨[(2,(.pb 0 0)),(3,(I g76.t12))],[(0,some (true,.box [(I g76.b1_0),(I g76.b1_1),(B g76.b1_2),(I g76.b1_3),(.lf true (.sl (g76.b1_4.map eS))),(.lf true (.sl (g76.b1_5.map eS)))]))],1,32⟩ [some 0]
   ·refine sA ?_
    cases hs1
    exact zll hk1 (zlg [some 0,some 1])
  ·refine sA ?_
   cases hs1
   cases hk1
   try dsimp only at h
   refine sA ?_
   have he:=oi h
   subst he
   exact zld ⟨[(2,(.pb 0 0)),(3,(I ((a0.length:Nat):Int)))],[(0,some (true,.box [(I g76.b1_0),(I g76.b1_1),(B g76.b1_2),(I g76.b1_3),(.lf true (.sl (g76.b1_4.map eS))),(.lf true (.sl (g76.b1_5.map eS)))]))],1,32⟩ [some 0]
theorem zjU {a0:(List EventT)} {r:Bool} (h:zey a0=some r):Fn Tryz.prog 221 [(.lf true (.sl (a0.map zlk)))] [] 0 (B r) [] 0:=by
 unfold zey at h
 refine fc [(1000,[(0,0)]),(1001,[(0,0),(7,0),(8,0)]),(1002,[(0,0),(7,0),(8,0),(9,0)]),(1003,[(0,0),(3,0),(7,0),(8,0)]),(1004,[(0,0),(7,0),(8,0),(26,0)]),(1005,[(2,0)]),(1006,[(0,0),(7,0),(8,0)]),(1007,[(0,0),(5,0)]),(1008,[(2,0)]),(4004,[])] Tryz.func221 ?_
 simp only [Tryz.f221]
 refine sA ?_
 obtain ⟨y72,hl1,h⟩:=zk9 h
 refine zlo (λ g69:zeg=>⟨[(0,(.lf true (.sl (a0.map zlk)))),(7,(I ((a0.length:Nat):Int))),(8,(I g69.t8))],[],0,42⟩) (zbF a0) _ _ hl1 (zlg []) ?_
 ·intro n1 g69 z1 hs1 hk1
  unfold zbF at hs1
  try dsimp only at hs1
  refine sA ?_
  refine zle hs1 (λ hs1 hc2=>?_) (λ hs1 hc2=>?_)
  ·refine sA ?_
   obtain ⟨p71,hq3,hs1⟩:=zk9 hs1
   refine zlS (λ s2=>s2=⟨[(0,(.lf true (.sl (a0.map zlk)))),(7,(I ((a0.length:Nat):Int))),(8,(I g69.t8)),(26,(B p71.t26))],[],0,42⟩) ?_ ?_
   ·refine sA ?_
    refine zlt hq3 (λ hq3 hc4=>?_) (λ hq3 hc4=>?_)
    ·refine sA ?_
     obtain ⟨hp5,hq3⟩:=zla hq3
     have hn5:(wI (g69.t8 - 1)).toNat < a0.length:=by first|omega|(simp;omega)
     refine sA ?_
     refine zlq ?_
     obtain ⟨hp6,hq3⟩:=zla hq3
     have hn6:g69.t8.toNat < a0.length:=by first|omega|(simp;omega)
     refine sA ?_
     refine zlq ?_
     cases hq3
     exact zlr rfl (zlg [])
    ·refine sA ?_
     cases hq3
     exact zlr rfl (zlg [])
   ·intro s2 hJ;subst hJ
    try dsimp only at hs1
    refine sA ?_
    refine zle hs1 (λ hs1 hc7=>?_) (λ hs1 hc7=>?_)
    ·refine sA ?_
     cases hs1
     cases hk1
     try dsimp only at h
     refine sA ?_
     have he:=oi h
     subst he
     exact zld ⟨[(2,(B false))],[],0,42⟩ []
    ·refine sA ?_
     cases hs1
     exact zll hk1 (zlg [])
  ·refine sA ?_
   cases hs1
   cases hk1
   try dsimp only at h
   refine sA ?_
   obtain ⟨c134,hr8,h⟩:=zk9 h
   refine zlh (zgg hr8) ?_
   refine sA ?_
   refine zlt h (λ h hc9=>?_) (λ h hc9=>?_)
   ·refine sA ?_
    have he:=oi h
    subst he
    exact zld ⟨[(2,(B (decide (((a0.length:Nat):Int)≤60))))],[],0,42⟩ []
   ·refine sA ?_
    have he:=oi h
    subst he
    exact zld ⟨[(2,(B false))],[],0,42⟩ []
theorem zjo {a0:(List EventT)} {r:Bool} (h:zdR a0=some r):Fn Tryz.prog 176 [(.lf true (.sl (a0.map zlk)))] [] 0 (B r) [] 0:=by
 unfold zdR at h
 refine fc [] Tryz.func176 ?_
 simp only [Tryz.f176]
 refine sA ?_
 refine zlt h (λ h hc1=>?_) (λ h hc1=>?_)
 ·refine sA ?_
  obtain ⟨c135,hr2,h⟩:=zk9 h
  refine zlh (zjU hr2) ?_
  refine sA ?_
  have he:=oi h
  subst he
  exact zld ⟨[(2,(B c135))],[],0,10⟩ []
 ·refine sA ?_
  have he:=oi h
  subst he
  exact zld ⟨[(2,(B false))],[],0,10⟩ []
theorem zkl {a0:EventT} {a1:EventT} {r:Int} (h:zfl a0 a1=some r):Fn Tryz.prog 222 [(.ag [(I a0.Id),(I a0.fVe),(I a0.Kind),(.lf false (.sc (.string a0.Name)))]),(.ag [(I a1.Id),(I a1.fVe),(I a1.Kind),(.lf false (.sc (.string a1.Name)))])] [] 0 (I r) [] 0:=by
 unfold zfl at h
 refine fc [(1000,[(2,0),(3,0)]),(1001,[(2,0),(3,0),(5,0)]),(1002,[(15,0)]),(1003,[(4,0)]),(1004,[(4,0)]),(1005,[(2,0),(3,0),(16,0)]),(1006,[(26,0)]),(1007,[(4,0)]),(1008,[(4,0)]),(1009,[(2,0),(3,0),(27,0)]),(1010,[(4,0)]),(1011,[(33,0)]),(1012,[(4,0)]),(1013,[(4,0)])] Tryz.func222 ?_
 simp only [Tryz.f222]
 refine sA ?_
 refine zle h (λ h hc1=>?_) (λ h hc1=>?_)
 ·refine sA ?_
  refine zle h (λ h hc2=>?_) (λ h hc2=>?_)
  ·refine sA ?_
   have he:=oi h
   subst he
   exact zld ⟨[(4,(I (-1)))],[],0,39⟩ []
  ·refine sA ?_
   have he:=oi h
   subst he
   exact zld ⟨[(4,(I 1))],[],0,39⟩ []
 ·refine sA ?_
  refine zle h (λ h hc3=>?_) (λ h hc3=>?_)
  ·refine sA ?_
   refine zle h (λ h hc4=>?_) (λ h hc4=>?_)
   ·refine sA ?_
    have he:=oi h
    subst he
    exact zld ⟨[(4,(I (-1)))],[],0,39⟩ []
   ·refine sA ?_
    have he:=oi h
    subst he
    exact zld ⟨[(4,(I 1))],[],0,39⟩ []
  ·refine sA ?_
   refine zle h (λ h hc5=>?_) (λ h hc5=>?_)
   ·refine sA ?_
    have he:=oi h
    subst he
    exact zld ⟨[(4,(I (-1)))],[],0,39⟩ []
   ·refine sA ?_
    refine zle h (λ h hc6=>?_) (λ h hc6=>?_)
    ·refine sA ?_
     have he:=oi h
     subst he
     exact zld ⟨[(4,(I 1))],[],0,39⟩ []
    ·refine sA ?_
     have he:=oi h
     subst he
     exact zld ⟨[(4,(I 0))],[],0,39⟩ []
theorem zcR {a0:(List EventT)} {a1:(List EventT)} {r:(Int×Int)} (h:zar a0 a1=some r):Fn Tryz.prog 177 [(.lf true (.sl (a0.map zlk))),(.lf true (.sl (a1.map zlk)))] [] 0 (.tu [(I r.1),(I r.2)]) [] 0:=by
 unfold zar at h
 refine fc [(1000,[(0,0),(1,0)]),(1001,[(0,0),(1,0),(6,0)]),(1002,[(0,0),(1,0),(6,0),(17,0)]),(1003,[(0,0),(1,0),(6,0)]),(1004,[(0,0),(1,0),(6,0),(7,0)]),(1005,[(0,0),(1,0),(6,0),(7,0),(30,0)]),(1006,[(4,0),(5,0)]),(1007,[(0,0),(1,0),(33,0)]),(1008,[(4,0),(5,0)]),(1009,[(0,0),(1,0),(41,0)]),(1010,[(4,0),(5,0)]),(1011,[(4,0),(5,0)])] Tryz.func177 ?_
 simp only [Tryz.f177]
 refine sA ?_
 obtain ⟨y141,hl1,h⟩:=zk9 h
 refine zlo (λ g138:zdS=>⟨[(0,(.lf true (.sl (a0.map zlk)))),(1,(.lf true (.sl (a1.map zlk)))),(6,(I g138.t6))],[],0,51⟩) (zbg a0 a1) _ _ hl1 (zlg []) ?_
 ·intro n1 g138 z1 hs1 hk1
  unfold zbg at hs1
  try dsimp only at hs1
  refine sA ?_
  refine zlt hs1 (λ hs1 hc2=>?_) (λ hs1 hc2=>?_)
  ·refine sA ?_
   refine zle hs1 (λ hs1 hc3=>?_) (λ hs1 hc3=>?_)
   ·refine sA ?_
    obtain ⟨hp4,hs1⟩:=zla hs1
    have hn4:g138.t6.toNat < a0.length:=by first|omega|(simp;omega)
    refine sA ?_
    refine zlq ?_
    obtain ⟨hp5,hs1⟩:=zla hs1
    have hn5:g138.t6.toNat < a1.length:=by first|omega|(simp;omega)
    refine sA ?_
    refine zlq ?_
    obtain ⟨c140,hr6,hs1⟩:=zk9 hs1
    refine zlh (zkl hr6) ?_
    refine sA ?_
    refine zle hs1 (λ hs1 hc7=>?_) (λ hs1 hc7=>?_)
    ·refine sA ?_
     cases hs1
     cases hk1
     try dsimp only at h
     refine sA ?_
     have he:=oi h
     subst he
     exact zld ⟨[(4,(I c140)),(5,(I g138.t6))],[],0,51⟩ []
    ·refine sA ?_
     cases hs1
     exact zll hk1 (zlg [])
   ·refine sA ?_
    cases hs1
    cases hk1
    try dsimp only at h
    refine sA ?_
    refine zle h (λ h hc8=>?_) (λ h hc8=>?_)
    ·refine sA ?_
     have he:=oi h
     subst he
     exact zld ⟨[(4,(I (-1))),(5,(I ((a0.length:Nat):Int)))],[],0,51⟩ []
    ·refine sA ?_
     refine zle h (λ h hc9=>?_) (λ h hc9=>?_)
     ·refine sA ?_
      have he:=oi h
      subst he
      exact zld ⟨[(4,(I 1)),(5,(I ((a1.length:Nat):Int)))],[],0,51⟩ []
     ·refine sA ?_
      have he:=oi h
      subst he
      exact zld ⟨[(4,(I 0)),(5,(I ((a0.length:Nat):Int)))],[],0,51⟩ []
  ·refine sA ?_
   cases hs1
   cases hk1
   try dsimp only at h
   refine sA ?_
   refine zle h (λ h hc10=>?_) (λ h hc10=>?_)
   ·refine sA ?_
    have he:=oi h
    subst he
    exact zld ⟨[(4,(I (-1))),(5,(I ((a0.length:Nat):Int)))],[],0,51⟩ []
   ·refine sA ?_
    refine zle h (λ h hc11=>?_) (λ h hc11=>?_)
    ·refine sA ?_
     have he:=oi h
     subst he
     exact zld ⟨[(4,(I 1)),(5,(I ((a1.length:Nat):Int)))],[],0,51⟩ []
    ·refine sA ?_
     have he:=oi h
     subst he
     exact zld ⟨[(4,(I 0)),(5,(I ((a0.length:Nat):Int)))],[],0,51⟩ []
theorem zdq {a0:(List EventT)} {a1:(List EventT)} {r:Bool} (h:zaK a0 a1=some r):Fn Tryz.prog 178 [(.lf true (.sl (a0.map zlk))),(.lf true (.sl (a1.map zlk)))] [] 0 (B r) [] 0:=by
 unfold zaK at h
 refine fc [(1000,[(0,0),(1,0)]),(1001,[(1,0),(6,0)]),(1002,[(4,0)])] Tryz.func178 ?_
 simp only [Tryz.f178]
 refine sA ?_
 obtain ⟨c145,hr1,h⟩:=zk9 h
 refine zlh (zcR hr1) ?_
 refine sA ?_
 have he:=oi h
 subst he
 exact zld ⟨[(4,(B (c145.2 == ((a1.length:Nat):Int))))],[],0,17⟩ []
theorem zdD {a0:TellingsT} {r:Bool} (h:zao a0=some r):Fn Tryz.prog 130 [(.ag [(.lf true (.sl (a0.fBr.map zlc)))])] [] 0 (B r) [] 0:=by
 unfold zao at h
 refine fc [(1000,[(1,0)]),(1001,[(1,0),(10,0),(11,0),(12,0)]),(1002,[(1,0),(10,0),(11,0),(12,0),(13,0)]),(1003,[(1,0),(3,0),(4,0),(10,0),(11,0),(12,0)]),(1004,[(1,0),(3,0),(4,0),(10,0),(11,0),(12,0),(20,0)]),(1005,[(2,0)]),(1006,[(1,0),(3,0),(4,0),(10,0),(11,0),(12,0),(24,0),(25,0),(26,0)]),(1007,[(1,0),(3,0),(4,0),(10,0),(11,0),(12,0),(24,0),(25,0),(26,0),(27,0)]),(1008,[(1,0),(3,0),(4,0),(5,0),(6,0),(10,0),(11,0),(12,0),(24,0),(25,0),(26,0)]),(1009,[(1,0),(3,0),(4,0),(5,0),(6,0),(7,0),(10,0),(11,0),(12,0),(24,0),(25,0),(26,0)]),(1010,[(1,0),(3,0),(4,0),(10,0),(11,0),(12,0),(24,0),(25,0),(26,0),(52,0)]),(1011,[(2,0)]),(1012,[(1,0),(3,0),(4,0),(10,0),(11,0),(12,0),(24,0),(25,0),(26,0)]),(1013,[(1,0),(10,0),(11,0),(12,0)]),(1014,[(2,0)]),(4010,[])] Tryz.func130 ?_
 simp only [Tryz.f130]
 refine sA ?_
 obtain ⟨y165,hl1,h⟩:=zk9 h
 refine zlo (λ g68:zaL=>⟨[(1,(.pb 0 0)),(10,(.lf true (.sl (a0.fBr.map zlc)))),(11,(I ((a0.fBr.length:Nat):Int))),(12,(I g68.t12))],[(0,some (true,.box [(.lf true (.sl (a0.fBr.map zlc)))]))],1,59⟩) (zaN a0) _ _ hl1 (zlg [some 0]) ?_
 ·intro n1 g68 z1 hs1 hk1
  unfold zaN at hs1
  try dsimp only at hs1
  refine sA ?_
  refine zle hs1 (λ hs1 hc2=>?_) (λ hs1 hc2=>?_)
  ·refine sA ?_
   obtain ⟨hp3,hs1⟩:=zla hs1
   have hn3:g68.t12.toNat < a0.fBr.length:=by first|omega|(simp;omega)
   refine sA ?_
   refine zlq ?_
   obtain ⟨c154,hr4,hs1⟩:=zk9 hs1
   refine zlh (zjo hr4) ?_
   refine sA ?_
   refine zle hs1 (λ hs1 hc5=>?_) (λ hs1 hc5=>?_)
   ·refine sA ?_
    cases hs1
    cases hk1
    try dsimp only at h
    refine sA ?_
    have he:=oi h
    subst he
    exact zld ⟨[(2,(B false))],[],0,59⟩ []
   ·refine sA ?_
    obtain ⟨hp6,hs1⟩:=zla hs1
    refine sA ?_
    refine zlq ?_
    obtain ⟨y162,hl7,hs1⟩:=zk9 hs1
    refine zlo (λ g155:zcY=>⟨[(1,(.pb 0 0)),(3,(I g68.t12)),(4,(.pb 1 0)),(10,(.lf true (.sl (a0.fBr.map zlc)))),(11,(I ((a0.fBr.length:Nat):Int))),(12,(I g68.t12)),(24,(.lf true (.sl ((a0.fBr.take g68.t12.toNat).map zlc)))),(25,(I (((a0.fBr.take g68.t12.toNat).length:Nat):Int))),(26,(I g155.t26))],[(0,some (true,.box [(.lf true (.sl (a0.fBr.map zlc)))])),(1,some (true,.box [(.lf true (.sl (((nth a0.fBr g68.t12.toNat).fEv).map zlk)))]))],2,59⟩) (zaM a0 g68) _ _ hl7 (zlg [some 0,some 1]) ?_
    ·intro n2 g155 z2 hs2 hk2
     unfold zaM at hs2
     try dsimp only at hs2
     refine sA ?_
     refine zle hs2 (λ hs2 hc8=>?_) (λ hs2 hc8=>?_)
     ·refine sA ?_
      obtain ⟨hp9,hs2⟩:=zla hs2
      have hn9:g155.t26.toNat < (a0.fBr.take g68.t12.toNat).length:=by first|omega|(simp;omega)
      refine sA ?_
      refine zlq ?_
      obtain ⟨c159,hr10,hs2⟩:=zk9 hs2
      refine zlh (zcR hr10) ?_
      refine sA ?_
      obtain ⟨p161,hq11,hs2⟩:=zk9 hs2
      refine zlS (λ s2=>s2=⟨[(1,(.pb 0 0)),(3,(I g68.t12)),(4,(.pb 1 0)),(10,(.lf true (.sl (a0.fBr.map zlc)))),(11,(I ((a0.fBr.length:Nat):Int))),(12,(I g68.t12)),(24,(.lf true (.sl ((a0.fBr.take g68.t12.toNat).map zlc)))),(25,(I (((a0.fBr.take g68.t12.toNat).length:Nat):Int))),(26,(I g155.t26)),(52,(B p161.t52))],[(0,some (true,.box [(.lf true (.sl (a0.fBr.map zlc)))])),(1,some (true,.box [(.lf true (.sl (((nth a0.fBr g68.t12.toNat).fEv).map zlk)))]))],2,59⟩) ?_ ?_
      ·refine sA ?_
       refine zlt hq11 (λ hq11 hc12=>?_) (λ hq11 hc12=>?_)
       ·refine sA ?_
        cases hq11
        exact zlr rfl (zlg [some 0,some 1])
       ·refine sA ?_
        obtain ⟨c160,hr13,hq11⟩:=zk9 hq11
        refine zlh (zdq hr13) ?_
        refine sA ?_
        refine zlt hq11 (λ hq11 hc14=>?_) (λ hq11 hc14=>?_)
        ·refine sA ?_
         cases hq11
         exact zlr rfl (zlg [some 0,some 1])
        ·refine sA ?_
         cases hq11
         exact zlr rfl (zlg [some 0,some 1])
      ·intro s2 hJ;subst hJ
       try dsimp only at hs2
       refine sA ?_
       refine zle hs2 (λ hs2 hc15=>?_) (λ hs2 hc15=>?_)
       ·refine sA ?_
        cases hs2
        cases hk2
        try dsimp only at hs1
        refine sA ?_
        cases hs1
        cases hk1
        try dsimp only at h
        refine sA ?_
        have he:=oi h
        subst he
        exact zld ⟨[(2,(B false))],[],0,59⟩ []
       ·refine sA ?_
        cases hs2
        exact zll hk2 (zlg [some 0,some 1])
     ·refine sA ?_
      cases hs2
      cases hk2
      try dsimp only at hs1
      refine sA ?_
      cases hs1
      exact zll hk1 (zlg [some 0])
  ·refine sA ?_
   cases hs1
   cases hk1
   try dsimp only at h
   refine sA ?_
   have he:=oi h
   subst he
   exact zld ⟨[(2,(B (decide (((a0.fBr.length:Nat):Int)≤12))))],[],0,59⟩ []
theorem zcS {a0:RegionT} {r:Bool} (h:zad a0=some r):Fn Tryz.prog 56 [(.ag [(I a0.Id),(I a0.fVe),(.lf true (.sl (a0.fTe.fBr.map zlc)))])] [] 0 (B r) [] 0:=by
 unfold zad at h
 refine fc [(1000,[(1,0)]),(1001,[(1,0),(22,0)]),(1002,[(2,0)]),(1003,[(1,0),(25,0),(26,0),(27,0)]),(1004,[(1,0),(25,0),(26,0),(27,0),(28,0)]),(1005,[(1,0),(4,0),(25,0),(26,0),(27,0)]),(1006,[(1,0),(25,0),(26,0),(27,0),(32,0),(33,0),(34,0)]),(1007,[(1,0),(25,0),(26,0),(27,0),(32,0),(33,0),(34,0),(35,0)]),(1008,[(1,0),(6,0),(25,0),(26,0),(27,0),(32,0),(33,0),(34,0)]),(1009,[(1,0),(25,0),(26,0),(27,0),(32,0),(33,0),(34,0),(42,0)]),(1010,[(2,0)]),(1011,[(1,0),(25,0),(26,0),(27,0),(32,0),(33,0),(34,0)]),(1012,[(1,0),(25,0),(26,0),(27,0)]),(1013,[(2,0)]),(4001,[])] Tryz.func56 ?_
 simp only [Tryz.f56]
 refine sA ?_
 obtain ⟨p169,hq1,h⟩:=zk9 h
 refine zlS (λ s2=>s2=⟨[(1,(.pb 0 0)),(22,(B p169.t22))],[(0,some (true,.box [(I a0.Id),(I a0.fVe),(.lf true (.sl (a0.fTe.fBr.map zlc)))]))],1,45⟩) ?_ ?_
 ·refine sA ?_
  obtain ⟨c65,hr2,hq1⟩:=zk9 hq1
  refine zlh (zbu hr2) ?_
  refine sA ?_
  refine zlt hq1 (λ hq1 hc3=>?_) (λ hq1 hc3=>?_)
  ·refine sA ?_
   cases hq1
   exact zlr rfl (zlg [some 0])
  ·refine sA ?_
   obtain ⟨c67,hr4,hq1⟩:=zk9 hq1
   refine zlh (zjn hr4) ?_
   refine sA ?_
   refine zlt hq1 (λ hq1 hc5=>?_) (λ hq1 hc5=>?_)
   ·refine sA ?_
    cases hq1
    exact zlr rfl (zlg [some 0])
   ·refine sA ?_
    obtain ⟨c168,hr6,hq1⟩:=zk9 hq1
    refine zlh (zdD hr6) ?_
    refine sA ?_
    cases hq1
    exact zlr rfl (zlg [some 0])
 ·intro s2 hJ;subst hJ
  try dsimp only at h
  refine sA ?_
  refine zle h (λ h hc7=>?_) (λ h hc7=>?_)
  ·refine sA ?_
   have he:=oi h
   subst he
   exact zld ⟨[(2,(B false))],[],0,45⟩ []
  ·refine sA ?_
   obtain ⟨y179,hl8,h⟩:=zk9 h
   refine zlo (λ g170:zbk=>⟨[(1,(.pb 0 0)),(25,(.lf true (.sl (a0.fTe.fBr.map zlc)))),(26,(I ((a0.fTe.fBr.length:Nat):Int))),(27,(I g170.t27))],[(0,some (true,.box [(I a0.Id),(I a0.fVe),(.lf true (.sl (a0.fTe.fBr.map zlc)))]))],1,45⟩) (zbm a0) _ _ hl8 (zlg [some 0]) ?_
   ·intro n1 g170 z1 hs1 hk1
    unfold zbm at hs1
    try dsimp only at hs1
    refine sA ?_
    refine zle hs1 (λ hs1 hc9=>?_) (λ hs1 hc9=>?_)
    ·refine sA ?_
     obtain ⟨hp10,hs1⟩:=zla hs1
     have hn10:g170.t27.toNat < a0.fTe.fBr.length:=by first|omega|(simp;omega)
     refine sA ?_
     refine zlq ?_
     obtain ⟨y176,hl11,hs1⟩:=zk9 hs1
     refine zlo (λ g175:zdW=>⟨[(1,(.pb 0 0)),(25,(.lf true (.sl (a0.fTe.fBr.map zlc)))),(26,(I ((a0.fTe.fBr.length:Nat):Int))),(27,(I g170.t27)),(32,(.lf true (.sl (((nth a0.fTe.fBr g170.t27.toNat).fEv).map zlk)))),(33,(I ((((nth a0.fTe.fBr g170.t27.toNat).fEv).length:Nat):Int))),(34,(I g175.t34))],[(0,some (true,.box [(I a0.Id),(I a0.fVe),(.lf true (.sl (a0.fTe.fBr.map zlc)))]))],1,45⟩) (zbl a0 g170) _ _ hl11 (zlg [some 0]) ?_
     ·intro n2 g175 z2 hs2 hk2
      unfold zbl at hs2
      try dsimp only at hs2
      refine sA ?_
      refine zle hs2 (λ hs2 hc12=>?_) (λ hs2 hc12=>?_)
      ·refine sA ?_
       obtain ⟨hp13,hs2⟩:=zla hs2
       have hn13:g175.t34.toNat < ((nth a0.fTe.fBr g170.t27.toNat).fEv).length:=by first|omega|(simp;omega)
       refine sA ?_
       refine zlq ?_
       refine zle hs2 (λ hs2 hc14=>?_) (λ hs2 hc14=>?_)
       ·refine sA ?_
        cases hs2
        cases hk2
        try dsimp only at hs1
        refine sA ?_
        cases hs1
        cases hk1
        try dsimp only at h
        refine sA ?_
        have he:=oi h
        subst he
        exact zld ⟨[(2,(B false))],[],0,45⟩ []
       ·refine sA ?_
        cases hs2
        exact zll hk2 (zlg [some 0])
      ·refine sA ?_
       cases hs2
       cases hk2
       try dsimp only at hs1
       refine sA ?_
       cases hs1
       exact zll hk1 (zlg [some 0])
    ·refine sA ?_
     cases hs1
     cases hk1
     try dsimp only at h
     refine sA ?_
     have he:=oi h
     subst he
     exact zld ⟨[(2,(B true))],[],0,45⟩ []
theorem zjV {a0:WorldT} {r:Bool} (h:zeM a0=some r):Fn Tryz.prog 34 [(.ag [(.lf true (.sl (a0.fRe.map zlj))),(.lf true (.sl (a0.Line.map zlz)))])] [] 0 (B r) [] 0:=by
 unfold zeM at h
 refine fc [(1000,[(1,0)]),(1001,[(1,0),(16,0)]),(1002,[(2,0)]),(1003,[(1,0),(18,0),(19,0),(20,0)]),(1004,[(1,0),(18,0),(19,0),(20,0),(21,0)]),(1005,[(1,0),(3,0),(4,0),(18,0),(19,0),(20,0)]),(1006,[(1,0),(18,0),(19,0),(20,0),(33,0)]),(1007,[(2,0)]),(1008,[(1,0),(18,0),(19,0),(20,0)]),(1009,[(36,0),(37,0),(38,0)]),(1010,[(36,0),(37,0),(38,0),(39,0)]),(1011,[(6,0),(36,0),(37,0),(38,0)]),(1012,[(36,0),(37,0),(38,0),(56,0)]),(1013,[(2,0)]),(1014,[(36,0),(37,0),(38,0)]),(1015,[(2,0)]),(4001,[]),(4006,[]),(4012,[])] Tryz.func34 ?_
 simp only [Tryz.f34]
 refine sA ?_
 obtain ⟨p63,hq1,h⟩:=zk9 h
 refine zlS (λ s2=>s2=⟨[(1,(.pb 0 0)),(16,(B p63.t16))],[(0,some (true,.box [(.lf true (.sl (a0.fRe.map zlj))),(.lf true (.sl (a0.Line.map zlz)))]))],1,58⟩) ?_ ?_
 ·refine sA ?_
  refine zlt hq1 (λ hq1 hc2=>?_) (λ hq1 hc2=>?_)
  ·refine sA ?_
   cases hq1
   exact zlr rfl (zlg [some 0])
  ·refine sA ?_
   cases hq1
   exact zlr rfl (zlg [some 0])
 ·intro s2 hJ;subst hJ
  try dsimp only at h
  refine sA ?_
  refine zle h (λ h hc3=>?_) (λ h hc3=>?_)
  ·refine sA ?_
   have he:=oi h
   subst he
   exact zld ⟨[(2,(B false))],[],0,58⟩ []
  ·refine sA ?_
   obtain ⟨y186,hl4,h⟩:=zk9 h
   refine zlo (λ g64:zem=>⟨[(1,(.pb 0 0)),(18,(.lf true (.sl (a0.fRe.map zlj)))),(19,(I ((a0.fRe.length:Nat):Int))),(20,(I g64.t20))],[(0,some (true,.box [(.lf true (.sl (a0.fRe.map zlj))),(.lf true (.sl (a0.Line.map zlz)))]))],1,58⟩) (zbM a0) _ _ hl4 (zlg [some 0]) ?_
   ·intro n1 g64 z1 hs1 hk1
    unfold zbM at hs1
    try dsimp only at hs1
    refine sA ?_
    refine zle hs1 (λ hs1 hc5=>?_) (λ hs1 hc5=>?_)
    ·refine sA ?_
     obtain ⟨hp6,hs1⟩:=zla hs1
     have hn6:g64.t20.toNat < a0.fRe.length:=by first|omega|(simp;omega)
     refine sA ?_
     refine zlq ?_
     obtain ⟨p185,hq7,hs1⟩:=zk9 hs1
     refine zlS (λ s2=>s2=⟨[(1,(.pb 0 0)),(18,(.lf true (.sl (a0.fRe.map zlj)))),(19,(I ((a0.fRe.length:Nat):Int))),(20,(I g64.t20)),(33,(B p185.t33))],[(0,some (true,.box [(.lf true (.sl (a0.fRe.map zlj))),(.lf true (.sl (a0.Line.map zlz)))]))],1,58⟩) ?_ ?_
     ·refine sA ?_
      obtain ⟨c184,hr8,hq7⟩:=zk9 hq7
      refine zlh (zcS hr8) ?_
      refine sA ?_
      refine zlt hq7 (λ hq7 hc9=>?_) (λ hq7 hc9=>?_)
      ·refine sA ?_
       cases hq7
       exact zlr rfl (zlg [some 0])
      ·refine sA ?_
       cases hq7
       exact zlr rfl (zlg [some 0])
     ·intro s2 hJ;subst hJ
      try dsimp only at hs1
      refine sA ?_
      refine zle hs1 (λ hs1 hc10=>?_) (λ hs1 hc10=>?_)
      ·refine sA ?_
       cases hs1
       cases hk1
       try dsimp only at h
       refine sA ?_
       have he:=oi h
       subst he
       exact zld ⟨[(2,(B false))],[],0,58⟩ []
      ·refine sA ?_
       cases hs1
       exact zll hk1 (zlg [some 0])
    ·refine sA ?_
     cases hs1
     cases hk1
     try dsimp only at h
     refine sA ?_
     obtain ⟨y206,hl11,h⟩:=zk9 h
     refine zlo (λ g199:zen=>⟨[(36,(.lf true (.sl (a0.Line.map zlz)))),(37,(I ((a0.Line.length:Nat):Int))),(38,(I g199.t38))],[],0,58⟩) (_) _ _ hl11 (zlg []) ?_
     ·intro n3 g199 z3 hs3 hk3
      unfold zcL at hs3
      try dsimp only at hs3
      refine sA ?_
      refine zle hs3 (λ hs3 hc12=>?_) (λ hs3 hc12=>?_)
      ·refine sA ?_
       obtain ⟨hp13,hs3⟩:=zla hs3
       have hn13:g199.t38.toNat < a0.Line.length:=by first|omega|(simp;omega)
       refine sA ?_
       refine zlq ?_
       obtain ⟨p205,hq14,hs3⟩:=zk9 hs3
       refine zlS (λ s2=>s2=⟨[(36,(.lf true (.sl (a0.Line.map zlz)))),(37,(I ((a0.Line.length:Nat):Int))),(38,(I g199.t38)),(56,(B p205.t56))],[],0,58⟩) ?_ ?_
       ·refine sA ?_
        obtain ⟨c203,hr15,hq14⟩:=zk9 hq14
        refine zlh (zbu hr15) ?_
        refine sA ?_
        refine zlt hq14 (λ hq14 hc16=>?_) (λ hq14 hc16=>?_)
        ·refine sA ?_
         cases hq14
         exact zlr rfl (zlg [])
        ·refine sA ?_
         obtain ⟨c204,hr17,hq14⟩:=zk9 hq14
         refine zlh (zcS hr17) ?_
         refine sA ?_
         cases hq14
         exact zlr rfl (zlg [])
       ·intro s2 hJ;subst hJ
        try dsimp only at hs3
        refine sA ?_
        refine zle hs3 (λ hs3 hc18=>?_) (λ hs3 hc18=>?_)
        ·refine sA ?_
         cases hs3
         cases hk3
         try dsimp only at h
         refine sA ?_
         have he:=oi h
         subst he
         exact zld ⟨[(2,(B false))],[],0,58⟩ []
        ·refine sA ?_
         cases hs3
         exact zll hk3 (zlg [])
      ·refine sA ?_
       cases hs3
       cases hk3
       try dsimp only at h
       refine sA ?_
       have he:=oi h
       subst he
       exact zld ⟨[(2,(B true))],[],0,58⟩ []
theorem zN {a0:(List EventT)} {r:(List EventT)} (h:zq a0=some r):Fn Tryz.prog 172 [(.lf true (.sl (a0.map zlk)))] [] 0 (.os 0 4 0 r.length r.length false) [(0,some (true,.arr false 4 (r.map zlk)))] 1:=by
 unfold zq at h
 refine fc [] Tryz.func172 ?_
 simp only [Tryz.f172]
 refine sA ?_
 obtain ⟨hp1,h⟩:=zla h
 refine sA ?_
 refine zlq ?_
 have he:=oi h
 subst he
 exact zld ⟨[(2,(.os 0 4 0 ((([])++a0).length) ((([])++a0).length) false))],[(0,some (true,.arr false 4 ((([])++a0).map zlk)))],1,6⟩ [some 1]
theorem zfu {a0:TellingsT} {r:TellingsT} (h:zbt a0=some r):Fn Tryz.prog 121 [(.ag [(.lf true (.sl (a0.fBr.map zlc)))])] [] 0 (.ag [(.os 0 1 0 r.fBr.length r.fBr.length false)]) [(0,some (true,.deep [.sl [.sc,.sc,.sc,.sc]] (r.fBr.map zlc)))] 2:=by
 unfold zbt at h
 refine fc [(1000,[(1,0),(2,0)]),(1001,[(1,0),(2,0),(3,0)]),(1002,[(2,0),(3,0),(7,0),(8,0),(9,0)]),(1003,[(2,0),(3,0),(7,0),(8,0),(9,0),(10,0)]),(1004,[(2,0),(3,0),(5,0),(7,0),(8,0),(9,0)]),(1005,[(2,0),(3,0),(7,0),(8,0),(9,0)]),(1006,[(2,0),(3,0),(7,0),(8,0),(9,0)]),(1007,[(2,0)])] Tryz.func121 ?_
 simp only [Tryz.f121]
 refine sA ?_
 obtain ⟨y214,hl1,h⟩:=zk9 h
 refine zlo (λ g211:zgc=>⟨[(2,(.pb 0 0)),(3,(.os 1 1 0 g211.c1.length g211.c1.length false)),(7,(.lf true (.sl (a0.fBr.map zlc)))),(8,(I ((a0.fBr.length:Nat):Int))),(9,(I g211.t9))],[(0,some (true,.box [.nl])),(1,some (true,.deep [.sl [.sc,.sc,.sc,.sc]] (g211.c1.map zlc)))],2,23⟩) (zdc a0) _ _ hl1 (zlg [some 1,none]) ?_
 ·intro n1 g211 z1 hs1 hk1
  unfold zdc at hs1
  try dsimp only at hs1
  refine sA ?_
  refine zle hs1 (λ hs1 hc2=>?_) (λ hs1 hc2=>?_)
  ·refine sA ?_
   obtain ⟨hp3,hs1⟩:=zla hs1
   have hn3:g211.t9.toNat < a0.fBr.length:=by first|omega|(simp;omega)
   refine sA ?_
   refine zlq ?_
   obtain ⟨c213,hr4,hs1⟩:=zk9 hs1
   refine zlh (zN hr4) ?_
   refine sA ?_
   obtain ⟨hp5,hs1⟩:=zla hs1
   refine sA ?_
   refine zlq ?_
   cases hs1
   exact zll hk1 (zn7 5 (zlg [some 0,some 5]))
  ·refine sA ?_
   cases hs1
   cases hk1
   try dsimp only at h
   refine sA ?_
   have he:=oi h
   subst he
   exact zld ⟨[(2,(.pb 1 0))],[(0,some (true,.deep [.sl [.sc,.sc,.sc,.sc]] (g211.c1.map zlc))),(1,some (true,.box [(.os 0 1 0 g211.c1.length g211.c1.length false)]))],2,23⟩ [some 1,some 0]
theorem zkm {a0:RegionT} {r:RegionT} (h:zgE a0=some r):Fn Tryz.prog 70 [(.ag [(I a0.Id),(I a0.fVe),(.lf true (.sl (a0.fTe.fBr.map zlc)))])] [] 0 (.ag [(I r.Id),(I r.fVe),(.lf false (.sl (r.fTe.fBr.map zlc)))]) [] 1:=by
 unfold zgE at h
 refine fc [(1000,[(1,0),(2,0)]),(1001,[(1,0),(2,0)]),(1002,[(2,0)])] Tryz.func70 ?_
 simp only [Tryz.f70]
 refine sA ?_
 obtain ⟨c215,hr1,h⟩:=zk9 h
 refine zlh (zfu hr1) ?_
 refine sA ?_
 have he:=oi h
 subst he
 refine zmT 2 ?_
 refine sA ?_
 exact zld ⟨[(2,(.pb 0 0))],[(0,some (true,.box [(I a0.Id),(I a0.fVe),(.lf false (.sl (c215.fBr.map zlc)))]))],1,8⟩ [some 1]
theorem ziF {a0:WordT} {r:WordT} (h:zes a0=some r):Fn Tryz.prog 164 [(.ag [(I a0.fVe),(.lf true (.sl (a0.fTe.fBr.map zlc)))])] [] 0 (.ag [(I r.fVe),(.lf false (.sl (r.fTe.fBr.map zlc)))]) [] 1:=by
 unfold zes at h
 refine fc [(1,[(1,4)])] Tryz.func164 ?_
 simp only [Tryz.f164]
 refine sA ?_
 obtain ⟨c227,hr1,h⟩:=zk9 h
 refine zlh (zfu hr1) ?_
 refine sA ?_
 have he:=oi h
 subst he
 refine zmT 2 ?_
 refine sA ?_
 exact zld ⟨[(2,(.pb 0 0))],[(0,some (true,.box [(I a0.fVe),(.lf false (.sl (c227.fBr.map zlc)))]))],1,9⟩ [some 1]
theorem zhr {a0:WorldT} {r:WorldT} (h:zec a0=some r):Fn Tryz.prog 99 [(.ag [(.lf true (.sl (a0.fRe.map zlj))),(.lf true (.sl (a0.Line.map zlz)))])] [] 0 (.ag [(.os 0 3 0 r.fRe.length r.fRe.length false),(.os 1 3 0 r.Line.length r.Line.length false)]) [(0,some (true,.arr false 3 (r.fRe.map zlj))),(1,some (true,.arr false 3 (r.Line.map zlz)))] 3:=by
 unfold zec at h
 refine fc [(5,[(1,3),(1,4)]),(10,[(1,6),(3,6),(1,8)]),(1000,[(1,0),(2,0)]),(1001,[(1,0),(2,0),(3,0)]),(1002,[(1,0),(2,0),(3,0),(9,0),(10,0),(11,0)]),(1003,[(1,0),(2,0),(3,0),(9,0),(10,0),(11,0),(12,0)]),(1004,[(1,0),(2,0),(3,0),(5,0),(9,0),(10,0),(11,0)]),(1005,[(1,0),(2,0),(3,0),(9,0),(10,0),(11,0)]),(1006,[(1,0),(2,0),(3,0),(9,0),(10,0),(11,0)]),(1007,[(2,0),(3,0),(24,0),(25,0),(26,0)]),(1008,[(2,0),(3,0),(24,0),(25,0),(26,0),(27,0)]),(1009,[(2,0),(3,0),(7,0),(24,0),(25,0),(26,0)]),(1010,[(2,0),(3,0),(24,0),(25,0),(26,0)]),(1011,[(2,0),(3,0),(24,0),(25,0),(26,0)]),(1012,[(2,0)])] Tryz.func99 ?_
 simp only [Tryz.f99]
 refine sA ?_
 obtain ⟨y225,hl1,h⟩:=zk9 h
 refine zlo (λ g222:zgd=>⟨[(1,(.pb 0 0)),(2,(.pb 1 0)),(3,(.pb 2 0)),(9,(.lf true (.sl (a0.fRe.map zlj)))),(10,(I ((a0.fRe.length:Nat):Int))),(11,(I g222.t11))],[(0,some (true,.box [(.lf true (.sl (a0.fRe.map zlj))),(.lf true (.sl (a0.Line.map zlz)))])),(1,some (true,.box [.nl,.nl])),(2,some (true,.box [(.os 3 3 0 g222.c3.length g222.c3.length false),.nl])),(3,some (true,.arr false 3 (g222.c3.map zlj)))],4,43⟩) (zb9 a0) _ _ hl1 (zlg [some 0,some 1,some 2,none]) ?_
 ·intro n1 g222 z1 hs1 hk1
  unfold zb9 at hs1
  try dsimp only at hs1
  refine sA ?_
  refine zle hs1 (λ hs1 hc2=>?_) (λ hs1 hc2=>?_)
  ·refine sA ?_
   obtain ⟨hp3,hs1⟩:=zla hs1
   have hn3:g222.t11.toNat < a0.fRe.length:=by first|omega|(simp;omega)
   refine sA ?_
   refine zlq ?_
   obtain ⟨c224,hr4,hs1⟩:=zk9 hs1
   refine zlh (zkm hr4) ?_
   refine sA ?_
   obtain ⟨hp5,hs1⟩:=zla hs1
   refine sA ?_
   refine zlq ?_
   cases hs1
   exact zll hk1 (zlg [some 0,some 1,some 2,some 7])
  ·refine sA ?_
   cases hs1
   cases hk1
   try dsimp only at h
   refine sA ?_
   obtain ⟨y234,hl6,h⟩:=zk9 h
   refine zlo (λ g231:zge=>⟨[(2,(.pb 0 0)),(3,(.pb 1 0)),(24,(.lf true (.sl (a0.Line.map zlz)))),(25,(I ((a0.Line.length:Nat):Int))),(26,(I g231.t26))],[(0,some (true,.box [.nl,.nl])),(1,some (true,.box [(.os 2 3 0 g222.c3.length g222.c3.length false),(.os 3 3 0 g231.c3.length g231.c3.length false)])),(2,some (true,.arr false 3 (g222.c3.map zlj))),(3,some (true,.arr false 3 (g231.c3.map zlz)))],4,43⟩) (_) _ _ hl6 (zlg [some 1,some 2,some 3,none]) ?_
   ·intro n3 g231 z3 hs3 hk3
    unfold zdd at hs3
    try dsimp only at hs3
    refine sA ?_
    refine zle hs3 (λ hs3 hc7=>?_) (λ hs3 hc7=>?_)
    ·refine sA ?_
     obtain ⟨hp8,hs3⟩:=zla hs3
     have hn8:g231.t26.toNat < a0.Line.length:=by first|omega|(simp;omega)
     refine sA ?_
     refine zlq ?_
     obtain ⟨c233,hr9,hs3⟩:=zk9 hs3
     refine zlh (ziF hr9) ?_
     refine sA ?_
     obtain ⟨hp10,hs3⟩:=zla hs3
     refine sA ?_
     refine zlq ?_
     cases hs3
     exact zll hk3 (zlg [some 0,some 1,some 2,some 7])
    ·refine sA ?_
     cases hs3
     cases hk3
     try dsimp only at h
     refine sA ?_
     have he:=oi h
     subst he
     exact zld ⟨[(2,(.pb 2 0))],[(0,some (true,.arr false 3 (g222.c3.map zlj))),(1,some (true,.arr false 3 (g231.c3.map zlz))),(2,some (true,.box [(.os 0 3 0 g222.c3.length g222.c3.length false),(.os 1 3 0 g231.c3.length g231.c3.length false)]))],3,43⟩ [some 2,some 3,some 0]
theorem zkZ {a0:RegionT} {r:(WordT×Bool)} (h:zfw a0=some r):Fn Tryz.prog 50 [(.ag [(I a0.Id),(I a0.fVe),(.lf true (.sl (a0.fTe.fBr.map zlc)))])] [] 0 (.tu [(.ag [(I r.1.fVe),(.os 0 1 0 r.1.fTe.fBr.length r.1.fTe.fBr.length false)]),(B r.2)]) [(0,some (true,.deep [.sl [.sc,.sc,.sc,.sc]] (r.1.fTe.fBr.map zlc)))] 2:=by
 unfold zfw at h
 refine fc [(3,[(1,4)]),(1000,[(1,0),(2,0)]),(1001,[(1,0),(2,0),(6,0)]),(1002,[(2,0),(3,0)]),(1003,[(2,0),(3,0)])] Tryz.func50 ?_
 simp only [Tryz.f50]
 refine sA ?_
 obtain ⟨c239,hr1,h⟩:=zk9 h
 refine zlh (zcS hr1) ?_
 refine sA ?_
 refine zle h (λ h hc2=>?_) (λ h hc2=>?_)
 ·refine sA ?_
  have he:=oi h
  subst he
  exact zld ⟨[(2,(.pb 1 0)),(3,(B false))],[(0,some (true,.deep [.sl [.sc,.sc,.sc,.sc]] (([]:List BranchT).map zlc))),(1,some (true,.box [(I 0),(.os 0 1 0 (([]:List BranchT).length) (([]:List BranchT).length) false)]))],2,14⟩ [none,some 1]
 ·refine sA ?_
  obtain ⟨c240,hr3,h⟩:=zk9 h
  refine zlh (zfu hr3) ?_
  refine sA ?_
  have he:=oi h
  subst he
  exact zld ⟨[(2,(.pb 1 0)),(3,(B true))],[(0,some (true,.deep [.sl [.sc,.sc,.sc,.sc]] (c240.fBr.map zlc))),(1,some (true,.box [(I a0.fVe),(.os 0 1 0 c240.fBr.length c240.fBr.length false)]))],2,14⟩ [some 2,some 1]
theorem zk0 {a0:(List BranchT)} {a1:(List EventT)} {r:(List BranchT)} (h:zgx a0 a1=some r):Fn Tryz.prog 179 [(.lf true (.sl (a0.map zlc))),(.lf true (.sl (a1.map zlk)))] [] 0 (.lf true (.sl (r.map zlc))) [] 0:=by
 unfold zgx at h
 refine fc [(1000,[(0,0),(1,0)]),(1001,[(0,0),(1,0),(5,0)]),(1002,[(0,0),(1,0),(5,0),(6,0)]),(1003,[(0,0),(1,0),(5,0),(6,0),(13,0),(14,0),(15,0)]),(1004,[(0,0),(1,0),(5,0),(6,0),(13,0),(14,0),(15,0),(16,0)]),(1005,[(0,0),(1,0),(5,0),(6,0),(8,0),(13,0),(14,0),(15,0)]),(1006,[(0,0),(1,0),(5,0),(6,0),(13,0),(14,0),(15,0),(22,0)]),(1007,[(4,0)]),(1008,[(0,0),(1,0),(5,0),(6,0),(13,0),(14,0),(15,0)]),(1009,[(1,0),(5,0),(6,0),(25,0),(26,0),(27,0)]),(1010,[(1,0),(5,0),(6,0),(25,0),(26,0),(27,0),(28,0)]),(1011,[(1,0),(5,0),(6,0),(10,0),(25,0),(26,0),(27,0)]),(1012,[(1,0),(5,0),(6,0),(10,0),(25,0),(26,0),(27,0),(34,0)]),(1013,[(1,0),(5,0),(6,0),(10,0),(11,0),(25,0),(26,0),(27,0)]),(1014,[(1,0),(5,0),(6,0),(10,0),(25,0),(26,0),(27,0),(47,0)]),(1015,[(1,0),(5,0),(10,0),(25,0),(26,0),(27,0)]),(1016,[(1,0),(5,0),(6,0),(10,0),(25,0),(26,0),(27,0)]),(1017,[(1,0),(5,0),(6,0),(25,0),(26,0),(27,0)]),(1018,[(1,0),(5,0),(6,0),(25,0),(26,0),(27,0)]),(1019,[(1,0),(5,0),(63,0)]),(1020,[(5,0)]),(1021,[(4,0)]),(4014,[]),(5017,[])] Tryz.func179 ?_
 simp only [Tryz.f179]
 refine sA ?_
 obtain ⟨y264,hl1,h⟩:=zk9 h
 refine zlo (λ g261:zgb=>⟨[(0,(.lf true (.sl (a0.map zlc)))),(1,(.lf true (.sl (a1.map zlk)))),(5,.nl),(6,(B false)),(13,(.lf true (.sl (a0.map zlc)))),(14,(I ((a0.length:Nat):Int))),(15,(I g261.t15))],[],0,71⟩) (zb6 a0 a1) _ _ hl1 (zlg []) ?_
 ·intro n1 g261 z1 hs1 hk1
  unfold zb6 at hs1
  try dsimp only at hs1
  refine sA ?_
  refine zle hs1 (λ hs1 hc2=>?_) (λ hs1 hc2=>?_)
  ·refine sA ?_
   obtain ⟨hp3,hs1⟩:=zla hs1
   have hn3:g261.t15.toNat < a0.length:=by first|omega|(simp;omega)
   refine sA ?_
   refine zlq ?_
   obtain ⟨c263,hr4,hs1⟩:=zk9 hs1
   refine zlh (zdq hr4) ?_
   refine sA ?_
   refine zle hs1 (λ hs1 hc5=>?_) (λ hs1 hc5=>?_)
   ·refine sA ?_
    cases hs1
    cases hk1
    try dsimp only at h
    refine sA ?_
    have he:=oi h
    subst he
    exact zld ⟨[(4,(.lf true (.sl (a0.map zlc))))],[],0,71⟩ []
   ·refine sA ?_
    cases hs1
    exact zll hk1 (zlg [])
  ·refine sA ?_
   cases hs1
   cases hk1
   try dsimp only at h
   refine sA ?_
   obtain ⟨y300,hl6,h⟩:=zk9 h
   refine zlo (λ g285:zhb=>⟨[(1,(.lf true (.sl (a1.map zlk)))),(5,(.os 0 1 0 g285.c0.length g285.c0.length false)),(6,(B g285.t6)),(25,(.lf true (.sl (a0.map zlc)))),(26,(I ((a0.length:Nat):Int))),(27,(I g285.t27))],[(0,some (true,.deep [.sl [.sc,.sc,.sc,.sc]] (g285.c0.map zlc)))],1,71⟩) (_) _ _ hl6 (zlg [none]) ?_
   ·intro n3 g285 z3 hs3 hk3
    unfold zdb at hs3
    try dsimp only at hs3
    refine sA ?_
    refine zle hs3 (λ hs3 hc7=>?_) (λ hs3 hc7=>?_)
    ·refine sA ?_
     obtain ⟨hp8,hs3⟩:=zla hs3
     have hn8:g285.t27.toNat < a0.length:=by first|omega|(simp;omega)
     refine sA ?_
     refine zlq ?_
     obtain ⟨c293,hr9,hs3⟩:=zk9 hs3
     refine zlh (zdq hr9) ?_
     refine sA ?_
     refine zle hs3 (λ hs3 hc10=>?_) (λ hs3 hc10=>?_)
     ·refine sA ?_
      cases hs3
      exact zll hk3 (zlg [some 0])
     ·refine sA ?_
      obtain ⟨c294,hr11,hs3⟩:=zk9 hs3
      refine zlh (zcR hr11) ?_
      refine sA ?_
      obtain ⟨p295,hq12,hs3⟩:=zk9 hs3
      refine zlS (λ s2=>s2=⟨[(1,(.lf true (.sl (a1.map zlk)))),(5,(.os 0 1 0 g285.c0.length g285.c0.length false)),(6,(B g285.t6)),(10,(.pb 1 0)),(25,(.lf true (.sl (a0.map zlc)))),(26,(I ((a0.length:Nat):Int))),(27,(I g285.t27)),(47,(B p295.t47))],[(0,some (true,.deep [.sl [.sc,.sc,.sc,.sc]] (g285.c0.map zlc))),(1,some (true,.box [(.lf true (.sl (((nth a0 g285.t27.toNat).fEv).map zlk)))]))],2,71⟩) ?_ ?_
      ·refine sA ?_
       refine zlt hq12 (λ hq12 hc13=>?_) (λ hq12 hc13=>?_)
       ·refine sA ?_
        cases hq12
        exact zlr rfl (zlg [some 0,some 1])
       ·refine sA ?_
        cases hq12
        exact zlr rfl (zlg [some 0,some 1])
      ·intro s2 hJ;subst hJ
       try dsimp only at hs3
       refine sA ?_
       refine zle hs3 (λ hs3 hc14=>?_) (λ hs3 hc14=>?_)
       ·refine sA ?_
        obtain ⟨c296,hr15,hs3⟩:=zk9 hs3
        refine zlh (zN hr15) ?_
        refine sA ?_
        obtain ⟨hp16,hs3⟩:=zla hs3
        refine sA ?_
        refine zlq ?_
        refine zvm 4 ?_
        refine sA ?_
        obtain ⟨c298,hr17,hs3⟩:=zk9 hs3
        refine zlh (zN hr17) ?_
        refine sA ?_
        obtain ⟨hp18,hs3⟩:=zla hs3
        refine sA ?_
        refine zlq ?_
        cases hs3
        exact zll hk3 (zn7 7 (zlg [some 7]))
       ·refine sA ?_
        refine zB3 ?_
        refine sA ?_
        obtain ⟨c299,hr19,hs3⟩:=zk9 hs3
        refine zlh (zN hr19) ?_
        refine sA ?_
        obtain ⟨hp20,hs3⟩:=zla hs3
        refine sA ?_
        refine zlq ?_
        cases hs3
        exact zll hk3 (zn7 4 (zlg [some 4]))
    ·refine sA ?_
     cases hs3
     cases hk3
     try dsimp only at h
     refine sA ?_
     refine zle h (λ h hc21=>?_) (λ h hc21=>?_)
     ·refine sA ?_
      obtain ⟨c302,hr22,h⟩:=zk9 h
      refine zlh (zN hr22) ?_
      refine sA ?_
      obtain ⟨hp23,h⟩:=zla h
      refine sA ?_
      refine zlq ?_
      have he:=oi h
      subst he
      refine zom 3 ?_
      refine sA ?_
      refine zmT 3 ?_
      refine sA ?_
      exact zld ⟨[(4,(.lf true (.sl ((g285.c0++[(⟨c302⟩:BranchT)]).map zlc))))],[],0,71⟩ []
     ·refine sA ?_
      have he:=oi h
      subst he
      refine zmT 0 ?_
      refine sA ?_
      exact zld ⟨[(4,(.lf true (.sl (g285.c0.map zlc))))],[],0,71⟩ []
theorem zkn {a0:TellingsT} {a1:TellingsT} {r:TellingsT} (h:zft a0 a1=some r):Fn Tryz.prog 131 [(.ag [(.lf true (.sl (a0.fBr.map zlc)))]),(.ag [(.lf true (.sl (a1.fBr.map zlc)))])] [] 0 (.ag [(.os 0 1 0 r.fBr.length r.fBr.length false)]) [(0,some (true,.deep [.sl [.sc,.sc,.sc,.sc]] (r.fBr.map zlc)))] 2:=by
 unfold zft at h
 refine fc [(1000,[(2,0),(3,0),(4,0)]),(1001,[(3,0),(4,0),(5,0)]),(1002,[(4,0),(5,0),(11,0),(12,0),(13,0)]),(1003,[(4,0),(5,0),(11,0),(12,0),(13,0),(14,0)]),(1004,[(4,0),(5,0),(7,0),(11,0),(12,0),(13,0)]),(1005,[(4,0),(5,0),(11,0),(12,0),(13,0)]),(1006,[(4,0),(5,0),(11,0),(12,0),(13,0)]),(1007,[(4,0)])] Tryz.func131 ?_
 simp only [Tryz.f131]
 refine sA ?_
 obtain ⟨y305,hl1,h⟩:=zk9 h
 refine zlo (λ g248:zfd=>⟨[(4,(.pb 0 0)),(5,(.lf true (.sl (g248.t5.map zlc)))),(11,(.lf true (.sl (a1.fBr.map zlc)))),(12,(I ((a1.fBr.length:Nat):Int))),(13,(I g248.t13))],[(0,some (true,.box [.nl]))],1,25⟩) (zb7 a1) _ _ hl1 (zlg [some 2]) ?_
 ·intro n1 g248 z1 hs1 hk1
  unfold zb7 at hs1
  try dsimp only at hs1
  refine sA ?_
  refine zle hs1 (λ hs1 hc2=>?_) (λ hs1 hc2=>?_)
  ·refine sA ?_
   obtain ⟨hp3,hs1⟩:=zla hs1
   have hn3:g248.t13.toNat < a1.fBr.length:=by first|omega|(simp;omega)
   refine sA ?_
   refine zlq ?_
   obtain ⟨c304,hr4,hs1⟩:=zk9 hs1
   refine zlh (zk0 hr4) ?_
   refine sA ?_
   cases hs1
   exact zll hk1 (zlg [some 0])
  ·refine sA ?_
   cases hs1
   cases hk1
   try dsimp only at h
   refine sA ?_
   obtain ⟨c307,hr5,h⟩:=zk9 h
   refine zlh (zfu hr5) ?_
   refine sA ?_
   have he:=oi h
   subst he
   exact zld ⟨[(4,(.pb 1 0))],[(0,some (true,.deep [.sl [.sc,.sc,.sc,.sc]] (c307.fBr.map zlc))),(1,some (true,.box [(.os 0 1 0 c307.fBr.length c307.fBr.length false)]))],2,25⟩ [some 1,some 0]
theorem ziu {a0:TellingsT} {a1:TellingsT} {r:(TellingsT×Bool)} (h:zcn a0 a1=some r):Fn Tryz.prog 57 [(.ag [(.lf true (.sl (a0.fBr.map zlc)))]),(.ag [(.lf true (.sl (a1.fBr.map zlc)))])] [] 0 (.tu [(.ag [(.os 0 1 0 r.1.fBr.length r.1.fBr.length false)]),(B r.2)]) [(0,some (true,.deep [.sl [.sc,.sc,.sc,.sc]] (r.1.fBr.map zlc)))] 2:=by
 unfold zcn at h
 refine fc [(1000,[(2,0),(3,0),(4,0)]),(1001,[(2,0),(3,0),(4,0),(14,0)]),(1002,[(4,0),(5,0)]),(1003,[(4,0),(6,0)]),(1004,[(4,0),(6,0),(21,0)]),(1005,[(4,0),(5,0)]),(1006,[(4,0),(5,0)]),(4001,[])] Tryz.func57 ?_
 simp only [Tryz.f57]
 refine sA ?_
 obtain ⟨p247,hq1,h⟩:=zk9 h
 refine zlS (λ s2=>s2=⟨[(2,(.pb 0 0)),(3,(.pb 1 0)),(4,(.pb 2 0)),(14,(B p247.t14))],[(0,some (true,.box [(.lf true (.sl (a0.fBr.map zlc)))])),(1,some (true,.box [(.lf true (.sl (a1.fBr.map zlc)))])),(2,some (true,.box [.nl]))],3,24⟩) ?_ ?_
 ·refine sA ?_
  obtain ⟨c245,hr2,hq1⟩:=zk9 hq1
  refine zlh (zdD hr2) ?_
  refine sA ?_
  refine zlt hq1 (λ hq1 hc3=>?_) (λ hq1 hc3=>?_)
  ·refine sA ?_
   cases hq1
   exact zlr rfl (zlg [some 0,some 1,some 2])
  ·refine sA ?_
   obtain ⟨c246,hr4,hq1⟩:=zk9 hq1
   refine zlh (zdD hr4) ?_
   refine sA ?_
   cases hq1
   exact zlr rfl (zlg [some 0,some 1,some 2])
 ·intro s2 hJ;subst hJ
  try dsimp only at h
  refine sA ?_
  refine zle h (λ h hc5=>?_) (λ h hc5=>?_)
  ·refine sA ?_
   have he:=oi h
   subst he
   exact zld ⟨[(4,(.pb 1 0)),(5,(B false))],[(0,some (true,.deep [.sl [.sc,.sc,.sc,.sc]] (([]:List BranchT).map zlc))),(1,some (true,.box [(.os 0 1 0 (([]:List BranchT).length) (([]:List BranchT).length) false)]))],2,24⟩ [none,some 2]
  ·refine sA ?_
   obtain ⟨c308,hr6,h⟩:=zk9 h
   refine zlh (zkn hr6) ?_
   refine sA ?_
   obtain ⟨c309,hr7,h⟩:=zk9 h
   refine zlh (zdD hr7) ?_
   refine sA ?_
   refine zle h (λ h hc8=>?_) (λ h hc8=>?_)
   ·refine sA ?_
    have he:=oi h
    subst he
    exact zld ⟨[(4,(.pb 1 0)),(5,(B false))],[(0,some (true,.deep [.sl [.sc,.sc,.sc,.sc]] (([]:List BranchT).map zlc))),(1,some (true,.box [(.os 0 1 0 (([]:List BranchT).length) (([]:List BranchT).length) false)]))],2,24⟩ [none,some 2]
   ·refine sA ?_
    have he:=oi h
    subst he
    exact zld ⟨[(4,(.pb 1 0)),(5,(B true))],[(0,some (true,.deep [.sl [.sc,.sc,.sc,.sc]] (c308.fBr.map zlc))),(1,some (true,.box [(.os 0 1 0 c308.fBr.length c308.fBr.length false)]))],2,24⟩ [some 3,some 2]
theorem zjp {a0:RegionT} {a1:WordT} {r:(RegionT×Bool)} (h:zd4 a0 a1=some r):Fn Tryz.prog 10 [(.ag [(I a0.Id),(I a0.fVe),(.lf true (.sl (a0.fTe.fBr.map zlc)))]),(.ag [(I a1.fVe),(.lf true (.sl (a1.fTe.fBr.map zlc)))])] [] 0 (.tu [(.ag [(I r.1.Id),(I r.1.fVe),(.lf false (.sl (r.1.fTe.fBr.map zlc)))]),(B r.2)]) [] 1:=by
 unfold zd4 at h
 refine fc [(1000,[(2,0),(3,0),(4,0)]),(1001,[(2,0),(3,0),(4,0),(19,0)]),(1002,[(4,0),(5,0)]),(1003,[(2,0),(3,0),(4,0),(6,0),(7,0)]),(1004,[(2,0),(3,0),(4,0),(6,0),(30,0)]),(1005,[(4,0),(5,0)]),(1006,[(2,0),(3,0),(4,0),(6,0),(36,0)]),(1007,[(2,0),(4,0),(6,0)]),(1008,[(2,0),(4,0)]),(1009,[(4,0),(5,0)]),(2036,[]),(4001,[])] Tryz.func10 ?_
 simp only [Tryz.f10]
 refine sA ?_
 obtain ⟨p321,hq1,h⟩:=zk9 h
 refine zlS (λ s2=>s2=⟨[(2,(.pb 0 0)),(3,(.pb 1 0)),(4,(.pb 2 0)),(19,(B p321.t19))],[(0,some (true,.box [(I a0.Id),(I a0.fVe),(.lf true (.sl (a0.fTe.fBr.map zlc)))])),(1,some (true,.box [(I a1.fVe),(.lf true (.sl (a1.fTe.fBr.map zlc)))])),(2,some (true,.box [(I 0),(I 0),.nl]))],3,43⟩) ?_ ?_
 ·refine sA ?_
  obtain ⟨c319,hr2,hq1⟩:=zk9 hq1
  refine zlh (zcS hr2) ?_
  refine sA ?_
  refine zlt hq1 (λ hq1 hc3=>?_) (λ hq1 hc3=>?_)
  ·refine sA ?_
   cases hq1
   exact zlr rfl (zlg [some 0,some 1,some 2])
  ·refine sA ?_
   obtain ⟨c320,hr4,hq1⟩:=zk9 hq1
   refine zlh (zcS hr4) ?_
   refine sA ?_
   cases hq1
   exact zlr rfl (zlg [some 0,some 1,some 2])
 ·intro s2 hJ;subst hJ
  try dsimp only at h
  refine sA ?_
  refine zle h (λ h hc5=>?_) (λ h hc5=>?_)
  ·refine sA ?_
   have he:=oi h
   subst he
   exact zld ⟨[(4,(.pb 0 0)),(5,(B false))],[(0,some (true,.box [(I 0),(I 0),(.lf false (.sl (([]).map zlc)))]))],1,43⟩ [some 2]
  ·refine sA ?_
   obtain ⟨c322,hr6,h⟩:=zk9 h
   refine zlh (ziu hr6) ?_
   refine sA ?_
   refine zle h (λ h hc7=>?_) (λ h hc7=>?_)
   ·refine sA ?_
    have he:=oi h
    subst he
    exact zld ⟨[(4,(.pb 0 0)),(5,(B false))],[(0,some (true,.box [(I 0),(I 0),(.lf false (.sl (([]).map zlc)))]))],1,43⟩ [some 2]
   ·refine sA ?_
    obtain ⟨p323,hq8,h⟩:=zk9 h
    refine zlS (λ s2=>s2=⟨[(2,(.pb 0 0)),(4,(.pb 1 0)),(6,(.pb 2 0))],[(0,some (true,.box [(I a0.Id),(I p323.b0_1),(.lf true (.sl (a0.fTe.fBr.map zlc)))])),(1,some (true,.box [(I 0),(I 0),.nl])),(2,some (true,.box [(.os 3 1 0 c322.1.fBr.length c322.1.fBr.length false)])),(3,some (true,.deep [.sl [.sc,.sc,.sc,.sc]] (c322.1.fBr.map zlc)))],4,43⟩) ?_ ?_
    ·refine sA ?_
     refine zle hq8 (λ hq8 hc9=>?_) (λ hq8 hc9=>?_)
     ·refine sA ?_
      cases hq8
      exact zlr rfl (zlg [some 0,some 2,some 5,some 3])
     ·refine sA ?_
      cases hq8
      exact zlr rfl (zlg [some 0,some 2,some 5,some 3])
    ·intro s2 hJ;subst hJ
     try dsimp only at h
     refine sA ?_
     have he:=oi h
     subst he
     refine zmT 3 ?_
     refine sA ?_
     exact zld ⟨[(4,(.pb 0 0)),(5,(B true))],[(0,some (true,.box [(I a0.Id),(I p323.b0_1),(.lf false (.sl (c322.1.fBr.map zlc)))]))],1,43⟩ [some 1]
theorem zhQ {a0:RegionT} {r:Bool} (h:zda a0=some r):Fn Tryz.prog 68 [(.ag [(I a0.Id),(I a0.fVe),(.lf true (.sl (a0.fTe.fBr.map zlc)))])] [] 0 (B r) [] 0:=by
 unfold zda at h
 refine fc [] Tryz.func68 ?_
 simp only [Tryz.f68]
 refine sA ?_
 have he:=oi h
 subst he
 exact zld ⟨[(2,(B ((a0.fVe.tmod 10) == a0.Id)))],[],0,9⟩ []
theorem zhB {a0:(List BranchT)} {r:Int} (h:zcC a0=some r):Fn Tryz.prog 184 [(.lf true (.sl (a0.map zlc)))] [] 0 (I r) [] 0:=by
 unfold zcC at h
 refine fc [(1000,[(0,0)]),(1001,[(0,0),(3,0)]),(1002,[(0,0),(3,0),(9,0),(10,0),(11,0)]),(1003,[(0,0),(3,0),(9,0),(10,0),(11,0),(12,0)]),(1004,[(0,0),(3,0),(4,0),(5,0),(9,0),(10,0),(11,0)]),(1005,[(0,0),(3,0),(4,0),(5,0),(9,0),(10,0),(11,0),(17,0)]),(1006,[(0,0),(3,0),(9,0),(10,0),(11,0)]),(1007,[(0,0),(3,0),(4,0),(5,0),(6,0),(9,0),(10,0),(11,0)]),(1008,[(0,0),(3,0),(4,0),(5,0),(6,0),(7,0),(9,0),(10,0),(11,0)]),(1009,[(0,0),(3,0),(4,0),(5,0),(6,0),(7,0),(8,0),(9,0),(10,0),(11,0)]),(1010,[(0,0),(3,0),(4,0),(9,0),(10,0),(11,0),(55,0)]),(1011,[(0,0),(3,0),(9,0),(10,0),(11,0)]),(1012,[(0,0),(3,0),(9,0),(10,0),(11,0)]),(1013,[(2,0)]),(4010,[])] Tryz.func184 ?_
 simp only [Tryz.f184]
 refine sA ?_
 obtain ⟨y334,hl1,h⟩:=zk9 h
 refine zlo (λ g332:zf1=>⟨[(0,(.lf true (.sl (a0.map zlc)))),(3,(I g332.t3)),(9,(.lf true (.sl (a0.map zlc)))),(10,(I ((a0.length:Nat):Int))),(11,(I g332.t11))],[],0,59⟩) (zJ a0) _ _ hl1 (zlg []) ?_
 ·intro n1 g332 z1 hs1 hk1
  unfold zJ at hs1
  try dsimp only at hs1
  refine sA ?_
  refine zle hs1 (λ hs1 hc2=>?_) (λ hs1 hc2=>?_)
  ·refine sA ?_
   obtain ⟨hp3,hs1⟩:=zla hs1
   have hn3:g332.t11.toNat < a0.length:=by first|omega|(simp;omega)
   refine sA ?_
   refine zlq ?_
   refine zle hs1 (λ hs1 hc4=>?_) (λ hs1 hc4=>?_)
   ·refine sA ?_
    cases hs1
    exact zll hk1 (zlg [])
   ·refine sA ?_
    obtain ⟨hp5,hs1⟩:=zla hs1
    have hn5:g332.t3.toNat < a0.length:=by first|omega|(simp;omega)
    refine sA ?_
    refine zlq ?_
    obtain ⟨hp6,hs1⟩:=zla hs1
    have hn6:(wI (((((nth a0 g332.t11.toNat).fEv).length:Nat):Int) - 1)).toNat < ((nth a0 g332.t11.toNat).fEv).length:=by first|omega|(simp;omega)
    refine sA ?_
    refine zlq ?_
    obtain ⟨hp7,hs1⟩:=zla hs1
    have hn7:(wI (((((nth a0 g332.t3.toNat).fEv).length:Nat):Int) - 1)).toNat < ((nth a0 g332.t3.toNat).fEv).length:=by first|omega|(simp;omega)
    refine sA ?_
    refine zlq ?_
    obtain ⟨p333,hq8,hs1⟩:=zk9 hs1
    refine zlS (λ s2=>s2=⟨[(0,(.lf true (.sl (a0.map zlc)))),(3,(I g332.t3)),(4,(I g332.t11)),(9,(.lf true (.sl (a0.map zlc)))),(10,(I ((a0.length:Nat):Int))),(11,(I g332.t11)),(55,(B p333.t55))],[],0,59⟩) ?_ ?_
    ·refine sA ?_
     refine zlt hq8 (λ hq8 hc9=>?_) (λ hq8 hc9=>?_)
     ·refine sA ?_
      cases hq8
      exact zlr rfl (zlg [])
     ·refine sA ?_
      refine zlt hq8 (λ hq8 hc10=>?_) (λ hq8 hc10=>?_)
      ·refine sA ?_
       cases hq8
       exact zlr rfl (zlg [])
      ·refine sA ?_
       cases hq8
       exact zlr rfl (zlg [])
    ·intro s2 hJ;subst hJ
     try dsimp only at hs1
     refine sA ?_
     refine zle hs1 (λ hs1 hc11=>?_) (λ hs1 hc11=>?_)
     ·refine sA ?_
      cases hs1
      exact zll hk1 (zlg [])
     ·refine sA ?_
      cases hs1
      exact zll hk1 (zlg [])
  ·refine sA ?_
   cases hs1
   cases hk1
   try dsimp only at h
   refine sA ?_
   have he:=oi h
   subst he
   exact zld ⟨[(2,(I g332.t3))],[],0,59⟩ []
theorem zkL {a0:(List BranchT)} {r:(List ByteArray)} (h:zf4 a0=some r):Fn Tryz.prog 138 [(.lf true (.sl (a0.map zlc)))] [] 0 (.os 0 1 0 r.length r.length false) [(0,some (true,.arr false 1 (r.map eS)))] 1:=by
 unfold zf4 at h
 refine fc [(1000,[(0,0)]),(1001,[(0,0),(3,0)]),(1002,[(0,0),(3,0),(16,0)]),(1003,[(2,0)]),(1004,[(0,0),(4,0)]),(1005,[(0,0),(4,0),(6,0)]),(1006,[(4,0),(6,0),(26,0),(27,0),(28,0)]),(1007,[(4,0),(6,0),(26,0),(27,0),(28,0),(29,0)]),(1008,[(4,0),(6,0),(8,0),(26,0),(27,0),(28,0)]),(1009,[(4,0),(6,0),(9,0),(26,0),(27,0),(28,0)]),(1010,[(4,0),(6,0),(26,0),(27,0),(28,0),(39,0),(40,0),(41,0)]),(1011,[(4,0),(6,0),(26,0),(27,0),(28,0),(39,0),(40,0),(41,0),(42,0)]),(1012,[(4,0),(6,0),(12,0),(26,0),(27,0),(28,0),(39,0),(40,0),(41,0)]),(1013,[(4,0),(6,0),(12,0),(26,0),(27,0),(28,0),(39,0),(40,0),(41,0),(55,0)]),(1014,[(4,0),(6,0),(26,0),(27,0),(28,0),(39,0),(40,0),(41,0)]),(1015,[(4,0),(6,0),(26,0),(27,0),(28,0),(39,0),(40,0),(41,0)]),(1016,[(4,0),(6,0),(26,0),(27,0),(28,0)]),(1017,[(2,0)]),(4013,[])] Tryz.func138 ?_
 simp only [Tryz.f138]
 refine sA ?_
 obtain ⟨c335,hr1,h⟩:=zk9 h
 refine zlh (zhB hr1) ?_
 refine sA ?_
 refine zle h (λ h hc2=>?_) (λ h hc2=>?_)
 ·refine sA ?_
  have he:=oi h
  subst he
  exact zld ⟨[(2,(.os 0 1 0 (([]:List ByteArray).length) (([]:List ByteArray).length) false))],[(0,some (true,.arr false 1 (([]:List ByteArray).map eS)))],1,62⟩ [none]
 ·refine sA ?_
  obtain ⟨hp3,h⟩:=zla h
  have hn3:c335.toNat < a0.length:=by first|omega|(simp;omega)
  refine sA ?_
  refine zlq ?_
  obtain ⟨c336,hr4,h⟩:=zk9 h
  refine zlh (zgg hr4) ?_
  refine sA ?_
  obtain ⟨y360,hl5,h⟩:=zk9 h
  refine zlo (λ g337:zfK=>⟨[(4,(.pb 0 0)),(6,(.os 1 1 0 g337.c1.length g337.c1.length false)),(26,(.lf true (.sl (a0.map zlc)))),(27,(I ((a0.length:Nat):Int))),(28,(I g337.t28))],[(0,some (true,.box [(I c336.1.fSt),(I c336.1.Next),(B c336.1.fCa),(I c336.1.Done),(.lf true (.sl (c336.1.fSi.map eS))),(.lf true (.sl (c336.1.fTi.map eS)))])),(1,some (true,.arr false 1 (g337.c1.map eS)))],2,62⟩) (zcF a0 c336) _ _ hl5 (zlg [some 1,none]) ?_
  ·intro n1 g337 z1 hs1 hk1
   unfold zcF at hs1
   try dsimp only at hs1
   refine sA ?_
   refine zle hs1 (λ hs1 hc6=>?_) (λ hs1 hc6=>?_)
   ·refine sA ?_
    obtain ⟨hp7,hs1⟩:=zla hs1
    have hn7:g337.t28.toNat < a0.length:=by first|omega|(simp;omega)
    refine sA ?_
    refine zlq ?_
    obtain ⟨c349,hr8,hs1⟩:=zk9 hs1
    refine zlh (zgg hr8) ?_
    refine sA ?_
    obtain ⟨y359,hl9,hs1⟩:=zk9 hs1
    refine zlo (λ g350:zfL=>⟨[(4,(.pb 0 0)),(6,(.os 1 1 0 g350.c1.length g350.c1.length false)),(26,(.lf true (.sl (a0.map zlc)))),(27,(I ((a0.length:Nat):Int))),(28,(I g337.t28)),(39,(.lf true (.sl (c349.1.fSi.map eS)))),(40,(I ((c349.1.fSi.length:Nat):Int))),(41,(I g350.t41))],[(0,some (true,.box [(I c336.1.fSt),(I c336.1.Next),(B c336.1.fCa),(I c336.1.Done),(.lf true (.sl (c336.1.fSi.map eS))),(.lf true (.sl (c336.1.fTi.map eS)))])),(1,some (true,.arr false 1 (g350.c1.map eS)))],2,62⟩) (zbB c349 c336) _ _ hl9 (zlg [some 0,some 1]) ?_
    ·intro n2 g350 z2 hs2 hk2
     unfold zbB at hs2
     try dsimp only at hs2
     refine sA ?_
     refine zle hs2 (λ hs2 hc10=>?_) (λ hs2 hc10=>?_)
     ·refine sA ?_
      obtain ⟨hp11,hs2⟩:=zla hs2
      have hn11:g350.t41.toNat < c349.1.fSi.length:=by first|omega|(simp;omega)
      refine sA ?_
      refine zlq ?_
      obtain ⟨p357,hq12,hs2⟩:=zk9 hs2
      refine zlS (λ s2=>s2=⟨[(4,(.pb 0 0)),(6,(.os 1 1 0 g350.c1.length g350.c1.length false)),(12,(.lf false (.sc (.string (nth c349.1.fSi g350.t41.toNat))))),(26,(.lf true (.sl (a0.map zlc)))),(27,(I ((a0.length:Nat):Int))),(28,(I g337.t28)),(39,(.lf true (.sl (c349.1.fSi.map eS)))),(40,(I ((c349.1.fSi.length:Nat):Int))),(41,(I g350.t41)),(55,(B p357.t55))],[(0,some (true,.box [(I c336.1.fSt),(I c336.1.Next),(B c336.1.fCa),(I c336.1.Done),(.lf true (.sl (c336.1.fSi.map eS))),(.lf true (.sl (c336.1.fTi.map eS)))])),(1,some (true,.arr false 1 (g350.c1.map eS)))],2,62⟩) ?_ ?_
      ·refine sA ?_
       obtain ⟨c355,hr13,hq12⟩:=zk9 hq12
       refine zlh (zf6 hr13) ?_
       refine sA ?_
       refine zlt hq12 (λ hq12 hc14=>?_) (λ hq12 hc14=>?_)
       ·refine sA ?_
        obtain ⟨c356,hr15,hq12⟩:=zk9 hq12
        refine zlh (zf6 hr15) ?_
        refine sA ?_
        cases hq12
        exact zlr rfl (zlg [some 0,some 1])
       ·refine sA ?_
        cases hq12
        exact zlr rfl (zlg [some 0,some 1])
      ·intro s2 hJ;subst hJ
       try dsimp only at hs2
       refine sA ?_
       refine zle hs2 (λ hs2 hc16=>?_) (λ hs2 hc16=>?_)
       ·refine sA ?_
        obtain ⟨c358,hr17,hs2⟩:=zk9 hs2
        refine zlh (zh5 hr17) ?_
        refine sA ?_
        cases hs2
        exact zll hk2 (zlg [some 0,some 2])
       ·refine sA ?_
        cases hs2
        exact zll hk2 (zlg [some 0,some 1])
     ·refine sA ?_
      cases hs2
      cases hk2
      try dsimp only at hs1
      refine sA ?_
      cases hs1
      exact zll hk1 (zlg [some 0,some 1])
   ·refine sA ?_
    cases hs1
    cases hk1
    try dsimp only at h
    refine sA ?_
    have he:=oi h
    subst he
    exact zld ⟨[(2,(.os 0 1 0 g337.c1.length g337.c1.length false))],[(0,some (true,.arr false 1 (g337.c1.map eS)))],1,62⟩ [some 1]
theorem zjq {a0:RegionT} {r:(List EventT)} (h:zd0 a0=some r):Fn Tryz.prog 188 [(.ag [(I a0.Id),(I a0.fVe),(.lf true (.sl (a0.fTe.fBr.map zlc)))])] [] 0 (.lf true (.sl (r.map zlk))) [] 0:=by
 unfold zd0 at h
 refine fc [(1000,[(1,0)]),(1001,[(1,0),(3,0)]),(1002,[(1,0),(3,0),(9,0)]),(1003,[(2,0)]),(1004,[(2,0)])] Tryz.func188 ?_
 simp only [Tryz.f188]
 refine sA ?_
 obtain ⟨c367,hr1,h⟩:=zk9 h
 refine zlh (zhB hr1) ?_
 refine sA ?_
 refine zle h (λ h hc2=>?_) (λ h hc2=>?_)
 ·refine sA ?_
  have he:=oi h
  subst he
  exact zld ⟨[(2,(.lf true (.sl (([]).map zlk))))],[],0,17⟩ []
 ·refine sA ?_
  obtain ⟨hp3,h⟩:=zla h
  have hn3:c367.toNat < a0.fTe.fBr.length:=by first|omega|(simp;omega)
  refine sA ?_
  refine zlq ?_
  have he:=oi h
  subst he
  exact zld ⟨[(2,(.lf true (.sl (((nth a0.fTe.fBr c367.toNat).fEv).map zlk))))],[],0,17⟩ []
theorem zko {a0:(List BranchT)} {a1:(List EventT)} {m0:Nat} {x0:Bool} {r:(List BranchT)} (h:zdQ a0 a1=some r):Fn Tryz.prog 179 [(.lf true (.sl (a0.map zlc))),(.os 0 4 0 a1.length m0 x0)] [(0,some (false,.arr true 4 (a1.map zlk)))] 1 (.lf true (.sl (r.map zlc))) [(0,some (false,.arr false 4 (a1.map zlk)))] 1:=by
 unfold zdQ at h
 refine fc [(1000,[(0,0),(1,0)]),(1001,[(0,0),(1,0),(5,0)]),(1002,[(0,0),(1,0),(5,0),(6,0)]),(1003,[(0,0),(1,0),(5,0),(6,0),(13,0),(14,0),(15,0)]),(1004,[(0,0),(1,0),(5,0),(6,0),(13,0),(14,0),(15,0),(16,0)]),(1005,[(0,0),(1,0),(5,0),(6,0),(8,0),(13,0),(14,0),(15,0)]),(1006,[(0,0),(1,0),(5,0),(6,0),(13,0),(14,0),(15,0),(22,0)]),(1007,[(4,0)]),(1008,[(0,0),(1,0),(5,0),(6,0),(13,0),(14,0),(15,0)]),(1009,[(1,0),(5,0),(6,0),(25,0),(26,0),(27,0)]),(1010,[(1,0),(5,0),(6,0),(25,0),(26,0),(27,0),(28,0)]),(1011,[(1,0),(5,0),(6,0),(10,0),(25,0),(26,0),(27,0)]),(1012,[(1,0),(5,0),(6,0),(10,0),(25,0),(26,0),(27,0),(34,0)]),(1013,[(1,0),(5,0),(6,0),(10,0),(11,0),(25,0),(26,0),(27,0)]),(1014,[(1,0),(5,0),(6,0),(10,0),(25,0),(26,0),(27,0),(47,0)]),(1015,[(1,0),(5,0),(10,0),(25,0),(26,0),(27,0)]),(1016,[(1,0),(5,0),(6,0),(10,0),(25,0),(26,0),(27,0)]),(1017,[(1,0),(5,0),(6,0),(25,0),(26,0),(27,0)]),(1018,[(1,0),(5,0),(6,0),(25,0),(26,0),(27,0)]),(1019,[(1,0),(5,0),(63,0)]),(1020,[(5,0)]),(1021,[(4,0)]),(4014,[]),(5017,[])] Tryz.func179 ?_
 simp only [Tryz.f179]
 refine sA ?_
 obtain ⟨y377,hl1,h⟩:=zk9 h
 refine zlo (λ g374:zfe=>⟨[(0,(.lf true (.sl (a0.map zlc)))),(1,(.os 0 4 0 a1.length m0 x0)),(5,.nl),(6,(B false)),(13,(.lf true (.sl (a0.map zlc)))),(14,(I ((a0.length:Nat):Int))),(15,(I g374.t15))],[(0,some (false,.arr true 4 (a1.map zlk)))],1,71⟩) (zbe a0 a1) _ _ hl1 (zlg [some 0]) ?_
 ·intro n1 g374 z1 hs1 hk1
  unfold zbe at hs1
  try dsimp only at hs1
  refine sA ?_
  refine zle hs1 (λ hs1 hc2=>?_) (λ hs1 hc2=>?_)
  ·refine sA ?_
   obtain ⟨hp3,hs1⟩:=zla hs1
   have hn3:g374.t15.toNat < a0.length:=by first|omega|(simp;omega)
   refine sA ?_
   refine zlq ?_
   obtain ⟨c376,hr4,hs1⟩:=zk9 hs1
   refine zlh (zdq hr4) ?_
   refine sA ?_
   refine zle hs1 (λ hs1 hc5=>?_) (λ hs1 hc5=>?_)
   ·refine sA ?_
    cases hs1
    cases hk1
    try dsimp only at h
    refine sA ?_
    have he:=oi h
    subst he
    exact zld ⟨[(4,(.lf true (.sl (a0.map zlc))))],[(0,some (false,.arr false 4 (a1.map zlk)))],1,71⟩ [some 0]
   ·refine sA ?_
    cases hs1
    exact zll hk1 (zlg [some 0])
  ·refine sA ?_
   cases hs1
   cases hk1
   try dsimp only at h
   refine sA ?_
   obtain ⟨y413,hl6,h⟩:=zk9 h
   refine zlo (λ g398:zgH=>⟨[(1,(.os 0 4 0 a1.length m0 x0)),(5,(.os 1 1 0 g398.c1.length g398.c1.length false)),(6,(B g398.t6)),(25,(.lf true (.sl (a0.map zlc)))),(26,(I ((a0.length:Nat):Int))),(27,(I g398.t27))],[(0,some (false,.arr true 4 (a1.map zlk))),(1,some (true,.deep [.sl [.sc,.sc,.sc,.sc]] (g398.c1.map zlc)))],2,71⟩) (_) _ _ hl6 (zlg [some 0,none]) ?_
   ·intro n3 g398 z3 hs3 hk3
    unfold zb8 at hs3
    try dsimp only at hs3
    refine sA ?_
    refine zle hs3 (λ hs3 hc7=>?_) (λ hs3 hc7=>?_)
    ·refine sA ?_
     obtain ⟨hp8,hs3⟩:=zla hs3
     have hn8:g398.t27.toNat < a0.length:=by first|omega|(simp;omega)
     refine sA ?_
     refine zlq ?_
     obtain ⟨c406,hr9,hs3⟩:=zk9 hs3
     refine zlh (zdq hr9) ?_
     refine sA ?_
     refine zle hs3 (λ hs3 hc10=>?_) (λ hs3 hc10=>?_)
     ·refine sA ?_
      cases hs3
      exact zll hk3 (zlg [some 0,some 1])
     ·refine sA ?_
      obtain ⟨c407,hr11,hs3⟩:=zk9 hs3
      refine zlh (zcR hr11) ?_
      refine sA ?_
      obtain ⟨p408,hq12,hs3⟩:=zk9 hs3
      refine zlS (λ s2=>s2=⟨[(1,(.os 0 4 0 a1.length m0 x0)),(5,(.os 1 1 0 g398.c1.length g398.c1.length false)),(6,(B g398.t6)),(10,(.pb 2 0)),(25,(.lf true (.sl (a0.map zlc)))),(26,(I ((a0.length:Nat):Int))),(27,(I g398.t27)),(47,(B p408.t47))],[(0,some (false,.arr true 4 (a1.map zlk))),(1,some (true,.deep [.sl [.sc,.sc,.sc,.sc]] (g398.c1.map zlc))),(2,some (true,.box [(.lf true (.sl (((nth a0 g398.t27.toNat).fEv).map zlk)))]))],3,71⟩) ?_ ?_
      ·refine sA ?_
       refine zlt hq12 (λ hq12 hc13=>?_) (λ hq12 hc13=>?_)
       ·refine sA ?_
        cases hq12
        exact zlr rfl (zlg [some 0,some 1,some 2])
       ·refine sA ?_
        cases hq12
        exact zlr rfl (zlg [some 0,some 1,some 2])
      ·intro s2 hJ;subst hJ
       try dsimp only at hs3
       refine sA ?_
       refine zle hs3 (λ hs3 hc14=>?_) (λ hs3 hc14=>?_)
       ·refine sA ?_
        obtain ⟨c409,hr15,hs3⟩:=zk9 hs3
        refine zlh (zN hr15) ?_
        refine sA ?_
        obtain ⟨hp16,hs3⟩:=zla hs3
        refine sA ?_
        refine zlq ?_
        refine zvm 5 ?_
        refine sA ?_
        obtain ⟨c411,hr17,hs3⟩:=zk9 hs3
        refine zlh (zN hr17) ?_
        refine sA ?_
        obtain ⟨hp18,hs3⟩:=zla hs3
        refine sA ?_
        refine zlq ?_
        cases hs3
        exact zll hk3 (zn7 8 (zlg [some 0,some 8]))
       ·refine sA ?_
        refine zB3 ?_
        refine sA ?_
        obtain ⟨c412,hr19,hs3⟩:=zk9 hs3
        refine zlh (zN hr19) ?_
        refine sA ?_
        obtain ⟨hp20,hs3⟩:=zla hs3
        refine sA ?_
        refine zlq ?_
        cases hs3
        exact zll hk3 (zn7 5 (zlg [some 0,some 5]))
    ·refine sA ?_
     cases hs3
     cases hk3
     try dsimp only at h
     refine sA ?_
     refine zle h (λ h hc21=>?_) (λ h hc21=>?_)
     ·refine sA ?_
      obtain ⟨c415,hr22,h⟩:=zk9 h
      refine zlh (zN hr22) ?_
      refine sA ?_
      obtain ⟨hp23,h⟩:=zla h
      refine sA ?_
      refine zlq ?_
      have he:=oi h
      subst he
      refine zom 4 ?_
      refine sA ?_
      refine zmT 4 ?_
      refine sA ?_
      exact zld ⟨[(4,(.lf true (.sl ((g398.c1++[(⟨c415⟩:BranchT)]).map zlc))))],[(0,some (false,.arr false 4 (a1.map zlk)))],1,71⟩ [some 0]
     ·refine sA ?_
      have he:=oi h
      subst he
      refine zmT 1 ?_
      refine sA ?_
      exact zld ⟨[(4,(.lf true (.sl (g398.c1.map zlc))))],[(0,some (false,.arr false 4 (a1.map zlk)))],1,71⟩ [some 0]
theorem zkM {a0:RegionT} {a1:Int} {a2:ByteArray} {r:(RegionT×Int)} (h:zeU a0 a1 a2=some r):Fn Tryz.prog 139 [(.ag [(I a0.Id),(I a0.fVe),(.lf true (.sl (a0.fTe.fBr.map zlc)))]),(I a1),(.lf false (.sc (.string a2)))] [] 0 (.tu [(.ag [(I r.1.Id),(I r.1.fVe),(.lf true (.sl (r.1.fTe.fBr.map zlc)))]),(I r.2)]) [] 1:=by
 unfold zeU at h
 refine fc [(15,[(2,4),(5,4),(2,6),(2,7),(6,6)]),(1000,[(1,0),(2,0),(3,0),(6,0)]),(1001,[(1,0),(2,0),(3,0),(6,0),(21,0)]),(1002,[(6,0),(7,0)]),(1003,[(1,0),(2,0),(3,0),(6,0),(25,0)]),(1004,[(6,0),(7,0)]),(1005,[(1,0),(2,0),(3,0),(6,0),(8,0)]),(1006,[(1,0),(2,0),(3,0),(6,0),(8,0),(9,0)]),(1007,[(1,0),(2,0),(3,0),(6,0),(8,0),(9,0),(42,0)]),(1008,[(6,0),(7,0)]),(1009,[(3,0),(6,0),(8,0),(9,0),(11,0)]),(1010,[(3,0),(6,0),(8,0),(11,0),(13,0)]),(1011,[(3,0),(6,0),(8,0),(11,0),(58,0)]),(1012,[(6,0),(7,0)]),(1013,[(3,0),(6,0),(8,0),(11,0),(62,0)]),(1014,[(6,0),(7,0)]),(1015,[(3,0),(6,0)]),(1016,[(6,0),(7,0)]),(4001,[]),(4007,[])] Tryz.func139 ?_
 simp only [Tryz.f139]
 refine sA ?_
 obtain ⟨p365,hq1,h⟩:=zk9 h
 refine zlS (λ s2=>s2=⟨[(1,(I a1)),(2,(.lf false (.sc (.string a2)))),(3,(.pb 0 0)),(6,(.pb 1 0)),(21,(B p365.t21))],[(0,some (true,.box [(I a0.Id),(I a0.fVe),(.lf true (.sl (a0.fTe.fBr.map zlc)))])),(1,some (true,.box [(I 0),(I 0),.nl]))],2,77⟩) ?_ ?_
 ·refine sA ?_
  obtain ⟨c363,hr2,hq1⟩:=zk9 hq1
  refine zlh (zbu hr2) ?_
  refine sA ?_
  refine zlt hq1 (λ hq1 hc3=>?_) (λ hq1 hc3=>?_)
  ·refine sA ?_
   cases hq1
   exact zlr rfl (zlg [some 0,some 1])
  ·refine sA ?_
   obtain ⟨c364,hr4,hq1⟩:=zk9 hq1
   refine zlh (zhq hr4) ?_
   refine sA ?_
   cases hq1
   exact zlr rfl (zlg [some 0,some 1])
 ·intro s2 hJ;subst hJ
  try dsimp only at h
  refine sA ?_
  refine zle h (λ h hc5=>?_) (λ h hc5=>?_)
  ·refine sA ?_
   have he:=oi h
   subst he
   exact zld ⟨[(6,(.pb 0 0)),(7,(I 1))],[(0,some (true,.box [(I a0.Id),(I a0.fVe),(.lf true (.sl (a0.fTe.fBr.map zlc)))]))],1,77⟩ [some 1]
  ·refine sA ?_
   obtain ⟨c366,hr6,h⟩:=zk9 h
   refine zlh (zhQ hr6) ?_
   refine sA ?_
   refine zle h (λ h hc7=>?_) (λ h hc7=>?_)
   ·refine sA ?_
    have he:=oi h
    subst he
    exact zld ⟨[(6,(.pb 0 0)),(7,(I 2))],[(0,some (true,.box [(I a0.Id),(I a0.fVe),(.lf true (.sl (a0.fTe.fBr.map zlc)))]))],1,77⟩ [some 1]
   ·refine sA ?_
    obtain ⟨c368,hr8,h⟩:=zk9 h
    refine zlh (zjq hr8) ?_
    refine sA ?_
    obtain ⟨c369,hr9,h⟩:=zk9 h
    refine zlh (zgg hr9) ?_
    refine sA ?_
    obtain ⟨p371,hq10,h⟩:=zk9 h
    refine zlS (λ s2=>s2=⟨[(1,(I a1)),(2,(.lf false (.sc (.string a2)))),(3,(.pb 0 0)),(6,(.pb 1 0)),(8,(.lf true (.sl (c368.map zlk)))),(9,(.pb 2 0)),(42,(B p371.t42))],[(0,some (true,.box [(I a0.Id),(I a0.fVe),(.lf true (.sl (a0.fTe.fBr.map zlc)))])),(1,some (true,.box [(I 0),(I 0),.nl])),(2,some (true,.box [(I c369.1.fSt),(I c369.1.Next),(B c369.1.fCa),(I c369.1.Done),(.lf true (.sl (c369.1.fSi.map eS))),(.lf true (.sl (c369.1.fTi.map eS)))]))],3,77⟩) ?_ ?_
    ·refine sA ?_
     refine zlt hq10 (λ hq10 hc11=>?_) (λ hq10 hc11=>?_)
     ·refine sA ?_
      obtain ⟨c370,hr12,hq10⟩:=zk9 hq10
      refine zlh (zf6 hr12) ?_
      refine sA ?_
      cases hq10
      exact zlr rfl (zlg [some 0,some 1,some 3])
     ·refine sA ?_
      cases hq10
      exact zlr rfl (zlg [some 0,some 1,some 3])
    ·intro s2 hJ;subst hJ
     try dsimp only at h
     refine sA ?_
     refine zle h (λ h hc13=>?_) (λ h hc13=>?_)
     ·refine sA ?_
      have he:=oi h
      subst he
      exact zld ⟨[(6,(.pb 0 0)),(7,(I 5))],[(0,some (true,.box [(I a0.Id),(I a0.fVe),(.lf true (.sl (a0.fTe.fBr.map zlc)))]))],1,77⟩ [some 1]
     ·refine sA ?_
      obtain ⟨c372,hr14,h⟩:=zk9 h
      refine zlh (zh7 hr14) ?_
      refine sA ?_
      refine zle h (λ h hc15=>?_) (λ h hc15=>?_)
      ·refine sA ?_
       have he:=oi h
       subst he
       exact zld ⟨[(6,(.pb 0 0)),(7,(I 3))],[(0,some (true,.box [(I a0.Id),(I a0.fVe),(.lf true (.sl (a0.fTe.fBr.map zlc)))]))],1,77⟩ [some 1]
      ·refine sA ?_
       refine zle h (λ h hc16=>?_) (λ h hc16=>?_)
       ·refine sA ?_
        have he:=oi h
        subst he
        exact zld ⟨[(6,(.pb 0 0)),(7,(I 4))],[(0,some (true,.box [(I a0.Id),(I a0.fVe),(.lf true (.sl (a0.fTe.fBr.map zlc)))]))],1,77⟩ [some 1]
       ·refine sA ?_
        obtain ⟨c373,hr17,h⟩:=zk9 h
        refine zlh (zN hr17) ?_
        refine sA ?_
        obtain ⟨hp18,h⟩:=zla h
        refine sA ?_
        refine zlq ?_
        obtain ⟨c416,hr19,h⟩:=zk9 h
        refine znM [8] (zko hr19) ?_
        refine sA ?_
        obtain ⟨c417,hr20,h⟩:=zk9 h
        refine zlh (zfu hr20) ?_
        refine sA ?_
        have he:=oi h
        subst he
        refine zmT 9 ?_
        refine sA ?_
        exact zld ⟨[(6,(.pb 0 0)),(7,(I 0))],[(0,some (true,.box [(I a0.Id),(I a0.fVe),(.lf true (.sl (c417.fBr.map zlc)))]))],1,77⟩ [some 1]
theorem zjr {a0:RegionT} {r:(RegionT×Int)} (h:zd3 a0=some r):Fn Tryz.prog 69 [(.ag [(I a0.Id),(I a0.fVe),(.lf true (.sl (a0.fTe.fBr.map zlc)))])] [] 0 (.tu [(.ag [(I r.1.Id),(I r.1.fVe),(.lf true (.sl (r.1.fTe.fBr.map zlc)))]),(I r.2)]) [] 1:=by
 unfold zd3 at h
 refine fc [(1000,[(1,0),(2,0)]),(1001,[(1,0),(2,0),(4,0)]),(1002,[(1,0),(2,0),(4,0),(12,0),(13,0),(14,0)]),(1003,[(1,0),(2,0),(4,0),(12,0),(13,0),(14,0),(15,0)]),(1004,[(1,0),(2,0),(4,0),(6,0),(12,0),(13,0),(14,0)]),(1005,[(1,0),(2,0),(4,0),(7,0),(8,0),(12,0),(13,0),(14,0)]),(1006,[(1,0),(2,0),(4,0),(7,0),(12,0),(13,0),(14,0),(25,0)]),(1007,[(1,0),(2,0),(4,0),(12,0),(13,0),(14,0)]),(1008,[(1,0),(2,0),(4,0),(12,0),(13,0),(14,0)]),(1009,[(1,0),(2,0),(4,0),(12,0),(13,0),(14,0)]),(1010,[(2,0),(3,0)])] Tryz.func69 ?_
 simp only [Tryz.f69]
 refine sA ?_
 obtain ⟨c361,hr1,h⟩:=zk9 h
 refine zlh (zkL hr1) ?_
 refine sA ?_
 obtain ⟨y420,hl2,h⟩:=zk9 h
 refine zlo (λ g362:zd2=>⟨[(1,(.pb 0 0)),(2,(.pb 1 0)),(4,(I g362.t4)),(12,(.os 2 1 0 c361.length c361.length false)),(13,(I ((c361.length:Nat):Int))),(14,(I g362.t14))],[(0,some (true,.box [(I g362.b0_0),(I g362.b0_1),(.lf true (.sl (g362.b0_2.map zlc)))])),(1,some (true,.box [(I 0),(I 0),.nl])),(2,some (true,.arr false 1 (c361.map eS)))],3,32⟩) (zaC c361) _ _ hl2 (zlg [some 0,some 1,some 2]) ?_
 ·intro n1 g362 z1 hs1 hk1
  unfold zaC at hs1
  try dsimp only at hs1
  refine sA ?_
  refine zle hs1 (λ hs1 hc3=>?_) (λ hs1 hc3=>?_)
  ·refine sA ?_
   obtain ⟨hp4,hs1⟩:=zla hs1
   have hn4:g362.t14.toNat < c361.length:=by first|omega|(simp;omega)
   refine sA ?_
   refine zlq ?_
   refine zo1 ?_
   refine sA ?_
   obtain ⟨c419,hr6,hs1⟩:=zk9 hs1
   refine zlh (zkM hr6) ?_
   refine sA ?_
   refine zle hs1 (λ hs1 hc7=>?_) (λ hs1 hc7=>?_)
   ·refine sA ?_
    cases hs1
    exact zll hk1 (zlg [some 0,some 1,some 2])
   ·refine sA ?_
    cases hs1
    exact zll hk1 (zlg [some 0,some 1,some 2])
  ·refine sA ?_
   cases hs1
   cases hk1
   try dsimp only at h
   refine sA ?_
   have he:=oi h
   subst he
   exact zld ⟨[(2,(.pb 0 0)),(3,(I g362.t4))],[(0,some (true,.box [(I g362.b0_0),(I g362.b0_1),(.lf true (.sl (g362.b0_2.map zlc)))]))],1,32⟩ [some 1]
theorem zib {a0:TellingsT} {a1:TellingsT} {r:Bool} (h:zbz a0 a1=some r):Fn Tryz.prog 165 [(.ag [(.lf true (.sl (a0.fBr.map zlc)))]),(.ag [(.lf true (.sl (a1.fBr.map zlc)))])] [] 0 (B r) [] 0:=by
 unfold zbz at h
 refine fc [(1000,[(2,0),(3,0)]),(1001,[(2,0),(3,0),(14,0)]),(1002,[(4,0)]),(1003,[(2,0),(3,0),(17,0),(18,0)]),(1004,[(2,0),(3,0),(17,0),(18,0),(19,0)]),(1005,[(2,0),(3,0),(5,0),(17,0),(18,0)]),(1006,[(2,0),(3,0),(6,0),(17,0),(18,0)]),(1007,[(2,0),(3,0),(17,0),(18,0),(38,0)]),(1008,[(4,0)]),(1009,[(2,0),(3,0),(17,0),(18,0)]),(1010,[(4,0)])] Tryz.func165 ?_
 simp only [Tryz.f165]
 refine sA ?_
 refine zle h (λ h hc1=>?_) (λ h hc1=>?_)
 ·refine sA ?_
  have he:=oi h
  subst he
  exact zld ⟨[(4,(B false))],[],0,40⟩ []
 ·refine sA ?_
  obtain ⟨y428,hl2,h⟩:=zk9 h
  refine zlo (λ g425:zbS=>⟨[(2,(.pb 0 0)),(3,(.pb 1 0)),(17,(I ((a0.fBr.length:Nat):Int))),(18,(I g425.t18))],[(0,some (true,.box [(.lf true (.sl (a0.fBr.map zlc)))])),(1,some (true,.box [(.lf true (.sl (a1.fBr.map zlc)))]))],2,40⟩) (zah a0 a1) _ _ hl2 (zlg [some 0,some 1]) ?_
  ·intro n1 g425 z1 hs1 hk1
   unfold zah at hs1
   try dsimp only at hs1
   refine sA ?_
   refine zle hs1 (λ hs1 hc3=>?_) (λ hs1 hc3=>?_)
   ·refine sA ?_
    obtain ⟨hp4,hs1⟩:=zla hs1
    have hn4:g425.t18.toNat < a0.fBr.length:=by first|omega|(simp;omega)
    refine sA ?_
    refine zlq ?_
    obtain ⟨hp5,hs1⟩:=zla hs1
    have hn5:g425.t18.toNat < a1.fBr.length:=by first|omega|(simp;omega)
    refine sA ?_
    refine zlq ?_
    obtain ⟨c427,hr6,hs1⟩:=zk9 hs1
    refine zlh (zcR hr6) ?_
    refine sA ?_
    refine zle hs1 (λ hs1 hc7=>?_) (λ hs1 hc7=>?_)
    ·refine sA ?_
     cases hs1
     cases hk1
     try dsimp only at h
     refine sA ?_
     have he:=oi h
     subst he
     exact zld ⟨[(4,(B false))],[],0,40⟩ []
    ·refine sA ?_
     cases hs1
     exact zll hk1 (zlg [some 0,some 1])
   ·refine sA ?_
    cases hs1
    cases hk1
    try dsimp only at h
    refine sA ?_
    have he:=oi h
    subst he
    exact zld ⟨[(4,(B true))],[],0,40⟩ []
theorem zig {a0:RegionT} {a1:RegionT} {r:Bool} (h:zeQ a0 a1=some r):Fn Tryz.prog 100 [(.ag [(I a0.Id),(I a0.fVe),(.lf true (.sl (a0.fTe.fBr.map zlc)))]),(.ag [(I a1.Id),(I a1.fVe),(.lf true (.sl (a1.fTe.fBr.map zlc)))])] [] 0 (B r) [] 0:=by
 unfold zeQ at h
 refine fc [] Tryz.func100 ?_
 simp only [Tryz.f100]
 refine sA ?_
 refine zlt h (λ h hc1=>?_) (λ h hc1=>?_)
 ·refine sA ?_
  obtain ⟨c431,hr2,h⟩:=zk9 h
  refine zlh (zib hr2) ?_
  refine sA ?_
  have he:=oi h
  subst he
  exact zld ⟨[(4,(B c431))],[],0,17⟩ []
 ·refine sA ?_
  have he:=oi h
  subst he
  exact zld ⟨[(4,(B false))],[],0,17⟩ []
theorem ziX {a0:WorldT} {r:(WorldT×Int×Bool)} (h:zdm a0=some r):Fn Tryz.prog 36 [(.ag [(.lf true (.sl (a0.fRe.map zlj))),(.lf true (.sl (a0.Line.map zlz)))])] [] 0 (.tu [(.ag [(.os 0 3 0 r.1.fRe.length r.1.fRe.length false),(.os 1 3 0 r.1.Line.length r.1.Line.length false)]),(I r.2.1),(B r.2.2)]) [(0,some (true,.arr false 3 (r.1.fRe.map zlj))),(1,some (true,.arr false 3 (r.1.Line.map zlz)))] 3:=by
 unfold zdm at h
 refine fc [(13,[(1,10),(4,10),(5,10)]),(22,[(1,4)]),(1000,[(1,0),(2,0)]),(1001,[(1,0),(2,0),(17,0)]),(1002,[(2,0),(3,0),(4,0)]),(1003,[(1,0),(2,0)]),(1004,[(1,0),(2,0)]),(1005,[(1,0),(2,0),(5,0)]),(1006,[(1,0),(2,0),(5,0),(23,0)]),(1007,[(1,0),(2,0),(5,0)]),(1008,[(1,0),(2,0),(5,0),(6,0)]),(1009,[(1,0),(2,0),(5,0),(6,0),(28,0),(29,0),(30,0)]),(1010,[(1,0),(2,0),(5,0),(6,0),(28,0),(29,0),(30,0),(31,0)]),(1011,[(1,0),(2,0),(5,0),(6,0),(8,0),(28,0),(29,0),(30,0)]),(1012,[(1,0),(2,0),(5,0),(6,0),(8,0),(9,0),(28,0),(29,0),(30,0)]),(1013,[(1,0),(2,0),(5,0),(6,0),(8,0),(11,0),(12,0),(28,0),(29,0),(30,0)]),(1014,[(1,0),(2,0),(5,0),(6,0),(8,0),(11,0),(28,0),(29,0),(30,0),(55,0)]),(1015,[(2,0),(3,0),(4,0)]),(1016,[(1,0),(2,0),(5,0),(6,0),(28,0),(29,0),(30,0)]),(1017,[(1,0),(2,0),(5,0),(6,0),(28,0),(29,0),(30,0)]),(1018,[(1,0),(2,0),(5,0),(6,0),(64,0),(65,0),(66,0)]),(1019,[(1,0),(2,0),(5,0),(6,0),(64,0),(65,0),(66,0),(67,0)]),(1020,[(1,0),(2,0),(5,0),(6,0),(13,0),(14,0),(64,0),(65,0),(66,0)]),(1021,[(1,0),(2,0),(5,0),(6,0),(13,0),(14,0),(64,0),(65,0),(66,0),(72,0)]),(1022,[(1,0),(2,0),(5,0),(6,0),(64,0),(65,0),(66,0)]),(1023,[(1,0),(2,0),(5,0),(6,0),(64,0),(65,0),(66,0)]),(1024,[(1,0),(2,0),(5,0),(102,0)]),(1025,[(2,0),(3,0),(4,0)]),(1026,[(2,0),(3,0),(4,0)]),(4024,[])] Tryz.func36 ?_
 simp only [Tryz.f36]
 refine sA ?_
 obtain ⟨c313,hr1,h⟩:=zk9 h
 refine zlh (zjV hr1) ?_
 refine sA ?_
 refine zle h (λ h hc2=>?_) (λ h hc2=>?_)
 ·refine sA ?_
  have he:=oi h
  subst he
  exact zld ⟨[(2,(.pb 2 0)),(3,(I 0)),(4,(B false))],[(0,some (true,.arr false 3 (([]:List RegionT).map zlj))),(1,some (true,.arr false 3 (([]:List SaidT).map zlz))),(2,some (true,.box [(.os 0 3 0 (([]:List RegionT).length) (([]:List RegionT).length) false),(.os 1 3 0 (([]:List SaidT).length) (([]:List SaidT).length) false)]))],3,107⟩ [none,none,some 1]
 ·refine sA ?_
  obtain ⟨c314,hr3,h⟩:=zk9 h
  refine zlh (zhr hr3) ?_
  refine sA ?_
  obtain ⟨y491,hl4,h⟩:=zk9 h
  refine zlo (λ g315:zfz=>⟨[(1,(.pb 0 0)),(2,(.pb 1 0)),(5,(I g315.t5))],[(0,some (true,.box [(.os 2 3 0 g315.c2.length g315.c2.length false),.nl])),(1,some (true,.box [.nl,.nl])),(2,some (true,.arr true 3 (g315.c2.map zlj)))],3,107⟩) (zaa) _ _ hl4 (zlg [some 0,some 1,some 2]) ?_
  ·intro n1 g315 z1 hs1 hk1
   unfold zaa at hs1
   try dsimp only at hs1
   refine sA ?_
   refine zle hs1 (λ hs1 hc5=>?_) (λ hs1 hc5=>?_)
   ·refine sA ?_
    obtain ⟨c454,hr6,hs1⟩:=zk9 hs1
    refine zya (zhr hr6) ?_
    refine sA ?_
    obtain ⟨y460,hl7,hs1⟩:=zk9 hs1
    refine zlo (λ g455:zfA=>⟨[(1,(.pb 0 0)),(2,(.pb 1 0)),(5,(I g315.t5)),(6,(.pb 2 0)),(28,(.os 3 1 0 2 2 true)),(29,(I 2)),(30,(I g455.t30))],[(0,some (true,.box [(.os 4 3 0 g455.c4.length g455.c4.length false),.nl])),(1,some (true,.box [.nl,.nl])),(2,some (true,.box [(.os 5 3 0 c454.fRe.length c454.fRe.length false),(.os 6 3 0 c454.Line.length c454.Line.length false)])),(3,some (true,.arr false 1 (([1,0]).map eI))),(4,some (true,.arr true 3 (g455.c4.map zlj))),(5,some (true,.arr false 3 (c454.fRe.map zlj))),(6,some (true,.arr false 3 (c454.Line.map zlz)))],7,107⟩) (zT) _ _ hl7 (zlg [some 0,some 1,some 6,some 7,some 2,some 3,some 4]) ?_
    ·intro n2 g455 z2 hs2 hk2
     unfold zT at hs2
     try dsimp only at hs2
     generalize hlit0:([1,0]:List Int)=lit0 at hs2 ⊢
     have hlit0l:lit0.length=2:=by rw [← hlit0];rfl
     refine sA ?_
     refine zle hs2 (λ hs2 hc8=>?_) (λ hs2 hc8=>?_)
     ·refine sA ?_
      obtain ⟨hp9,hs2⟩:=zla hs2
      have hn9:g455.t30.toNat < lit0.length:=by first | (rw [hlit0l];omega) | omega | (simp only [qL,qM,qN,qO];omega)
      refine sA ?_
      refine zlq ?_
      refine zo1 ?_
      refine sA ?_
      obtain ⟨hp11,hs2⟩:=zla hs2
      have hn11:(wI (1 - (nth lit0 g455.t30.toNat))).toNat < g455.c4.length:=by first|omega|(simp;omega)
      refine sA ?_
      refine zlq ?_
      refine zo1 ?_
      refine sA ?_
      obtain ⟨c458,hr13,hs2⟩:=zk9 hs2
      refine zlh (zkZ hr13) ?_
      refine sA ?_
      obtain ⟨hp14,hs2⟩:=zla hs2
      have hn14:(nth lit0 g455.t30.toNat).toNat < g455.c4.length:=by first|omega|(simp;omega)
      refine sA ?_
      refine zlq ?_
      refine zo1 ?_
      refine sA ?_
      obtain ⟨c459,hr16,hs2⟩:=zk9 hs2
      refine zlh (zjp hr16) ?_
      refine sA ?_
      refine zle hs2 (λ hs2 hc17=>?_) (λ hs2 hc17=>?_)
      ·refine sA ?_
       cases hs2
       cases hk2
       try dsimp only at hs1
       try simp only [hlit0] at hs1
       refine sA ?_
       cases hs1
       cases hk1
       try dsimp only at h
       refine sA ?_
       have he:=oi h
       subst he
       exact zld ⟨[(2,(.pb 2 0)),(3,(I 0)),(4,(B false))],[(0,some (true,.arr false 3 (([]:List RegionT).map zlj))),(1,some (true,.arr false 3 (([]:List SaidT).map zlz))),(2,some (true,.box [(.os 0 3 0 (([]:List RegionT).length) (([]:List RegionT).length) false),(.os 1 3 0 (([]:List SaidT).length) (([]:List SaidT).length) false)]))],3,107⟩ [none,none,some 1]
      ·refine sA ?_
       obtain ⟨hp18,hs2⟩:=zla hs2
       have hn18:(nth lit0 g455.t30.toNat).toNat < g455.c4.length:=by first|omega|(simp;omega)
       refine sA ?_
       refine zlq ?_
       refine zo1 ?_
       refine sA ?_
       cases hs2
       exact zll hk2 (zlg [some 0,some 1,some 2,some 3,some 4,some 5,some 6])
     ·refine sA ?_
      cases hs2
      cases hk2
      try dsimp only at hs1
      try simp only [hlit0] at hs1
      refine sA ?_
      obtain ⟨y482,hl20,hs1⟩:=zk9 hs1
      refine zlo (λ g477:zfB=>⟨[(1,(.pb 0 0)),(2,(.pb 1 0)),(5,(I g315.t5)),(6,(.pb 2 0)),(64,(.os 3 3 0 g477.c3.length g477.c3.length false)),(65,(I ((g455.c4.length:Nat):Int))),(66,(I g477.t66))],[(0,some (true,.box [(.os 3 3 0 g477.c3.length g477.c3.length false),.nl])),(1,some (true,.box [.nl,.nl])),(2,some (true,.box [(.os 4 3 0 c454.fRe.length c454.fRe.length false),(.os 5 3 0 c454.Line.length c454.Line.length false)])),(3,some (true,.arr true 3 (g477.c3.map zlj))),(4,some (true,.arr false 3 (c454.fRe.map zlj))),(5,some (true,.arr false 3 (c454.Line.map zlz)))],6,107⟩) (_) _ _ hl20 (zlg [some 0,some 1,some 2,some 4,some 5,some 6]) ?_
      ·intro n4 g477 z4 hs4 hk4
       unfold z8 at hs4
       try dsimp only at hs4
       try simp only [hlit0] at hs4
       refine sA ?_
       refine zle hs4 (λ hs4 hc21=>?_) (λ hs4 hc21=>?_)
       ·refine sA ?_
        obtain ⟨hp22,hs4⟩:=zla hs4
        have hn22:g477.t66.toNat < g477.c3.length:=by first|omega|(simp;omega)
        refine sA ?_
        refine zlq ?_
        refine zo1 ?_
        refine sA ?_
        obtain ⟨c480,hr24,hs4⟩:=zk9 hs4
        refine zlh (zhQ hr24) ?_
        refine sA ?_
        refine zle hs4 (λ hs4 hc25=>?_) (λ hs4 hc25=>?_)
        ·refine sA ?_
         obtain ⟨c481,hr26,hs4⟩:=zk9 hs4
         refine zlh (zjr hr26) ?_
         refine sA ?_
         obtain ⟨hp27,hs4⟩:=zla hs4
         have hn27:g477.t66.toNat < g477.c3.length:=by first|omega|(simp;omega)
         refine sA ?_
         refine zlq ?_
         refine zo1 ?_
         refine sA ?_
         cases hs4
         exact zll hk4 (zlg [some 0,some 1,some 2,some 3,some 4,some 5])
        ·refine sA ?_
         cases hs4
         exact zll hk4 (zlg [some 0,some 1,some 2,some 3,some 4,some 5])
       ·refine sA ?_
        cases hs4
        cases hk4
        try dsimp only at hs1
        try simp only [hlit0] at hs1
        refine sA ?_
        obtain ⟨p489,hq29,hs1⟩:=zk9 hs1
        refine zlS (λ s2=>s2=⟨[(1,(.pb 0 0)),(2,(.pb 1 0)),(5,(I g315.t5)),(102,(B p489.t102))],[(0,some (true,.box [(.os 2 3 0 g477.c3.length g477.c3.length false),.nl])),(1,some (true,.box [.nl,.nl])),(2,some (true,.arr true 3 (g477.c3.map zlj)))],3,107⟩) ?_ ?_
        ·refine sA ?_
         obtain ⟨hp30,hq29⟩:=zla hq29
         have hn30:0 < c454.fRe.length:=by first|omega|(simp;omega)
         refine sA ?_
         refine zlq ?_
         refine zo1 ?_
         refine sA ?_
         obtain ⟨hp32,hq29⟩:=zla hq29
         have hn32:0 < g477.c3.length:=by first|omega|(simp;omega)
         refine sA ?_
         refine zlq ?_
         refine zo1 ?_
         refine sA ?_
         obtain ⟨c487,hr34,hq29⟩:=zk9 hq29
         refine zlh (zig hr34) ?_
         refine sA ?_
         refine zlt hq29 (λ hq29 hc35=>?_) (λ hq29 hc35=>?_)
         ·refine sA ?_
          obtain ⟨hp36,hq29⟩:=zla hq29
          have hn36:1 < c454.fRe.length:=by first|omega|(simp;omega)
          refine sA ?_
          refine zlq ?_
          refine zo1 ?_
          refine sA ?_
          obtain ⟨hp38,hq29⟩:=zla hq29
          have hn38:1 < g477.c3.length:=by first|omega|(simp;omega)
          refine sA ?_
          refine zlq ?_
          refine zo1 ?_
          refine sA ?_
          obtain ⟨c488,hr40,hq29⟩:=zk9 hq29
          refine zlh (zig hr40) ?_
          refine sA ?_
          cases hq29
          exact zlr rfl (zlg [some 0,some 1,some 3])
         ·refine sA ?_
          cases hq29
          exact zlr rfl (zlg [some 0,some 1,some 3])
        ·intro s2 hJ;subst hJ
         try dsimp only at hs1
         try simp only [hlit0] at hs1
         refine sA ?_
         refine zle hs1 (λ hs1 hc41=>?_) (λ hs1 hc41=>?_)
         ·refine sA ?_
          obtain ⟨c490,hr42,hs1⟩:=zk9 hs1
          refine zya (zhr hr42) ?_
          refine sA ?_
          cases hs1
          cases hk1
          try dsimp only at h
          refine sA ?_
          have he:=oi h
          subst he
          exact zld ⟨[(2,(.pb 2 0)),(3,(I g315.t5)),(4,(B true))],[(0,some (true,.arr false 3 (c490.fRe.map zlj))),(1,some (true,.arr false 3 (c490.Line.map zlz))),(2,some (true,.box [(.os 0 3 0 c490.fRe.length c490.fRe.length false),(.os 1 3 0 c490.Line.length c490.Line.length false)]))],3,107⟩ [some 3,some 4,some 1]
         ·refine sA ?_
          cases hs1
          exact zll hk1 (zlg [some 0,some 1,some 2])
   ·refine sA ?_
    cases hs1
    cases hk1
    try dsimp only at h
    refine sA ?_
    have he:=oi h
    subst he
    exact zld ⟨[(2,(.pb 2 0)),(3,(I 0)),(4,(B false))],[(0,some (true,.arr false 3 (([]:List RegionT).map zlj))),(1,some (true,.arr false 3 (([]:List SaidT).map zlz))),(2,some (true,.box [(.os 0 3 0 (([]:List RegionT).length) (([]:List RegionT).length) false),(.os 1 3 0 (([]:List SaidT).length) (([]:List SaidT).length) false)]))],3,107⟩ [none,none,some 1]
theorem ze2 {a0:Int} {a1:Int} {a2:Int} {r:Bool} (h:zeu a0 a1 a2=some r):Fn Tryz.prog 133 [(I a0),(I a1),(I a2)] [] 0 (B r) [] 0:=by
 unfold zeu at h
 refine fc [] Tryz.func133 ?_
 simp only [Tryz.f133]
 refine sA ?_
 refine zlt h (λ h hc1=>?_) (λ h hc1=>?_)
 ·refine sA ?_
  have he:=oi h
  subst he
  exact zld ⟨[(6,(B (decide (a0≤a2))))],[],0,15⟩ []
 ·refine sA ?_
  have he:=oi h
  subst he
  exact zld ⟨[(6,(B false))],[],0,15⟩ []
theorem zkp {a0:Int} {r:Bool} (h:zgz a0=some r):Fn Tryz.prog 59 [(I a0)] [] 0 (B r) [] 0:=by
 unfold zgz at h
 refine fc [] Tryz.func59 ?_
 simp only [Tryz.f59]
 refine sA ?_
 obtain ⟨c498,hr1,h⟩:=zk9 h
 refine zlh (ze2 hr1) ?_
 refine sA ?_
 have he:=oi h
 subst he
 exact zld ⟨[(2,(B c498))],[],0,5⟩ []
theorem zhR {a0:Int} {r:Bool} (h:zc8 a0=some r):Fn Tryz.prog 123 [(I a0)] [] 0 (B r) [] 0:=by
 unfold zc8 at h
 refine fc [] Tryz.func123 ?_
 simp only [Tryz.f123]
 refine sA ?_
 obtain ⟨c500,hr1,h⟩:=zk9 h
 refine zlh (ze2 hr1) ?_
 refine sA ?_
 have he:=oi h
 subst he
 exact zld ⟨[(2,(B c500))],[],0,5⟩ []
theorem zkq {r:zlm} (h:zgC=some r):Fn Tryz.prog 208 [] [] 0 (.ag [(I r.fSt),(I r.Next),(B r.fCa),(I r.Done),.nl,.nl]) [] 1:=by
 unfold zgC at h
 refine fc [] Tryz.func208 ?_
 simp only [Tryz.f208]
 refine sA ?_
 have he:=oi h
 subst he
 exact zld ⟨[(0,(.pb 0 0))],[(0,some (true,.box [(I 0),(I 1),(B false),(I 0),.nl,.nl]))],1,2⟩ [some 0]
theorem zkN {a0 a1:ByteArray} {r:ByteArray} (h:zev a0 a1=some r):Fn Tryz.prog 207 [.lf false (.sc (.string a0)),.lf false (.sc (.string a1))] [] 0 (.lf false (.sc (.string r))) [] 0:=by
 unfold zev at h
 obtain ⟨⟨hp1,hp2,hp3⟩,h⟩:=zla h
 have he:=oi h;subst he
 exact zBG (Ent.of Tryz.func207 rfl (by simp [Tryz.f207])) λ w=>zBH Go.Proofs.Tryz.lays160 (by kernel_rfl) a0 a1 w hp1 hp2 (ascii_of_all hp3)
theorem zd7 {a0:ByteArray} {r:Bool} (h:zbc a0=some r):Fn Tryz.prog 157 [(.lf false (.sc (.string a0)))] [] 0 (B r) [] 0:=by
 unfold zbc at h
 refine fc [] Tryz.func157 ?_
 simp only [Tryz.f157]
 refine sA ?_
 refine zlt h (λ h hc1=>?_) (λ h hc1=>?_)
 ·refine sA ?_
  obtain ⟨c516,hr2,h⟩:=zk9 h
  refine zlh (zkN hr2) ?_
  refine sA ?_
  have he:=oi h
  subst he
  exact zld ⟨[(2,(B (c516.toList == ByteArray.empty.toList)))],[],0,11⟩ []
 ·refine sA ?_
  have he:=oi h
  subst he
  exact zld ⟨[(2,(B false))],[],0,11⟩ []
theorem zjs {a0:ByteArray} {r:Bool} (h:zfF a0=some r):Fn Tryz.prog 282 [(.lf false (.sc (.string a0)))] [] 0 (B r) [] 0:=by
 unfold zfF at h
 refine fc [] Tryz.func282 ?_
 simp only [Tryz.f282]
 refine sA ?_
 obtain ⟨c517,hr1,h⟩:=zk9 h
 refine zlh (zd7 hr1) ?_
 refine sA ?_
 have he:=oi h
 subst he
 exact zld ⟨[(2,(B (!c517)))],[],0,6⟩ []
theorem ze0 {a0:(List ByteArray)} {r:Int} (h:zQ a0=some r):Fn Tryz.prog 293 [(.lf true (.sl (a0.map eS))),(.fn 282 [])] [] 0 (I r) [] 0:=by
 unfold zQ at h
 refine fc [(1000,[(0,0),(1,0)]),(1001,[(0,0),(1,0),(7,0),(8,0)]),(1002,[(0,0),(1,0),(7,0),(8,0),(9,0)]),(1003,[(0,0),(1,0),(5,0),(7,0),(8,0)]),(1004,[(0,0),(1,0),(5,0),(7,0),(8,0),(16,0)]),(1005,[(4,0)]),(1006,[(0,0),(1,0),(7,0),(8,0)]),(1007,[(4,0)])] Tryz.func293 ?_
 simp only [Tryz.f293]
 refine sA ?_
 obtain ⟨y520,hl1,h⟩:=zk9 h
 refine zlo (λ g515:zL=>⟨[(0,(.lf true (.sl (a0.map eS)))),(1,(.fn 282 [])),(7,(I ((a0.length:Nat):Int))),(8,(I g515.t8))],[],0,19⟩) (zi a0) _ _ hl1 (zlg []) ?_
 ·intro n1 g515 z1 hs1 hk1
  unfold zi at hs1
  try dsimp only at hs1
  refine sA ?_
  refine zle hs1 (λ hs1 hc2=>?_) (λ hs1 hc2=>?_)
  ·refine sA ?_
   obtain ⟨hp3,hs1⟩:=zla hs1
   have hn3:g515.t8.toNat < a0.length:=by first|omega|(simp;omega)
   refine sA ?_
   refine zlq ?_
   obtain ⟨c519,hr4,hs1⟩:=zk9 hs1
   refine zlh (zjs hr4) ?_
   refine sA ?_
   refine zle hs1 (λ hs1 hc5=>?_) (λ hs1 hc5=>?_)
   ·refine sA ?_
    cases hs1
    cases hk1
    try dsimp only at h
    refine sA ?_
    have he:=oi h
    subst he
    exact zld ⟨[(4,(I g515.t8))],[],0,19⟩ []
   ·refine sA ?_
    cases hs1
    exact zll hk1 (zlg [])
  ·refine sA ?_
   cases hs1
   cases hk1
   try dsimp only at h
   refine sA ?_
   have he:=oi h
   subst he
   exact zld ⟨[(4,(I (-1)))],[],0,19⟩ []
theorem zed {a0:(List ByteArray)} {r:Bool} (h:zM a0=some r):Fn Tryz.prog 281 [(.lf true (.sl (a0.map eS))),(.fn 282 [])] [] 0 (B r) [] 0:=by
 unfold zM at h
 refine fc [] Tryz.func281 ?_
 simp only [Tryz.f281]
 refine sA ?_
 obtain ⟨c523,hr1,h⟩:=zk9 h
 refine zlh (ze0 hr1) ?_
 refine sA ?_
 have he:=oi h
 subst he
 exact zld ⟨[(4,(B (decide (c523 ≥ 0))))],[],0,9⟩ []
theorem zih {a0:(List ByteArray)} {a1:Int} {r:Bool} (h:zez a0 a1=some r):Fn Tryz.prog 255 [(.lf true (.sl (a0.map eS))),(I a1)] [] 0 (B r) [] 0:=by
 unfold zez at h
 refine fc [] Tryz.func255 ?_
 simp only [Tryz.f255]
 refine sA ?_
 refine zlt h (λ h hc1=>?_) (λ h hc1=>?_)
 ·refine sA ?_
  obtain ⟨c524,hr2,h⟩:=zk9 h
  refine zlh (zed hr2) ?_
  refine sA ?_
  have he:=oi h
  subst he
  exact zld ⟨[(4,(B (!c524)))],[],0,14⟩ []
 ·refine sA ?_
  have he:=oi h
  subst he
  exact zld ⟨[(4,(B false))],[],0,14⟩ []
theorem zii {a0:(List ByteArray)} {a1:ByteArray} {r:Int} (h:zdu a0 a1=some r):Fn Tryz.prog 195 [(.lf true (.sl (a0.map eS))),(.lf false (.sc (.string a1)))] [] 0 (I r) [] 0:=by
 unfold zdu at h
 refine fc [(1000,[(0,0),(1,0)]),(1001,[(0,0),(1,0),(7,0),(8,0)]),(1002,[(0,0),(1,0),(7,0),(8,0),(9,0)]),(1003,[(0,0),(1,0),(5,0),(7,0),(8,0)]),(1004,[(0,0),(1,0),(5,0),(7,0),(8,0),(16,0)]),(1005,[(4,0)]),(1006,[(0,0),(1,0),(7,0),(8,0)]),(1007,[(4,0)])] Tryz.func195 ?_
 simp only [Tryz.f195]
 refine sA ?_
 obtain ⟨y528,hl1,h⟩:=zk9 h
 refine zlo (λ g527:zcb=>⟨[(0,(.lf true (.sl (a0.map eS)))),(1,(.lf false (.sc (.string a1)))),(7,(I ((a0.length:Nat):Int))),(8,(I g527.t8))],[],0,19⟩) (zal a0 a1) _ _ hl1 (zlg []) ?_
 ·intro n1 g527 z1 hs1 hk1
  unfold zal at hs1
  try dsimp only at hs1
  refine sA ?_
  refine zle hs1 (λ hs1 hc2=>?_) (λ hs1 hc2=>?_)
  ·refine sA ?_
   obtain ⟨hp3,hs1⟩:=zla hs1
   have hn3:g527.t8.toNat < a0.length:=by first|omega|(simp;omega)
   refine sA ?_
   refine zlq ?_
   refine zle hs1 (λ hs1 hc4=>?_) (λ hs1 hc4=>?_)
   ·refine sA ?_
    cases hs1
    cases hk1
    try dsimp only at h
    refine sA ?_
    have he:=oi h
    subst he
    exact zld ⟨[(4,(I g527.t8))],[],0,19⟩ []
   ·refine sA ?_
    cases hs1
    exact zll hk1 (zlg [])
  ·refine sA ?_
   cases hs1
   cases hk1
   try dsimp only at h
   refine sA ?_
   have he:=oi h
   subst he
   exact zld ⟨[(4,(I (-1)))],[],0,19⟩ []
theorem zaF {a0:(List ByteArray)} {a1:ByteArray} {r:Bool} (h:zF a0 a1=some r):Fn Tryz.prog 142 [(.lf true (.sl (a0.map eS))),(.lf false (.sc (.string a1)))] [] 0 (B r) [] 0:=by
 unfold zF at h
 refine fc [] Tryz.func142 ?_
 simp only [Tryz.f142]
 refine sA ?_
 obtain ⟨c531,hr1,h⟩:=zk9 h
 refine zlh (zii hr1) ?_
 refine sA ?_
 have he:=oi h
 subst he
 exact zld ⟨[(4,(B (decide (c531 ≥ 0))))],[],0,9⟩ []
theorem zh8 {a0:(List ByteArray)} {r:Bool} (h:zdO a0=some r):Fn Tryz.prog 256 [(.lf true (.sl (a0.map eS)))] [] 0 (B r) [] 0:=by
 unfold zdO at h
 refine fc [(1000,[(0,0)]),(1001,[(0,0),(5,0),(6,0),(7,0)]),(1002,[(0,0),(5,0),(6,0),(7,0),(8,0)]),(1003,[(0,0),(3,0),(4,0),(5,0),(6,0),(7,0)]),(1004,[(0,0),(5,0),(6,0),(7,0),(16,0)]),(1005,[(2,0)]),(1006,[(0,0),(5,0),(6,0),(7,0)]),(1007,[(2,0)])] Tryz.func256 ?_
 simp only [Tryz.f256]
 refine sA ?_
 obtain ⟨y534,hl1,h⟩:=zk9 h
 refine zlo (λ g526:ze8=>⟨[(0,(.lf true (.sl (a0.map eS)))),(5,(.lf true (.sl (a0.map eS)))),(6,(I ((a0.length:Nat):Int))),(7,(I g526.t7))],[],0,18⟩) (zb1 a0) _ _ hl1 (zlg []) ?_
 ·intro n1 g526 z1 hs1 hk1
  unfold zb1 at hs1
  try dsimp only at hs1
  refine sA ?_
  refine zle hs1 (λ hs1 hc2=>?_) (λ hs1 hc2=>?_)
  ·refine sA ?_
   obtain ⟨hp3,hs1⟩:=zla hs1
   have hn3:g526.t7.toNat < a0.length:=by first|omega|(simp;omega)
   refine sA ?_
   refine zlq ?_
   obtain ⟨hp4,hs1⟩:=zla hs1
   refine sA ?_
   refine zlq ?_
   obtain ⟨c533,hr5,hs1⟩:=zk9 hs1
   refine zlh (zaF hr5) ?_
   refine sA ?_
   refine zle hs1 (λ hs1 hc6=>?_) (λ hs1 hc6=>?_)
   ·refine sA ?_
    cases hs1
    cases hk1
    try dsimp only at h
    refine sA ?_
    have he:=oi h
    subst he
    exact zld ⟨[(2,(B false))],[],0,18⟩ []
   ·refine sA ?_
    cases hs1
    exact zll hk1 (zlg [])
  ·refine sA ?_
   cases hs1
   cases hk1
   try dsimp only at h
   refine sA ?_
   have he:=oi h
   subst he
   exact zld ⟨[(2,(B true))],[],0,18⟩ []
theorem zd8 {a0:ByteArray} {r:Bool} (h:zaA a0=some r):Fn Tryz.prog 254 [(.lf false (.sc (.string a0)))] [] 0 (B r) [] 0:=by
 unfold zaA at h
 refine fc [] Tryz.func254 ?_
 simp only [Tryz.f254]
 refine sA ?_
 have he:=oi h
 subst he
 exact zld ⟨[(2,(B (!(a0.toList == a0.toList))))],[],0,6⟩ []
theorem zhC {a0:ByteArray} {a1:ByteArray} {r:Bool} (h:zcr a0 a1=some r):Fn Tryz.prog 237 [(.lf false (.sc (.string a0))),(.lf false (.sc (.string a1)))] [] 0 (B r) [] 0:=by
 unfold zcr at h
 refine fc [] Tryz.func237 ?_
 simp only [Tryz.f237]
 refine sA ?_
 obtain ⟨c540,hr1,h⟩:=zk9 h
 refine zlh (zd8 hr1) ?_
 refine sA ?_
 refine zlt h (λ h hc2=>?_) (λ h hc2=>?_)
 ·refine sA ?_
  obtain ⟨c541,hr3,h⟩:=zk9 h
  refine zlh (zd8 hr3) ?_
  refine sA ?_
  refine zlt h (λ h hc4=>?_) (λ h hc4=>?_)
  ·refine sA ?_
   have he:=oi h
   subst he
   exact zld ⟨[(4,(B true))],[],0,17⟩ []
  ·refine sA ?_
   have he:=oi h
   subst he
   exact zld ⟨[(4,(B (sLt a0 a1)))],[],0,17⟩ []
 ·refine sA ?_
  have he:=oi h
  subst he
  exact zld ⟨[(4,(B (sLt a0 a1)))],[],0,17⟩ []
theorem zhS {a0:(List ByteArray)} {r:Bool} (h:za8 a0=some r):Fn Tryz.prog 257 [(.lf true (.sl (a0.map eS)))] [] 0 (B r) [] 0:=by
 unfold za8 at h
 refine fc [(1000,[(0,0)]),(1001,[(0,0),(3,0)]),(1002,[(0,0),(3,0),(8,0)]),(1003,[(0,0),(3,0)]),(1004,[(0,0),(3,0),(20,0)]),(1005,[(2,0)]),(1006,[(2,0)])] Tryz.func257 ?_
 simp only [Tryz.f257]
 refine sA ?_
 obtain ⟨y544,hl1,h⟩:=zk9 h
 refine zlo (λ g539:zcV=>⟨[(0,(.lf true (.sl (a0.map eS)))),(3,(I g539.t3))],[],0,21⟩) (zC a0) _ _ hl1 (zlg []) ?_
 ·intro n1 g539 z1 hs1 hk1
  unfold zC at hs1
  try dsimp only at hs1
  refine sA ?_
  refine zle hs1 (λ hs1 hc2=>?_) (λ hs1 hc2=>?_)
  ·refine sA ?_
   obtain ⟨hp3,hs1⟩:=zla hs1
   have hn3:g539.t3.toNat < a0.length:=by first|omega|(simp;omega)
   refine sA ?_
   refine zlq ?_
   obtain ⟨hp4,hs1⟩:=zla hs1
   have hn4:(wI (g539.t3 - 1)).toNat < a0.length:=by first|omega|(simp;omega)
   refine sA ?_
   refine zlq ?_
   obtain ⟨c543,hr5,hs1⟩:=zk9 hs1
   refine zlh (zhC hr5) ?_
   refine sA ?_
   refine zle hs1 (λ hs1 hc6=>?_) (λ hs1 hc6=>?_)
   ·refine sA ?_
    cases hs1
    cases hk1
    try dsimp only at h
    refine sA ?_
    have he:=oi h
    subst he
    exact zld ⟨[(2,(B false))],[],0,21⟩ []
   ·refine sA ?_
    cases hs1
    exact zll hk1 (zlg [])
  ·refine sA ?_
   cases hs1
   cases hk1
   try dsimp only at h
   refine sA ?_
   have he:=oi h
   subst he
   exact zld ⟨[(2,(B true))],[],0,21⟩ []
theorem zfh {a0:zlm} {r:Bool} (h:zbh a0=some r):Fn Tryz.prog 224 [(.ag [(I a0.fSt),(I a0.Next),(B a0.fCa),(I a0.Done),(.lf true (.sl (a0.fSi.map eS))),(.lf true (.sl (a0.fTi.map eS)))])] [] 0 (B r) [] 0:=by
 unfold zbh at h
 refine fc [(1000,[(1,0)]),(1001,[(1,0),(18,0)]),(1002,[(2,0)]),(1003,[(1,0),(46,0)]),(1004,[(2,0)]),(1005,[(1,0),(49,0)]),(1006,[(2,0)]),(1007,[(2,0)]),(4001,[]),(4003,[])] Tryz.func224 ?_
 simp only [Tryz.f224]
 refine sA ?_
 obtain ⟨p514,hq1,h⟩:=zk9 h
 refine zlS (λ s2=>s2=⟨[(1,(.pb 0 0)),(18,(B p514.t18))],[(0,some (true,.box [(I a0.fSt),(I a0.Next),(B a0.fCa),(I a0.Done),(.lf true (.sl (a0.fSi.map eS))),(.lf true (.sl (a0.fTi.map eS)))]))],1,78⟩) ?_ ?_
 ·refine sA ?_
  obtain ⟨c511,hr2,hq1⟩:=zk9 hq1
  refine zlh (ze2 hr2) ?_
  refine sA ?_
  refine zlt hq1 (λ hq1 hc3=>?_) (λ hq1 hc3=>?_)
  ·refine sA ?_
   cases hq1
   exact zlr rfl (zlg [some 0])
  ·refine sA ?_
   obtain ⟨c512,hr4,hq1⟩:=zk9 hq1
   refine zlh (ze2 hr4) ?_
   refine sA ?_
   refine zlt hq1 (λ hq1 hc5=>?_) (λ hq1 hc5=>?_)
   ·refine sA ?_
    cases hq1
    exact zlr rfl (zlg [some 0])
   ·refine sA ?_
    obtain ⟨c513,hr6,hq1⟩:=zk9 hq1
    refine zlh (ze2 hr6) ?_
    refine sA ?_
    cases hq1
    exact zlr rfl (zlg [some 0])
 ·intro s2 hJ;subst hJ
  try dsimp only at h
  refine sA ?_
  refine zle h (λ h hc7=>?_) (λ h hc7=>?_)
  ·refine sA ?_
   have he:=oi h
   subst he
   exact zld ⟨[(2,(B false))],[],0,78⟩ []
  ·refine sA ?_
   obtain ⟨p549,hq8,h⟩:=zk9 h
   refine zlS (λ s2=>s2=⟨[(1,(.pb 0 0)),(46,(B p549.t46))],[(0,some (true,.box [(I a0.fSt),(I a0.Next),(B a0.fCa),(I a0.Done),(.lf true (.sl (a0.fSi.map eS))),(.lf true (.sl (a0.fTi.map eS)))]))],1,78⟩) ?_ ?_
   ·refine sA ?_
    obtain ⟨c525,hr9,hq8⟩:=zk9 hq8
    refine zlh (zih hr9) ?_
    refine sA ?_
    refine zlt hq8 (λ hq8 hc10=>?_) (λ hq8 hc10=>?_)
    ·refine sA ?_
     cases hq8
     exact zlr rfl (zlg [some 0])
    ·refine sA ?_
     obtain ⟨c537,hr11,hq8⟩:=zk9 hq8
     refine zlh (zh8 hr11) ?_
     refine sA ?_
     refine zlt hq8 (λ hq8 hc12=>?_) (λ hq8 hc12=>?_)
     ·refine sA ?_
      cases hq8
      exact zlr rfl (zlg [some 0])
     ·refine sA ?_
      obtain ⟨c538,hr13,hq8⟩:=zk9 hq8
      refine zlh (zih hr13) ?_
      refine sA ?_
      refine zlt hq8 (λ hq8 hc14=>?_) (λ hq8 hc14=>?_)
      ·refine sA ?_
       cases hq8
       exact zlr rfl (zlg [some 0])
      ·refine sA ?_
       obtain ⟨c547,hr15,hq8⟩:=zk9 hq8
       refine zlh (zhS hr15) ?_
       refine sA ?_
       refine zlt hq8 (λ hq8 hc16=>?_) (λ hq8 hc16=>?_)
       ·refine sA ?_
        cases hq8
        exact zlr rfl (zlg [some 0])
       ·refine sA ?_
        obtain ⟨c548,hr17,hq8⟩:=zk9 hq8
        refine zlh (zh8 hr17) ?_
        refine sA ?_
        cases hq8
        exact zlr rfl (zlg [some 0])
   ·intro s2 hJ;subst hJ
    try dsimp only at h
    refine sA ?_
    refine zle h (λ h hc18=>?_) (λ h hc18=>?_)
    ·refine sA ?_
     have he:=oi h
     subst he
     exact zld ⟨[(2,(B false))],[],0,78⟩ []
    ·refine sA ?_
     refine zle h (λ h hc19=>?_) (λ h hc19=>?_)
     ·refine sA ?_
      have he:=oi h
      subst he
      exact zld ⟨[(2,(B (decide (a0.Next > 1))))],[],0,78⟩ []
     ·refine sA ?_
      refine zlt h (λ h hc20=>?_) (λ h hc20=>?_)
      ·refine sA ?_
       refine zlt h (λ h hc21=>?_) (λ h hc21=>?_)
       ·refine sA ?_
        refine zlt h (λ h hc22=>?_) (λ h hc22=>?_)
        ·refine sA ?_
         refine zlt h (λ h hc23=>?_) (λ h hc23=>?_)
         ·refine sA ?_
          have he:=oi h
          subst he
          exact zld ⟨[(2,(B (((a0.fTi.length:Nat):Int) == 0)))],[],0,78⟩ []
         ·refine sA ?_
          have he:=oi h
          subst he
          exact zld ⟨[(2,(B false))],[],0,78⟩ []
        ·refine sA ?_
         have he:=oi h
         subst he
         exact zld ⟨[(2,(B false))],[],0,78⟩ []
       ·refine sA ?_
        have he:=oi h
        subst he
        exact zld ⟨[(2,(B false))],[],0,78⟩ []
      ·refine sA ?_
       have he:=oi h
       subst he
       exact zld ⟨[(2,(B false))],[],0,78⟩ []
theorem zfQ {a0:Int} {r:Bool} (h:zai a0=some r):Fn Tryz.prog 156 [(I a0)] [] 0 (B r) [] 0:=by
 unfold zai at h
 refine fc [] Tryz.func156 ?_
 simp only [Tryz.f156]
 refine sA ?_
 obtain ⟨c553,hr1,h⟩:=zk9 h
 refine zlh (ze2 hr1) ?_
 refine sA ?_
 have he:=oi h
 subst he
 exact zld ⟨[(2,(B c553))],[],0,5⟩ []
theorem zjW {a0:EventT} {r:Bool} (h:zeA a0=some r):Fn Tryz.prog 84 [(.ag [(I a0.Id),(I a0.fVe),(I a0.Kind),(.lf false (.sc (.string a0.Name)))])] [] 0 (B r) [] 0:=by
 unfold zeA at h
 refine fc [] Tryz.func84 ?_
 simp only [Tryz.f84]
 refine sA ?_
 obtain ⟨c551,hr1,h⟩:=zk9 h
 refine zlh (ze2 hr1) ?_
 refine sA ?_
 refine zlt h (λ h hc2=>?_) (λ h hc2=>?_)
 ·refine sA ?_
  obtain ⟨c552,hr3,h⟩:=zk9 h
  refine zlh (zhR hr3) ?_
  refine sA ?_
  refine zlt h (λ h hc4=>?_) (λ h hc4=>?_)
  ·refine sA ?_
   obtain ⟨c554,hr5,h⟩:=zk9 h
   refine zlh (zfQ hr5) ?_
   refine sA ?_
   refine zlt h (λ h hc6=>?_) (λ h hc6=>?_)
   ·refine sA ?_
    obtain ⟨c555,hr7,h⟩:=zk9 h
    refine zlh (zd7 hr7) ?_
    refine sA ?_
    have he:=oi h
    subst he
    exact zld ⟨[(2,(B c555))],[],0,21⟩ []
   ·refine sA ?_
    have he:=oi h
    subst he
    exact zld ⟨[(2,(B false))],[],0,21⟩ []
  ·refine sA ?_
   have he:=oi h
   subst he
   exact zld ⟨[(2,(B false))],[],0,21⟩ []
 ·refine sA ?_
  have he:=oi h
  subst he
  exact zld ⟨[(2,(B false))],[],0,21⟩ []
theorem zgQ {a0:(List ByteArray)} {r:(List ByteArray)} (h:zaY a0=some r):Fn Tryz.prog 258 [(.lf true (.sl (a0.map eS)))] [] 0 (.os 0 1 0 r.length r.length false) [(0,some (true,.arr false 1 (r.map eS)))] 1:=by
 unfold zaY at h
 obtain ⟨hp,h⟩:=zla h
 have he:=oi h;subst he
 refine fc [] Tryz.func258 ?_
 simp only [Tryz.f258]
 simp (disch:=assumption) only [go_sem,qA,qB,qC,qD,↓reduceIte,qE,reduceCtorEq,qF,qH,qI,qJ,qK,qG]
 intro b hb
 refine zrJ (b=true) (by simp) (λ hc=>?_) (λ hc=>?_)
 ·have h0:a0=[]:=by simpa using hb (by simpa using hc)
  subst h0
  try simp (disch:=assumption) only [go_sem,qA,qB,qC,qD,↓reduceIte,qE,reduceCtorEq,qF,qH,qI,qJ,qK,qG]
  refine zl0 ⟨[(2,(.os 0 1 0 0 0 false))],[(0,some (true,.arr false 1 (([]:List ByteArray).map eS)))],1,8⟩ (zlB (m:=0) [none] rfl rfl rfl (by rfl) ?_ ?_) ?_
  all_goals ((try simp (disch:=assumption) only [go_sem,qA,qB,qC,qD,↓reduceIte,qE,reduceCtorEq,qF,qH,qI,qJ,qK,qG]);(repeat' first | done | rfl | omega | refine And.intro ?_ ?_ | (simp;done) | (simp;omega)))
 ·try simp (disch:=assumption) only [go_sem,qA,qB,qC,qD,↓reduceIte,qE,reduceCtorEq,qF,qH,qI,qJ,qK,qG]
  first | refine And.intro (by first | omega | exact ⟨by omega,λ _=>zpu λ _=>rfl⟩ | (refine ⟨?_,by omega⟩;first | exact zpu λ _=>rfl | simp)) ?_ | skip
  try simp (disch:=assumption) only [go_sem,qA,qB,qC,qD,↓reduceIte,qE,reduceCtorEq,qF,qH,qI,qJ,qK,qG]
  refine zl0 ⟨[(2,(.os 0 1 0 a0.length a0.length false))],[(0,some (true,.arr false 1 (a0.map eS)))],1,8⟩ (zlB (m:=0) [some 1] rfl rfl rfl (by rfl) ?_ ?_) ?_
  all_goals ((try simp (disch:=assumption) only [go_sem,qA,qB,qC,qD,↓reduceIte,qE,reduceCtorEq,qF,qH,qI,qJ,qK,qG]);(repeat' first | done | rfl | omega | refine And.intro ?_ ?_ | (simp;done) | (simp;omega)))
theorem zhD {a0:zlm} {r:zlm} (h:zaW a0=some r):Fn Tryz.prog 225 [(.ag [(I a0.fSt),(I a0.Next),(B a0.fCa),(I a0.Done),(.lf true (.sl (a0.fSi.map eS))),(.lf true (.sl (a0.fTi.map eS)))])] [] 0 (.ag [(I r.fSt),(I r.Next),(B r.fCa),(I r.Done),(.os 0 1 0 r.fSi.length r.fSi.length false),(.os 1 1 0 r.fTi.length r.fTi.length false)]) [(0,some (true,.arr false 1 (r.fSi.map eS))),(1,some (true,.arr false 1 (r.fTi.map eS)))] 3:=by
 unfold zaW at h
 refine fc [(1,[(4,2)]),(1000,[(1,0),(2,0)]),(1001,[(1,0),(2,0)]),(1002,[(2,0)])] Tryz.func225 ?_
 simp only [Tryz.f225]
 refine sA ?_
 obtain ⟨c558,hr1,h⟩:=zk9 h
 refine zlh (zgQ hr1) ?_
 refine sA ?_
 obtain ⟨c559,hr2,h⟩:=zk9 h
 refine zlh (zgQ hr2) ?_
 refine sA ?_
 have he:=oi h
 subst he
 exact zld ⟨[(2,(.pb 2 0))],[(0,some (true,.arr false 1 (c558.map eS))),(1,some (true,.arr false 1 (c559.map eS))),(2,some (true,.box [(I a0.fSt),(I a0.Next),(B a0.fCa),(I a0.Done),(.os 0 1 0 c558.length c558.length false),(.os 1 1 0 c559.length c559.length false)]))],3,12⟩ [some 2,some 3,some 1]
theorem zgR {a0:ByteArray} {r:Bool} (h:zbV a0=some r):Fn Tryz.prog 294 [(.lf false (.sc (.string a0)))] [] 0 (B r) [] 0:=by
 unfold zbV at h
 refine fc [] Tryz.func294 ?_
 simp only [Tryz.f294]
 refine sA ?_
 have he:=oi h
 subst he
 exact zld ⟨[(2,(B (!(a0.toList == a0.toList))))],[],0,6⟩ []
theorem zhc {a0:(List ByteArray)} {a1:ByteArray} {r:(Int×Bool)} (h:zaj a0 a1=some r):Fn Tryz.prog 283 [(.lf true (.sl (a0.map eS))),(.lf false (.sc (.string a1)))] [] 0 (.tu [(I r.1),(B r.2)]) [] 0:=by
 unfold zaj at h
 refine fc [(1000,[(0,0),(1,0)]),(1001,[(0,0),(1,0),(6,0)]),(1002,[(0,0),(1,0),(6,0),(7,0),(8,0)]),(1003,[(0,0),(1,0),(6,0),(7,0),(8,0),(15,0)]),(1004,[(0,0),(1,0),(6,0),(7,0),(8,0),(9,0)]),(1005,[(0,0),(1,0),(6,0),(7,0),(8,0),(9,0),(27,0)]),(1006,[(0,0),(1,0),(6,0),(7,0),(8,0)]),(1007,[(0,0),(1,0),(6,0),(7,0),(8,0)]),(1008,[(4,0),(5,0)])] Tryz.func283 ?_
 simp only [Tryz.f283]
 refine sA ?_
 obtain ⟨y568,hl1,h⟩:=zk9 h
 refine zlo (λ g565:zbR=>⟨[(0,(.lf true (.sl (a0.map eS)))),(1,(.lf false (.sc (.string a1)))),(6,(I ((a0.length:Nat):Int))),(7,(I g565.t7)),(8,(I g565.t8))],[],0,54⟩) (zz a0 a1) _ _ hl1 (zlg []) ?_
 ·intro n1 g565 z1 hs1 hk1
  unfold zz at hs1
  try dsimp only at hs1
  refine sA ?_
  refine zle hs1 (λ hs1 hc2=>?_) (λ hs1 hc2=>?_)
  ·refine sA ?_
   obtain ⟨hp3,hs1⟩:=zla hs1
   have hn3:(wI (shR 64 (wU (wI (g565.t7+g565.t8))) 1)).toNat < a0.length:=by first|omega|(simp;omega)
   refine sA ?_
   refine zlq ?_
   obtain ⟨c567,hr4,hs1⟩:=zk9 hs1
   refine zlh (zhC hr4) ?_
   refine sA ?_
   refine zle hs1 (λ hs1 hc5=>?_) (λ hs1 hc5=>?_)
   ·refine sA ?_
    cases hs1
    exact zll hk1 (zlg [])
   ·refine sA ?_
    cases hs1
    exact zll hk1 (zlg [])
  ·refine sA ?_
   cases hs1
   cases hk1
   try dsimp only at h
   refine sA ?_
   refine zlt h (λ h hc6=>?_) (λ h hc6=>?_)
   ·refine sA ?_
    obtain ⟨hp7,h⟩:=zla h
    have hn7:g565.t7.toNat < a0.length:=by first|omega|(simp;omega)
    refine sA ?_
    refine zlq ?_
    refine zlt h (λ h hc8=>?_) (λ h hc8=>?_)
    ·refine sA ?_
     have he:=oi h
     subst he
     exact zld ⟨[(4,(I g565.t7)),(5,(B true))],[],0,54⟩ []
    ·refine sA ?_
     obtain ⟨hp9,h⟩:=zla h
     have hn9:g565.t7.toNat < a0.length:=by first|omega|(simp;omega)
     refine sA ?_
     refine zlq ?_
     obtain ⟨c571,hr10,h⟩:=zk9 h
     refine zlh (zgR hr10) ?_
     refine sA ?_
     refine zlt h (λ h hc11=>?_) (λ h hc11=>?_)
     ·refine sA ?_
      obtain ⟨c572,hr12,h⟩:=zk9 h
      refine zlh (zgR hr12) ?_
      refine sA ?_
      have he:=oi h
      subst he
      exact zld ⟨[(4,(I g565.t7)),(5,(B c572))],[],0,54⟩ []
     ·refine sA ?_
      have he:=oi h
      subst he
      exact zld ⟨[(4,(I g565.t7)),(5,(B false))],[],0,54⟩ []
   ·refine sA ?_
    have he:=oi h
    subst he
    exact zld ⟨[(4,(I g565.t7)),(5,(B false))],[],0,54⟩ []
end Go.TL.YteonagfnhdlfcaaGreatDoor

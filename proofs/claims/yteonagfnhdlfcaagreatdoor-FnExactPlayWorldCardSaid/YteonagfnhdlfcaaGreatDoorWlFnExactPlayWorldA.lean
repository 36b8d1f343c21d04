import Derived.Test.YteonagfnhdlfcaaGreatDoorTlTabr6zD
import Derived.Test.YteonagfnhdlfcaaGreatDoorG30EnR1
import Derived.Test.YteonagfnhdlfcaaGreatDoorTlAuto
import Derived.Test.YteonagfnhdlfcaaGreatDoorG32TlPk
import Derived.Test.YteonagfnhdlfcaaGreatDoorG33TlTrimr6zD
import Derived.Test.YteonagfnhdlfcaaGreatDoorG34TlBelow
import Derived.Test.YteonagfnhdlfcaaGreatDoorTlInsert
import Derived.Test.YteonagfnhdlfcaaGreatDoorG38TlSrLr6zD
import Derived.Test.YteonagfnhdlfcaaGreatDoorTlDelDr6zD
import Derived.Test.YteonagfnhdlfcaaGreatDoorTlSortD
import Derived.Test.YteonagfnhdlfcaaGreatDoorTlStrs
open Nat renaming reduceAdd → qA, reduceMul → qB, reduceSub → qC, reduceEqDiff → qD, reduceLT → qE, reduceLeDiff → qF, reduceBEq → qG, zero_add → qc
open Int renaming reduceToNat → qH, reduceEq → qI, reduceLE → qJ, reduceLT → qK
open List renaming length_set → qL, length_append → qM, length_replicate → qN, length_map → qO, length_cons → qP, length_nil → qQ, length_take → qa, length_drop → qb
set_option linter.unusedSimpArgs false
set_option linter.unusedVariables false
noncomputable section
set_option maxRecDepth 8000
set_option maxHeartbeats 0
namespace Go.TL.YteonagfnhdlfcaaGreatDoor
open Go Go.Proofs Go.TL
theorem zh3 {a0:WorldStepT} {a1:Int} {r:Int} (h:zc7 a0 a1=some r):Fn Tryz.prog 112 [(.ag [(I a0.Kind),(I a0.Region),(I a0.What),(.lf false (.sc (.string a0.Name))),(I a0.K)]),(I a1)] [] 0 (I r) [] 0:=by
 unfold zc7 at h
 refine fc [(1000,[(1,0),(2,0)]),(1001,[(1,0)]),(1002,[(1,0),(11,0)]),(1003,[(4,0)]),(1004,[(4,0)])] Tryz.func112 ?_
 simp only [Tryz.f112]
 refine sA ?_
 refine zjO h (λ h hc1=>?_) (λ h hc1=>?_)
 ·refine sA ?_
  cases h
  exact zjM ⟨[(4,(I (-1)))],[],0,13⟩ []
 ·refine sA ?_
  cases h
  exact zjM ⟨[(4,(I (wI (a1 - (a0.Name.size:Int)))))],[],0,13⟩ []
theorem zhR {a0:(List WorldStepT)} {a1:Int} {r:Int} (h:zcy a0 a1=some r):Fn Tryz.prog 42 [(.lf true (.sl (a0.map zj4))),(I a1)] [] 0 (I r) [] 0:=by
 unfold zcy at h
 refine fc [(1000,[(0,0),(1,0)]),(1001,[(0,0),(1,0)]),(1002,[(0,0),(1,0),(11,0)]),(1003,[(4,0)]),(1004,[(0,0),(1,0),(5,0)]),(1005,[(0,0),(1,0),(5,0),(15,0)]),(1006,[(0,0),(1,0),(5,0)]),(1007,[(0,0),(1,0),(5,0)]),(1008,[(0,0),(1,0),(5,0),(25,0)]),(1009,[(4,0)]),(1010,[(4,0)])] Tryz.func42 ?_
 simp only [Tryz.f42]
 refine sA ?_
 refine zjO h (λ h hc1=>?_) (λ h hc1=>?_)
 ·refine sA ?_
  cases h
  exact zjM ⟨[(4,(I (-1)))],[],0,27⟩ []
 ·refine sA ?_
  obtain ⟨y4,hl2,h⟩:=zjJ h
  refine zj3 (λ g1:zcL=>⟨[(0,(.lf true (.sl (a0.map zj4)))),(1,(I g1.t1)),(5,(I g1.t5))],[],0,27⟩) (zaw a0) _ _ hl2 (zjQ []) ?_
  ·intro n1 g1 z1 hs1 hk1
   unfold zaw at hs1
   try dsimp only at hs1
   refine sA ?_
   refine zjO hs1 (λ hs1 hc3=>?_) (λ hs1 hc3=>?_)
   ·refine sA ?_
    obtain ⟨hp4,hs1⟩:=zjK hs1
    have hn4:g1.t5.toNat < a0.length:=by first|omega|(simp;omega)
    refine sA ?_
    refine zj2 ?_
    obtain ⟨c3,hr5,hs1⟩:=zjJ hs1
    refine zjR (zh3 hr5) ?_
    refine sA ?_
    refine zjO hs1 (λ hs1 hc6=>?_) (λ hs1 hc6=>?_)
    ·refine sA ?_
     cases hs1
     cases hk1
     try dsimp only at h
     refine sA ?_
     cases h
     exact zjM ⟨[(4,(I (-1)))],[],0,27⟩ []
    ·refine sA ?_
     cases hs1
     exact zjW hk1 (zjQ [])
   ·refine sA ?_
    cases hs1
    cases hk1
    try dsimp only at h
    refine sA ?_
    cases h
    exact zjM ⟨[(4,(I g1.t1))],[],0,27⟩ []
theorem zgw {a0:WorldStepT} {r:WorldStepT} (h:zbZ a0=some r):Fn Tryz.prog 113 [(.ag [(I a0.Kind),(I a0.Region),(I a0.What),(.lf false (.sc (.string a0.Name))),(I a0.K)])] [] 0 (.ag [(I r.Kind),(I r.Region),(I r.What),(.lf false (.sc (.string r.Name))),(I r.K)]) [] 1:=by
 unfold zbZ at h
 refine fc [(1000,[(1,0),(2,0)]),(1001,[(1,0),(2,0),(3,0)]),(1002,[(1,0),(2,0),(3,0)]),(1003,[(1,0),(2,0),(3,0)]),(1004,[(1,0),(2,0),(3,0)]),(1005,[(1,0),(2,0),(3,0)]),(1006,[(2,0),(3,0)]),(1007,[(2,0)])] Tryz.func113 ?_
 simp only [Tryz.f113]
 refine sA ?_
 have he:=oi h
 subst he
 exact zjM ⟨[(2,(.pb 0 0))],[(0,some (true,.box [(I a0.Kind),(I a0.Region),(I a0.What),(.lf false (.sc (.string a0.Name))),(I a0.K)]))],1,20⟩ [some 1]
theorem zeZ {a0:(List WorldStepT)} {r:(List WorldStepT)} (h:zaB a0=some r):Fn Tryz.prog 43 [(.lf true (.sl (a0.map zj4)))] [] 0 (.os 0 5 0 r.length r.length false) [(0,some (true,.arr false 5 (r.map zj4)))] 1:=by
 unfold zaB at h
 refine fc [(1000,[(0,0)]),(1001,[(0,0),(3,0)]),(1002,[(0,0),(3,0),(4,0)]),(1003,[(0,0),(3,0),(4,0),(11,0)]),(1004,[(0,0),(3,0),(4,0)]),(1005,[(0,0),(3,0),(4,0)]),(1006,[(2,0)])] Tryz.func43 ?_
 simp only [Tryz.f43]
 refine sA ?_
 obtain ⟨hp1,h⟩:=zjK h
 refine sA ?_
 refine zj2 ?_
 obtain ⟨y11,hl2,h⟩:=zjJ h
 refine zj3 (λ g8:zcM=>⟨[(0,(.lf true (.sl (a0.map zj4)))),(3,(.os 0 5 0 g8.c0.length g8.c0.length false)),(4,(I g8.t4))],[(0,some (true,.arr false 5 (g8.c0.map zj4)))],1,23⟩) (zax a0) _ _ hl2 (zjQ [some 0]) ?_
 ·intro n1 g8 z1 hs1 hk1
  unfold zax at hs1
  try dsimp only at hs1
  refine sA ?_
  refine zjO hs1 (λ hs1 hc3=>?_) (λ hs1 hc3=>?_)
  ·refine sA ?_
   obtain ⟨hp4,hs1⟩:=zjK hs1
   have hn4:g8.t4.toNat < a0.length:=by first|omega|(simp;omega)
   refine sA ?_
   refine zj2 ?_
   obtain ⟨c10,hr5,hs1⟩:=zjJ hs1
   refine zjR (zgw hr5) ?_
   refine sA ?_
   obtain ⟨hp6,hs1⟩:=zjK hs1
   have hn6:g8.t4.toNat < g8.c0.length:=by first|omega|(simp;omega)
   refine sA ?_
   refine zj2 ?_
   refine zm4 ?_
   refine sA ?_
   cases hs1
   exact zjW hk1 (zjQ [some 0])
  ·refine sA ?_
   cases hs1
   cases hk1
   try dsimp only at h
   refine sA ?_
   cases h
   exact zjM ⟨[(2,(.os 0 5 0 g8.c0.length g8.c0.length false))],[(0,some (true,.arr false 5 (g8.c0.map zj4)))],1,23⟩ [some 0]
theorem zY {a0:Int} {a1:Int} {a2:Int} {r:Bool} (h:zN a0 a1 a2=some r):Fn Tryz.prog 96 [(I a0),(I a1),(I a2)] [] 0 (B r) [] 0:=by
 unfold zN at h
 refine fc [] Tryz.func96 ?_
 simp only [Tryz.f96]
 refine sA ?_
 refine zj6 h (λ h hc1=>?_) (λ h hc1=>?_)
 ·refine sA ?_
  cases h
  exact zjM ⟨[(6,(B (decide (a0≤a2))))],[],0,15⟩ []
 ·refine sA ?_
  have he:=oi h
  subst he
  exact zjM ⟨[(6,(B false))],[],0,15⟩ []
theorem zfA {a0:Int} {r:Bool} (h:zbd a0=some r):Fn Tryz.prog 129 [(I a0)] [] 0 (B r) [] 0:=by
 unfold zbd at h
 refine fc [] Tryz.func129 ?_
 simp only [Tryz.f129]
 refine sA ?_
 obtain ⟨c18,hr1,h⟩:=zjJ h
 refine zjR (zY hr1) ?_
 refine sA ?_
 have he:=oi h
 subst he
 exact zjM ⟨[(2,(B c18))],[],0,5⟩ []
theorem zi6 {r:zjV} (h:zfN=some r):Fn Tryz.prog 227 [] [] 0 (.ag [(I r.fSt),(I r.Next),(B r.fCa),(I r.Done),.nl,.nl]) [] 1:=by
 unfold zfN at h
 refine fc [] Tryz.func227 ?_
 simp only [Tryz.f227]
 refine sA ?_
 cases h
 exact zjM ⟨[(0,(.pb 0 0))],[(0,some (true,.box [(I 0),(I 1),(B false),(I 0),.nl,.nl]))],1,2⟩ [some 0]
theorem zgz {a0:ByteArray} {r:Bool} (h:zdT a0=some r):Fn Tryz.prog 158 [(.lf false (.sc (.string a0)))] [] 0 (B r) [] 0:=by
 unfold zdT at h
 refine fc [(1000,[(0,0)]),(1001,[(0,0),(3,0)]),(1002,[(0,0),(3,0),(7,0)]),(1003,[(0,0),(3,0)]),(1004,[(0,0),(3,0),(32,0)]),(1005,[(2,0)]),(1006,[(2,0)]),(4004,[])] Tryz.func158 ?_
 simp only [Tryz.f158]
 refine sA ?_
 obtain ⟨y35,hl1,h⟩:=zjJ h
 refine zj3 (λ g32:zfp=>⟨[(0,(.lf false (.sc (.string a0)))),(3,(I g32.t3))],[],0,36⟩) (zcP a0) _ _ hl1 (zjQ []) ?_
 ·intro n1 g32 z1 hs1 hk1
  unfold zcP at hs1
  try dsimp only at hs1
  refine sA ?_
  refine zjO hs1 (λ hs1 hc2=>?_) (λ hs1 hc2=>?_)
  ·refine sA ?_
   obtain ⟨p34,hq3,hs1⟩:=zjJ hs1
   refine zki (λ s2=>s2=⟨[(0,(.lf false (.sc (.string a0)))),(3,(I g32.t3)),(32,(B p34.t32))],[],0,36⟩) ?_ ?_
   ·refine sA ?_
    obtain ⟨hp4,hq3⟩:=zjK hq3
    refine sA ?_
    refine zj2 ?_
    refine zj6 hq3 (λ hq3 hc5=>?_) (λ hq3 hc5=>?_)
    ·refine sA ?_
     obtain ⟨hp6,hq3⟩:=zjK hq3
     refine sA ?_
     refine zj2 ?_
     refine zj6 hq3 (λ hq3 hc7=>?_) (λ hq3 hc7=>?_)
     ·refine sA ?_
      cases hq3
      exact zj1 rfl (zjQ [])
     ·refine sA ?_
      obtain ⟨hp8,hq3⟩:=zjK hq3
      refine sA ?_
      refine zj2 ?_
      refine zj6 hq3 (λ hq3 hc9=>?_) (λ hq3 hc9=>?_)
      ·refine sA ?_
       obtain ⟨hp10,hq3⟩:=zjK hq3
       refine sA ?_
       refine zj2 ?_
       cases hq3
       exact zj1 rfl (zjQ [])
      ·refine sA ?_
       cases hq3
       exact zj1 rfl (zjQ [])
    ·refine sA ?_
     obtain ⟨hp11,hq3⟩:=zjK hq3
     refine sA ?_
     refine zj2 ?_
     refine zj6 hq3 (λ hq3 hc12=>?_) (λ hq3 hc12=>?_)
     ·refine sA ?_
      obtain ⟨hp13,hq3⟩:=zjK hq3
      refine sA ?_
      refine zj2 ?_
      cases hq3
      exact zj1 rfl (zjQ [])
     ·refine sA ?_
      cases hq3
      exact zj1 rfl (zjQ [])
   ·intro s2 hJ;subst hJ
    try dsimp only at hs1
    refine sA ?_
    refine zjO hs1 (λ hs1 hc14=>?_) (λ hs1 hc14=>?_)
    ·refine sA ?_
     cases hs1
     cases hk1
     try dsimp only at h
     refine sA ?_
     have he:=oi h
     subst he
     exact zjM ⟨[(2,(B false))],[],0,36⟩ []
    ·refine sA ?_
     cases hs1
     exact zjW hk1 (zjQ [])
  ·refine sA ?_
   cases hs1
   cases hk1
   try dsimp only at h
   refine sA ?_
   cases h
   exact zjM ⟨[(2,(B (decide ((a0.size:Int)≤12))))],[],0,36⟩ []
theorem ziO {a0:EventT} {r:Bool} (h:zee a0=some r):Fn Tryz.prog 85 [(.ag [(I a0.Id),(I a0.fVe),(I a0.Kind),(.lf false (.sc (.string a0.Name)))])] [] 0 (B r) [] 0:=by
 unfold zee at h
 refine fc [] Tryz.func85 ?_
 simp only [Tryz.f85]
 refine sA ?_
 obtain ⟨c29,hr1,h⟩:=zjJ h
 refine zjR (zY hr1) ?_
 refine sA ?_
 refine zj6 h (λ h hc2=>?_) (λ h hc2=>?_)
 ·refine sA ?_
  obtain ⟨c30,hr3,h⟩:=zjJ h
  refine zjR (zY hr3) ?_
  refine sA ?_
  refine zj6 h (λ h hc4=>?_) (λ h hc4=>?_)
  ·refine sA ?_
   obtain ⟨c31,hr5,h⟩:=zjJ h
   refine zjR (zY hr5) ?_
   refine sA ?_
   refine zj6 h (λ h hc6=>?_) (λ h hc6=>?_)
   ·refine sA ?_
    obtain ⟨c38,hr7,h⟩:=zjJ h
    refine zjR (zgz hr7) ?_
    refine sA ?_
    have he:=oi h
    subst he
    exact zjM ⟨[(2,(B c38))],[],0,21⟩ []
   ·refine sA ?_
    have he:=oi h
    subst he
    exact zjM ⟨[(2,(B false))],[],0,21⟩ []
  ·refine sA ?_
   have he:=oi h
   subst he
   exact zjM ⟨[(2,(B false))],[],0,21⟩ []
 ·refine sA ?_
  have he:=oi h
  subst he
  exact zjM ⟨[(2,(B false))],[],0,21⟩ []
theorem zjx {a0:zjV} {r:zjV} (h:zfC a0=some r):Fn Tryz.prog 228 [(.ag [(I a0.fSt),(I a0.Next),(B a0.fCa),(I a0.Done),(.lf true (.sl (a0.fSi.map eS))),(.lf true (.sl (a0.fTi.map eS)))])] [] 0 (.ag [(I r.fSt),(I r.Next),(B r.fCa),(I r.Done),(.os 0 1 0 r.fSi.length r.fSi.length false),(.os 1 1 0 r.fTi.length r.fTi.length false)]) [(0,some (true,.arr false 1 (r.fSi.map eS))),(1,some (true,.arr false 1 (r.fTi.map eS)))] 3:=by
 unfold zfC at h
 refine fc [(1000,[(1,0),(2,0)]),(1001,[(1,0),(2,0)]),(1002,[(1,0),(2,0)]),(1003,[(2,0)])] Tryz.func228 ?_
 simp only [Tryz.f228]
 refine sA ?_
 obtain ⟨hp1,h⟩:=zjK h
 refine sA ?_
 refine zj2 ?_
 obtain ⟨hp2,h⟩:=zjK h
 refine sA ?_
 refine zj2 ?_
 cases h
 exact zjM ⟨[(2,(.pb 2 0))],[(0,some (true,.arr false 1 ((([])++a0.fSi).map eS))),(1,some (true,.arr false 1 ((([])++a0.fTi).map eS))),(2,some (true,.box [(I a0.fSt),(I a0.Next),(B a0.fCa),(I a0.Done),(.os 0 1 0 ((([])++a0.fSi).length) ((([])++a0.fSi).length) false),(.os 1 1 0 ((([])++a0.fTi).length) ((([])++a0.fTi).length) false)]))],3,14⟩ [some 3,some 5,some 1]
theorem zfm {a0:(List ByteArray)} {a1:ByteArray} {r:Int} (h:zbe a0 a1=some r):Fn Tryz.prog 186 [(.lf true (.sl (a0.map eS))),(.lf false (.sc (.string a1)))] [] 0 (I r) [] 0:=by
 unfold zbe at h
 refine fc [(1000,[(0,0),(1,0)]),(1001,[(1,0),(7,0),(8,0),(9,0)]),(1002,[(1,0),(7,0),(8,0),(9,0),(10,0)]),(1003,[(1,0),(5,0),(6,0),(7,0),(8,0),(9,0)]),(1004,[(1,0),(5,0),(7,0),(8,0),(9,0),(16,0)]),(1005,[(4,0)]),(1006,[(1,0),(7,0),(8,0),(9,0)]),(1007,[(4,0)])] Tryz.func186 ?_
 simp only [Tryz.f186]
 refine sA ?_
 obtain ⟨y43,hl1,h⟩:=zjJ h
 refine zj3 (λ g42:zfO=>⟨[(1,(.lf false (.sc (.string a1)))),(7,(.lf true (.sl (a0.map eS)))),(8,(I ((a0.length:Nat):Int))),(9,(I g42.t9))],[],0,19⟩) (zdp a0 a1) _ _ hl1 (zjQ []) ?_
 ·intro n1 g42 z1 hs1 hk1
  unfold zdp at hs1
  try dsimp only at hs1
  refine sA ?_
  refine zjO hs1 (λ hs1 hc2=>?_) (λ hs1 hc2=>?_)
  ·refine sA ?_
   obtain ⟨hp3,hs1⟩:=zjK hs1
   have hn3:g42.t9.toNat < a0.length:=by first|omega|(simp;omega)
   refine sA ?_
   refine zj2 ?_
   refine zjO hs1 (λ hs1 hc4=>?_) (λ hs1 hc4=>?_)
   ·refine sA ?_
    cases hs1
    cases hk1
    try dsimp only at h
    refine sA ?_
    cases h
    exact zjM ⟨[(4,(I g42.t9))],[],0,19⟩ []
   ·refine sA ?_
    cases hs1
    exact zjW hk1 (zjQ [])
  ·refine sA ?_
   cases hs1
   cases hk1
   try dsimp only at h
   refine sA ?_
   cases h
   exact zjM ⟨[(4,(I (-1)))],[],0,19⟩ []
theorem zhc {a0:(List ByteArray)} {a1:ByteArray} {r:(List ByteArray)} (h:zbA a0 a1=some r):Fn Tryz.prog 187 [(.lf true (.sl (a0.map eS))),(.lf false (.sc (.string a1)))] [] 0 (.os 0 1 0 r.length r.length false) [(0,some (true,.arr false 1 (r.map eS)))] 1:=by
 unfold zbA at h
 refine fc [(1000,[(0,0),(1,0)]),(1001,[(0,0),(1,0),(5,0)]),(1002,[(0,0),(1,0),(5,0),(6,0)]),(1003,[(1,0),(5,0),(6,0),(13,0),(14,0),(15,0)]),(1004,[(1,0),(5,0),(6,0),(13,0),(14,0),(15,0),(16,0)]),(1005,[(1,0),(5,0),(6,0),(8,0),(13,0),(14,0),(15,0)]),(1006,[(1,0),(5,0),(6,0),(8,0),(13,0),(14,0),(15,0),(21,0)]),(1007,[(1,0),(5,0),(6,0),(8,0),(13,0),(14,0),(15,0),(28,0)]),(1008,[(1,0),(5,0),(8,0),(13,0),(14,0),(15,0)]),(1009,[(1,0),(5,0),(6,0),(8,0),(13,0),(14,0),(15,0)]),(1010,[(1,0),(5,0),(6,0),(13,0),(14,0),(15,0)]),(1011,[(1,0),(5,0),(6,0),(13,0),(14,0),(15,0)]),(1012,[(1,0),(5,0),(39,0)]),(1013,[(5,0)]),(1014,[(4,0)]),(4007,[])] Tryz.func187 ?_
 simp only [Tryz.f187]
 refine sA ?_
 obtain ⟨c48,hr1,h⟩:=zjJ h
 refine zjR (zfm hr1) ?_
 refine sA ?_
 obtain ⟨y52,hl2,h⟩:=zjJ h
 refine zj3 (λ g49:zfT=>⟨[(1,(.lf false (.sc (.string a1)))),(5,(.os 0 1 0 g49.c0.length g49.c0.length false)),(6,(B g49.t6)),(13,(.lf true (.sl (a0.map eS)))),(14,(I ((a0.length:Nat):Int))),(15,(I g49.t15))],[(0,some (true,.arr false 1 (g49.c0.map eS)))],1,45⟩) (zC a0 a1) _ _ hl2 (zjQ [none]) ?_
 ·intro n1 g49 z1 hs1 hk1
  unfold zC at hs1
  try dsimp only at hs1
  refine sA ?_
  refine zjO hs1 (λ hs1 hc3=>?_) (λ hs1 hc3=>?_)
  ·refine sA ?_
   obtain ⟨hp4,hs1⟩:=zjK hs1
   have hn4:g49.t15.toNat < a0.length:=by first|omega|(simp;omega)
   refine sA ?_
   refine zj2 ?_
   refine zjO hs1 (λ hs1 hc5=>?_) (λ hs1 hc5=>?_)
   ·refine sA ?_
    cases hs1
    exact zjW hk1 (zjQ [some 0])
   ·refine sA ?_
    obtain ⟨p51,hq6,hs1⟩:=zjJ hs1
    refine zki (λ s2=>s2=⟨[(1,(.lf false (.sc (.string a1)))),(5,(.os 0 1 0 g49.c0.length g49.c0.length false)),(6,(B g49.t6)),(8,(.lf false (.sc (.string (nth a0 g49.t15.toNat))))),(13,(.lf true (.sl (a0.map eS)))),(14,(I ((a0.length:Nat):Int))),(15,(I g49.t15)),(28,(B p51.t28))],[(0,some (true,.arr false 1 (g49.c0.map eS)))],1,45⟩) ?_ ?_
    ·refine sA ?_
     refine zj6 hq6 (λ hq6 hc7=>?_) (λ hq6 hc7=>?_)
     ·refine sA ?_
      cases hq6
      exact zj1 rfl (zjQ [some 0])
     ·refine sA ?_
      cases hq6
      exact zj1 rfl (zjQ [some 0])
    ·intro s2 hJ;subst hJ
     try dsimp only at hs1
     refine sA ?_
     refine zjO hs1 (λ hs1 hc8=>?_) (λ hs1 hc8=>?_)
     ·refine sA ?_
      obtain ⟨hp9,hs1⟩:=zjK hs1
      refine sA ?_
      refine zj2 ?_
      obtain ⟨hp10,hs1⟩:=zjK hs1
      refine sA ?_
      refine zj2 ?_
      cases hs1
      exact zjW hk1 (zjQ [some 4])
     ·refine sA ?_
      obtain ⟨hp11,hs1⟩:=zjK hs1
      refine sA ?_
      refine zj2 ?_
      cases hs1
      exact zjW hk1 (zjQ [some 2])
  ·refine sA ?_
   cases hs1
   cases hk1
   try dsimp only at h
   refine sA ?_
   refine zjO h (λ h hc12=>?_) (λ h hc12=>?_)
   ·refine sA ?_
    obtain ⟨hp13,h⟩:=zjK h
    refine sA ?_
    refine zj2 ?_
    cases h
    exact zjM ⟨[(4,(.os 0 1 0 ((g49.c0++([a1])).length) ((g49.c0++([a1])).length) false))],[(0,some (true,.arr false 1 ((g49.c0++([a1])).map eS)))],1,45⟩ [some 2]
   ·refine sA ?_
    cases h
    exact zjM ⟨[(4,(.os 0 1 0 g49.c0.length g49.c0.length false))],[(0,some (true,.arr false 1 (g49.c0.map eS)))],1,45⟩ [some 0]
theorem zhd {a0:(List ByteArray)} {a1:Bool} {r:Bool} (h:zdq a0 a1=some r):Fn Tryz.prog 260 [(.lf true (.sl (a0.map eS))),(B a1)] [] 0 (B r) [] 0:=by
 unfold zdq at h
 refine fc [(1000,[(0,0),(1,0)]),(1001,[(0,0),(1,0),(9,0),(10,0),(11,0)]),(1002,[(0,0),(1,0),(9,0),(10,0),(11,0),(12,0)]),(1003,[(0,0),(1,0),(5,0),(6,0),(9,0),(10,0),(11,0)]),(1004,[(0,0),(1,0),(5,0),(6,0),(9,0),(10,0),(11,0),(18,0)]),(1005,[(4,0)]),(1006,[(0,0),(1,0),(5,0),(6,0),(9,0),(10,0),(11,0),(21,0),(22,0),(23,0)]),(1007,[(0,0),(1,0),(5,0),(6,0),(9,0),(10,0),(11,0),(21,0),(22,0),(23,0),(24,0)]),(1008,[(0,0),(1,0),(5,0),(6,0),(7,0),(8,0),(9,0),(10,0),(11,0),(21,0),(22,0),(23,0)]),(1009,[(0,0),(1,0),(5,0),(6,0),(9,0),(10,0),(11,0),(21,0),(22,0),(23,0),(44,0)]),(1010,[(4,0)]),(1011,[(0,0),(1,0),(5,0),(6,0),(9,0),(10,0),(11,0),(21,0),(22,0),(23,0)]),(1012,[(0,0),(1,0),(9,0),(10,0),(11,0)]),(1013,[(4,0)]),(4009,[])] Tryz.func260 ?_
 simp only [Tryz.f260]
 refine sA ?_
 obtain ⟨y72,hl1,h⟩:=zjJ h
 refine zj3 (λ g57:zbM=>⟨[(0,(.lf true (.sl (a0.map eS)))),(1,(B a1)),(9,(.lf true (.sl (a0.map eS)))),(10,(I ((a0.length:Nat):Int))),(11,(I g57.t11))],[],0,50⟩) (zbO a0 a1) _ _ hl1 (zjQ []) ?_
 ·intro n1 g57 z1 hs1 hk1
  unfold zbO at hs1
  try dsimp only at hs1
  refine sA ?_
  refine zjO hs1 (λ hs1 hc2=>?_) (λ hs1 hc2=>?_)
  ·refine sA ?_
   obtain ⟨hp3,hs1⟩:=zjK hs1
   have hn3:g57.t11.toNat < a0.length:=by first|omega|(simp;omega)
   refine sA ?_
   refine zj2 ?_
   obtain ⟨c65,hr4,hs1⟩:=zjJ hs1
   refine zjR (zgz hr4) ?_
   refine sA ?_
   refine zjO hs1 (λ hs1 hc5=>?_) (λ hs1 hc5=>?_)
   ·refine sA ?_
    cases hs1
    cases hk1
    try dsimp only at h
    refine sA ?_
    have he:=oi h
    subst he
    exact zjM ⟨[(4,(B false))],[],0,50⟩ []
   ·refine sA ?_
    obtain ⟨hp6,hs1⟩:=zjK hs1
    refine sA ?_
    refine zj2 ?_
    obtain ⟨y69,hl7,hs1⟩:=zjJ hs1
    refine zj3 (λ g66:zeE=>⟨[(0,(.lf true (.sl (a0.map eS)))),(1,(B a1)),(5,(I g57.t11)),(6,(.lf false (.sc (.string (nth a0 g57.t11.toNat))))),(9,(.lf true (.sl (a0.map eS)))),(10,(I ((a0.length:Nat):Int))),(11,(I g57.t11)),(21,(.lf true (.sl ((a0.take g57.t11.toNat).map eS)))),(22,(I (((a0.take g57.t11.toNat).length:Nat):Int))),(23,(I g66.t23))],[],0,50⟩) (zbN a0 g57 a1) _ _ hl7 (zjQ []) ?_
    ·intro n2 g66 z2 hs2 hk2
     unfold zbN at hs2
     try dsimp only at hs2
     refine sA ?_
     refine zjO hs2 (λ hs2 hc8=>?_) (λ hs2 hc8=>?_)
     ·refine sA ?_
      obtain ⟨hp9,hs2⟩:=zjK hs2
      have hn9:g66.t23.toNat < (a0.take g57.t11.toNat).length:=by first|omega|(simp;omega)
      refine sA ?_
      refine zj2 ?_
      obtain ⟨p68,hq10,hs2⟩:=zjJ hs2
      refine zki (λ s2=>s2=⟨[(0,(.lf true (.sl (a0.map eS)))),(1,(B a1)),(5,(I g57.t11)),(6,(.lf false (.sc (.string (nth a0 g57.t11.toNat))))),(9,(.lf true (.sl (a0.map eS)))),(10,(I ((a0.length:Nat):Int))),(11,(I g57.t11)),(21,(.lf true (.sl ((a0.take g57.t11.toNat).map eS)))),(22,(I (((a0.take g57.t11.toNat).length:Nat):Int))),(23,(I g66.t23)),(44,(B p68.t44))],[],0,50⟩) ?_ ?_
      ·refine sA ?_
       refine zj6 hq10 (λ hq10 hc11=>?_) (λ hq10 hc11=>?_)
       ·refine sA ?_
        cases hq10
        exact zj1 rfl (zjQ [])
       ·refine sA ?_
        refine zj6 hq10 (λ hq10 hc12=>?_) (λ hq10 hc12=>?_)
        ·refine sA ?_
         refine zj6 hq10 (λ hq10 hc13=>?_) (λ hq10 hc13=>?_)
         ·refine sA ?_
          cases hq10
          exact zj1 rfl (zjQ [])
         ·refine sA ?_
          cases hq10
          exact zj1 rfl (zjQ [])
        ·refine sA ?_
         cases hq10
         exact zj1 rfl (zjQ [])
      ·intro s2 hJ;subst hJ
       try dsimp only at hs2
       refine sA ?_
       refine zjO hs2 (λ hs2 hc14=>?_) (λ hs2 hc14=>?_)
       ·refine sA ?_
        cases hs2
        cases hk2
        try dsimp only at hs1
        refine sA ?_
        cases hs1
        cases hk1
        try dsimp only at h
        refine sA ?_
        have he:=oi h
        subst he
        exact zjM ⟨[(4,(B false))],[],0,50⟩ []
       ·refine sA ?_
        cases hs2
        exact zjW hk2 (zjQ [])
     ·refine sA ?_
      cases hs2
      cases hk2
      try dsimp only at hs1
      refine sA ?_
      cases hs1
      exact zjW hk1 (zjQ [])
  ·refine sA ?_
   cases hs1
   cases hk1
   try dsimp only at h
   refine sA ?_
   cases h
   exact zjM ⟨[(4,(B (decide (((a0.length:Nat):Int)≤30))))],[],0,50⟩ []
theorem ziP {a0:zjV} {r:Bool} (h:zcQ a0=some r):Fn Tryz.prog 229 [(.ag [(I a0.fSt),(I a0.Next),(B a0.fCa),(I a0.Done),(.lf true (.sl (a0.fSi.map eS))),(.lf true (.sl (a0.fTi.map eS)))])] [] 0 (B r) [] 0:=by
 unfold zcQ at h
 refine fc [(1000,[(1,0)]),(1001,[(1,0),(30,0)]),(1002,[(2,0)]),(1003,[(1,0),(33,0)]),(1004,[(2,0)]),(1005,[(2,0)]),(4001,[])] Tryz.func229 ?_
 simp only [Tryz.f229]
 refine sA ?_
 obtain ⟨p78,hq1,h⟩:=zjJ h
 refine zki (λ s2=>s2=⟨[(1,(.pb 0 0)),(30,(B p78.t30))],[(0,some (true,.box [(I a0.fSt),(I a0.Next),(B a0.fCa),(I a0.Done),(.lf true (.sl (a0.fSi.map eS))),(.lf true (.sl (a0.fTi.map eS)))]))],1,62⟩) ?_ ?_
 ·refine sA ?_
  obtain ⟨c55,hr2,hq1⟩:=zjJ hq1
  refine zjR (zY hr2) ?_
  refine sA ?_
  refine zj6 hq1 (λ hq1 hc3=>?_) (λ hq1 hc3=>?_)
  ·refine sA ?_
   cases hq1
   exact zj1 rfl (zjQ [some 0])
  ·refine sA ?_
   obtain ⟨c56,hr4,hq1⟩:=zjJ hq1
   refine zjR (zY hr4) ?_
   refine sA ?_
   refine zj6 hq1 (λ hq1 hc5=>?_) (λ hq1 hc5=>?_)
   ·refine sA ?_
    cases hq1
    exact zj1 rfl (zjQ [some 0])
   ·refine sA ?_
    obtain ⟨c75,hr6,hq1⟩:=zjJ hq1
    refine zjR (zhd hr6) ?_
    refine sA ?_
    refine zj6 hq1 (λ hq1 hc7=>?_) (λ hq1 hc7=>?_)
    ·refine sA ?_
     cases hq1
     exact zj1 rfl (zjQ [some 0])
    ·refine sA ?_
     obtain ⟨c76,hr8,hq1⟩:=zjJ hq1
     refine zjR (zhd hr8) ?_
     refine sA ?_
     refine zj6 hq1 (λ hq1 hc9=>?_) (λ hq1 hc9=>?_)
     ·refine sA ?_
      cases hq1
      exact zj1 rfl (zjQ [some 0])
     ·refine sA ?_
      obtain ⟨c77,hr10,hq1⟩:=zjJ hq1
      refine zjR (zY hr10) ?_
      refine sA ?_
      cases hq1
      exact zj1 rfl (zjQ [some 0])
 ·intro s2 hJ;subst hJ
  try dsimp only at h
  refine sA ?_
  refine zjO h (λ h hc11=>?_) (λ h hc11=>?_)
  ·refine sA ?_
   have he:=oi h
   subst he
   exact zjM ⟨[(2,(B false))],[],0,62⟩ []
  ·refine sA ?_
   refine zjO h (λ h hc12=>?_) (λ h hc12=>?_)
   ·refine sA ?_
    refine zj6 h (λ h hc13=>?_) (λ h hc13=>?_)
    ·refine sA ?_
     refine zj6 h (λ h hc14=>?_) (λ h hc14=>?_)
     ·refine sA ?_
      refine zj6 h (λ h hc15=>?_) (λ h hc15=>?_)
      ·refine sA ?_
       refine zj6 h (λ h hc16=>?_) (λ h hc16=>?_)
       ·refine sA ?_
        cases h
        exact zjM ⟨[(2,(B (((a0.fTi.length:Nat):Int) == 0)))],[],0,62⟩ []
       ·refine sA ?_
        have he:=oi h
        subst he
        exact zjM ⟨[(2,(B false))],[],0,62⟩ []
      ·refine sA ?_
       have he:=oi h
       subst he
       exact zjM ⟨[(2,(B false))],[],0,62⟩ []
     ·refine sA ?_
      have he:=oi h
      subst he
      exact zjM ⟨[(2,(B false))],[],0,62⟩ []
    ·refine sA ?_
     have he:=oi h
     subst he
     exact zjM ⟨[(2,(B false))],[],0,62⟩ []
   ·refine sA ?_
    cases h
    exact zjM ⟨[(2,(B (decide (a0.Next > 1))))],[],0,62⟩ []
theorem zhe {a0:zjV} {a1:EventT} {r:(zjV×Bool)} (h:zbB a0 a1=some r):Fn Tryz.prog 189 [(.ag [(I a0.fSt),(I a0.Next),(B a0.fCa),(I a0.Done),(.lf true (.sl (a0.fSi.map eS))),(.lf true (.sl (a0.fTi.map eS)))]),(.ag [(I a1.Id),(I a1.fVe),(I a1.Kind),(.lf false (.sc (.string a1.Name)))])] [] 0 (.tu [(.ag [(I r.1.fSt),(I r.1.Next),(B r.1.fCa),(I r.1.Done),(.lf true (.sl (r.1.fSi.map eS))),(.lf true (.sl (r.1.fTi.map eS)))]),(B r.2)]) [] 1:=by
 unfold zbB at h
 refine fc [(22,[(0,2)]),(1000,[(2,0),(3,0),(4,0)]),(1001,[(2,0),(3,0),(4,0),(29,0)]),(1002,[(4,0),(5,0)]),(1003,[(2,0),(3,0),(4,0)]),(1004,[(2,0),(3,0),(4,0),(34,0)]),(1005,[(2,0),(4,0)]),(1006,[(2,0),(4,0)]),(1007,[(2,0),(3,0),(4,0),(34,0),(37,0)]),(1008,[(2,0),(4,0)]),(1009,[(2,0),(3,0),(4,0),(34,0),(40,0)]),(1010,[(2,0),(3,0),(4,0),(53,0)]),(1011,[(4,0),(5,0)]),(1012,[(2,0),(4,0)]),(1013,[(2,0),(3,0),(4,0),(34,0),(62,0)]),(1014,[(2,0),(4,0)]),(1015,[(2,0),(3,0),(4,0),(34,0),(68,0)]),(1016,[(2,0),(4,0)]),(1017,[(2,0),(4,0),(76,0)]),(1018,[(2,0),(4,0),(79,0)]),(1019,[(4,0),(5,0)]),(1020,[(2,0),(4,0)]),(1021,[(2,0),(4,0)]),(1022,[(4,0),(5,0)]),(3000,[]),(4001,[]),(4010,[])] Tryz.func189 ?_
 simp only [Tryz.f189]
 refine sA ?_
 obtain ⟨p40,hq1,h⟩:=zjJ h
 refine zki (λ s2=>s2=⟨[(2,(.pb 0 0)),(3,(.pb 1 0)),(4,(.pb 2 0)),(29,(B p40.t29))],[(0,some (true,.box [(I a0.fSt),(I a0.Next),(B a0.fCa),(I a0.Done),(.lf true (.sl (a0.fSi.map eS))),(.lf true (.sl (a0.fTi.map eS)))])),(1,some (true,.box [(I a1.Id),(I a1.fVe),(I a1.Kind),(.lf false (.sc (.string a1.Name)))])),(2,some (true,.box [(I 0),(I 0),(B false),(I 0),.nl,.nl]))],3,89⟩) ?_ ?_
 ·refine sA ?_
  obtain ⟨c39,hr2,hq1⟩:=zjJ hq1
  refine zjR (ziO hr2) ?_
  refine sA ?_
  refine zj6 hq1 (λ hq1 hc3=>?_) (λ hq1 hc3=>?_)
  ·refine sA ?_
   cases hq1
   exact zj1 rfl (zjQ [some 0,some 1,some 2])
  ·refine sA ?_
   refine zj6 hq1 (λ hq1 hc4=>?_) (λ hq1 hc4=>?_)
   ·refine sA ?_
    cases hq1
    exact zj1 rfl (zjQ [some 0,some 1,some 2])
   ·refine sA ?_
    refine zj6 hq1 (λ hq1 hc5=>?_) (λ hq1 hc5=>?_)
    ·refine sA ?_
     cases hq1
     exact zj1 rfl (zjQ [some 0,some 1,some 2])
    ·refine sA ?_
     cases hq1
     exact zj1 rfl (zjQ [some 0,some 1,some 2])
 ·intro s2 hJ;subst hJ
  try dsimp only at h
  refine sA ?_
  refine zjO h (λ h hc6=>?_) (λ h hc6=>?_)
  ·refine sA ?_
   cases h
   exact zjM ⟨[(4,(.pb 0 0)),(5,(B false))],[(0,some (true,.box [(I a0.fSt),(I a0.Next),(B a0.fCa),(I a0.Done),(.lf true (.sl (a0.fSi.map eS))),(.lf true (.sl (a0.fTi.map eS)))]))],1,89⟩ [some 2]
  ·refine sA ?_
   obtain ⟨c41,hr7,h⟩:=zjJ h
   refine zjR (zjx hr7) ?_
   refine sA ?_
   obtain ⟨q8,hq8,h⟩:=zjJ h
   refine zki (λ s2=>∃ p54:zJ,q8=.inl p54∧s2=⟨[(2,(.pb 0 0)),(4,(.pb 1 0))],[(0,some (true,.box [(I p54.b0_0),(I c41.Next),(B p54.b0_2),(I p54.b0_3),(.os 2 1 0 p54.c2.length p54.c2.length false),(.os 3 1 0 p54.c3.length p54.c3.length false)])),(1,some (true,.box [(I 0),(I 0),(B false),(I 0),.nl,.nl])),(2,some (true,.arr false 1 (p54.c2.map eS))),(3,some (true,.arr false 1 (p54.c3.map eS)))],4,89⟩) ?_ ?_
   ·refine sA ?_
    refine zjO hq8 (λ hq8 hc9=>?_) (λ hq8 hc9=>?_)
    ·refine sA ?_
     cases hq8
     exact zj1 ⟨_,rfl,rfl⟩ (zjQ [some 0,some 2,some 3,some 4])
    ·refine sA ?_
     refine zjO hq8 (λ hq8 hc10=>?_) (λ hq8 hc10=>?_)
     ·refine sA ?_
      obtain ⟨p47,hq11,hq8⟩:=zjJ hq8
      refine zki (λ s2=>s2=⟨[(2,(.pb 0 0)),(3,(.pb 1 0)),(4,(.pb 2 0)),(53,(B p47.t53))],[(0,some (true,.box [(I c41.fSt),(I c41.Next),(B c41.fCa),(I c41.Done),(.os 3 1 0 c41.fSi.length c41.fSi.length false),(.os 4 1 0 c41.fTi.length c41.fTi.length false)])),(1,some (true,.box [(I a1.Id),(I a1.fVe),(I a1.Kind),(.lf false (.sc (.string a1.Name)))])),(2,some (true,.box [(I 0),(I 0),(B false),(I 0),.nl,.nl])),(3,some (true,.arr false 1 (c41.fSi.map eS))),(4,some (true,.arr false 1 (c41.fTi.map eS)))],5,89⟩) ?_ ?_
      ·refine sA ?_
       obtain ⟨c46,hr12,hq11⟩:=zjJ hq11
       refine zjR (zfm hr12) ?_
       refine sA ?_
       refine zj6 hq11 (λ hq11 hc13=>?_) (λ hq11 hc13=>?_)
       ·refine sA ?_
        cases hq11
        exact zj1 rfl (zjQ [some 0,some 1,some 2,some 3,some 4])
       ·refine sA ?_
        cases hq11
        exact zj1 rfl (zjQ [some 0,some 1,some 2,some 3,some 4])
      ·intro s2 hJ;subst hJ
       try dsimp only at hq8
       refine sA ?_
       refine zjO hq8 (λ hq8 hc14=>?_) (λ hq8 hc14=>?_)
       ·refine sA ?_
        cases hq8
        try dsimp only at h
        cases h
        refine zkF 3 ?_
        refine zkF 4 ?_
        refine sA ?_
        exact zjM ⟨[(4,(.pb 0 0)),(5,(B false))],[(0,some (true,.box [(I c41.fSt),(I c41.Next),(B c41.fCa),(I c41.Done),(.lf true (.sl (c41.fSi.map eS))),(.lf true (.sl (c41.fTi.map eS)))]))],1,89⟩ [some 2]
       ·refine sA ?_
        obtain ⟨hp15,hq8⟩:=zjK hq8
        refine sA ?_
        refine zj2 ?_
        cases hq8
        exact zj1 ⟨_,rfl,rfl⟩ (zjQ [some 0,some 2,some 6,some 4])
     ·refine sA ?_
      refine zjO hq8 (λ hq8 hc16=>?_) (λ hq8 hc16=>?_)
      ·refine sA ?_
       cases hq8
       exact zj1 ⟨_,rfl,rfl⟩ (zjQ [some 0,some 2,some 3,some 4])
      ·refine sA ?_
       refine zjO hq8 (λ hq8 hc17=>?_) (λ hq8 hc17=>?_)
       ·refine sA ?_
        obtain ⟨c53,hr18,hq8⟩:=zjJ hq8
        refine zjR (zhc hr18) ?_
        refine sA ?_
        cases hq8
        exact zj1 ⟨_,rfl,rfl⟩ (zjQ [some 0,some 2,some 3,some 6])
       ·refine sA ?_
        refine zjO hq8 (λ hq8 hc19=>?_) (λ hq8 hc19=>?_)
        ·refine sA ?_
         refine zjO hq8 (λ hq8 hc20=>?_) (λ hq8 hc20=>?_)
         ·refine sA ?_
          cases hq8
          try dsimp only at h
          cases h
          refine zkF 3 ?_
          refine zkF 4 ?_
          refine sA ?_
          exact zjM ⟨[(4,(.pb 0 0)),(5,(B false))],[(0,some (true,.box [(I c41.fSt),(I c41.Next),(B c41.fCa),(I c41.Done),(.lf true (.sl (c41.fSi.map eS))),(.lf true (.sl (c41.fTi.map eS)))]))],1,89⟩ [some 2]
         ·refine sA ?_
          cases hq8
          exact zj1 ⟨_,rfl,rfl⟩ (zjQ [some 0,some 2,some 3,some 4])
        ·refine sA ?_
         cases hq8
         exact zj1 ⟨_,rfl,rfl⟩ (zjQ [some 0,some 2,some 3,none])
   ·intro s2 hJ;obtain ⟨p54,e,rfl⟩:=hJ;subst e
    try dsimp only at h
    refine sA ?_
    obtain ⟨c79,hr21,h⟩:=zjJ h
    refine zjR (ziP hr21) ?_
    refine sA ?_
    cases h
    refine zkF 2 ?_
    refine zkF 3 ?_
    refine sA ?_
    exact zjM ⟨[(4,(.pb 0 0)),(5,(B c79))],[(0,some (true,.box [(I p54.b0_0),(I (wI (c41.Next+1))),(B p54.b0_2),(I p54.b0_3),(.lf true (.sl (p54.c2.map eS))),(.lf true (.sl (p54.c3.map eS)))]))],1,89⟩ [some 1]
theorem zfw {a0:(List EventT)} {r:(zjV×Int)} (h:zca a0=some r):Fn Tryz.prog 185 [(.lf true (.sl (a0.map zjU)))] [] 0 (.tu [(.ag [(I r.1.fSt),(I r.1.Next),(B r.1.fCa),(I r.1.Done),(.lf true (.sl (r.1.fSi.map eS))),(.lf true (.sl (r.1.fTi.map eS)))]),(I r.2)]) [] 1:=by
 unfold zca at h
 refine fc [(1000,[(0,0),(2,0)]),(1001,[(0,0),(2,0),(4,0)]),(1002,[(0,0),(2,0),(4,0),(10,0),(11,0),(12,0)]),(1003,[(0,0),(2,0),(4,0),(10,0),(11,0),(12,0),(13,0)]),(1004,[(0,0),(2,0),(4,0),(5,0),(6,0),(10,0),(11,0),(12,0)]),(1005,[(0,0),(2,0),(4,0),(5,0),(7,0),(8,0),(10,0),(11,0),(12,0)]),(1006,[(0,0),(2,0),(4,0),(5,0),(7,0),(10,0),(11,0),(12,0),(24,0)]),(1007,[(2,0),(3,0)]),(1008,[(0,0),(2,0),(4,0),(10,0),(11,0),(12,0)]),(1009,[(0,0),(2,0),(4,0),(10,0),(11,0),(12,0)]),(1010,[(2,0),(3,0)])] Tryz.func185 ?_
 simp only [Tryz.f185]
 refine sA ?_
 obtain ⟨c27,hr1,h⟩:=zjJ h
 refine zjR (zi6 hr1) ?_
 refine sA ?_
 obtain ⟨y82,hl2,h⟩:=zjJ h
 refine zj3 (λ g28:zf5=>⟨[(0,(.lf true (.sl (a0.map zjU)))),(2,(.pb 0 0)),(4,(.pb 1 0)),(10,(.lf true (.sl (a0.map zjU)))),(11,(I ((a0.length:Nat):Int))),(12,(I g28.t12))],[(0,some (true,.box [(I 0),(I 0),(B false),(I 0),.nl,.nl])),(1,some (true,.box [(I g28.b1_0),(I g28.b1_1),(B g28.b1_2),(I g28.b1_3),(.lf true (.sl (g28.b1_4.map eS))),(.lf true (.sl (g28.b1_5.map eS)))]))],2,32⟩) (zaD a0) _ _ hl2 (zjQ [some 0,some 2]) ?_
 ·intro n1 g28 z1 hs1 hk1
  unfold zaD at hs1
  try dsimp only at hs1
  refine sA ?_
  refine zjO hs1 (λ hs1 hc3=>?_) (λ hs1 hc3=>?_)
  ·refine sA ?_
   obtain ⟨hp4,hs1⟩:=zjK hs1
   have hn4:g28.t12.toNat < a0.length:=by first|omega|(simp;omega)
   refine sA ?_
   refine zj2 ?_
   obtain ⟨c81,hr5,hs1⟩:=zjJ hs1
   refine zjR (zhe hr5) ?_
   refine sA ?_
   refine zjO hs1 (λ hs1 hc6=>?_) (λ hs1 hc6=>?_)
   ·refine sA ?_
    cases hs1
    cases hk1
    try dsimp only at h
    refine sA ?_
    cases h
    exact zjM ⟨[(2,(.pb 0 0)),(3,(I g28.t12))],[(0,some (true,.box [(I g28.b1_0),(I g28.b1_1),(B g28.b1_2),(I g28.b1_3),(.lf true (.sl (g28.b1_4.map eS))),(.lf true (.sl (g28.b1_5.map eS)))]))],1,32⟩ [some 0]
   ·refine sA ?_
    cases hs1
    exact zjW hk1 (zjQ [some 0,some 1])
  ·refine sA ?_
   cases hs1
   cases hk1
   try dsimp only at h
   refine sA ?_
   cases h
   exact zjM ⟨[(2,(.pb 0 0)),(3,(I ((a0.length:Nat):Int)))],[(0,some (true,.box [(I g28.b1_0),(I g28.b1_1),(B g28.b1_2),(I g28.b1_3),(.lf true (.sl (g28.b1_4.map eS))),(.lf true (.sl (g28.b1_5.map eS)))]))],1,32⟩ [some 0]
theorem ziQ {a0:(List EventT)} {r:Bool} (h:zeg a0=some r):Fn Tryz.prog 221 [(.lf true (.sl (a0.map zjU)))] [] 0 (B r) [] 0:=by
 unfold zeg at h
 refine fc [(1000,[(0,0)]),(1001,[(0,0),(7,0),(8,0)]),(1002,[(0,0),(7,0),(8,0),(9,0)]),(1003,[(0,0),(3,0),(7,0),(8,0)]),(1004,[(0,0),(7,0),(8,0),(26,0)]),(1005,[(2,0)]),(1006,[(0,0),(7,0),(8,0)]),(1007,[(0,0),(5,0)]),(1008,[(2,0)]),(4004,[])] Tryz.func221 ?_
 simp only [Tryz.f221]
 refine sA ?_
 obtain ⟨y24,hl1,h⟩:=zjJ h
 refine zj3 (λ g21:zd2=>⟨[(0,(.lf true (.sl (a0.map zjU)))),(7,(I ((a0.length:Nat):Int))),(8,(I g21.t8))],[],0,42⟩) (zbq a0) _ _ hl1 (zjQ []) ?_
 ·intro n1 g21 z1 hs1 hk1
  unfold zbq at hs1
  try dsimp only at hs1
  refine sA ?_
  refine zjO hs1 (λ hs1 hc2=>?_) (λ hs1 hc2=>?_)
  ·refine sA ?_
   obtain ⟨p23,hq3,hs1⟩:=zjJ hs1
   refine zki (λ s2=>s2=⟨[(0,(.lf true (.sl (a0.map zjU)))),(7,(I ((a0.length:Nat):Int))),(8,(I g21.t8)),(26,(B p23.t26))],[],0,42⟩) ?_ ?_
   ·refine sA ?_
    refine zj6 hq3 (λ hq3 hc4=>?_) (λ hq3 hc4=>?_)
    ·refine sA ?_
     obtain ⟨hp5,hq3⟩:=zjK hq3
     have hn5:(wI (g21.t8 - 1)).toNat < a0.length:=by first|omega|(simp;omega)
     refine sA ?_
     refine zj2 ?_
     obtain ⟨hp6,hq3⟩:=zjK hq3
     have hn6:g21.t8.toNat < a0.length:=by first|omega|(simp;omega)
     refine sA ?_
     refine zj2 ?_
     cases hq3
     exact zj1 rfl (zjQ [])
    ·refine sA ?_
     cases hq3
     exact zj1 rfl (zjQ [])
   ·intro s2 hJ;subst hJ
    try dsimp only at hs1
    refine sA ?_
    refine zjO hs1 (λ hs1 hc7=>?_) (λ hs1 hc7=>?_)
    ·refine sA ?_
     cases hs1
     cases hk1
     try dsimp only at h
     refine sA ?_
     have he:=oi h
     subst he
     exact zjM ⟨[(2,(B false))],[],0,42⟩ []
    ·refine sA ?_
     cases hs1
     exact zjW hk1 (zjQ [])
  ·refine sA ?_
   cases hs1
   cases hk1
   try dsimp only at h
   refine sA ?_
   obtain ⟨c86,hr8,h⟩:=zjJ h
   refine zjR (zfw hr8) ?_
   refine sA ?_
   refine zj6 h (λ h hc9=>?_) (λ h hc9=>?_)
   ·refine sA ?_
    cases h
    exact zjM ⟨[(2,(B (decide (((a0.length:Nat):Int)≤60))))],[],0,42⟩ []
   ·refine sA ?_
    have he:=oi h
    subst he
    exact zjM ⟨[(2,(B false))],[],0,42⟩ []
theorem zir {a0:(List EventT)} {r:Bool} (h:zdx a0=some r):Fn Tryz.prog 176 [(.lf true (.sl (a0.map zjU)))] [] 0 (B r) [] 0:=by
 unfold zdx at h
 refine fc [] Tryz.func176 ?_
 simp only [Tryz.f176]
 refine sA ?_
 refine zj6 h (λ h hc1=>?_) (λ h hc1=>?_)
 ·refine sA ?_
  obtain ⟨c87,hr2,h⟩:=zjJ h
  refine zjR (ziQ hr2) ?_
  refine sA ?_
  have he:=oi h
  subst he
  exact zjM ⟨[(2,(B c87))],[],0,10⟩ []
 ·refine sA ?_
  have he:=oi h
  subst he
  exact zjM ⟨[(2,(B false))],[],0,10⟩ []
theorem zi7 {a0:EventT} {a1:EventT} {r:Int} (h:zeO a0 a1=some r):Fn Tryz.prog 222 [(.ag [(I a0.Id),(I a0.fVe),(I a0.Kind),(.lf false (.sc (.string a0.Name)))]),(.ag [(I a1.Id),(I a1.fVe),(I a1.Kind),(.lf false (.sc (.string a1.Name)))])] [] 0 (I r) [] 0:=by
 unfold zeO at h
 refine fc [(1000,[(2,0),(3,0)]),(1001,[(2,0),(3,0),(5,0)]),(1002,[(15,0)]),(1003,[(4,0)]),(1004,[(4,0)]),(1005,[(2,0),(3,0),(16,0)]),(1006,[(26,0)]),(1007,[(4,0)]),(1008,[(4,0)]),(1009,[(2,0),(3,0),(27,0)]),(1010,[(4,0)]),(1011,[(33,0)]),(1012,[(4,0)]),(1013,[(4,0)])] Tryz.func222 ?_
 simp only [Tryz.f222]
 refine sA ?_
 refine zjO h (λ h hc1=>?_) (λ h hc1=>?_)
 ·refine sA ?_
  refine zjO h (λ h hc2=>?_) (λ h hc2=>?_)
  ·refine sA ?_
   cases h
   exact zjM ⟨[(4,(I (-1)))],[],0,39⟩ []
  ·refine sA ?_
   have he:=oi h
   subst he
   exact zjM ⟨[(4,(I 1))],[],0,39⟩ []
 ·refine sA ?_
  refine zjO h (λ h hc3=>?_) (λ h hc3=>?_)
  ·refine sA ?_
   refine zjO h (λ h hc4=>?_) (λ h hc4=>?_)
   ·refine sA ?_
    cases h
    exact zjM ⟨[(4,(I (-1)))],[],0,39⟩ []
   ·refine sA ?_
    have he:=oi h
    subst he
    exact zjM ⟨[(4,(I 1))],[],0,39⟩ []
  ·refine sA ?_
   refine zjO h (λ h hc5=>?_) (λ h hc5=>?_)
   ·refine sA ?_
    cases h
    exact zjM ⟨[(4,(I (-1)))],[],0,39⟩ []
   ·refine sA ?_
    refine zjO h (λ h hc6=>?_) (λ h hc6=>?_)
    ·refine sA ?_
     have he:=oi h
     subst he
     exact zjM ⟨[(4,(I 1))],[],0,39⟩ []
    ·refine sA ?_
     have he:=oi h
     subst he
     exact zjM ⟨[(4,(I 0))],[],0,39⟩ []
theorem zeb {a0:(List EventT)} {a1:(List EventT)} {r:(Int×Int)} (h:zaE a0 a1=some r):Fn Tryz.prog 177 [(.lf true (.sl (a0.map zjU))),(.lf true (.sl (a1.map zjU)))] [] 0 (.tu [(I r.1),(I r.2)]) [] 0:=by
 unfold zaE at h
 refine fc [(1000,[(0,0),(1,0)]),(1001,[(0,0),(1,0),(6,0)]),(1002,[(0,0),(1,0),(6,0),(17,0)]),(1003,[(0,0),(1,0),(6,0)]),(1004,[(0,0),(1,0),(6,0),(7,0)]),(1005,[(0,0),(1,0),(6,0),(7,0),(30,0)]),(1006,[(4,0),(5,0)]),(1007,[(0,0),(1,0),(33,0)]),(1008,[(4,0),(5,0)]),(1009,[(0,0),(1,0),(41,0)]),(1010,[(4,0),(5,0)]),(1011,[(4,0),(5,0)])] Tryz.func177 ?_
 simp only [Tryz.f177]
 refine sA ?_
 obtain ⟨y93,hl1,h⟩:=zjJ h
 refine zj3 (λ g90:zdy=>⟨[(0,(.lf true (.sl (a0.map zjU)))),(1,(.lf true (.sl (a1.map zjU)))),(6,(I g90.t6))],[],0,51⟩) (za0 a0 a1) _ _ hl1 (zjQ []) ?_
 ·intro n1 g90 z1 hs1 hk1
  unfold za0 at hs1
  try dsimp only at hs1
  refine sA ?_
  refine zj6 hs1 (λ hs1 hc2=>?_) (λ hs1 hc2=>?_)
  ·refine sA ?_
   refine zjO hs1 (λ hs1 hc3=>?_) (λ hs1 hc3=>?_)
   ·refine sA ?_
    obtain ⟨hp4,hs1⟩:=zjK hs1
    have hn4:g90.t6.toNat < a0.length:=by first|omega|(simp;omega)
    refine sA ?_
    refine zj2 ?_
    obtain ⟨hp5,hs1⟩:=zjK hs1
    have hn5:g90.t6.toNat < a1.length:=by first|omega|(simp;omega)
    refine sA ?_
    refine zj2 ?_
    obtain ⟨c92,hr6,hs1⟩:=zjJ hs1
    refine zjR (zi7 hr6) ?_
    refine sA ?_
    refine zjO hs1 (λ hs1 hc7=>?_) (λ hs1 hc7=>?_)
    ·refine sA ?_
     cases hs1
     cases hk1
     try dsimp only at h
     refine sA ?_
     cases h
     exact zjM ⟨[(4,(I c92)),(5,(I g90.t6))],[],0,51⟩ []
    ·refine sA ?_
     cases hs1
     exact zjW hk1 (zjQ [])
   ·refine sA ?_
    cases hs1
    cases hk1
    try dsimp only at h
    refine sA ?_
    refine zjO h (λ h hc8=>?_) (λ h hc8=>?_)
    ·refine sA ?_
     cases h
     exact zjM ⟨[(4,(I (-1))),(5,(I ((a0.length:Nat):Int)))],[],0,51⟩ []
    ·refine sA ?_
     refine zjO h (λ h hc9=>?_) (λ h hc9=>?_)
     ·refine sA ?_
      cases h
      exact zjM ⟨[(4,(I 1)),(5,(I ((a1.length:Nat):Int)))],[],0,51⟩ []
     ·refine sA ?_
      cases h
      exact zjM ⟨[(4,(I 0)),(5,(I ((a0.length:Nat):Int)))],[],0,51⟩ []
  ·refine sA ?_
   cases hs1
   cases hk1
   try dsimp only at h
   refine sA ?_
   refine zjO h (λ h hc10=>?_) (λ h hc10=>?_)
   ·refine sA ?_
    cases h
    exact zjM ⟨[(4,(I (-1))),(5,(I ((a0.length:Nat):Int)))],[],0,51⟩ []
   ·refine sA ?_
    refine zjO h (λ h hc11=>?_) (λ h hc11=>?_)
    ·refine sA ?_
     cases h
     exact zjM ⟨[(4,(I 1)),(5,(I ((a1.length:Nat):Int)))],[],0,51⟩ []
    ·refine sA ?_
     cases h
     exact zjM ⟨[(4,(I 0)),(5,(I ((a0.length:Nat):Int)))],[],0,51⟩ []
theorem zda {a0:(List EventT)} {a1:(List EventT)} {r:Bool} (h:zao a0 a1=some r):Fn Tryz.prog 178 [(.lf true (.sl (a0.map zjU))),(.lf true (.sl (a1.map zjU)))] [] 0 (B r) [] 0:=by
 unfold zao at h
 refine fc [(1000,[(0,0),(1,0)]),(1001,[(1,0),(6,0)]),(1002,[(4,0)])] Tryz.func178 ?_
 simp only [Tryz.f178]
 refine sA ?_
 obtain ⟨c97,hr1,h⟩:=zjJ h
 refine zjR (zeb hr1) ?_
 refine sA ?_
 cases h
 exact zjM ⟨[(4,(B (c97.2 == ((a1.length:Nat):Int))))],[],0,17⟩ []
theorem zdj {a0:TellingsT} {r:Bool} (h:zZ a0=some r):Fn Tryz.prog 130 [(.ag [(.lf true (.sl (a0.fBr.map zjN)))])] [] 0 (B r) [] 0:=by
 unfold zZ at h
 refine fc [(1000,[(1,0)]),(1001,[(1,0),(10,0),(11,0),(12,0)]),(1002,[(1,0),(10,0),(11,0),(12,0),(13,0)]),(1003,[(1,0),(3,0),(4,0),(10,0),(11,0),(12,0)]),(1004,[(1,0),(3,0),(4,0),(10,0),(11,0),(12,0),(20,0)]),(1005,[(2,0)]),(1006,[(1,0),(3,0),(4,0),(10,0),(11,0),(12,0),(24,0),(25,0),(26,0)]),(1007,[(1,0),(3,0),(4,0),(10,0),(11,0),(12,0),(24,0),(25,0),(26,0),(27,0)]),(1008,[(1,0),(3,0),(4,0),(5,0),(6,0),(10,0),(11,0),(12,0),(24,0),(25,0),(26,0)]),(1009,[(1,0),(3,0),(4,0),(5,0),(6,0),(7,0),(10,0),(11,0),(12,0),(24,0),(25,0),(26,0)]),(1010,[(1,0),(3,0),(4,0),(10,0),(11,0),(12,0),(24,0),(25,0),(26,0),(52,0)]),(1011,[(2,0)]),(1012,[(1,0),(3,0),(4,0),(10,0),(11,0),(12,0),(24,0),(25,0),(26,0)]),(1013,[(1,0),(10,0),(11,0),(12,0)]),(1014,[(2,0)]),(4010,[])] Tryz.func130 ?_
 simp only [Tryz.f130]
 refine sA ?_
 obtain ⟨y117,hl1,h⟩:=zjJ h
 refine zj3 (λ g20:zap=>⟨[(1,(.pb 0 0)),(10,(.lf true (.sl (a0.fBr.map zjN)))),(11,(I ((a0.fBr.length:Nat):Int))),(12,(I g20.t12))],[(0,some (true,.box [(.lf true (.sl (a0.fBr.map zjN)))]))],1,59⟩) (zar a0) _ _ hl1 (zjQ [some 0]) ?_
 ·intro n1 g20 z1 hs1 hk1
  unfold zar at hs1
  try dsimp only at hs1
  refine sA ?_
  refine zjO hs1 (λ hs1 hc2=>?_) (λ hs1 hc2=>?_)
  ·refine sA ?_
   obtain ⟨hp3,hs1⟩:=zjK hs1
   have hn3:g20.t12.toNat < a0.fBr.length:=by first|omega|(simp;omega)
   refine sA ?_
   refine zj2 ?_
   obtain ⟨c106,hr4,hs1⟩:=zjJ hs1
   refine zjR (zir hr4) ?_
   refine sA ?_
   refine zjO hs1 (λ hs1 hc5=>?_) (λ hs1 hc5=>?_)
   ·refine sA ?_
    cases hs1
    cases hk1
    try dsimp only at h
    refine sA ?_
    have he:=oi h
    subst he
    exact zjM ⟨[(2,(B false))],[],0,59⟩ []
   ·refine sA ?_
    obtain ⟨hp6,hs1⟩:=zjK hs1
    refine sA ?_
    refine zj2 ?_
    obtain ⟨y114,hl7,hs1⟩:=zjJ hs1
    refine zj3 (λ g107:zcD=>⟨[(1,(.pb 0 0)),(3,(I g20.t12)),(4,(.pb 1 0)),(10,(.lf true (.sl (a0.fBr.map zjN)))),(11,(I ((a0.fBr.length:Nat):Int))),(12,(I g20.t12)),(24,(.lf true (.sl ((a0.fBr.take g20.t12.toNat).map zjN)))),(25,(I (((a0.fBr.take g20.t12.toNat).length:Nat):Int))),(26,(I g107.t26))],[(0,some (true,.box [(.lf true (.sl (a0.fBr.map zjN)))])),(1,some (true,.box [(.lf true (.sl (((nth a0.fBr g20.t12.toNat).fEv).map zjU)))]))],2,59⟩) (zaq a0 g20) _ _ hl7 (zjQ [some 0,some 1]) ?_
    ·intro n2 g107 z2 hs2 hk2
     unfold zaq at hs2
     try dsimp only at hs2
     refine sA ?_
     refine zjO hs2 (λ hs2 hc8=>?_) (λ hs2 hc8=>?_)
     ·refine sA ?_
      obtain ⟨hp9,hs2⟩:=zjK hs2
      have hn9:g107.t26.toNat < (a0.fBr.take g20.t12.toNat).length:=by first|omega|(simp;omega)
      refine sA ?_
      refine zj2 ?_
      obtain ⟨c111,hr10,hs2⟩:=zjJ hs2
      refine zjR (zeb hr10) ?_
      refine sA ?_
      obtain ⟨p113,hq11,hs2⟩:=zjJ hs2
      refine zki (λ s2=>s2=⟨[(1,(.pb 0 0)),(3,(I g20.t12)),(4,(.pb 1 0)),(10,(.lf true (.sl (a0.fBr.map zjN)))),(11,(I ((a0.fBr.length:Nat):Int))),(12,(I g20.t12)),(24,(.lf true (.sl ((a0.fBr.take g20.t12.toNat).map zjN)))),(25,(I (((a0.fBr.take g20.t12.toNat).length:Nat):Int))),(26,(I g107.t26)),(52,(B p113.t52))],[(0,some (true,.box [(.lf true (.sl (a0.fBr.map zjN)))])),(1,some (true,.box [(.lf true (.sl (((nth a0.fBr g20.t12.toNat).fEv).map zjU)))]))],2,59⟩) ?_ ?_
      ·refine sA ?_
       refine zj6 hq11 (λ hq11 hc12=>?_) (λ hq11 hc12=>?_)
       ·refine sA ?_
        cases hq11
        exact zj1 rfl (zjQ [some 0,some 1])
       ·refine sA ?_
        obtain ⟨c112,hr13,hq11⟩:=zjJ hq11
        refine zjR (zda hr13) ?_
        refine sA ?_
        refine zj6 hq11 (λ hq11 hc14=>?_) (λ hq11 hc14=>?_)
        ·refine sA ?_
         cases hq11
         exact zj1 rfl (zjQ [some 0,some 1])
        ·refine sA ?_
         cases hq11
         exact zj1 rfl (zjQ [some 0,some 1])
      ·intro s2 hJ;subst hJ
       try dsimp only at hs2
       refine sA ?_
       refine zjO hs2 (λ hs2 hc15=>?_) (λ hs2 hc15=>?_)
       ·refine sA ?_
        cases hs2
        cases hk2
        try dsimp only at hs1
        refine sA ?_
        cases hs1
        cases hk1
        try dsimp only at h
        refine sA ?_
        have he:=oi h
        subst he
        exact zjM ⟨[(2,(B false))],[],0,59⟩ []
       ·refine sA ?_
        cases hs2
        exact zjW hk2 (zjQ [some 0,some 1])
     ·refine sA ?_
      cases hs2
      cases hk2
      try dsimp only at hs1
      refine sA ?_
      cases hs1
      exact zjW hk1 (zjQ [some 0])
  ·refine sA ?_
   cases hs1
   cases hk1
   try dsimp only at h
   refine sA ?_
   cases h
   exact zjM ⟨[(2,(B (decide (((a0.fBr.length:Nat):Int)≤12))))],[],0,59⟩ []
theorem zbz {a0:RegionT} {r:Bool} (h:zB a0=some r):Fn Tryz.prog 56 [(.ag [(I a0.Id),(I a0.fVe),(.lf true (.sl (a0.fTe.fBr.map zjN)))])] [] 0 (B r) [] 0:=by
 unfold zB at h
 refine fc [(1000,[(1,0)]),(1001,[(1,0),(22,0)]),(1002,[(2,0)]),(1003,[(1,0),(25,0),(26,0),(27,0)]),(1004,[(1,0),(25,0),(26,0),(27,0),(28,0)]),(1005,[(1,0),(4,0),(25,0),(26,0),(27,0)]),(1006,[(1,0),(25,0),(26,0),(27,0),(32,0),(33,0),(34,0)]),(1007,[(1,0),(25,0),(26,0),(27,0),(32,0),(33,0),(34,0),(35,0)]),(1008,[(1,0),(6,0),(25,0),(26,0),(27,0),(32,0),(33,0),(34,0)]),(1009,[(1,0),(25,0),(26,0),(27,0),(32,0),(33,0),(34,0),(42,0)]),(1010,[(2,0)]),(1011,[(1,0),(25,0),(26,0),(27,0),(32,0),(33,0),(34,0)]),(1012,[(1,0),(25,0),(26,0),(27,0)]),(1013,[(2,0)]),(4001,[])] Tryz.func56 ?_
 simp only [Tryz.f56]
 refine sA ?_
 obtain ⟨p121,hq1,h⟩:=zjJ h
 refine zki (λ s2=>s2=⟨[(1,(.pb 0 0)),(22,(B p121.t22))],[(0,some (true,.box [(I a0.Id),(I a0.fVe),(.lf true (.sl (a0.fTe.fBr.map zjN)))]))],1,45⟩) ?_ ?_
 ·refine sA ?_
  obtain ⟨c17,hr2,hq1⟩:=zjJ hq1
  refine zjR (zY hr2) ?_
  refine sA ?_
  refine zj6 hq1 (λ hq1 hc3=>?_) (λ hq1 hc3=>?_)
  ·refine sA ?_
   cases hq1
   exact zj1 rfl (zjQ [some 0])
  ·refine sA ?_
   obtain ⟨c19,hr4,hq1⟩:=zjJ hq1
   refine zjR (zfA hr4) ?_
   refine sA ?_
   refine zj6 hq1 (λ hq1 hc5=>?_) (λ hq1 hc5=>?_)
   ·refine sA ?_
    cases hq1
    exact zj1 rfl (zjQ [some 0])
   ·refine sA ?_
    obtain ⟨c120,hr6,hq1⟩:=zjJ hq1
    refine zjR (zdj hr6) ?_
    refine sA ?_
    cases hq1
    exact zj1 rfl (zjQ [some 0])
 ·intro s2 hJ;subst hJ
  try dsimp only at h
  refine sA ?_
  refine zjO h (λ h hc7=>?_) (λ h hc7=>?_)
  ·refine sA ?_
   have he:=oi h
   subst he
   exact zjM ⟨[(2,(B false))],[],0,45⟩ []
  ·refine sA ?_
   obtain ⟨y131,hl8,h⟩:=zjJ h
   refine zj3 (λ g122:za4=>⟨[(1,(.pb 0 0)),(25,(.lf true (.sl (a0.fTe.fBr.map zjN)))),(26,(I ((a0.fTe.fBr.length:Nat):Int))),(27,(I g122.t27))],[(0,some (true,.box [(I a0.Id),(I a0.fVe),(.lf true (.sl (a0.fTe.fBr.map zjN)))]))],1,45⟩) (za6 a0) _ _ hl8 (zjQ [some 0]) ?_
   ·intro n1 g122 z1 hs1 hk1
    unfold za6 at hs1
    try dsimp only at hs1
    refine sA ?_
    refine zjO hs1 (λ hs1 hc9=>?_) (λ hs1 hc9=>?_)
    ·refine sA ?_
     obtain ⟨hp10,hs1⟩:=zjK hs1
     have hn10:g122.t27.toNat < a0.fTe.fBr.length:=by first|omega|(simp;omega)
     refine sA ?_
     refine zj2 ?_
     obtain ⟨y128,hl11,hs1⟩:=zjJ hs1
     refine zj3 (λ g127:zdB=>⟨[(1,(.pb 0 0)),(25,(.lf true (.sl (a0.fTe.fBr.map zjN)))),(26,(I ((a0.fTe.fBr.length:Nat):Int))),(27,(I g122.t27)),(32,(.lf true (.sl (((nth a0.fTe.fBr g122.t27.toNat).fEv).map zjU)))),(33,(I ((((nth a0.fTe.fBr g122.t27.toNat).fEv).length:Nat):Int))),(34,(I g127.t34))],[(0,some (true,.box [(I a0.Id),(I a0.fVe),(.lf true (.sl (a0.fTe.fBr.map zjN)))]))],1,45⟩) (za5 a0 g122) _ _ hl11 (zjQ [some 0]) ?_
     ·intro n2 g127 z2 hs2 hk2
      unfold za5 at hs2
      try dsimp only at hs2
      refine sA ?_
      refine zjO hs2 (λ hs2 hc12=>?_) (λ hs2 hc12=>?_)
      ·refine sA ?_
       obtain ⟨hp13,hs2⟩:=zjK hs2
       have hn13:g127.t34.toNat < ((nth a0.fTe.fBr g122.t27.toNat).fEv).length:=by first|omega|(simp;omega)
       refine sA ?_
       refine zj2 ?_
       refine zjO hs2 (λ hs2 hc14=>?_) (λ hs2 hc14=>?_)
       ·refine sA ?_
        cases hs2
        cases hk2
        try dsimp only at hs1
        refine sA ?_
        cases hs1
        cases hk1
        try dsimp only at h
        refine sA ?_
        have he:=oi h
        subst he
        exact zjM ⟨[(2,(B false))],[],0,45⟩ []
       ·refine sA ?_
        cases hs2
        exact zjW hk2 (zjQ [some 0])
      ·refine sA ?_
       cases hs2
       cases hk2
       try dsimp only at hs1
       refine sA ?_
       cases hs1
       exact zjW hk1 (zjQ [some 0])
    ·refine sA ?_
     cases hs1
     cases hk1
     try dsimp only at h
     refine sA ?_
     have he:=oi h
     subst he
     exact zjM ⟨[(2,(B true))],[],0,45⟩ []
theorem ziR {a0:WorldT} {r:Bool} (h:zeq a0=some r):Fn Tryz.prog 34 [(.ag [(.lf true (.sl (a0.fRe.map zjS))),(.lf true (.sl (a0.Line.map zj5)))])] [] 0 (B r) [] 0:=by
 unfold zeq at h
 refine fc [(1000,[(1,0)]),(1001,[(1,0),(16,0)]),(1002,[(2,0)]),(1003,[(1,0),(18,0),(19,0),(20,0)]),(1004,[(1,0),(18,0),(19,0),(20,0),(21,0)]),(1005,[(1,0),(3,0),(4,0),(18,0),(19,0),(20,0)]),(1006,[(1,0),(18,0),(19,0),(20,0),(33,0)]),(1007,[(2,0)]),(1008,[(1,0),(18,0),(19,0),(20,0)]),(1009,[(36,0),(37,0),(38,0)]),(1010,[(36,0),(37,0),(38,0),(39,0)]),(1011,[(6,0),(36,0),(37,0),(38,0)]),(1012,[(36,0),(37,0),(38,0),(56,0)]),(1013,[(2,0)]),(1014,[(36,0),(37,0),(38,0)]),(1015,[(2,0)]),(4001,[]),(4006,[]),(4012,[])] Tryz.func34 ?_
 simp only [Tryz.f34]
 refine sA ?_
 obtain ⟨p15,hq1,h⟩:=zjJ h
 refine zki (λ s2=>s2=⟨[(1,(.pb 0 0)),(16,(B p15.t16))],[(0,some (true,.box [(.lf true (.sl (a0.fRe.map zjS))),(.lf true (.sl (a0.Line.map zj5)))]))],1,58⟩) ?_ ?_
 ·refine sA ?_
  refine zj6 hq1 (λ hq1 hc2=>?_) (λ hq1 hc2=>?_)
  ·refine sA ?_
   cases hq1
   exact zj1 rfl (zjQ [some 0])
  ·refine sA ?_
   cases hq1
   exact zj1 rfl (zjQ [some 0])
 ·intro s2 hJ;subst hJ
  try dsimp only at h
  refine sA ?_
  refine zjO h (λ h hc3=>?_) (λ h hc3=>?_)
  ·refine sA ?_
   have he:=oi h
   subst he
   exact zjM ⟨[(2,(B false))],[],0,58⟩ []
  ·refine sA ?_
   obtain ⟨y138,hl4,h⟩:=zjJ h
   refine zj3 (λ g16:zd5=>⟨[(1,(.pb 0 0)),(18,(.lf true (.sl (a0.fRe.map zjS)))),(19,(I ((a0.fRe.length:Nat):Int))),(20,(I g16.t20))],[(0,some (true,.box [(.lf true (.sl (a0.fRe.map zjS))),(.lf true (.sl (a0.Line.map zj5)))]))],1,58⟩) (zbu a0) _ _ hl4 (zjQ [some 0]) ?_
   ·intro n1 g16 z1 hs1 hk1
    unfold zbu at hs1
    try dsimp only at hs1
    refine sA ?_
    refine zjO hs1 (λ hs1 hc5=>?_) (λ hs1 hc5=>?_)
    ·refine sA ?_
     obtain ⟨hp6,hs1⟩:=zjK hs1
     have hn6:g16.t20.toNat < a0.fRe.length:=by first|omega|(simp;omega)
     refine sA ?_
     refine zj2 ?_
     obtain ⟨p137,hq7,hs1⟩:=zjJ hs1
     refine zki (λ s2=>s2=⟨[(1,(.pb 0 0)),(18,(.lf true (.sl (a0.fRe.map zjS)))),(19,(I ((a0.fRe.length:Nat):Int))),(20,(I g16.t20)),(33,(B p137.t33))],[(0,some (true,.box [(.lf true (.sl (a0.fRe.map zjS))),(.lf true (.sl (a0.Line.map zj5)))]))],1,58⟩) ?_ ?_
     ·refine sA ?_
      obtain ⟨c136,hr8,hq7⟩:=zjJ hq7
      refine zjR (zbz hr8) ?_
      refine sA ?_
      refine zj6 hq7 (λ hq7 hc9=>?_) (λ hq7 hc9=>?_)
      ·refine sA ?_
       cases hq7
       exact zj1 rfl (zjQ [some 0])
      ·refine sA ?_
       cases hq7
       exact zj1 rfl (zjQ [some 0])
     ·intro s2 hJ;subst hJ
      try dsimp only at hs1
      refine sA ?_
      refine zjO hs1 (λ hs1 hc10=>?_) (λ hs1 hc10=>?_)
      ·refine sA ?_
       cases hs1
       cases hk1
       try dsimp only at h
       refine sA ?_
       have he:=oi h
       subst he
       exact zjM ⟨[(2,(B false))],[],0,58⟩ []
      ·refine sA ?_
       cases hs1
       exact zjW hk1 (zjQ [some 0])
    ·refine sA ?_
     cases hs1
     cases hk1
     try dsimp only at h
     refine sA ?_
     obtain ⟨y158,hl11,h⟩:=zjJ h
     refine zj3 (λ g151:zd6=>⟨[(36,(.lf true (.sl (a0.Line.map zj5)))),(37,(I ((a0.Line.length:Nat):Int))),(38,(I g151.t38))],[],0,58⟩) (_) _ _ hl11 (zjQ []) ?_
     ·intro n3 g151 z3 hs3 hk3
      unfold zcu at hs3
      try dsimp only at hs3
      refine sA ?_
      refine zjO hs3 (λ hs3 hc12=>?_) (λ hs3 hc12=>?_)
      ·refine sA ?_
       obtain ⟨hp13,hs3⟩:=zjK hs3
       have hn13:g151.t38.toNat < a0.Line.length:=by first|omega|(simp;omega)
       refine sA ?_
       refine zj2 ?_
       obtain ⟨p157,hq14,hs3⟩:=zjJ hs3
       refine zki (λ s2=>s2=⟨[(36,(.lf true (.sl (a0.Line.map zj5)))),(37,(I ((a0.Line.length:Nat):Int))),(38,(I g151.t38)),(56,(B p157.t56))],[],0,58⟩) ?_ ?_
       ·refine sA ?_
        obtain ⟨c155,hr15,hq14⟩:=zjJ hq14
        refine zjR (zY hr15) ?_
        refine sA ?_
        refine zj6 hq14 (λ hq14 hc16=>?_) (λ hq14 hc16=>?_)
        ·refine sA ?_
         cases hq14
         exact zj1 rfl (zjQ [])
        ·refine sA ?_
         obtain ⟨c156,hr17,hq14⟩:=zjJ hq14
         refine zjR (zbz hr17) ?_
         refine sA ?_
         cases hq14
         exact zj1 rfl (zjQ [])
       ·intro s2 hJ;subst hJ
        try dsimp only at hs3
        refine sA ?_
        refine zjO hs3 (λ hs3 hc18=>?_) (λ hs3 hc18=>?_)
        ·refine sA ?_
         cases hs3
         cases hk3
         try dsimp only at h
         refine sA ?_
         have he:=oi h
         subst he
         exact zjM ⟨[(2,(B false))],[],0,58⟩ []
        ·refine sA ?_
         cases hs3
         exact zjW hk3 (zjQ [])
      ·refine sA ?_
       cases hs3
       cases hk3
       try dsimp only at h
       refine sA ?_
       have he:=oi h
       subst he
       exact zjM ⟨[(2,(B true))],[],0,58⟩ []
theorem zu {a0:(List EventT)} {r:(List EventT)} (h:zg a0=some r):Fn Tryz.prog 172 [(.lf true (.sl (a0.map zjU)))] [] 0 (.os 0 4 0 r.length r.length false) [(0,some (true,.arr false 4 (r.map zjU)))] 1:=by
 unfold zg at h
 refine fc [] Tryz.func172 ?_
 simp only [Tryz.f172]
 refine sA ?_
 obtain ⟨hp1,h⟩:=zjK h
 refine sA ?_
 refine zj2 ?_
 cases h
 exact zjM ⟨[(2,(.os 0 4 0 ((([])++a0).length) ((([])++a0).length) false))],[(0,some (true,.arr false 4 ((([])++a0).map zjU)))],1,6⟩ [some 1]
theorem zeV {a0:TellingsT} {r:TellingsT} (h:zbc a0=some r):Fn Tryz.prog 121 [(.ag [(.lf true (.sl (a0.fBr.map zjN)))])] [] 0 (.ag [(.os 0 1 0 r.fBr.length r.fBr.length false)]) [(0,some (true,.deep [.sl [.sc,.sc,.sc,.sc]] (r.fBr.map zjN)))] 2:=by
 unfold zbc at h
 refine fc [(1000,[(1,0),(2,0)]),(1001,[(1,0),(2,0),(3,0)]),(1002,[(2,0),(3,0),(7,0),(8,0),(9,0)]),(1003,[(2,0),(3,0),(7,0),(8,0),(9,0),(10,0)]),(1004,[(2,0),(3,0),(5,0),(7,0),(8,0),(9,0)]),(1005,[(2,0),(3,0),(7,0),(8,0),(9,0)]),(1006,[(2,0),(3,0),(7,0),(8,0),(9,0)]),(1007,[(2,0)])] Tryz.func121 ?_
 simp only [Tryz.f121]
 refine sA ?_
 obtain ⟨y166,hl1,h⟩:=zjJ h
 refine zj3 (λ g163:zft=>⟨[(2,(.pb 0 0)),(3,(.os 1 1 0 g163.c1.length g163.c1.length false)),(7,(.lf true (.sl (a0.fBr.map zjN)))),(8,(I ((a0.fBr.length:Nat):Int))),(9,(I g163.t9))],[(0,some (true,.box [.nl])),(1,some (true,.deep [.sl [.sc,.sc,.sc,.sc]] (g163.c1.map zjN)))],2,23⟩) (zcU a0) _ _ hl1 (zjQ [some 1,none]) ?_
 ·intro n1 g163 z1 hs1 hk1
  unfold zcU at hs1
  try dsimp only at hs1
  refine sA ?_
  refine zjO hs1 (λ hs1 hc2=>?_) (λ hs1 hc2=>?_)
  ·refine sA ?_
   obtain ⟨hp3,hs1⟩:=zjK hs1
   have hn3:g163.t9.toNat < a0.fBr.length:=by first|omega|(simp;omega)
   refine sA ?_
   refine zj2 ?_
   obtain ⟨c165,hr4,hs1⟩:=zjJ hs1
   refine zjR (zu hr4) ?_
   refine sA ?_
   obtain ⟨hp5,hs1⟩:=zjK hs1
   refine sA ?_
   refine zj2 ?_
   cases hs1
   exact zjW hk1 (zob 5 (zjQ [some 0,some 5]))
  ·refine sA ?_
   cases hs1
   cases hk1
   try dsimp only at h
   refine sA ?_
   cases h
   exact zjM ⟨[(2,(.pb 1 0))],[(0,some (true,.deep [.sl [.sc,.sc,.sc,.sc]] (g163.c1.map zjN))),(1,some (true,.box [(.os 0 1 0 g163.c1.length g163.c1.length false)]))],2,23⟩ [some 1,some 0]
theorem zhf {a0:RegionT} {r:RegionT} (h:zdu a0=some r):Fn Tryz.prog 70 [(.ag [(I a0.Id),(I a0.fVe),(.lf true (.sl (a0.fTe.fBr.map zjN)))])] [] 0 (.ag [(I r.Id),(I r.fVe),(.lf false (.sl (r.fTe.fBr.map zjN)))]) [] 1:=by
 unfold zdu at h
 refine fc [(1000,[(1,0),(2,0)]),(1001,[(1,0),(2,0)]),(1002,[(2,0)])] Tryz.func70 ?_
 simp only [Tryz.f70]
 refine sA ?_
 obtain ⟨c167,hr1,h⟩:=zjJ h
 refine zjR (zeV hr1) ?_
 refine sA ?_
 cases h
 refine zkF 2 ?_
 refine sA ?_
 exact zjM ⟨[(2,(.pb 0 0))],[(0,some (true,.box [(I a0.Id),(I a0.fVe),(.lf false (.sl (c167.fBr.map zjN)))]))],1,8⟩ [some 1]
theorem zgj {a0:WordT} {r:WordT} (h:zaA a0=some r):Fn Tryz.prog 164 [(.ag [(I a0.fVe),(.lf true (.sl (a0.fTe.fBr.map zjN)))])] [] 0 (.ag [(I r.fVe),(.lf false (.sl (r.fTe.fBr.map zjN)))]) [] 1:=by
 unfold zaA at h
 refine fc [(1,[(1,4)])] Tryz.func164 ?_
 simp only [Tryz.f164]
 refine sA ?_
 obtain ⟨c179,hr1,h⟩:=zjJ h
 refine zjR (zeV hr1) ?_
 refine sA ?_
 cases h
 refine zkF 2 ?_
 refine sA ?_
 exact zjM ⟨[(2,(.pb 0 0))],[(0,some (true,.box [(I a0.fVe),(.lf false (.sl (c179.fBr.map zjN)))]))],1,9⟩ [some 1]
theorem zhN {a0:WorldT} {r:WorldT} (h:zdY a0=some r):Fn Tryz.prog 99 [(.ag [(.lf true (.sl (a0.fRe.map zjS))),(.lf true (.sl (a0.Line.map zj5)))])] [] 0 (.ag [(.os 0 3 0 r.fRe.length r.fRe.length false),(.os 1 3 0 r.Line.length r.Line.length false)]) [(0,some (true,.arr false 3 (r.fRe.map zjS))),(1,some (true,.arr false 3 (r.Line.map zj5)))] 3:=by
 unfold zdY at h
 refine fc [(5,[(1,3),(1,4)]),(10,[(1,6),(3,6),(1,8)]),(1000,[(1,0),(2,0)]),(1001,[(1,0),(2,0),(3,0)]),(1002,[(1,0),(2,0),(3,0),(9,0),(10,0),(11,0)]),(1003,[(1,0),(2,0),(3,0),(9,0),(10,0),(11,0),(12,0)]),(1004,[(1,0),(2,0),(3,0),(5,0),(9,0),(10,0),(11,0)]),(1005,[(1,0),(2,0),(3,0),(9,0),(10,0),(11,0)]),(1006,[(1,0),(2,0),(3,0),(9,0),(10,0),(11,0)]),(1007,[(2,0),(3,0),(24,0),(25,0),(26,0)]),(1008,[(2,0),(3,0),(24,0),(25,0),(26,0),(27,0)]),(1009,[(2,0),(3,0),(7,0),(24,0),(25,0),(26,0)]),(1010,[(2,0),(3,0),(24,0),(25,0),(26,0)]),(1011,[(2,0),(3,0),(24,0),(25,0),(26,0)]),(1012,[(2,0)])] Tryz.func99 ?_
 simp only [Tryz.f99]
 refine sA ?_
 obtain ⟨y177,hl1,h⟩:=zjJ h
 refine zj3 (λ g174:zfu=>⟨[(1,(.pb 0 0)),(2,(.pb 1 0)),(3,(.pb 2 0)),(9,(.lf true (.sl (a0.fRe.map zjS)))),(10,(I ((a0.fRe.length:Nat):Int))),(11,(I g174.t11))],[(0,some (true,.box [(.lf true (.sl (a0.fRe.map zjS))),(.lf true (.sl (a0.Line.map zj5)))])),(1,some (true,.box [.nl,.nl])),(2,some (true,.box [(.os 3 3 0 g174.c3.length g174.c3.length false),.nl])),(3,some (true,.arr false 3 (g174.c3.map zjS)))],4,43⟩) (zbX a0) _ _ hl1 (zjQ [some 0,some 1,some 2,none]) ?_
 ·intro n1 g174 z1 hs1 hk1
  unfold zbX at hs1
  try dsimp only at hs1
  refine sA ?_
  refine zjO hs1 (λ hs1 hc2=>?_) (λ hs1 hc2=>?_)
  ·refine sA ?_
   obtain ⟨hp3,hs1⟩:=zjK hs1
   have hn3:g174.t11.toNat < a0.fRe.length:=by first|omega|(simp;omega)
   refine sA ?_
   refine zj2 ?_
   obtain ⟨c176,hr4,hs1⟩:=zjJ hs1
   refine zjR (zhf hr4) ?_
   refine sA ?_
   obtain ⟨hp5,hs1⟩:=zjK hs1
   refine sA ?_
   refine zj2 ?_
   cases hs1
   exact zjW hk1 (zjQ [some 0,some 1,some 2,some 7])
  ·refine sA ?_
   cases hs1
   cases hk1
   try dsimp only at h
   refine sA ?_
   obtain ⟨y186,hl6,h⟩:=zjJ h
   refine zj3 (λ g183:zfv=>⟨[(2,(.pb 0 0)),(3,(.pb 1 0)),(24,(.lf true (.sl (a0.Line.map zj5)))),(25,(I ((a0.Line.length:Nat):Int))),(26,(I g183.t26))],[(0,some (true,.box [.nl,.nl])),(1,some (true,.box [(.os 2 3 0 g174.c3.length g174.c3.length false),(.os 3 3 0 g183.c3.length g183.c3.length false)])),(2,some (true,.arr false 3 (g174.c3.map zjS))),(3,some (true,.arr false 3 (g183.c3.map zj5)))],4,43⟩) (_) _ _ hl6 (zjQ [some 1,some 2,some 3,none]) ?_
   ·intro n3 g183 z3 hs3 hk3
    unfold zcV at hs3
    try dsimp only at hs3
    refine sA ?_
    refine zjO hs3 (λ hs3 hc7=>?_) (λ hs3 hc7=>?_)
    ·refine sA ?_
     obtain ⟨hp8,hs3⟩:=zjK hs3
     have hn8:g183.t26.toNat < a0.Line.length:=by first|omega|(simp;omega)
     refine sA ?_
     refine zj2 ?_
     obtain ⟨c185,hr9,hs3⟩:=zjJ hs3
     refine zjR (zgj hr9) ?_
     refine sA ?_
     obtain ⟨hp10,hs3⟩:=zjK hs3
     refine sA ?_
     refine zj2 ?_
     cases hs3
     exact zjW hk3 (zjQ [some 0,some 1,some 2,some 7])
    ·refine sA ?_
     cases hs3
     cases hk3
     try dsimp only at h
     refine sA ?_
     cases h
     exact zjM ⟨[(2,(.pb 2 0))],[(0,some (true,.arr false 3 (g174.c3.map zjS))),(1,some (true,.arr false 3 (g183.c3.map zj5))),(2,some (true,.box [(.os 0 3 0 g174.c3.length g174.c3.length false),(.os 1 3 0 g183.c3.length g183.c3.length false)]))],3,43⟩ [some 2,some 3,some 0]
theorem zjy {a0:(List BranchT)} {a1:(List EventT)} {r:(List BranchT)} (h:zfH a0 a1=some r):Fn Tryz.prog 179 [(.lf true (.sl (a0.map zjN))),(.lf true (.sl (a1.map zjU)))] [] 0 (.lf true (.sl (r.map zjN))) [] 0:=by
 unfold zfH at h
 refine fc [(1000,[(0,0),(1,0)]),(1001,[(0,0),(1,0),(5,0)]),(1002,[(0,0),(1,0),(5,0),(6,0)]),(1003,[(0,0),(1,0),(5,0),(6,0),(13,0),(14,0),(15,0)]),(1004,[(0,0),(1,0),(5,0),(6,0),(13,0),(14,0),(15,0),(16,0)]),(1005,[(0,0),(1,0),(5,0),(6,0),(8,0),(13,0),(14,0),(15,0)]),(1006,[(0,0),(1,0),(5,0),(6,0),(13,0),(14,0),(15,0),(22,0)]),(1007,[(4,0)]),(1008,[(0,0),(1,0),(5,0),(6,0),(13,0),(14,0),(15,0)]),(1009,[(1,0),(5,0),(6,0),(25,0),(26,0),(27,0)]),(1010,[(1,0),(5,0),(6,0),(25,0),(26,0),(27,0),(28,0)]),(1011,[(1,0),(5,0),(6,0),(10,0),(25,0),(26,0),(27,0)]),(1012,[(1,0),(5,0),(6,0),(10,0),(25,0),(26,0),(27,0),(34,0)]),(1013,[(1,0),(5,0),(6,0),(10,0),(11,0),(25,0),(26,0),(27,0)]),(1014,[(1,0),(5,0),(6,0),(10,0),(25,0),(26,0),(27,0),(47,0)]),(1015,[(1,0),(5,0),(10,0),(25,0),(26,0),(27,0)]),(1016,[(1,0),(5,0),(6,0),(10,0),(25,0),(26,0),(27,0)]),(1017,[(1,0),(5,0),(6,0),(25,0),(26,0),(27,0)]),(1018,[(1,0),(5,0),(6,0),(25,0),(26,0),(27,0)]),(1019,[(1,0),(5,0),(63,0)]),(1020,[(5,0)]),(1021,[(4,0)]),(4014,[]),(5017,[])] Tryz.func179 ?_
 simp only [Tryz.f179]
 refine sA ?_
 obtain ⟨y219,hl1,h⟩:=zjJ h
 refine zj3 (λ g216:zfs=>⟨[(0,(.lf true (.sl (a0.map zjN)))),(1,(.lf true (.sl (a1.map zjU)))),(5,.nl),(6,(B false)),(13,(.lf true (.sl (a0.map zjN)))),(14,(I ((a0.length:Nat):Int))),(15,(I g216.t15))],[],0,71⟩) (zbU a0 a1) _ _ hl1 (zjQ []) ?_
 ·intro n1 g216 z1 hs1 hk1
  unfold zbU at hs1
  try dsimp only at hs1
  refine sA ?_
  refine zjO hs1 (λ hs1 hc2=>?_) (λ hs1 hc2=>?_)
  ·refine sA ?_
   obtain ⟨hp3,hs1⟩:=zjK hs1
   have hn3:g216.t15.toNat < a0.length:=by first|omega|(simp;omega)
   refine sA ?_
   refine zj2 ?_
   obtain ⟨c218,hr4,hs1⟩:=zjJ hs1
   refine zjR (zda hr4) ?_
   refine sA ?_
   refine zjO hs1 (λ hs1 hc5=>?_) (λ hs1 hc5=>?_)
   ·refine sA ?_
    cases hs1
    cases hk1
    try dsimp only at h
    refine sA ?_
    have he:=oi h
    subst he
    exact zjM ⟨[(4,(.lf true (.sl (a0.map zjN))))],[],0,71⟩ []
   ·refine sA ?_
    cases hs1
    exact zjW hk1 (zjQ [])
  ·refine sA ?_
   cases hs1
   cases hk1
   try dsimp only at h
   refine sA ?_
   obtain ⟨y255,hl6,h⟩:=zjJ h
   refine zj3 (λ g240:zgo=>⟨[(1,(.lf true (.sl (a1.map zjU)))),(5,(.os 0 1 0 g240.c0.length g240.c0.length false)),(6,(B g240.t6)),(25,(.lf true (.sl (a0.map zjN)))),(26,(I ((a0.length:Nat):Int))),(27,(I g240.t27))],[(0,some (true,.deep [.sl [.sc,.sc,.sc,.sc]] (g240.c0.map zjN)))],1,71⟩) (_) _ _ hl6 (zjQ [none]) ?_
   ·intro n3 g240 z3 hs3 hk3
    unfold zcT at hs3
    try dsimp only at hs3
    refine sA ?_
    refine zjO hs3 (λ hs3 hc7=>?_) (λ hs3 hc7=>?_)
    ·refine sA ?_
     obtain ⟨hp8,hs3⟩:=zjK hs3
     have hn8:g240.t27.toNat < a0.length:=by first|omega|(simp;omega)
     refine sA ?_
     refine zj2 ?_
     obtain ⟨c248,hr9,hs3⟩:=zjJ hs3
     refine zjR (zda hr9) ?_
     refine sA ?_
     refine zjO hs3 (λ hs3 hc10=>?_) (λ hs3 hc10=>?_)
     ·refine sA ?_
      cases hs3
      exact zjW hk3 (zjQ [some 0])
     ·refine sA ?_
      obtain ⟨c249,hr11,hs3⟩:=zjJ hs3
      refine zjR (zeb hr11) ?_
      refine sA ?_
      obtain ⟨p250,hq12,hs3⟩:=zjJ hs3
      refine zki (λ s2=>s2=⟨[(1,(.lf true (.sl (a1.map zjU)))),(5,(.os 0 1 0 g240.c0.length g240.c0.length false)),(6,(B g240.t6)),(10,(.pb 1 0)),(25,(.lf true (.sl (a0.map zjN)))),(26,(I ((a0.length:Nat):Int))),(27,(I g240.t27)),(47,(B p250.t47))],[(0,some (true,.deep [.sl [.sc,.sc,.sc,.sc]] (g240.c0.map zjN))),(1,some (true,.box [(.lf true (.sl (((nth a0 g240.t27.toNat).fEv).map zjU)))]))],2,71⟩) ?_ ?_
      ·refine sA ?_
       refine zj6 hq12 (λ hq12 hc13=>?_) (λ hq12 hc13=>?_)
       ·refine sA ?_
        cases hq12
        exact zj1 rfl (zjQ [some 0,some 1])
       ·refine sA ?_
        cases hq12
        exact zj1 rfl (zjQ [some 0,some 1])
      ·intro s2 hJ;subst hJ
       try dsimp only at hs3
       refine sA ?_
       refine zjO hs3 (λ hs3 hc14=>?_) (λ hs3 hc14=>?_)
       ·refine sA ?_
        obtain ⟨c251,hr15,hs3⟩:=zjJ hs3
        refine zjR (zu hr15) ?_
        refine sA ?_
        obtain ⟨hp16,hs3⟩:=zjK hs3
        refine sA ?_
        refine zj2 ?_
        refine zt4 4 ?_
        refine sA ?_
        obtain ⟨c253,hr17,hs3⟩:=zjJ hs3
        refine zjR (zu hr17) ?_
        refine sA ?_
        obtain ⟨hp18,hs3⟩:=zjK hs3
        refine sA ?_
        refine zj2 ?_
        cases hs3
        exact zjW hk3 (zob 7 (zjQ [some 7]))
       ·refine sA ?_
        refine zA9 ?_
        refine sA ?_
        obtain ⟨c254,hr19,hs3⟩:=zjJ hs3
        refine zjR (zu hr19) ?_
        refine sA ?_
        obtain ⟨hp20,hs3⟩:=zjK hs3
        refine sA ?_
        refine zj2 ?_
        cases hs3
        exact zjW hk3 (zob 4 (zjQ [some 4]))
    ·refine sA ?_
     cases hs3
     cases hk3
     try dsimp only at h
     refine sA ?_
     refine zjO h (λ h hc21=>?_) (λ h hc21=>?_)
     ·refine sA ?_
      obtain ⟨c257,hr22,h⟩:=zjJ h
      refine zjR (zu hr22) ?_
      refine sA ?_
      obtain ⟨hp23,h⟩:=zjK h
      refine sA ?_
      refine zj2 ?_
      cases h
      refine zlv 3 ?_
      refine sA ?_
      refine zkF 3 ?_
      refine sA ?_
      exact zjM ⟨[(4,(.lf true (.sl ((g240.c0++[(⟨c257⟩:BranchT)]).map zjN))))],[],0,71⟩ []
     ·refine sA ?_
      cases h
      refine zkF 0 ?_
      refine sA ?_
      exact zjM ⟨[(4,(.lf true (.sl (g240.c0.map zjN))))],[],0,71⟩ []
theorem zi8 {a0:TellingsT} {a1:TellingsT} {r:TellingsT} (h:zeS a0 a1=some r):Fn Tryz.prog 131 [(.ag [(.lf true (.sl (a0.fBr.map zjN)))]),(.ag [(.lf true (.sl (a1.fBr.map zjN)))])] [] 0 (.ag [(.os 0 1 0 r.fBr.length r.fBr.length false)]) [(0,some (true,.deep [.sl [.sc,.sc,.sc,.sc]] (r.fBr.map zjN)))] 2:=by
 unfold zeS at h
 refine fc [(1000,[(2,0),(3,0),(4,0)]),(1001,[(3,0),(4,0),(5,0)]),(1002,[(4,0),(5,0),(11,0),(12,0),(13,0)]),(1003,[(4,0),(5,0),(11,0),(12,0),(13,0),(14,0)]),(1004,[(4,0),(5,0),(7,0),(11,0),(12,0),(13,0)]),(1005,[(4,0),(5,0),(11,0),(12,0),(13,0)]),(1006,[(4,0),(5,0),(11,0),(12,0),(13,0)]),(1007,[(4,0)])] Tryz.func131 ?_
 simp only [Tryz.f131]
 refine sA ?_
 obtain ⟨y260,hl1,h⟩:=zjJ h
 refine zj3 (λ g203:zeJ=>⟨[(4,(.pb 0 0)),(5,(.lf true (.sl (g203.t5.map zjN)))),(11,(.lf true (.sl (a1.fBr.map zjN)))),(12,(I ((a1.fBr.length:Nat):Int))),(13,(I g203.t13))],[(0,some (true,.box [.nl]))],1,25⟩) (zbV a1) _ _ hl1 (zjQ [some 2]) ?_
 ·intro n1 g203 z1 hs1 hk1
  unfold zbV at hs1
  try dsimp only at hs1
  refine sA ?_
  refine zjO hs1 (λ hs1 hc2=>?_) (λ hs1 hc2=>?_)
  ·refine sA ?_
   obtain ⟨hp3,hs1⟩:=zjK hs1
   have hn3:g203.t13.toNat < a1.fBr.length:=by first|omega|(simp;omega)
   refine sA ?_
   refine zj2 ?_
   obtain ⟨c259,hr4,hs1⟩:=zjJ hs1
   refine zjR (zjy hr4) ?_
   refine sA ?_
   cases hs1
   exact zjW hk1 (zjQ [some 0])
  ·refine sA ?_
   cases hs1
   cases hk1
   try dsimp only at h
   refine sA ?_
   obtain ⟨c262,hr5,h⟩:=zjJ h
   refine zjR (zeV hr5) ?_
   refine sA ?_
   have he:=oi h
   subst he
   exact zjM ⟨[(4,(.pb 1 0))],[(0,some (true,.deep [.sl [.sc,.sc,.sc,.sc]] (c262.fBr.map zjN))),(1,some (true,.box [(.os 0 1 0 c262.fBr.length c262.fBr.length false)]))],2,25⟩ [some 1,some 0]
theorem zhE {a0:TellingsT} {a1:TellingsT} {r:(TellingsT×Bool)} (h:zcd a0 a1=some r):Fn Tryz.prog 57 [(.ag [(.lf true (.sl (a0.fBr.map zjN)))]),(.ag [(.lf true (.sl (a1.fBr.map zjN)))])] [] 0 (.tu [(.ag [(.os 0 1 0 r.1.fBr.length r.1.fBr.length false)]),(B r.2)]) [(0,some (true,.deep [.sl [.sc,.sc,.sc,.sc]] (r.1.fBr.map zjN)))] 2:=by
 unfold zcd at h
 refine fc [(1000,[(2,0),(3,0),(4,0)]),(1001,[(2,0),(3,0),(4,0),(14,0)]),(1002,[(4,0),(5,0)]),(1003,[(4,0),(6,0)]),(1004,[(4,0),(6,0),(21,0)]),(1005,[(4,0),(5,0)]),(1006,[(4,0),(5,0)]),(4001,[])] Tryz.func57 ?_
 simp only [Tryz.f57]
 refine sA ?_
 obtain ⟨p202,hq1,h⟩:=zjJ h
 refine zki (λ s2=>s2=⟨[(2,(.pb 0 0)),(3,(.pb 1 0)),(4,(.pb 2 0)),(14,(B p202.t14))],[(0,some (true,.box [(.lf true (.sl (a0.fBr.map zjN)))])),(1,some (true,.box [(.lf true (.sl (a1.fBr.map zjN)))])),(2,some (true,.box [.nl]))],3,24⟩) ?_ ?_
 ·refine sA ?_
  obtain ⟨c200,hr2,hq1⟩:=zjJ hq1
  refine zjR (zdj hr2) ?_
  refine sA ?_
  refine zj6 hq1 (λ hq1 hc3=>?_) (λ hq1 hc3=>?_)
  ·refine sA ?_
   cases hq1
   exact zj1 rfl (zjQ [some 0,some 1,some 2])
  ·refine sA ?_
   obtain ⟨c201,hr4,hq1⟩:=zjJ hq1
   refine zjR (zdj hr4) ?_
   refine sA ?_
   cases hq1
   exact zj1 rfl (zjQ [some 0,some 1,some 2])
 ·intro s2 hJ;subst hJ
  try dsimp only at h
  refine sA ?_
  refine zjO h (λ h hc5=>?_) (λ h hc5=>?_)
  ·refine sA ?_
   cases h
   exact zjM ⟨[(4,(.pb 1 0)),(5,(B false))],[(0,some (true,.deep [.sl [.sc,.sc,.sc,.sc]] (([]:List BranchT).map zjN))),(1,some (true,.box [(.os 0 1 0 (([]:List BranchT).length) (([]:List BranchT).length) false)]))],2,24⟩ [none,some 2]
  ·refine sA ?_
   obtain ⟨c263,hr6,h⟩:=zjJ h
   refine zjR (zi8 hr6) ?_
   refine sA ?_
   obtain ⟨c264,hr7,h⟩:=zjJ h
   refine zjR (zdj hr7) ?_
   refine sA ?_
   refine zjO h (λ h hc8=>?_) (λ h hc8=>?_)
   ·refine sA ?_
    cases h
    exact zjM ⟨[(4,(.pb 1 0)),(5,(B false))],[(0,some (true,.deep [.sl [.sc,.sc,.sc,.sc]] (([]:List BranchT).map zjN))),(1,some (true,.box [(.os 0 1 0 (([]:List BranchT).length) (([]:List BranchT).length) false)]))],2,24⟩ [none,some 2]
   ·refine sA ?_
    cases h
    exact zjM ⟨[(4,(.pb 1 0)),(5,(B true))],[(0,some (true,.deep [.sl [.sc,.sc,.sc,.sc]] (c263.fBr.map zjN))),(1,some (true,.box [(.os 0 1 0 c263.fBr.length c263.fBr.length false)]))],2,24⟩ [some 3,some 2]
theorem zis {a0:RegionT} {a1:WordT} {r:(RegionT×Bool)} (h:zdN a0 a1=some r):Fn Tryz.prog 10 [(.ag [(I a0.Id),(I a0.fVe),(.lf true (.sl (a0.fTe.fBr.map zjN)))]),(.ag [(I a1.fVe),(.lf true (.sl (a1.fTe.fBr.map zjN)))])] [] 0 (.tu [(.ag [(I r.1.Id),(I r.1.fVe),(.lf false (.sl (r.1.fTe.fBr.map zjN)))]),(B r.2)]) [] 1:=by
 unfold zdN at h
 refine fc [(1000,[(2,0),(3,0),(4,0)]),(1001,[(2,0),(3,0),(4,0),(19,0)]),(1002,[(4,0),(5,0)]),(1003,[(2,0),(3,0),(4,0),(6,0),(7,0)]),(1004,[(2,0),(3,0),(4,0),(6,0),(30,0)]),(1005,[(4,0),(5,0)]),(1006,[(2,0),(3,0),(4,0),(6,0),(36,0)]),(1007,[(2,0),(4,0),(6,0)]),(1008,[(2,0),(4,0)]),(1009,[(4,0),(5,0)]),(2036,[]),(4001,[])] Tryz.func10 ?_
 simp only [Tryz.f10]
 refine sA ?_
 obtain ⟨p273,hq1,h⟩:=zjJ h
 refine zki (λ s2=>s2=⟨[(2,(.pb 0 0)),(3,(.pb 1 0)),(4,(.pb 2 0)),(19,(B p273.t19))],[(0,some (true,.box [(I a0.Id),(I a0.fVe),(.lf true (.sl (a0.fTe.fBr.map zjN)))])),(1,some (true,.box [(I a1.fVe),(.lf true (.sl (a1.fTe.fBr.map zjN)))])),(2,some (true,.box [(I 0),(I 0),.nl]))],3,43⟩) ?_ ?_
 ·refine sA ?_
  obtain ⟨c271,hr2,hq1⟩:=zjJ hq1
  refine zjR (zbz hr2) ?_
  refine sA ?_
  refine zj6 hq1 (λ hq1 hc3=>?_) (λ hq1 hc3=>?_)
  ·refine sA ?_
   cases hq1
   exact zj1 rfl (zjQ [some 0,some 1,some 2])
  ·refine sA ?_
   obtain ⟨c272,hr4,hq1⟩:=zjJ hq1
   refine zjR (zbz hr4) ?_
   refine sA ?_
   cases hq1
   exact zj1 rfl (zjQ [some 0,some 1,some 2])
 ·intro s2 hJ;subst hJ
  try dsimp only at h
  refine sA ?_
  refine zjO h (λ h hc5=>?_) (λ h hc5=>?_)
  ·refine sA ?_
   cases h
   exact zjM ⟨[(4,(.pb 0 0)),(5,(B false))],[(0,some (true,.box [(I 0),(I 0),(.lf false (.sl (([]).map zjN)))]))],1,43⟩ [some 2]
  ·refine sA ?_
   obtain ⟨c274,hr6,h⟩:=zjJ h
   refine zjR (zhE hr6) ?_
   refine sA ?_
   refine zjO h (λ h hc7=>?_) (λ h hc7=>?_)
   ·refine sA ?_
    cases h
    exact zjM ⟨[(4,(.pb 0 0)),(5,(B false))],[(0,some (true,.box [(I 0),(I 0),(.lf false (.sl (([]).map zjN)))]))],1,43⟩ [some 2]
   ·refine sA ?_
    obtain ⟨p275,hq8,h⟩:=zjJ h
    refine zki (λ s2=>s2=⟨[(2,(.pb 0 0)),(4,(.pb 1 0)),(6,(.pb 2 0))],[(0,some (true,.box [(I a0.Id),(I p275.b0_1),(.lf true (.sl (a0.fTe.fBr.map zjN)))])),(1,some (true,.box [(I 0),(I 0),.nl])),(2,some (true,.box [(.os 3 1 0 c274.1.fBr.length c274.1.fBr.length false)])),(3,some (true,.deep [.sl [.sc,.sc,.sc,.sc]] (c274.1.fBr.map zjN)))],4,43⟩) ?_ ?_
    ·refine sA ?_
     refine zjO hq8 (λ hq8 hc9=>?_) (λ hq8 hc9=>?_)
     ·refine sA ?_
      cases hq8
      exact zj1 rfl (zjQ [some 0,some 2,some 5,some 3])
     ·refine sA ?_
      cases hq8
      exact zj1 rfl (zjQ [some 0,some 2,some 5,some 3])
    ·intro s2 hJ;subst hJ
     try dsimp only at h
     refine sA ?_
     cases h
     refine zkF 3 ?_
     refine sA ?_
     exact zjM ⟨[(4,(.pb 0 0)),(5,(B true))],[(0,some (true,.box [(I a0.Id),(I p275.b0_1),(.lf false (.sl (c274.1.fBr.map zjN)))]))],1,43⟩ [some 1]
theorem zgV {a0:RegionT} {r:Bool} (h:zcR a0=some r):Fn Tryz.prog 68 [(.ag [(I a0.Id),(I a0.fVe),(.lf true (.sl (a0.fTe.fBr.map zjN)))])] [] 0 (B r) [] 0:=by
 unfold zcR at h
 refine fc [] Tryz.func68 ?_
 simp only [Tryz.f68]
 refine sA ?_
 cases h
 exact zjM ⟨[(2,(B ((a0.fVe.tmod 10) == a0.Id)))],[],0,9⟩ []
theorem zgG {a0:(List BranchT)} {r:Int} (h:zcm a0=some r):Fn Tryz.prog 184 [(.lf true (.sl (a0.map zjN)))] [] 0 (I r) [] 0:=by
 unfold zcm at h
 refine fc [(1000,[(0,0)]),(1001,[(0,0),(3,0)]),(1002,[(0,0),(3,0),(9,0),(10,0),(11,0)]),(1003,[(0,0),(3,0),(9,0),(10,0),(11,0),(12,0)]),(1004,[(0,0),(3,0),(4,0),(5,0),(9,0),(10,0),(11,0)]),(1005,[(0,0),(3,0),(4,0),(5,0),(9,0),(10,0),(11,0),(17,0)]),(1006,[(0,0),(3,0),(9,0),(10,0),(11,0)]),(1007,[(0,0),(3,0),(4,0),(5,0),(6,0),(9,0),(10,0),(11,0)]),(1008,[(0,0),(3,0),(4,0),(5,0),(6,0),(7,0),(9,0),(10,0),(11,0)]),(1009,[(0,0),(3,0),(4,0),(5,0),(6,0),(7,0),(8,0),(9,0),(10,0),(11,0)]),(1010,[(0,0),(3,0),(4,0),(9,0),(10,0),(11,0),(55,0)]),(1011,[(0,0),(3,0),(9,0),(10,0),(11,0)]),(1012,[(0,0),(3,0),(9,0),(10,0),(11,0)]),(1013,[(2,0)]),(4010,[])] Tryz.func184 ?_
 simp only [Tryz.f184]
 refine sA ?_
 obtain ⟨y284,hl1,h⟩:=zjJ h
 refine zj3 (λ g282:zfg=>⟨[(0,(.lf true (.sl (a0.map zjN)))),(3,(I g282.t3)),(9,(.lf true (.sl (a0.map zjN)))),(10,(I ((a0.length:Nat):Int))),(11,(I g282.t11))],[],0,59⟩) (zp a0) _ _ hl1 (zjQ []) ?_
 ·intro n1 g282 z1 hs1 hk1
  unfold zp at hs1
  try dsimp only at hs1
  refine sA ?_
  refine zjO hs1 (λ hs1 hc2=>?_) (λ hs1 hc2=>?_)
  ·refine sA ?_
   obtain ⟨hp3,hs1⟩:=zjK hs1
   have hn3:g282.t11.toNat < a0.length:=by first|omega|(simp;omega)
   refine sA ?_
   refine zj2 ?_
   refine zjO hs1 (λ hs1 hc4=>?_) (λ hs1 hc4=>?_)
   ·refine sA ?_
    cases hs1
    exact zjW hk1 (zjQ [])
   ·refine sA ?_
    obtain ⟨hp5,hs1⟩:=zjK hs1
    have hn5:g282.t3.toNat < a0.length:=by first|omega|(simp;omega)
    refine sA ?_
    refine zj2 ?_
    obtain ⟨hp6,hs1⟩:=zjK hs1
    have hn6:(wI (((((nth a0 g282.t11.toNat).fEv).length:Nat):Int) - 1)).toNat < ((nth a0 g282.t11.toNat).fEv).length:=by first|omega|(simp;omega)
    refine sA ?_
    refine zj2 ?_
    obtain ⟨hp7,hs1⟩:=zjK hs1
    have hn7:(wI (((((nth a0 g282.t3.toNat).fEv).length:Nat):Int) - 1)).toNat < ((nth a0 g282.t3.toNat).fEv).length:=by first|omega|(simp;omega)
    refine sA ?_
    refine zj2 ?_
    obtain ⟨p283,hq8,hs1⟩:=zjJ hs1
    refine zki (λ s2=>s2=⟨[(0,(.lf true (.sl (a0.map zjN)))),(3,(I g282.t3)),(4,(I g282.t11)),(9,(.lf true (.sl (a0.map zjN)))),(10,(I ((a0.length:Nat):Int))),(11,(I g282.t11)),(55,(B p283.t55))],[],0,59⟩) ?_ ?_
    ·refine sA ?_
     refine zj6 hq8 (λ hq8 hc9=>?_) (λ hq8 hc9=>?_)
     ·refine sA ?_
      cases hq8
      exact zj1 rfl (zjQ [])
     ·refine sA ?_
      refine zj6 hq8 (λ hq8 hc10=>?_) (λ hq8 hc10=>?_)
      ·refine sA ?_
       cases hq8
       exact zj1 rfl (zjQ [])
      ·refine sA ?_
       cases hq8
       exact zj1 rfl (zjQ [])
    ·intro s2 hJ;subst hJ
     try dsimp only at hs1
     refine sA ?_
     refine zjO hs1 (λ hs1 hc11=>?_) (λ hs1 hc11=>?_)
     ·refine sA ?_
      cases hs1
      exact zjW hk1 (zjQ [])
     ·refine sA ?_
      cases hs1
      exact zjW hk1 (zjQ [])
  ·refine sA ?_
   cases hs1
   cases hk1
   try dsimp only at h
   refine sA ?_
   cases h
   exact zjM ⟨[(2,(I g282.t3))],[],0,59⟩ []
theorem zit {a0:RegionT} {r:(List EventT)} (h:zdH a0=some r):Fn Tryz.prog 188 [(.ag [(I a0.Id),(I a0.fVe),(.lf true (.sl (a0.fTe.fBr.map zjN)))])] [] 0 (.lf true (.sl (r.map zjU))) [] 0:=by
 unfold zdH at h
 refine fc [(1000,[(1,0)]),(1001,[(1,0),(3,0)]),(1002,[(1,0),(3,0),(9,0)]),(1003,[(2,0)]),(1004,[(2,0)])] Tryz.func188 ?_
 simp only [Tryz.f188]
 refine sA ?_
 obtain ⟨c285,hr1,h⟩:=zjJ h
 refine zjR (zgG hr1) ?_
 refine sA ?_
 refine zjO h (λ h hc2=>?_) (λ h hc2=>?_)
 ·refine sA ?_
  cases h
  exact zjM ⟨[(2,(.lf true (.sl (([]).map zjU))))],[],0,17⟩ []
 ·refine sA ?_
  obtain ⟨hp3,h⟩:=zjK h
  have hn3:c285.toNat < a0.fTe.fBr.length:=by first|omega|(simp;omega)
  refine sA ?_
  refine zj2 ?_
  cases h
  exact zjM ⟨[(2,(.lf true (.sl (((nth a0.fTe.fBr c285.toNat).fEv).map zjU))))],[],0,17⟩ []
theorem zi9 {a0:(List BranchT)} {a1:(List EventT)} {m0:Nat} {x0:Bool} {r:(List BranchT)} (h:zdv a0 a1=some r):Fn Tryz.prog 179 [(.lf true (.sl (a0.map zjN))),(.os 0 4 0 a1.length m0 x0)] [(0,some (false,.arr true 4 (a1.map zjU)))] 1 (.lf true (.sl (r.map zjN))) [(0,some (false,.arr false 4 (a1.map zjU)))] 1:=by
 unfold zdv at h
 refine fc [(1000,[(0,0),(1,0)]),(1001,[(0,0),(1,0),(5,0)]),(1002,[(0,0),(1,0),(5,0),(6,0)]),(1003,[(0,0),(1,0),(5,0),(6,0),(13,0),(14,0),(15,0)]),(1004,[(0,0),(1,0),(5,0),(6,0),(13,0),(14,0),(15,0),(16,0)]),(1005,[(0,0),(1,0),(5,0),(6,0),(8,0),(13,0),(14,0),(15,0)]),(1006,[(0,0),(1,0),(5,0),(6,0),(13,0),(14,0),(15,0),(22,0)]),(1007,[(4,0)]),(1008,[(0,0),(1,0),(5,0),(6,0),(13,0),(14,0),(15,0)]),(1009,[(1,0),(5,0),(6,0),(25,0),(26,0),(27,0)]),(1010,[(1,0),(5,0),(6,0),(25,0),(26,0),(27,0),(28,0)]),(1011,[(1,0),(5,0),(6,0),(10,0),(25,0),(26,0),(27,0)]),(1012,[(1,0),(5,0),(6,0),(10,0),(25,0),(26,0),(27,0),(34,0)]),(1013,[(1,0),(5,0),(6,0),(10,0),(11,0),(25,0),(26,0),(27,0)]),(1014,[(1,0),(5,0),(6,0),(10,0),(25,0),(26,0),(27,0),(47,0)]),(1015,[(1,0),(5,0),(10,0),(25,0),(26,0),(27,0)]),(1016,[(1,0),(5,0),(6,0),(10,0),(25,0),(26,0),(27,0)]),(1017,[(1,0),(5,0),(6,0),(25,0),(26,0),(27,0)]),(1018,[(1,0),(5,0),(6,0),(25,0),(26,0),(27,0)]),(1019,[(1,0),(5,0),(63,0)]),(1020,[(5,0)]),(1021,[(4,0)]),(4014,[]),(5017,[])] Tryz.func179 ?_
 simp only [Tryz.f179]
 refine sA ?_
 obtain ⟨y295,hl1,h⟩:=zjJ h
 refine zj3 (λ g292:zeK=>⟨[(0,(.lf true (.sl (a0.map zjN)))),(1,(.os 0 4 0 a1.length m0 x0)),(5,.nl),(6,(B false)),(13,(.lf true (.sl (a0.map zjN)))),(14,(I ((a0.length:Nat):Int))),(15,(I g292.t15))],[(0,some (false,.arr true 4 (a1.map zjU)))],1,71⟩) (zaY a0 a1) _ _ hl1 (zjQ [some 0]) ?_
 ·intro n1 g292 z1 hs1 hk1
  unfold zaY at hs1
  try dsimp only at hs1
  refine sA ?_
  refine zjO hs1 (λ hs1 hc2=>?_) (λ hs1 hc2=>?_)
  ·refine sA ?_
   obtain ⟨hp3,hs1⟩:=zjK hs1
   have hn3:g292.t15.toNat < a0.length:=by first|omega|(simp;omega)
   refine sA ?_
   refine zj2 ?_
   obtain ⟨c294,hr4,hs1⟩:=zjJ hs1
   refine zjR (zda hr4) ?_
   refine sA ?_
   refine zjO hs1 (λ hs1 hc5=>?_) (λ hs1 hc5=>?_)
   ·refine sA ?_
    cases hs1
    cases hk1
    try dsimp only at h
    refine sA ?_
    have he:=oi h
    subst he
    exact zjM ⟨[(4,(.lf true (.sl (a0.map zjN))))],[(0,some (false,.arr false 4 (a1.map zjU)))],1,71⟩ [some 0]
   ·refine sA ?_
    cases hs1
    exact zjW hk1 (zjQ [some 0])
  ·refine sA ?_
   cases hs1
   cases hk1
   try dsimp only at h
   refine sA ?_
   obtain ⟨y331,hl6,h⟩:=zjJ h
   refine zj3 (λ g316:zfU=>⟨[(1,(.os 0 4 0 a1.length m0 x0)),(5,(.os 1 1 0 g316.c1.length g316.c1.length false)),(6,(B g316.t6)),(25,(.lf true (.sl (a0.map zjN)))),(26,(I ((a0.length:Nat):Int))),(27,(I g316.t27))],[(0,some (false,.arr true 4 (a1.map zjU))),(1,some (true,.deep [.sl [.sc,.sc,.sc,.sc]] (g316.c1.map zjN)))],2,71⟩) (_) _ _ hl6 (zjQ [some 0,none]) ?_
   ·intro n3 g316 z3 hs3 hk3
    unfold zbW at hs3
    try dsimp only at hs3
    refine sA ?_
    refine zjO hs3 (λ hs3 hc7=>?_) (λ hs3 hc7=>?_)
    ·refine sA ?_
     obtain ⟨hp8,hs3⟩:=zjK hs3
     have hn8:g316.t27.toNat < a0.length:=by first|omega|(simp;omega)
     refine sA ?_
     refine zj2 ?_
     obtain ⟨c324,hr9,hs3⟩:=zjJ hs3
     refine zjR (zda hr9) ?_
     refine sA ?_
     refine zjO hs3 (λ hs3 hc10=>?_) (λ hs3 hc10=>?_)
     ·refine sA ?_
      cases hs3
      exact zjW hk3 (zjQ [some 0,some 1])
     ·refine sA ?_
      obtain ⟨c325,hr11,hs3⟩:=zjJ hs3
      refine zjR (zeb hr11) ?_
      refine sA ?_
      obtain ⟨p326,hq12,hs3⟩:=zjJ hs3
      refine zki (λ s2=>s2=⟨[(1,(.os 0 4 0 a1.length m0 x0)),(5,(.os 1 1 0 g316.c1.length g316.c1.length false)),(6,(B g316.t6)),(10,(.pb 2 0)),(25,(.lf true (.sl (a0.map zjN)))),(26,(I ((a0.length:Nat):Int))),(27,(I g316.t27)),(47,(B p326.t47))],[(0,some (false,.arr true 4 (a1.map zjU))),(1,some (true,.deep [.sl [.sc,.sc,.sc,.sc]] (g316.c1.map zjN))),(2,some (true,.box [(.lf true (.sl (((nth a0 g316.t27.toNat).fEv).map zjU)))]))],3,71⟩) ?_ ?_
      ·refine sA ?_
       refine zj6 hq12 (λ hq12 hc13=>?_) (λ hq12 hc13=>?_)
       ·refine sA ?_
        cases hq12
        exact zj1 rfl (zjQ [some 0,some 1,some 2])
       ·refine sA ?_
        cases hq12
        exact zj1 rfl (zjQ [some 0,some 1,some 2])
      ·intro s2 hJ;subst hJ
       try dsimp only at hs3
       refine sA ?_
       refine zjO hs3 (λ hs3 hc14=>?_) (λ hs3 hc14=>?_)
       ·refine sA ?_
        obtain ⟨c327,hr15,hs3⟩:=zjJ hs3
        refine zjR (zu hr15) ?_
        refine sA ?_
        obtain ⟨hp16,hs3⟩:=zjK hs3
        refine sA ?_
        refine zj2 ?_
        refine zt4 5 ?_
        refine sA ?_
        obtain ⟨c329,hr17,hs3⟩:=zjJ hs3
        refine zjR (zu hr17) ?_
        refine sA ?_
        obtain ⟨hp18,hs3⟩:=zjK hs3
        refine sA ?_
        refine zj2 ?_
        cases hs3
        exact zjW hk3 (zob 8 (zjQ [some 0,some 8]))
       ·refine sA ?_
        refine zA9 ?_
        refine sA ?_
        obtain ⟨c330,hr19,hs3⟩:=zjJ hs3
        refine zjR (zu hr19) ?_
        refine sA ?_
        obtain ⟨hp20,hs3⟩:=zjK hs3
        refine sA ?_
        refine zj2 ?_
        cases hs3
        exact zjW hk3 (zob 5 (zjQ [some 0,some 5]))
    ·refine sA ?_
     cases hs3
     cases hk3
     try dsimp only at h
     refine sA ?_
     refine zjO h (λ h hc21=>?_) (λ h hc21=>?_)
     ·refine sA ?_
      obtain ⟨c333,hr22,h⟩:=zjJ h
      refine zjR (zu hr22) ?_
      refine sA ?_
      obtain ⟨hp23,h⟩:=zjK h
      refine sA ?_
      refine zj2 ?_
      cases h
      refine zlv 4 ?_
      refine sA ?_
      refine zkF 4 ?_
      refine sA ?_
      exact zjM ⟨[(4,(.lf true (.sl ((g316.c1++[(⟨c333⟩:BranchT)]).map zjN))))],[(0,some (false,.arr false 4 (a1.map zjU)))],1,71⟩ [some 0]
     ·refine sA ?_
      cases h
      refine zkF 1 ?_
      refine sA ?_
      exact zjM ⟨[(4,(.lf true (.sl (g316.c1.map zjN))))],[(0,some (false,.arr false 4 (a1.map zjU)))],1,71⟩ [some 0]
theorem zho {a0:RegionT} {a1:Int} {a2:ByteArray} {r:(RegionT×Int)} (h:zc5 a0 a1 a2=some r):Fn Tryz.prog 139 [(.ag [(I a0.Id),(I a0.fVe),(.lf true (.sl (a0.fTe.fBr.map zjN)))]),(I a1),(.lf false (.sc (.string a2)))] [] 0 (.tu [(.ag [(I r.1.Id),(I r.1.fVe),(.lf true (.sl (r.1.fTe.fBr.map zjN)))]),(I r.2)]) [] 1:=by
 unfold zc5 at h
 refine fc [(15,[(2,4),(5,4),(2,6),(2,7),(6,6)]),(1000,[(1,0),(2,0),(3,0),(6,0)]),(1001,[(1,0),(2,0),(3,0),(6,0),(21,0)]),(1002,[(6,0),(7,0)]),(1003,[(1,0),(2,0),(3,0),(6,0),(25,0)]),(1004,[(6,0),(7,0)]),(1005,[(1,0),(2,0),(3,0),(6,0),(8,0)]),(1006,[(1,0),(2,0),(3,0),(6,0),(8,0),(9,0)]),(1007,[(1,0),(2,0),(3,0),(6,0),(8,0),(9,0),(42,0)]),(1008,[(6,0),(7,0)]),(1009,[(3,0),(6,0),(8,0),(9,0),(11,0)]),(1010,[(3,0),(6,0),(8,0),(11,0),(13,0)]),(1011,[(3,0),(6,0),(8,0),(11,0),(58,0)]),(1012,[(6,0),(7,0)]),(1013,[(3,0),(6,0),(8,0),(11,0),(62,0)]),(1014,[(6,0),(7,0)]),(1015,[(3,0),(6,0)]),(1016,[(6,0),(7,0)]),(4001,[]),(4007,[])] Tryz.func139 ?_
 simp only [Tryz.f139]
 refine sA ?_
 obtain ⟨p280,hq1,h⟩:=zjJ h
 refine zki (λ s2=>s2=⟨[(1,(I a1)),(2,(.lf false (.sc (.string a2)))),(3,(.pb 0 0)),(6,(.pb 1 0)),(21,(B p280.t21))],[(0,some (true,.box [(I a0.Id),(I a0.fVe),(.lf true (.sl (a0.fTe.fBr.map zjN)))])),(1,some (true,.box [(I 0),(I 0),.nl]))],2,77⟩) ?_ ?_
 ·refine sA ?_
  obtain ⟨c278,hr2,hq1⟩:=zjJ hq1
  refine zjR (zY hr2) ?_
  refine sA ?_
  refine zj6 hq1 (λ hq1 hc3=>?_) (λ hq1 hc3=>?_)
  ·refine sA ?_
   cases hq1
   exact zj1 rfl (zjQ [some 0,some 1])
  ·refine sA ?_
   obtain ⟨c279,hr4,hq1⟩:=zjJ hq1
   refine zjR (zgz hr4) ?_
   refine sA ?_
   cases hq1
   exact zj1 rfl (zjQ [some 0,some 1])
 ·intro s2 hJ;subst hJ
  try dsimp only at h
  refine sA ?_
  refine zjO h (λ h hc5=>?_) (λ h hc5=>?_)
  ·refine sA ?_
   cases h
   exact zjM ⟨[(6,(.pb 0 0)),(7,(I 1))],[(0,some (true,.box [(I a0.Id),(I a0.fVe),(.lf true (.sl (a0.fTe.fBr.map zjN)))]))],1,77⟩ [some 1]
  ·refine sA ?_
   obtain ⟨c281,hr6,h⟩:=zjJ h
   refine zjR (zgV hr6) ?_
   refine sA ?_
   refine zjO h (λ h hc7=>?_) (λ h hc7=>?_)
   ·refine sA ?_
    cases h
    exact zjM ⟨[(6,(.pb 0 0)),(7,(I 2))],[(0,some (true,.box [(I a0.Id),(I a0.fVe),(.lf true (.sl (a0.fTe.fBr.map zjN)))]))],1,77⟩ [some 1]
   ·refine sA ?_
    obtain ⟨c286,hr8,h⟩:=zjJ h
    refine zjR (zit hr8) ?_
    refine sA ?_
    obtain ⟨c287,hr9,h⟩:=zjJ h
    refine zjR (zfw hr9) ?_
    refine sA ?_
    obtain ⟨p289,hq10,h⟩:=zjJ h
    refine zki (λ s2=>s2=⟨[(1,(I a1)),(2,(.lf false (.sc (.string a2)))),(3,(.pb 0 0)),(6,(.pb 1 0)),(8,(.lf true (.sl (c286.map zjU)))),(9,(.pb 2 0)),(42,(B p289.t42))],[(0,some (true,.box [(I a0.Id),(I a0.fVe),(.lf true (.sl (a0.fTe.fBr.map zjN)))])),(1,some (true,.box [(I 0),(I 0),.nl])),(2,some (true,.box [(I c287.1.fSt),(I c287.1.Next),(B c287.1.fCa),(I c287.1.Done),(.lf true (.sl (c287.1.fSi.map eS))),(.lf true (.sl (c287.1.fTi.map eS)))]))],3,77⟩) ?_ ?_
    ·refine sA ?_
     refine zj6 hq10 (λ hq10 hc11=>?_) (λ hq10 hc11=>?_)
     ·refine sA ?_
      obtain ⟨c288,hr12,hq10⟩:=zjJ hq10
      refine zjR (zfm hr12) ?_
      refine sA ?_
      cases hq10
      exact zj1 rfl (zjQ [some 0,some 1,some 3])
     ·refine sA ?_
      cases hq10
      exact zj1 rfl (zjQ [some 0,some 1,some 3])
    ·intro s2 hJ;subst hJ
     try dsimp only at h
     refine sA ?_
     refine zjO h (λ h hc13=>?_) (λ h hc13=>?_)
     ·refine sA ?_
      cases h
      exact zjM ⟨[(6,(.pb 0 0)),(7,(I 5))],[(0,some (true,.box [(I a0.Id),(I a0.fVe),(.lf true (.sl (a0.fTe.fBr.map zjN)))]))],1,77⟩ [some 1]
     ·refine sA ?_
      obtain ⟨c290,hr14,h⟩:=zjJ h
      refine zjR (zhe hr14) ?_
      refine sA ?_
      refine zjO h (λ h hc15=>?_) (λ h hc15=>?_)
      ·refine sA ?_
       cases h
       exact zjM ⟨[(6,(.pb 0 0)),(7,(I 3))],[(0,some (true,.box [(I a0.Id),(I a0.fVe),(.lf true (.sl (a0.fTe.fBr.map zjN)))]))],1,77⟩ [some 1]
      ·refine sA ?_
       refine zjO h (λ h hc16=>?_) (λ h hc16=>?_)
       ·refine sA ?_
        cases h
        exact zjM ⟨[(6,(.pb 0 0)),(7,(I 4))],[(0,some (true,.box [(I a0.Id),(I a0.fVe),(.lf true (.sl (a0.fTe.fBr.map zjN)))]))],1,77⟩ [some 1]
       ·refine sA ?_
        obtain ⟨c291,hr17,h⟩:=zjJ h
        refine zjR (zu hr17) ?_
        refine sA ?_
        obtain ⟨hp18,h⟩:=zjK h
        refine sA ?_
        refine zj2 ?_
        obtain ⟨c334,hr19,h⟩:=zjJ h
        refine zll [8] (zi9 hr19) ?_
        refine sA ?_
        obtain ⟨c335,hr20,h⟩:=zjJ h
        refine zjR (zeV hr20) ?_
        refine sA ?_
        cases h
        refine zkF 9 ?_
        refine sA ?_
        exact zjM ⟨[(6,(.pb 0 0)),(7,(I 0))],[(0,some (true,.box [(I a0.Id),(I a0.fVe),(.lf true (.sl (c335.fBr.map zjN)))]))],1,77⟩ [some 1]
theorem zjo {a0:Int} {a1:Int} {r:Int} (h:zfa a0 a1=some r):Fn Tryz.prog 215 [(I a0),(I a1)] [] 0 (I r) [] 0:=by
 unfold zfa at h
 refine fc [(1000,[(0,0),(1,0)]),(1001,[(0,0),(5,0)]),(1002,[(5,0),(14,0)]),(1003,[(5,0)]),(1004,[(4,0)])] Tryz.func215 ?_
 simp only [Tryz.f215]
 refine sA ?_
 refine zjO h (λ h hc1=>?_) (λ h hc1=>?_)
 ·refine sA ?_
  cases h
  exact zjM ⟨[(4,(I (wI ((wI ((wI (a0 - (a0.tmod 10)))+a1))+10))))],[],0,18⟩ []
 ·refine sA ?_
  cases h
  exact zjM ⟨[(4,(I (wI ((wI (a0 - (a0.tmod 10)))+a1))))],[],0,18⟩ []
theorem zh4 {a0:Int} {a1:Int} {r:(Int×Bool)} (h:zcY a0 a1=some r):Fn Tryz.prog 170 [(I a0),(I a1)] [] 0 (.tu [(I r.1),(B r.2)]) [] 0:=by
 unfold zcY at h
 refine fc [(1000,[(0,0),(1,0)]),(1001,[(0,0),(1,0),(14,0)]),(1002,[(4,0),(5,0)]),(1003,[(6,0)]),(1004,[(6,0),(20,0)]),(1005,[(4,0),(5,0)]),(1006,[(4,0),(5,0)]),(4001,[])] Tryz.func170 ?_
 simp only [Tryz.f170]
 refine sA ?_
 obtain ⟨p340,hq1,h⟩:=zjJ h
 refine zki (λ s2=>s2=⟨[(0,(I a0)),(1,(I a1)),(14,(B p340.t14))],[],0,22⟩) ?_ ?_
 ·refine sA ?_
  obtain ⟨c338,hr2,hq1⟩:=zjJ hq1
  refine zjR (zfA hr2) ?_
  refine sA ?_
  refine zj6 hq1 (λ hq1 hc3=>?_) (λ hq1 hc3=>?_)
  ·refine sA ?_
   cases hq1
   exact zj1 rfl (zjQ [])
  ·refine sA ?_
   obtain ⟨c339,hr4,hq1⟩:=zjJ hq1
   refine zjR (zY hr4) ?_
   refine sA ?_
   cases hq1
   exact zj1 rfl (zjQ [])
 ·intro s2 hJ;subst hJ
  try dsimp only at h
  refine sA ?_
  refine zjO h (λ h hc5=>?_) (λ h hc5=>?_)
  ·refine sA ?_
   cases h
   exact zjM ⟨[(4,(I 0)),(5,(B false))],[],0,22⟩ []
  ·refine sA ?_
   obtain ⟨c341,hr6,h⟩:=zjJ h
   refine zjR (zjo hr6) ?_
   refine sA ?_
   obtain ⟨c342,hr7,h⟩:=zjJ h
   refine zjR (zfA hr7) ?_
   refine sA ?_
   refine zjO h (λ h hc8=>?_) (λ h hc8=>?_)
   ·refine sA ?_
    cases h
    exact zjM ⟨[(4,(I 0)),(5,(B false))],[],0,22⟩ []
   ·refine sA ?_
    cases h
    exact zjM ⟨[(4,(I c341)),(5,(B true))],[],0,22⟩ []
theorem zja {a0:RegionT} {r:(RegionT×Bool)} (h:zdw a0=some r):Fn Tryz.prog 117 [(.ag [(I a0.Id),(I a0.fVe),(.lf true (.sl (a0.fTe.fBr.map zjN)))])] [] 0 (.tu [(.ag [(I r.1.Id),(I r.1.fVe),(.lf false (.sl (r.1.fTe.fBr.map zjN)))]),(B r.2)]) [] 1:=by
 unfold zdw at h
 refine fc [(1000,[(1,0),(2,0)]),(1001,[(1,0),(2,0),(8,0)]),(1002,[(2,0),(3,0)]),(1003,[(1,0),(2,0),(4,0),(5,0)]),(1004,[(1,0),(2,0),(4,0),(19,0)]),(1005,[(2,0),(3,0)]),(1006,[(1,0),(2,0),(4,0)]),(1007,[(1,0),(2,0)]),(1008,[(2,0),(3,0)])] Tryz.func117 ?_
 simp only [Tryz.f117]
 refine sA ?_
 obtain ⟨c337,hr1,h⟩:=zjJ h
 refine zjR (zbz hr1) ?_
 refine sA ?_
 refine zjO h (λ h hc2=>?_) (λ h hc2=>?_)
 ·refine sA ?_
  cases h
  exact zjM ⟨[(2,(.pb 0 0)),(3,(B false))],[(0,some (true,.box [(I 0),(I 0),(.lf false (.sl (([]).map zjN)))]))],1,26⟩ [some 1]
 ·refine sA ?_
  obtain ⟨c343,hr3,h⟩:=zjJ h
  refine zjR (zh4 hr3) ?_
  refine sA ?_
  refine zjO h (λ h hc4=>?_) (λ h hc4=>?_)
  ·refine sA ?_
   cases h
   exact zjM ⟨[(2,(.pb 0 0)),(3,(B false))],[(0,some (true,.box [(I 0),(I 0),(.lf false (.sl (([]).map zjN)))]))],1,26⟩ [some 1]
  ·refine sA ?_
   obtain ⟨c344,hr5,h⟩:=zjJ h
   refine zjR (zhf hr5) ?_
   refine sA ?_
   cases h
   exact zjM ⟨[(2,(.pb 0 0)),(3,(B true))],[(0,some (true,.box [(I c344.Id),(I c343.1),(.lf false (.sl (c344.fTe.fBr.map zjN)))]))],1,26⟩ [some 1]
theorem zjb {a0:RegionT} {r:(WordT×Bool)} (h:zeT a0=some r):Fn Tryz.prog 50 [(.ag [(I a0.Id),(I a0.fVe),(.lf true (.sl (a0.fTe.fBr.map zjN)))])] [] 0 (.tu [(.ag [(I r.1.fVe),(.lf false (.sl (r.1.fTe.fBr.map zjN)))]),(B r.2)]) [] 1:=by
 unfold zeT at h
 refine fc [(3,[(1,4)]),(1000,[(1,0),(2,0)]),(1001,[(1,0),(2,0),(6,0)]),(1002,[(2,0),(3,0)]),(1003,[(2,0),(3,0)])] Tryz.func50 ?_
 simp only [Tryz.f50]
 refine sA ?_
 obtain ⟨c356,hr1,h⟩:=zjJ h
 refine zjR (zbz hr1) ?_
 refine sA ?_
 refine zjO h (λ h hc2=>?_) (λ h hc2=>?_)
 ·refine sA ?_
  cases h
  exact zjM ⟨[(2,(.pb 0 0)),(3,(B false))],[(0,some (true,.box [(I 0),(.lf false (.sl (([]).map zjN)))]))],1,14⟩ [some 1]
 ·refine sA ?_
  obtain ⟨c357,hr3,h⟩:=zjJ h
  refine zjR (zeV hr3) ?_
  refine sA ?_
  cases h
  refine zkF 2 ?_
  refine sA ?_
  exact zjM ⟨[(2,(.pb 0 0)),(3,(B true))],[(0,some (true,.box [(I a0.fVe),(.lf false (.sl (c357.fBr.map zjN)))]))],1,14⟩ [some 1]
theorem zjp {a0:(List BranchT)} {r:(List ByteArray)} (h:zfj a0=some r):Fn Tryz.prog 138 [(.lf true (.sl (a0.map zjN)))] [] 0 (.os 0 1 0 r.length r.length false) [(0,some (true,.arr false 1 (r.map eS)))] 1:=by
 unfold zfj at h
 refine fc [(1000,[(0,0)]),(1001,[(0,0),(3,0)]),(1002,[(0,0),(3,0),(16,0)]),(1003,[(2,0)]),(1004,[(0,0),(4,0)]),(1005,[(0,0),(4,0),(6,0)]),(1006,[(4,0),(6,0),(26,0),(27,0),(28,0)]),(1007,[(4,0),(6,0),(26,0),(27,0),(28,0),(29,0)]),(1008,[(4,0),(6,0),(8,0),(26,0),(27,0),(28,0)]),(1009,[(4,0),(6,0),(9,0),(26,0),(27,0),(28,0)]),(1010,[(4,0),(6,0),(26,0),(27,0),(28,0),(39,0),(40,0),(41,0)]),(1011,[(4,0),(6,0),(26,0),(27,0),(28,0),(39,0),(40,0),(41,0),(42,0)]),(1012,[(4,0),(6,0),(12,0),(26,0),(27,0),(28,0),(39,0),(40,0),(41,0)]),(1013,[(4,0),(6,0),(12,0),(26,0),(27,0),(28,0),(39,0),(40,0),(41,0),(55,0)]),(1014,[(4,0),(6,0),(26,0),(27,0),(28,0),(39,0),(40,0),(41,0)]),(1015,[(4,0),(6,0),(26,0),(27,0),(28,0),(39,0),(40,0),(41,0)]),(1016,[(4,0),(6,0),(26,0),(27,0),(28,0)]),(1017,[(2,0)]),(4013,[])] Tryz.func138 ?_
 simp only [Tryz.f138]
 refine sA ?_
 obtain ⟨c360,hr1,h⟩:=zjJ h
 refine zjR (zgG hr1) ?_
 refine sA ?_
 refine zjO h (λ h hc2=>?_) (λ h hc2=>?_)
 ·refine sA ?_
  cases h
  exact zjM ⟨[(2,(.os 0 1 0 (([]:List ByteArray).length) (([]:List ByteArray).length) false))],[(0,some (true,.arr false 1 (([]:List ByteArray).map eS)))],1,62⟩ [none]
 ·refine sA ?_
  obtain ⟨hp3,h⟩:=zjK h
  have hn3:c360.toNat < a0.length:=by first|omega|(simp;omega)
  refine sA ?_
  refine zj2 ?_
  obtain ⟨c361,hr4,h⟩:=zjJ h
  refine zjR (zfw hr4) ?_
  refine sA ?_
  obtain ⟨y385,hl5,h⟩:=zjJ h
  refine zj3 (λ g362:ze2=>⟨[(4,(.pb 0 0)),(6,(.os 1 1 0 g362.c1.length g362.c1.length false)),(26,(.lf true (.sl (a0.map zjN)))),(27,(I ((a0.length:Nat):Int))),(28,(I g362.t28))],[(0,some (true,.box [(I c361.1.fSt),(I c361.1.Next),(B c361.1.fCa),(I c361.1.Done),(.lf true (.sl (c361.1.fSi.map eS))),(.lf true (.sl (c361.1.fTi.map eS)))])),(1,some (true,.arr false 1 (g362.c1.map eS)))],2,62⟩) (zcp a0 c361) _ _ hl5 (zjQ [some 1,none]) ?_
  ·intro n1 g362 z1 hs1 hk1
   unfold zcp at hs1
   try dsimp only at hs1
   refine sA ?_
   refine zjO hs1 (λ hs1 hc6=>?_) (λ hs1 hc6=>?_)
   ·refine sA ?_
    obtain ⟨hp7,hs1⟩:=zjK hs1
    have hn7:g362.t28.toNat < a0.length:=by first|omega|(simp;omega)
    refine sA ?_
    refine zj2 ?_
    obtain ⟨c374,hr8,hs1⟩:=zjJ hs1
    refine zjR (zfw hr8) ?_
    refine sA ?_
    obtain ⟨y384,hl9,hs1⟩:=zjJ hs1
    refine zj3 (λ g375:ze3=>⟨[(4,(.pb 0 0)),(6,(.os 1 1 0 g375.c1.length g375.c1.length false)),(26,(.lf true (.sl (a0.map zjN)))),(27,(I ((a0.length:Nat):Int))),(28,(I g362.t28)),(39,(.lf true (.sl (c374.1.fSi.map eS)))),(40,(I ((c374.1.fSi.length:Nat):Int))),(41,(I g375.t41))],[(0,some (true,.box [(I c361.1.fSt),(I c361.1.Next),(B c361.1.fCa),(I c361.1.Done),(.lf true (.sl (c361.1.fSi.map eS))),(.lf true (.sl (c361.1.fTi.map eS)))])),(1,some (true,.arr false 1 (g375.c1.map eS)))],2,62⟩) (zbj c374 c361) _ _ hl9 (zjQ [some 0,some 1]) ?_
    ·intro n2 g375 z2 hs2 hk2
     unfold zbj at hs2
     try dsimp only at hs2
     refine sA ?_
     refine zjO hs2 (λ hs2 hc10=>?_) (λ hs2 hc10=>?_)
     ·refine sA ?_
      obtain ⟨hp11,hs2⟩:=zjK hs2
      have hn11:g375.t41.toNat < c374.1.fSi.length:=by first|omega|(simp;omega)
      refine sA ?_
      refine zj2 ?_
      obtain ⟨p382,hq12,hs2⟩:=zjJ hs2
      refine zki (λ s2=>s2=⟨[(4,(.pb 0 0)),(6,(.os 1 1 0 g375.c1.length g375.c1.length false)),(12,(.lf false (.sc (.string (nth c374.1.fSi g375.t41.toNat))))),(26,(.lf true (.sl (a0.map zjN)))),(27,(I ((a0.length:Nat):Int))),(28,(I g362.t28)),(39,(.lf true (.sl (c374.1.fSi.map eS)))),(40,(I ((c374.1.fSi.length:Nat):Int))),(41,(I g375.t41)),(55,(B p382.t55))],[(0,some (true,.box [(I c361.1.fSt),(I c361.1.Next),(B c361.1.fCa),(I c361.1.Done),(.lf true (.sl (c361.1.fSi.map eS))),(.lf true (.sl (c361.1.fTi.map eS)))])),(1,some (true,.arr false 1 (g375.c1.map eS)))],2,62⟩) ?_ ?_
      ·refine sA ?_
       obtain ⟨c380,hr13,hq12⟩:=zjJ hq12
       refine zjR (zfm hr13) ?_
       refine sA ?_
       refine zj6 hq12 (λ hq12 hc14=>?_) (λ hq12 hc14=>?_)
       ·refine sA ?_
        obtain ⟨c381,hr15,hq12⟩:=zjJ hq12
        refine zjR (zfm hr15) ?_
        refine sA ?_
        cases hq12
        exact zj1 rfl (zjQ [some 0,some 1])
       ·refine sA ?_
        cases hq12
        exact zj1 rfl (zjQ [some 0,some 1])
      ·intro s2 hJ;subst hJ
       try dsimp only at hs2
       refine sA ?_
       refine zjO hs2 (λ hs2 hc16=>?_) (λ hs2 hc16=>?_)
       ·refine sA ?_
        obtain ⟨c383,hr17,hs2⟩:=zjJ hs2
        refine zjR (zhc hr17) ?_
        refine sA ?_
        cases hs2
        exact zjW hk2 (zjQ [some 0,some 2])
       ·refine sA ?_
        cases hs2
        exact zjW hk2 (zjQ [some 0,some 1])
     ·refine sA ?_
      cases hs2
      cases hk2
      try dsimp only at hs1
      refine sA ?_
      cases hs1
      exact zjW hk1 (zjQ [some 0,some 1])
   ·refine sA ?_
    cases hs1
    cases hk1
    try dsimp only at h
    refine sA ?_
    cases h
    exact zjM ⟨[(2,(.os 0 1 0 g362.c1.length g362.c1.length false))],[(0,some (true,.arr false 1 (g362.c1.map eS)))],1,62⟩ [some 1]
theorem ziu {a0:RegionT} {r:(RegionT×Int)} (h:zdM a0=some r):Fn Tryz.prog 69 [(.ag [(I a0.Id),(I a0.fVe),(.lf true (.sl (a0.fTe.fBr.map zjN)))])] [] 0 (.tu [(.ag [(I r.1.Id),(I r.1.fVe),(.lf true (.sl (r.1.fTe.fBr.map zjN)))]),(I r.2)]) [] 1:=by
 unfold zdM at h
 refine fc [(1000,[(1,0),(2,0)]),(1001,[(1,0),(2,0),(4,0)]),(1002,[(1,0),(2,0),(4,0),(12,0),(13,0),(14,0)]),(1003,[(1,0),(2,0),(4,0),(12,0),(13,0),(14,0),(15,0)]),(1004,[(1,0),(2,0),(4,0),(6,0),(12,0),(13,0),(14,0)]),(1005,[(1,0),(2,0),(4,0),(7,0),(8,0),(12,0),(13,0),(14,0)]),(1006,[(1,0),(2,0),(4,0),(7,0),(12,0),(13,0),(14,0),(25,0)]),(1007,[(1,0),(2,0),(4,0),(12,0),(13,0),(14,0)]),(1008,[(1,0),(2,0),(4,0),(12,0),(13,0),(14,0)]),(1009,[(1,0),(2,0),(4,0),(12,0),(13,0),(14,0)]),(1010,[(2,0),(3,0)])] Tryz.func69 ?_
 simp only [Tryz.f69]
 refine sA ?_
 obtain ⟨c386,hr1,h⟩:=zjJ h
 refine zjR (zjp hr1) ?_
 refine sA ?_
 obtain ⟨y390,hl2,h⟩:=zjJ h
 refine zj3 (λ g387:zdL=>⟨[(1,(.pb 0 0)),(2,(.pb 1 0)),(4,(I g387.t4)),(12,(.os 2 1 0 c386.length c386.length false)),(13,(I ((c386.length:Nat):Int))),(14,(I g387.t14))],[(0,some (true,.box [(I g387.b0_0),(I g387.b0_1),(.lf true (.sl (g387.b0_2.map zjN)))])),(1,some (true,.box [(I 0),(I 0),.nl])),(2,some (true,.arr false 1 (c386.map eS)))],3,32⟩) (zai c386) _ _ hl2 (zjQ [some 0,some 1,some 2]) ?_
 ·intro n1 g387 z1 hs1 hk1
  unfold zai at hs1
  try dsimp only at hs1
  refine sA ?_
  refine zjO hs1 (λ hs1 hc3=>?_) (λ hs1 hc3=>?_)
  ·refine sA ?_
   obtain ⟨hp4,hs1⟩:=zjK hs1
   have hn4:g387.t14.toNat < c386.length:=by first|omega|(simp;omega)
   refine sA ?_
   refine zj2 ?_
   refine zm4 ?_
   refine sA ?_
   obtain ⟨c389,hr6,hs1⟩:=zjJ hs1
   refine zjR (zho hr6) ?_
   refine sA ?_
   refine zjO hs1 (λ hs1 hc7=>?_) (λ hs1 hc7=>?_)
   ·refine sA ?_
    cases hs1
    exact zjW hk1 (zjQ [some 0,some 1,some 2])
   ·refine sA ?_
    cases hs1
    exact zjW hk1 (zjQ [some 0,some 1,some 2])
  ·refine sA ?_
   cases hs1
   cases hk1
   try dsimp only at h
   refine sA ?_
   cases h
   exact zjM ⟨[(2,(.pb 0 0)),(3,(I g387.t4))],[(0,some (true,.box [(I g387.b0_0),(I g387.b0_1),(.lf true (.sl (g387.b0_2.map zjN)))]))],1,32⟩ [some 1]
theorem ziv {a0:WorldT} {a1:WorldStepT} {m0:Nat} {x0:Bool} {m1:Nat} {x1:Bool} {r:(WorldT×Int×(List RegionT))} (h:zdO a0 a1=some r):Fn Tryz.prog 152 [(.ag [(.os 0 3 0 a0.fRe.length m0 x0),(.os 1 3 0 a0.Line.length m1 x1)]),(.ag [(I a1.Kind),(I a1.Region),(I a1.What),(.lf false (.sc (.string a1.Name))),(I a1.K)])] [(0,some (false,.arr true 3 (a0.fRe.map zjS))),(1,some (false,.arr true 3 (a0.Line.map zj5)))] 2 (.tu [(.ag [(.os 0 3 0 r.2.2.length r.2.2.length false),(.os 2 3 0 r.1.Line.length r.1.Line.length false)]),(I r.2.1)]) [(0,some (false,.arr true 3 (r.2.2.map zjS))),(1,none),(2,some (false,.arr true 3 (r.1.Line.map zj5)))] 4:=by
 unfold zdO at h
 refine fc [(11,[(1,6),(3,6),(1,8)]),(13,[(2,0),(4,0),(8,0),(8,6),(10,0),(10,6)]),(16,[(1,12),(3,12),(5,12),(7,12)]),(1000,[(2,0),(3,0),(4,0)]),(1001,[(2,0),(3,0),(4,0),(19,0)]),(1002,[(2,0),(3,0),(4,0),(19,0),(20,0)]),(1003,[(2,0),(3,0),(4,0),(19,0),(20,0)]),(1004,[(2,0),(3,0),(4,0),(20,0)]),(1005,[(2,0),(3,0),(4,0),(31,0)]),(1006,[(4,0),(5,0)]),(1007,[(2,0),(3,0),(4,0),(6,0)]),(1008,[(2,0),(3,0),(4,0),(6,0),(41,0)]),(1009,[(2,0),(4,0),(6,0),(45,0)]),(1010,[(4,0),(5,0)]),(1011,[(2,0),(4,0)]),(1012,[(4,0),(5,0)]),(1013,[(2,0),(3,0),(4,0),(6,0)]),(1014,[(2,0),(4,0),(6,0),(76,0)]),(1015,[(4,0),(5,0)]),(1016,[(2,0),(4,0),(6,0),(7,0),(8,0)]),(1017,[(2,0),(4,0),(6,0),(7,0),(91,0)]),(1018,[(4,0),(5,0)]),(1019,[(2,0),(4,0)]),(1020,[(4,0),(5,0)]),(1021,[(2,0),(3,0),(4,0),(103,0)]),(1022,[(4,0),(5,0)]),(1023,[(2,0),(3,0),(4,0),(9,0)]),(1024,[(2,0),(3,0),(4,0),(9,0),(112,0)]),(1025,[(2,0),(3,0),(4,0),(9,0),(112,0),(113,0)]),(1026,[(2,0),(3,0),(4,0),(10,0),(11,0)]),(1027,[(2,0),(4,0),(11,0)]),(1028,[(4,0),(5,0)]),(1029,[(2,0),(3,0),(4,0),(9,0),(112,0),(132,0)]),(1030,[(2,0),(3,0),(4,0),(12,0),(13,0)]),(1031,[(2,0),(3,0),(4,0),(12,0),(140,0)]),(1032,[(4,0),(5,0)]),(1033,[(2,0),(4,0)]),(1034,[(4,0),(5,0)]),(1035,[(2,0),(3,0),(4,0),(9,0),(112,0),(149,0)]),(1036,[(2,0),(3,0),(4,0),(9,0),(154,0)]),(1037,[(4,0),(5,0)]),(1038,[(2,0),(3,0),(4,0),(14,0)]),(1039,[(2,0),(4,0)]),(1040,[(4,0),(5,0)]),(1041,[(2,0),(3,0),(4,0),(9,0),(172,0)]),(1042,[(2,0),(3,0),(4,0),(9,0),(176,0)]),(1043,[(4,0),(5,0)]),(1044,[(2,0),(3,0),(4,0),(16,0),(17,0)]),(1045,[(2,0),(3,0),(4,0),(16,0),(184,0)]),(1046,[(4,0),(5,0)]),(1047,[(2,0),(4,0)]),(1048,[(4,0),(5,0)]),(1049,[(4,0),(5,0)]),(2020,[])] Tryz.func152 ?_
 simp only [Tryz.f152]
 refine sA ?_
 obtain ⟨p349,hq1,h⟩:=zjJ h
 refine zki (λ s2=>s2=⟨[(2,(.pb 2 0)),(3,(.pb 3 0)),(4,(.pb 4 0)),(20,(B p349.t20))],[(0,some (false,.arr true 3 (a0.fRe.map zjS))),(1,some (false,.arr true 3 (a0.Line.map zj5))),(2,some (true,.box [(.os 0 3 0 a0.fRe.length m0 x0),(.os 1 3 0 a0.Line.length m1 x1)])),(3,some (true,.box [(I a1.Kind),(I a1.Region),(I a1.What),(.lf false (.sc (.string a1.Name))),(I a1.K)])),(4,some (true,.box [.nl,.nl]))],5,194⟩) ?_ ?_
 ·refine sA ?_
  refine zjO hq1 (λ hq1 hc2=>?_) (λ hq1 hc2=>?_)
  ·refine sA ?_
   cases hq1
   exact zj1 rfl (zjQ [some 0,some 1,some 2,some 3,some 4])
  ·refine sA ?_
   refine zjO hq1 (λ hq1 hc3=>?_) (λ hq1 hc3=>?_)
   ·refine sA ?_
    cases hq1
    exact zj1 rfl (zjQ [some 0,some 1,some 2,some 3,some 4])
   ·refine sA ?_
    cases hq1
    exact zj1 rfl (zjQ [some 0,some 1,some 2,some 3,some 4])
 ·intro s2 hJ;subst hJ
  try dsimp only at h
  refine sA ?_
  refine zjO h (λ h hc4=>?_) (λ h hc4=>?_)
  ·refine sA ?_
   obtain ⟨c350,hr5,h⟩:=zjJ h
   refine zjR (zY hr5) ?_
   refine sA ?_
   refine zjO h (λ h hc6=>?_) (λ h hc6=>?_)
   ·refine sA ?_
    cases h
    exact zjM ⟨[(4,(.pb 3 0)),(5,(I 1))],[(0,some (false,.arr true 3 (a0.fRe.map zjS))),(1,none),(2,some (false,.arr true 3 (a0.Line.map zj5))),(3,some (true,.box [(.os 0 3 0 a0.fRe.length a0.fRe.length false),(.os 2 3 0 a0.Line.length a0.Line.length false)]))],4,194⟩ [some 0,some 1,some 1,some 4]
   ·refine sA ?_
    obtain ⟨hp7,h⟩:=zjK h
    have hn7:a1.K.toNat < a0.Line.length:=by first|omega|(simp;omega)
    refine sA ?_
    first | refine zj2 ?_ | skip
    refine zm4 ?_
    refine sA ?_
    refine zjO h (λ h hc9=>?_) (λ h hc9=>?_)
    ·refine sA ?_
     refine zjO h (λ h hc10=>?_) (λ h hc10=>?_)
     ·refine sA ?_
      cases h
      exact zjM ⟨[(4,(.pb 3 0)),(5,(I 1))],[(0,some (false,.arr true 3 (a0.fRe.map zjS))),(1,none),(2,some (false,.arr true 3 (a0.Line.map zj5))),(3,some (true,.box [(.os 0 3 0 a0.fRe.length a0.fRe.length false),(.os 2 3 0 a0.Line.length a0.Line.length false)]))],4,194⟩ [some 0,some 1,some 1,some 4]
     ·refine sA ?_
      obtain ⟨c351,hr11,h⟩:=zjJ h
      refine zjR (zgj hr11) ?_
      refine sA ?_
      obtain ⟨hp12,h⟩:=zjK h
      refine sA ?_
      first | refine zj2 ?_ | skip
      try refine And.intro ⟨zma λ _=>rfl,by (simp only [qa,qb,qM];omega)⟩ ?_
      first | refine sA ?_ | skip
      first | refine zj2 ?_ | skip
      cases h
      exact zjM ⟨[(4,(.pb 3 0)),(5,(I 0))],[(0,some (false,.arr true 3 (a0.fRe.map zjS))),(1,none),(2,some (false,.arr true 3 ((a0.Line++([(⟨(nth a0.Line a1.K.toNat).To,c351⟩:SaidT)])).map zj5))),(3,some (true,.box [(.os 0 3 0 a0.fRe.length a0.fRe.length false),(.os 2 3 0 ((a0.Line++([(⟨(nth a0.Line a1.K.toNat).To,c351⟩:SaidT)])).length) ((a0.Line++([(⟨(nth a0.Line a1.K.toNat).To,c351⟩:SaidT)])).length) false)]))],4,194⟩ [some 0,some 1,some 8,some 4]
    ·refine sA ?_
     obtain ⟨hp13,h⟩:=zjK h
     have hn13:a1.K.toNat≤a0.Line.length:=by first|omega|(simp;omega)
     try simp (disch:=first | assumption | (simp only [qL];assumption)) only [go_sem,qA,qB,qC,qD,↓reduceIte,qE,reduceCtorEq,qF,qH,qI,qJ,qK,qG,hn13]
     first | refine zj2 ?_ | skip
     first | simp (disch:=first | assumption | (simp only [qL];assumption)) only [go_sem,qA,qB,qC,qD,↓reduceIte,qE,reduceCtorEq,qF,qH,qI,qJ,qK,qG,hn13] | skip
     first | refine zj2 ?_ | skip
     obtain ⟨hp14,h⟩:=zjK h
     try simp (disch:=first | assumption | (simp only [qL];assumption)) only [go_sem,qA,qB,qC,qD,↓reduceIte,qE,reduceCtorEq,qF,qH,qI,qJ,qK,qG,hn13]
     first | refine zj2 ?_ | skip
     try refine And.intro ⟨zma λ _=>rfl,by (simp only [qa,qb,qM];omega)⟩ ?_
     first | simp (disch:=first | assumption | (simp only [qL];assumption)) only [go_sem,qA,qB,qC,qD,↓reduceIte,qE,reduceCtorEq,qF,qH,qI,qJ,qK,qG,hn13] | skip
     first | refine zj2 ?_ | skip
     obtain ⟨hp15,h⟩:=zjK h
     have hn15:((wI (a1.K+1)).toNat+(a0.Line.length - (wI (a1.K+1)).toNat))≤a0.Line.length:=by first|omega|(simp;omega)
     try simp (disch:=first | assumption | (simp only [qL];assumption)) only [go_sem,qA,qB,qC,qD,↓reduceIte,qE,reduceCtorEq,qF,qH,qI,qJ,qK,qG,hn13,hn15]
     first | refine zj2 ?_ | skip
     first | simp (disch:=first | assumption | (simp only [qL];assumption)) only [go_sem,qA,qB,qC,qD,↓reduceIte,qE,reduceCtorEq,qF,qH,qI,qJ,qK,qG,hn13,hn15] | skip
     first | refine zj2 ?_ | skip
     obtain ⟨hp16,h⟩:=zjK h
     try simp (disch:=first | assumption | (simp only [qL];assumption)) only [go_sem,qA,qB,qC,qD,↓reduceIte,qE,reduceCtorEq,qF,qH,qI,qJ,qK,qG,hn13,hn15]
     first | refine zj2 ?_ | skip
     try refine And.intro ⟨zma λ _=>rfl,by (simp only [qa,qb,qM];omega)⟩ ?_
     first | simp (disch:=first | assumption | (simp only [qL];assumption)) only [go_sem,qA,qB,qC,qD,↓reduceIte,qE,reduceCtorEq,qF,qH,qI,qJ,qK,qG,hn13,hn15] | skip
     first | refine zj2 ?_ | skip
     refine zjO h (λ h hc17=>?_) (λ h hc17=>?_)
     ·try simp (disch:=first | assumption | (simp only [qL];assumption)) only [go_sem,qA,qB,qC,qD,↓reduceIte,qE,reduceCtorEq,qF,qH,qI,qJ,qK,qG,hn13,hn15]
      cases h
      exact zjM ⟨[(4,(.pb 3 0)),(5,(I 0))],[(0,some (false,.arr true 3 (a0.fRe.map zjS))),(1,none),(2,some (false,.arr true 3 (((([])++(a0.Line.take a1.K.toNat))++((a0.Line.drop ((wI (a1.K+1)).toNat)).take (a0.Line.length - (wI (a1.K+1)).toNat))).map zj5))),(3,some (true,.box [(.os 0 3 0 a0.fRe.length a0.fRe.length false),(.os 2 3 0 (((([])++(a0.Line.take a1.K.toNat))++((a0.Line.drop ((wI (a1.K+1)).toNat)).take (a0.Line.length - (wI (a1.K+1)).toNat))).length) (((([])++(a0.Line.take a1.K.toNat))++((a0.Line.drop ((wI (a1.K+1)).toNat)).take (a0.Line.length - (wI (a1.K+1)).toNat))).length) false)]))],4,194⟩ [some 0,some 1,some 8,some 4]
     ·try simp (disch:=first | assumption | (simp only [qL];assumption)) only [go_sem,qA,qB,qC,qD,↓reduceIte,qE,reduceCtorEq,qF,qH,qI,qJ,qK,qG,hn13,hn15]
      obtain ⟨hp18,h⟩:=zjK h
      have hn18:((nth a0.Line a1.K.toNat).To).toNat < a0.fRe.length:=by first|omega|(simp;omega)
      try simp (disch:=first | assumption | (simp only [qL];assumption)) only [go_sem,qA,qB,qC,qD,↓reduceIte,qE,reduceCtorEq,qF,qH,qI,qJ,qK,qG,hn13,hn15]
      first | refine zj2 ?_ | skip
      refine zm4 ?_
      try simp (disch:=first | assumption | (simp only [qL];assumption)) only [go_sem,qA,qB,qC,qD,↓reduceIte,qE,reduceCtorEq,qF,qH,qI,qJ,qK,qG,hn13,hn15]
      obtain ⟨c352,hr20,h⟩:=zjJ h
      refine zrD (zis hr20) (by first | rfl | (simp (disch:=first | assumption | (simp only [qL];assumption)) only [go_sem,qA,qB,qC,qD,↓reduceIte,qE,reduceCtorEq,qF,qH,qI,qJ,qK,qG,hn13,hn15];first | done | rfl) | (simp only [qM,qP,qQ,qO,qL,qN,qc,qA];rfl) | (simp (disch:=first | assumption | (simp only [qL];assumption)) only [go_sem,qA,qB,qC,qD,↓reduceIte,qE,reduceCtorEq,qF,qH,qI,qJ,qK,qG,hn13,hn15];simp only [qM,qP,qQ,qO,qL,qN,qc,qA];rfl)) (FitAll.refl _) (.inl (by first | rfl | (simp (disch:=first | assumption | (simp only [qL];assumption)) only [go_sem,qA,qB,qC,qD,↓reduceIte,qE,reduceCtorEq,qF,qH,qI,qJ,qK,qG];done))) ?_
      try simp (disch:=first | assumption | (simp only [qL];assumption)) only [go_sem,qA,qB,qC,qD,↓reduceIte,qE,reduceCtorEq,qF,qH,qI,qJ,qK,qG,hn13,hn15]
      refine zjO h (λ h hc21=>?_) (λ h hc21=>?_)
      ·try simp (disch:=first | assumption | (simp only [qL];assumption)) only [go_sem,qA,qB,qC,qD,↓reduceIte,qE,reduceCtorEq,qF,qH,qI,qJ,qK,qG,hn13,hn15]
       cases h
       exact zjM ⟨[(4,(.pb 3 0)),(5,(I 2))],[(0,some (false,.arr true 3 (a0.fRe.map zjS))),(1,none),(2,some (false,.arr true 3 (((([])++(a0.Line.take a1.K.toNat))++((a0.Line.drop ((wI (a1.K+1)).toNat)).take (a0.Line.length - (wI (a1.K+1)).toNat))).map zj5))),(3,some (true,.box [(.os 0 3 0 a0.fRe.length a0.fRe.length false),(.os 2 3 0 (((([])++(a0.Line.take a1.K.toNat))++((a0.Line.drop ((wI (a1.K+1)).toNat)).take (a0.Line.length - (wI (a1.K+1)).toNat))).length) (((([])++(a0.Line.take a1.K.toNat))++((a0.Line.drop ((wI (a1.K+1)).toNat)).take (a0.Line.length - (wI (a1.K+1)).toNat))).length) false)]))],4,194⟩ [some 0,some 1,some 8,some 4]
      ·try simp (disch:=first | assumption | (simp only [qL];assumption)) only [go_sem,qA,qB,qC,qD,↓reduceIte,qE,reduceCtorEq,qF,qH,qI,qJ,qK,qG,hn13,hn15]
       obtain ⟨hp22,h⟩:=zjK h
       have hn22:((nth a0.Line a1.K.toNat).To).toNat < a0.fRe.length:=by first|omega|(simp;omega)
       try simp (disch:=first | assumption | (simp only [qL];assumption)) only [go_sem,qA,qB,qC,qD,↓reduceIte,qE,reduceCtorEq,qF,qH,qI,qJ,qK,qG,hn13,hn15]
       first | refine zj2 ?_ | skip
       refine zm4 ?_
       try simp (disch:=first | assumption | (simp only [qL];assumption)) only [go_sem,qA,qB,qC,qD,↓reduceIte,qE,reduceCtorEq,qF,qH,qI,qJ,qK,qG,hn13,hn15]
       cases h
       exact zjM ⟨[(4,(.pb 3 0)),(5,(I 0))],[(0,some (false,.arr true 3 ((a0.fRe.set (((nth a0.Line a1.K.toNat).To).toNat) c352.1).map zjS))),(1,none),(2,some (false,.arr true 3 (((([])++(a0.Line.take a1.K.toNat))++((a0.Line.drop ((wI (a1.K+1)).toNat)).take (a0.Line.length - (wI (a1.K+1)).toNat))).map zj5))),(3,some (true,.box [(.os 0 3 0 ((a0.fRe.set (((nth a0.Line a1.K.toNat).To).toNat) c352.1).length) ((a0.fRe.set (((nth a0.Line a1.K.toNat).To).toNat) c352.1).length) false),(.os 2 3 0 (((([])++(a0.Line.take a1.K.toNat))++((a0.Line.drop ((wI (a1.K+1)).toNat)).take (a0.Line.length - (wI (a1.K+1)).toNat))).length) (((([])++(a0.Line.take a1.K.toNat))++((a0.Line.drop ((wI (a1.K+1)).toNat)).take (a0.Line.length - (wI (a1.K+1)).toNat))).length) false)]))],4,194⟩ [some 0,some 1,some 8,some 4]
  ·refine sA ?_
   obtain ⟨c353,hr24,h⟩:=zjJ h
   refine zjR (zY hr24) ?_
   refine sA ?_
   refine zjO h (λ h hc25=>?_) (λ h hc25=>?_)
   ·refine sA ?_
    cases h
    exact zjM ⟨[(4,(.pb 3 0)),(5,(I 1))],[(0,some (false,.arr true 3 (a0.fRe.map zjS))),(1,none),(2,some (false,.arr true 3 (a0.Line.map zj5))),(3,some (true,.box [(.os 0 3 0 a0.fRe.length a0.fRe.length false),(.os 2 3 0 a0.Line.length a0.Line.length false)]))],4,194⟩ [some 0,some 1,some 1,some 4]
   ·refine sA ?_
    obtain ⟨hp26,h⟩:=zjK h
    have hn26:a1.Region.toNat < a0.fRe.length:=by first|omega|(simp;omega)
    refine sA ?_
    first | refine zj2 ?_ | skip
    refine zm4 ?_
    refine sA ?_
    refine zjO h (λ h hc28=>?_) (λ h hc28=>?_)
    ·refine sA ?_
     obtain ⟨c354,hr29,h⟩:=zjJ h
     refine zjR (zho hr29) ?_
     refine sA ?_
     obtain ⟨hp30,h⟩:=zjK h
     have hn30:a1.Region.toNat < a0.fRe.length:=by first|omega|(simp;omega)
     refine sA ?_
     first | refine zj2 ?_ | skip
     refine zm4 ?_
     refine sA ?_
     cases h
     exact zjM ⟨[(4,(.pb 3 0)),(5,(I c354.2))],[(0,some (false,.arr true 3 ((a0.fRe.set a1.Region.toNat c354.1).map zjS))),(1,none),(2,some (false,.arr true 3 (a0.Line.map zj5))),(3,some (true,.box [(.os 0 3 0 ((a0.fRe.set a1.Region.toNat c354.1).length) ((a0.fRe.set a1.Region.toNat c354.1).length) false),(.os 2 3 0 a0.Line.length a0.Line.length false)]))],4,194⟩ [some 0,some 1,some 1,some 4]
    ·refine sA ?_
     refine zjO h (λ h hc32=>?_) (λ h hc32=>?_)
     ·refine sA ?_
      obtain ⟨c355,hr33,h⟩:=zjJ h
      refine zjR (zja hr33) ?_
      refine sA ?_
      refine zjO h (λ h hc34=>?_) (λ h hc34=>?_)
      ·refine sA ?_
       cases h
       exact zjM ⟨[(4,(.pb 3 0)),(5,(I 1))],[(0,some (false,.arr true 3 (a0.fRe.map zjS))),(1,none),(2,some (false,.arr true 3 (a0.Line.map zj5))),(3,some (true,.box [(.os 0 3 0 a0.fRe.length a0.fRe.length false),(.os 2 3 0 a0.Line.length a0.Line.length false)]))],4,194⟩ [some 0,some 1,some 1,some 4]
      ·refine sA ?_
       obtain ⟨hp35,h⟩:=zjK h
       have hn35:a1.Region.toNat < a0.fRe.length:=by first|omega|(simp;omega)
       refine sA ?_
       first | refine zj2 ?_ | skip
       refine zm4 ?_
       refine sA ?_
       cases h
       exact zjM ⟨[(4,(.pb 3 0)),(5,(I 0))],[(0,some (false,.arr true 3 ((a0.fRe.set a1.Region.toNat c355.1).map zjS))),(1,none),(2,some (false,.arr true 3 (a0.Line.map zj5))),(3,some (true,.box [(.os 0 3 0 ((a0.fRe.set a1.Region.toNat c355.1).length) ((a0.fRe.set a1.Region.toNat c355.1).length) false),(.os 2 3 0 a0.Line.length a0.Line.length false)]))],4,194⟩ [some 0,some 1,some 1,some 4]
     ·refine sA ?_
      refine zjO h (λ h hc37=>?_) (λ h hc37=>?_)
      ·refine sA ?_
       refine zjO h (λ h hc38=>?_) (λ h hc38=>?_)
       ·refine sA ?_
        cases h
        exact zjM ⟨[(4,(.pb 3 0)),(5,(I 1))],[(0,some (false,.arr true 3 (a0.fRe.map zjS))),(1,none),(2,some (false,.arr true 3 (a0.Line.map zj5))),(3,some (true,.box [(.os 0 3 0 a0.fRe.length a0.fRe.length false),(.os 2 3 0 a0.Line.length a0.Line.length false)]))],4,194⟩ [some 0,some 1,some 1,some 4]
       ·refine sA ?_
        obtain ⟨c358,hr39,h⟩:=zjJ h
        refine zjR (zjb hr39) ?_
        refine sA ?_
        obtain ⟨hp40,h⟩:=zjK h
        refine sA ?_
        first | refine zj2 ?_ | skip
        try refine And.intro ⟨zma λ _=>rfl,by (simp only [qa,qb,qM];omega)⟩ ?_
        first | refine sA ?_ | skip
        first | refine zj2 ?_ | skip
        cases h
        exact zjM ⟨[(4,(.pb 3 0)),(5,(I 0))],[(0,some (false,.arr true 3 (a0.fRe.map zjS))),(1,none),(2,some (false,.arr true 3 ((a0.Line++([(⟨(wI (1 - a1.Region)),c358.1⟩:SaidT)])).map zj5))),(3,some (true,.box [(.os 0 3 0 a0.fRe.length a0.fRe.length false),(.os 2 3 0 ((a0.Line++([(⟨(wI (1 - a1.Region)),c358.1⟩:SaidT)])).length) ((a0.Line++([(⟨(wI (1 - a1.Region)),c358.1⟩:SaidT)])).length) false)]))],4,194⟩ [some 0,some 1,some 9,some 4]
      ·refine sA ?_
       refine zjO h (λ h hc41=>?_) (λ h hc41=>?_)
       ·refine sA ?_
        obtain ⟨c359,hr42,h⟩:=zjJ h
        refine zjR (zgV hr42) ?_
        refine sA ?_
        refine zjO h (λ h hc43=>?_) (λ h hc43=>?_)
        ·refine sA ?_
         cases h
         exact zjM ⟨[(4,(.pb 3 0)),(5,(I 1))],[(0,some (false,.arr true 3 (a0.fRe.map zjS))),(1,none),(2,some (false,.arr true 3 (a0.Line.map zj5))),(3,some (true,.box [(.os 0 3 0 a0.fRe.length a0.fRe.length false),(.os 2 3 0 a0.Line.length a0.Line.length false)]))],4,194⟩ [some 0,some 1,some 1,some 4]
        ·refine sA ?_
         obtain ⟨c391,hr44,h⟩:=zjJ h
         refine zjR (ziu hr44) ?_
         refine sA ?_
         refine zjO h (λ h hc45=>?_) (λ h hc45=>?_)
         ·refine sA ?_
          cases h
          exact zjM ⟨[(4,(.pb 3 0)),(5,(I 1))],[(0,some (false,.arr true 3 (a0.fRe.map zjS))),(1,none),(2,some (false,.arr true 3 (a0.Line.map zj5))),(3,some (true,.box [(.os 0 3 0 a0.fRe.length a0.fRe.length false),(.os 2 3 0 a0.Line.length a0.Line.length false)]))],4,194⟩ [some 0,some 1,some 1,some 4]
         ·refine sA ?_
          obtain ⟨hp46,h⟩:=zjK h
          have hn46:a1.Region.toNat < a0.fRe.length:=by first|omega|(simp;omega)
          refine sA ?_
          first | refine zj2 ?_ | skip
          refine zm4 ?_
          refine sA ?_
          cases h
          exact zjM ⟨[(4,(.pb 3 0)),(5,(I 0))],[(0,some (false,.arr true 3 ((a0.fRe.set a1.Region.toNat c391.1).map zjS))),(1,none),(2,some (false,.arr true 3 (a0.Line.map zj5))),(3,some (true,.box [(.os 0 3 0 ((a0.fRe.set a1.Region.toNat c391.1).length) ((a0.fRe.set a1.Region.toNat c391.1).length) false),(.os 2 3 0 a0.Line.length a0.Line.length false)]))],4,194⟩ [some 0,some 1,some 1,some 4]
       ·refine sA ?_
        cases h
        exact zjM ⟨[(4,(.pb 3 0)),(5,(I 1))],[(0,some (false,.arr true 3 (a0.fRe.map zjS))),(1,none),(2,some (false,.arr true 3 (a0.Line.map zj5))),(3,some (true,.box [(.os 0 3 0 a0.fRe.length a0.fRe.length false),(.os 2 3 0 a0.Line.length a0.Line.length false)]))],4,194⟩ [some 0,some 1,some 1,some 4]
theorem ziw {r:WorldT} (h:ze8=some r):Fn Tryz.prog 81 [] [] 0 (.ag [(.lf false (.sl (r.fRe.map zjS))),.nl]) [] 1:=by
 unfold ze8 at h
 refine fc [] Tryz.func81 ?_
 simp only [Tryz.f81]
 refine sA ?_
 cases h
 refine zkF 1 ?_
 refine sA ?_
 exact zjM ⟨[(0,(.pb 0 0))],[(0,some (true,.box [(.lf false (.sl (([(⟨0,0,(⟨[]⟩:TellingsT)⟩:RegionT),(⟨1,0,(⟨[]⟩:TellingsT)⟩:RegionT)]).map zjS))),.nl]))],1,5⟩ [some 0]
theorem zh5 {a0:WorldT} {a1:WorldStepT} {r:(WorldT×Int)} (h:zc8 a0 a1=some r):Fn Tryz.prog 82 [(.ag [(.lf true (.sl (a0.fRe.map zjS))),(.lf true (.sl (a0.Line.map zj5)))]),(.ag [(I a1.Kind),(I a1.Region),(I a1.What),(.lf false (.sc (.string a1.Name))),(I a1.K)])] [] 0 (.tu [(.ag [(.lf true (.sl (r.1.fRe.map zjS))),(.lf true (.sl (r.1.Line.map zj5)))]),(I r.2)]) [] 1:=by
 unfold zc8 at h
 refine fc [(3,[(2,1),(0,7),(2,7)]),(1000,[(2,0),(3,0),(4,0)]),(1001,[(2,0),(3,0),(4,0),(10,0)]),(1002,[(4,0),(5,0)]),(1003,[(2,0),(3,0),(4,0),(6,0),(7,0)]),(1004,[(2,0),(4,0),(6,0),(7,0),(33,0)]),(1005,[(4,0),(5,0)]),(1006,[(4,0),(5,0)]),(4004,[])] Tryz.func82 ?_
 simp only [Tryz.f82]
 refine sA ?_
 obtain ⟨c406,hr1,h⟩:=zjJ h
 refine zjR (ziR hr1) ?_
 refine sA ?_
 refine zjO h (λ h hc2=>?_) (λ h hc2=>?_)
 ·refine sA ?_
  cases h
  exact zjM ⟨[(4,(.pb 0 0)),(5,(I 1))],[(0,some (true,.box [(.lf true (.sl (([]).map zjS))),(.lf true (.sl (([]).map zj5)))]))],1,39⟩ [some 2]
 ·refine sA ?_
  obtain ⟨c407,hr3,h⟩:=zjJ h
  refine zjR (zhN hr3) ?_
  refine sA ?_
  obtain ⟨c408,hr4,h⟩:=zjJ h
  refine zll [3,4] (ziv hr4) ?_
  refine sA ?_
  obtain ⟨hp5,h⟩:=zjK h
  try rw [← hp5]
  refine sA ?_
  obtain ⟨p409,hq6,h⟩:=zjJ h
  refine zki (λ s2=>s2=⟨[(2,(.pb 0 0)),(4,(.pb 1 0)),(6,(.pb 2 0)),(7,(I c408.2.1)),(33,(B p409.t33))],[(0,some (true,.box [(.lf true (.sl (a0.fRe.map zjS))),(.lf true (.sl (a0.Line.map zj5)))])),(1,some (true,.box [.nl,.nl])),(2,some (true,.box [(.os 3 3 0 c408.2.2.length c408.2.2.length false),(.os 4 3 0 c408.1.Line.length c408.1.Line.length false)])),(3,some (true,.arr true 3 (c408.2.2.map zjS))),(4,some (true,.arr true 3 (c408.1.Line.map zj5)))],5,39⟩) ?_ ?_
  ·refine sA ?_
   refine zj6 hq6 (λ hq6 hc7=>?_) (λ hq6 hc7=>?_)
   ·refine sA ?_
    refine zj6 hq6 (λ hq6 hc8=>?_) (λ hq6 hc8=>?_)
    ·refine sA ?_
     cases hq6
     exact zj1 rfl (zjQ [some 0,some 2,some 8,some 3,some 6])
    ·refine sA ?_
     refine zj6 hq6 (λ hq6 hc9=>?_) (λ hq6 hc9=>?_)
     ·refine sA ?_
      cases hq6
      exact zj1 rfl (zjQ [some 0,some 2,some 8,some 3,some 6])
     ·refine sA ?_
      cases hq6
      exact zj1 rfl (zjQ [some 0,some 2,some 8,some 3,some 6])
   ·refine sA ?_
    refine zj6 hq6 (λ hq6 hc10=>?_) (λ hq6 hc10=>?_)
    ·refine sA ?_
     cases hq6
     exact zj1 rfl (zjQ [some 0,some 2,some 8,some 3,some 6])
    ·refine sA ?_
     cases hq6
     exact zj1 rfl (zjQ [some 0,some 2,some 8,some 3,some 6])
  ·intro s2 hJ;subst hJ
   try dsimp only at h
   refine sA ?_
   refine zjO h (λ h hc11=>?_) (λ h hc11=>?_)
   ·refine sA ?_
    obtain ⟨c410,hr12,h⟩:=zjJ h
    refine zjR (zhN hr12) ?_
    refine sA ?_
    cases h
    refine zkF 5 ?_
    refine zkF 6 ?_
    refine sA ?_
    exact zjM ⟨[(4,(.pb 0 0)),(5,(I c408.2.1))],[(0,some (true,.box [(.lf true (.sl (c410.fRe.map zjS))),(.lf true (.sl (c410.Line.map zj5)))]))],1,39⟩ [some 1]
   ·refine sA ?_
    cases h
    refine zkF 3 ?_
    refine zkF 4 ?_
    refine sA ?_
    exact zjM ⟨[(4,(.pb 0 0)),(5,(I c408.2.1))],[(0,some (true,.box [(.lf true (.sl (c408.2.2.map zjS))),(.lf true (.sl (c408.1.Line.map zj5)))]))],1,39⟩ [some 1]
theorem ziS {a0:(List WorldStepT)} {r:(WorldT×(List Int)×Bool)} (h:zey a0=some r):Fn Tryz.prog 26 [(.lf true (.sl (a0.map zj4)))] [] 0 (.tu [(.ag [(.lf true (.sl (r.1.fRe.map zjS))),(.lf true (.sl (r.1.Line.map zj5)))]),(.os 0 1 0 r.2.1.length r.2.1.length false),(B r.2.2)]) [(0,some (true,.arr false 1 (r.2.1.map eI)))] 2:=by
 unfold zey at h
 refine fc [(1000,[(0,0),(2,0)]),(1001,[(0,0),(2,0),(13,0)]),(1002,[(2,0),(3,0),(4,0)]),(1003,[(0,0),(2,0),(5,0)]),(1004,[(0,0),(2,0),(5,0),(6,0)]),(1005,[(2,0),(5,0),(6,0),(16,0),(17,0),(18,0)]),(1006,[(2,0),(5,0),(6,0),(16,0),(17,0),(18,0),(19,0)]),(1007,[(2,0),(5,0),(6,0),(8,0),(16,0),(17,0),(18,0)]),(1008,[(2,0),(5,0),(6,0),(9,0),(10,0),(16,0),(17,0),(18,0)]),(1009,[(2,0),(5,0),(6,0),(10,0),(16,0),(17,0),(18,0)]),(1010,[(2,0),(5,0),(6,0),(16,0),(17,0),(18,0)]),(1011,[(2,0),(5,0),(6,0),(16,0),(17,0),(18,0)]),(1012,[(2,0),(3,0),(4,0)])] Tryz.func26 ?_
 simp only [Tryz.f26]
 refine sA ?_
 refine zjO h (λ h hc1=>?_) (λ h hc1=>?_)
 ·refine sA ?_
  cases h
  exact zjM ⟨[(2,(.pb 1 0)),(3,(.os 0 1 0 (([]:List Int).length) (([]:List Int).length) false)),(4,(B false))],[(0,some (true,.arr false 1 (([]:List Int).map eI))),(1,some (true,.box [(.lf true (.sl (([]).map zjS))),(.lf true (.sl (([]).map zj5)))]))],2,36⟩ [none,some 0]
 ·refine sA ?_
  obtain ⟨c404,hr2,h⟩:=zjJ h
  refine zjR (ziw hr2) ?_
  refine sA ?_
  obtain ⟨y413,hl3,h⟩:=zjJ h
  refine zj3 (λ g405:zd9=>⟨[(2,(.pb 0 0)),(5,(.pb 1 0)),(6,(.os 2 1 0 g405.c2.length g405.c2.length false)),(16,(.lf true (.sl (a0.map zj4)))),(17,(I ((a0.length:Nat):Int))),(18,(I g405.t18))],[(0,some (true,.box [.nl,.nl])),(1,some (true,.box [(.lf true (.sl (g405.b1_0.map zjS))),(.lf true (.sl (g405.b1_1.map zj5)))])),(2,some (true,.arr false 1 (g405.c2.map eI)))],3,36⟩) (zbx a0) _ _ hl3 (zjQ [some 0,some 2,none]) ?_
  ·intro n1 g405 z1 hs1 hk1
   unfold zbx at hs1
   try dsimp only at hs1
   refine sA ?_
   refine zjO hs1 (λ hs1 hc4=>?_) (λ hs1 hc4=>?_)
   ·refine sA ?_
    obtain ⟨hp5,hs1⟩:=zjK hs1
    have hn5:g405.t18.toNat < a0.length:=by first|omega|(simp;omega)
    refine sA ?_
    refine zj2 ?_
    obtain ⟨c412,hr6,hs1⟩:=zjJ hs1
    refine zjR (zh5 hr6) ?_
    refine sA ?_
    obtain ⟨hp7,hs1⟩:=zjK hs1
    refine sA ?_
    refine zj2 ?_
    cases hs1
    exact zjW hk1 (zjQ [some 0,some 1,some 7])
   ·refine sA ?_
    cases hs1
    cases hk1
    try dsimp only at h
    refine sA ?_
    cases h
    exact zjM ⟨[(2,(.pb 1 0)),(3,(.os 0 1 0 g405.c2.length g405.c2.length false)),(4,(B true))],[(0,some (true,.arr false 1 (g405.c2.map eI))),(1,some (true,.box [(.lf true (.sl (g405.b1_0.map zjS))),(.lf true (.sl (g405.b1_1.map zj5)))]))],2,36⟩ [some 2,some 0]
theorem zhp {a0:(List WorldStepT)} {r:(List WorldStepT)} (h:zbH a0=some r):Fn Tryz.prog 43 [(.lf true (.sl (a0.map zj4)))] [] 0 (.lf false (.sl (r.map zj4))) [] 0:=by
 unfold zbH at h
 refine fc [(1000,[(0,0)]),(1001,[(0,0),(3,0)]),(1002,[(0,0),(3,0),(4,0)]),(1003,[(0,0),(3,0),(4,0),(11,0)]),(1004,[(0,0),(3,0),(4,0)]),(1005,[(0,0),(3,0),(4,0)]),(1006,[(2,0)])] Tryz.func43 ?_
 simp only [Tryz.f43]
 refine sA ?_
 obtain ⟨hp1,h⟩:=zjK h
 refine sA ?_
 refine zj2 ?_
 obtain ⟨y418,hl2,h⟩:=zjJ h
 refine zj3 (λ g415:zb7=>⟨[(0,(.lf true (.sl (a0.map zj4)))),(3,(.os 0 5 0 g415.c0.length g415.c0.length false)),(4,(I g415.t4))],[(0,some (true,.arr false 5 (g415.c0.map zj4)))],1,23⟩) (zX a0) _ _ hl2 (zjQ [some 0]) ?_
 ·intro n1 g415 z1 hs1 hk1
  unfold zX at hs1
  try dsimp only at hs1
  refine sA ?_
  refine zjO hs1 (λ hs1 hc3=>?_) (λ hs1 hc3=>?_)
  ·refine sA ?_
   obtain ⟨hp4,hs1⟩:=zjK hs1
   have hn4:g415.t4.toNat < a0.length:=by first|omega|(simp;omega)
   refine sA ?_
   refine zj2 ?_
   obtain ⟨c417,hr5,hs1⟩:=zjJ hs1
   refine zjR (zgw hr5) ?_
   refine sA ?_
   obtain ⟨hp6,hs1⟩:=zjK hs1
   have hn6:g415.t4.toNat < g415.c0.length:=by first|omega|(simp;omega)
   refine sA ?_
   refine zj2 ?_
   refine zm4 ?_
   refine sA ?_
   cases hs1
   exact zjW hk1 (zjQ [some 0])
  ·refine sA ?_
   cases hs1
   cases hk1
   try dsimp only at h
   refine sA ?_
   cases h
   refine zkF 0 ?_
   refine sA ?_
   exact zjM ⟨[(2,(.lf false (.sl (g415.c0.map zj4))))],[],0,23⟩ []
theorem zjc {r:WorldT} (h:zfR=some r):Fn Tryz.prog 79 [] [] 0 (.ag [(.os 0 3 0 r.fRe.length r.fRe.length false),.nl]) [(0,some (true,.deep [.sc,.sc,.sl [.sl [.sc,.sc,.sc,.sc]]] (r.fRe.map zjS)))] 2:=by
 unfold zfR at h
 refine fc [] Tryz.func79 ?_
 simp only [Tryz.f79]
 refine sA ?_
 cases h
 exact zjM ⟨[(0,(.pb 1 0))],[(0,some (true,.deep [.sc,.sc,.sl [.sl [.sc,.sc,.sc,.sc]]] (([(⟨0,0,(⟨[]⟩:TellingsT)⟩:RegionT),(⟨1,0,(⟨[]⟩:TellingsT)⟩:RegionT)]).map zjS))),(1,some (true,.box [(.os 0 3 0 (([(⟨0,0,(⟨[]⟩:TellingsT)⟩:RegionT),(⟨1,0,(⟨[]⟩:TellingsT)⟩:RegionT)]).length) (([(⟨0,0,(⟨[]⟩:TellingsT)⟩:RegionT),(⟨1,0,(⟨[]⟩:TellingsT)⟩:RegionT)]).length) false),.nl]))],2,5⟩ [some 1,some 0]
theorem zdP {a0:Int} {a1:Int} {a2:Int} {r:Bool} (h:zdn a0 a1 a2=some r):Fn Tryz.prog 133 [(I a0),(I a1),(I a2)] [] 0 (B r) [] 0:=by
 unfold zdn at h
 refine fc [] Tryz.func133 ?_
 simp only [Tryz.f133]
 refine sA ?_
 refine zj6 h (λ h hc1=>?_) (λ h hc1=>?_)
 ·refine sA ?_
  cases h
  exact zjM ⟨[(6,(B (decide (a0≤a2))))],[],0,15⟩ []
 ·refine sA ?_
  have he:=oi h
  subst he
  exact zjM ⟨[(6,(B false))],[],0,15⟩ []
theorem zjq {a0:Int} {r:Bool} (h:zfe a0=some r):Fn Tryz.prog 95 [(I a0)] [] 0 (B r) [] 0:=by
 unfold zfe at h
 refine fc [] Tryz.func95 ?_
 simp only [Tryz.f95]
 refine sA ?_
 obtain ⟨c425,hr1,h⟩:=zjJ h
 refine zjR (zdP hr1) ?_
 refine sA ?_
 have he:=oi h
 subst he
 exact zjM ⟨[(2,(B c425))],[],0,5⟩ []
theorem zhq {a0:(List EventT)} {r:Int} (h:zet a0=some r):Fn Tryz.prog 194 [(.lf true (.sl (a0.map zjU)))] [] 0 (I r) [] 0:=by
 unfold zet at h
 refine fc [] Tryz.func194 ?_
 simp only [Tryz.f194]
 refine sA ?_
 obtain ⟨hp1,h⟩:=zjK h
 have hn1:(wI (((a0.length:Nat):Int) - 1)).toNat < a0.length:=by first|omega|(simp;omega)
 refine sA ?_
 refine zj2 ?_
 cases h
 exact zjM ⟨[(2,(I ((nth a0 ((wI (((a0.length:Nat):Int) - 1)).toNat)).fVe)))],[],0,10⟩ []
theorem zhg {a0:Int} {r:Bool} (h:zeN a0=some r):Fn Tryz.prog 230 [(I a0)] [] 0 (B r) [] 0:=by
 unfold zeN at h
 refine fc [] Tryz.func230 ?_
 simp only [Tryz.f230]
 refine sA ?_
 cases h
 exact zjM ⟨[(2,(B (a0 != a0)))],[],0,6⟩ []
theorem zec {a0:Int} {a1:Int} {r:Int} (h:zaC a0 a1=some r):Fn Tryz.prog 193 [(I a0),(I a1)] [] 0 (I r) [] 0:=by
 unfold zaC at h
 refine fc [(1000,[(0,0),(1,0)]),(1001,[(0,0),(1,0),(5,0)]),(1002,[(0,0),(1,0),(5,0),(6,0)]),(1003,[(0,0),(1,0),(6,0),(11,0)]),(1004,[(12,0)]),(1005,[(4,0)]),(1006,[(4,0)]),(1007,[(0,0),(1,0),(13,0)]),(1008,[(4,0)]),(1009,[(0,0),(1,0),(16,0)]),(1010,[(4,0)]),(1011,[(19,0)]),(1012,[(4,0)]),(1013,[(4,0)])] Tryz.func193 ?_
 simp only [Tryz.f193]
 refine sA ?_
 obtain ⟨c431,hr1,h⟩:=zjJ h
 refine zjR (zhg hr1) ?_
 refine sA ?_
 obtain ⟨c432,hr2,h⟩:=zjJ h
 refine zjR (zhg hr2) ?_
 refine sA ?_
 refine zjO h (λ h hc3=>?_) (λ h hc3=>?_)
 ·refine sA ?_
  refine zjO h (λ h hc4=>?_) (λ h hc4=>?_)
  ·refine sA ?_
   have he:=oi h
   subst he
   exact zjM ⟨[(4,(I 0))],[],0,20⟩ []
  ·refine sA ?_
   cases h
   exact zjM ⟨[(4,(I (-1)))],[],0,20⟩ []
 ·refine sA ?_
  refine zjO h (λ h hc5=>?_) (λ h hc5=>?_)
  ·refine sA ?_
   have he:=oi h
   subst he
   exact zjM ⟨[(4,(I 1))],[],0,20⟩ []
  ·refine sA ?_
   refine zjO h (λ h hc6=>?_) (λ h hc6=>?_)
   ·refine sA ?_
    cases h
    exact zjM ⟨[(4,(I (-1)))],[],0,20⟩ []
   ·refine sA ?_
    refine zjO h (λ h hc7=>?_) (λ h hc7=>?_)
    ·refine sA ?_
     have he:=oi h
     subst he
     exact zjM ⟨[(4,(I 1))],[],0,20⟩ []
    ·refine sA ?_
     have he:=oi h
     subst he
     exact zjM ⟨[(4,(I 0))],[],0,20⟩ []
theorem zdQ {a0:ByteArray} {r:Bool} (h:zag a0=some r):Fn Tryz.prog 254 [(.lf false (.sc (.string a0)))] [] 0 (B r) [] 0:=by
 unfold zag at h
 refine fc [] Tryz.func254 ?_
 simp only [Tryz.f254]
 refine sA ?_
 cases h
 exact zjM ⟨[(2,(B (!(a0.toList == a0.toList))))],[],0,6⟩ []
theorem zhF {a0:ByteArray} {a1:ByteArray} {r:Int} (h:zb9 a0 a1=some r):Fn Tryz.prog 223 [(.lf false (.sc (.string a0))),(.lf false (.sc (.string a1)))] [] 0 (I r) [] 0:=by
 unfold zb9 at h
 refine fc [(1000,[(0,0),(1,0)]),(1001,[(0,0),(1,0),(5,0)]),(1002,[(0,0),(1,0),(5,0),(6,0)]),(1003,[(0,0),(1,0),(6,0),(11,0)]),(1004,[(12,0)]),(1005,[(4,0)]),(1006,[(4,0)]),(1007,[(0,0),(1,0),(13,0)]),(1008,[(4,0)]),(1009,[(0,0),(1,0),(16,0)]),(1010,[(4,0)]),(1011,[(19,0)]),(1012,[(4,0)]),(1013,[(4,0)])] Tryz.func223 ?_
 simp only [Tryz.f223]
 refine sA ?_
 obtain ⟨c438,hr1,h⟩:=zjJ h
 refine zjR (zdQ hr1) ?_
 refine sA ?_
 obtain ⟨c439,hr2,h⟩:=zjJ h
 refine zjR (zdQ hr2) ?_
 refine sA ?_
 refine zjO h (λ h hc3=>?_) (λ h hc3=>?_)
 ·refine sA ?_
  refine zjO h (λ h hc4=>?_) (λ h hc4=>?_)
  ·refine sA ?_
   have he:=oi h
   subst he
   exact zjM ⟨[(4,(I 0))],[],0,20⟩ []
  ·refine sA ?_
   cases h
   exact zjM ⟨[(4,(I (-1)))],[],0,20⟩ []
 ·refine sA ?_
  refine zjO h (λ h hc5=>?_) (λ h hc5=>?_)
  ·refine sA ?_
   have he:=oi h
   subst he
   exact zjM ⟨[(4,(I 1))],[],0,20⟩ []
  ·refine sA ?_
   refine zjO h (λ h hc6=>?_) (λ h hc6=>?_)
   ·refine sA ?_
    cases h
    exact zjM ⟨[(4,(I (-1)))],[],0,20⟩ []
   ·refine sA ?_
    refine zjO h (λ h hc7=>?_) (λ h hc7=>?_)
    ·refine sA ?_
     have he:=oi h
     subst he
     exact zjM ⟨[(4,(I 1))],[],0,20⟩ []
    ·refine sA ?_
     have he:=oi h
     subst he
     exact zjM ⟨[(4,(I 0))],[],0,20⟩ []
theorem zh6 {a0:(List Int)} {r:Int} (h:zfq a0=some r):Fn Tryz.prog 192 [(.lf true (.sl (a0.map eI)))] [] 0 (I r) [] 0:=by
 unfold zfq at h
 refine fc [(1000,[(0,0)]),(1001,[(0,0),(3,0)]),(1002,[(3,0),(6,0),(7,0),(8,0)]),(1003,[(3,0),(6,0),(7,0),(8,0),(9,0)]),(1004,[(3,0),(5,0),(6,0),(7,0),(8,0)]),(1005,[(3,0),(5,0),(6,0),(7,0),(8,0),(14,0)]),(1006,[(2,0)]),(1007,[(3,0),(6,0),(7,0),(8,0)]),(1008,[(2,0)])] Tryz.func192 ?_
 simp only [Tryz.f192]
 refine sA ?_
 obtain ⟨y442,hl1,h⟩:=zjJ h
 refine zj3 (λ g441:zfL=>⟨[(3,(I 0)),(6,(.lf true (.sl (a0.map eI)))),(7,(I ((a0.length:Nat):Int))),(8,(I g441.t8))],[],0,18⟩) (zdo a0) _ _ hl1 (zjQ []) ?_
 ·intro n1 g441 z1 hs1 hk1
  unfold zdo at hs1
  try dsimp only at hs1
  refine sA ?_
  refine zjO hs1 (λ hs1 hc2=>?_) (λ hs1 hc2=>?_)
  ·refine sA ?_
   obtain ⟨hp3,hs1⟩:=zjK hs1
   have hn3:g441.t8.toNat < a0.length:=by first|omega|(simp;omega)
   refine sA ?_
   refine zj2 ?_
   refine zjO hs1 (λ hs1 hc4=>?_) (λ hs1 hc4=>?_)
   ·refine sA ?_
    cases hs1
    cases hk1
    try dsimp only at h
    refine sA ?_
    cases h
    exact zjM ⟨[(2,(I (nth a0 g441.t8.toNat)))],[],0,18⟩ []
   ·refine sA ?_
    cases hs1
    exact zjW hk1 (zjQ [])
  ·refine sA ?_
   cases hs1
   cases hk1
   try dsimp only at h
   refine sA ?_
   have he:=oi h
   subst he
   exact zjM ⟨[(2,(I 0))],[],0,18⟩ []
theorem zix {a0:EventT} {a1:EventT} {r:Int} (h:zdA a0 a1=some r):Fn Tryz.prog 181 [(.ag [(I a0.Id),(I a0.fVe),(I a0.Kind),(.lf false (.sc (.string a0.Name)))]),(.ag [(I a1.Id),(I a1.fVe),(I a1.Kind),(.lf false (.sc (.string a1.Name)))])] [] 0 (I r) [] 0:=by
 unfold zdA at h
 refine fc [(1,[(6,4),(8,4),(11,4),(11,9),(13,4),(13,9)])] Tryz.func181 ?_
 simp only [Tryz.f181]
 refine sA ?_
 obtain ⟨c436,hr1,h⟩:=zjJ h
 refine zjR (zec hr1) ?_
 refine sA ?_
 obtain ⟨c437,hr2,h⟩:=zjJ h
 refine zjR (zec hr2) ?_
 refine sA ?_
 obtain ⟨c440,hr3,h⟩:=zjJ h
 refine zjR (zhF hr3) ?_
 refine sA ?_
 obtain ⟨c445,hr4,h⟩:=zjJ h
 refine zjR (zh6 hr4) ?_
 refine sA ?_
 have he:=oi h
 subst he
 exact zjM ⟨[(4,(I c445))],[],0,22⟩ []
theorem zdl {a0:(List EventT)} {a1:(List EventT)} {r:Int} (h:zn a0 a1=some r):Fn Tryz.prog 180 [(.lf true (.sl (a0.map zjU))),(.lf true (.sl (a1.map zjU))),(.fn 181 [])] [] 0 (I r) [] 0:=by
 unfold zn at h
 refine fc [(1000,[(0,0),(1,0),(2,0)]),(1001,[(0,0),(1,0),(2,0),(11,0),(12,0),(13,0)]),(1002,[(0,0),(1,0),(2,0),(11,0),(12,0),(13,0),(14,0)]),(1003,[(0,0),(1,0),(2,0),(7,0),(8,0),(11,0),(12,0),(13,0)]),(1004,[(0,0),(1,0),(2,0),(7,0),(8,0),(11,0),(12,0),(13,0),(21,0)]),(1005,[(6,0)]),(1006,[(0,0),(1,0),(2,0),(8,0),(9,0),(11,0),(12,0),(13,0)]),(1007,[(0,0),(1,0),(2,0),(10,0),(11,0),(12,0),(13,0)]),(1008,[(0,0),(1,0),(2,0),(10,0),(11,0),(12,0),(13,0),(31,0)]),(1009,[(6,0)]),(1010,[(0,0),(1,0),(2,0),(11,0),(12,0),(13,0)]),(1011,[(38,0)]),(1012,[(6,0)]),(1013,[(6,0)])] Tryz.func180 ?_
 simp only [Tryz.f180]
 refine sA ?_
 obtain ⟨y448,hl1,h⟩:=zjJ h
 refine zj3 (λ g435:zi=>⟨[(0,(.lf true (.sl (a0.map zjU)))),(1,(.lf true (.sl (a1.map zjU)))),(2,(.fn 181 [])),(11,(.lf true (.sl (a0.map zjU)))),(12,(I ((a0.length:Nat):Int))),(13,(I g435.t13))],[],0,39⟩) (zb a0 a1) _ _ hl1 (zjQ []) ?_
 ·intro n1 g435 z1 hs1 hk1
  unfold zb at hs1
  try dsimp only at hs1
  refine sA ?_
  refine zjO hs1 (λ hs1 hc2=>?_) (λ hs1 hc2=>?_)
  ·refine sA ?_
   obtain ⟨hp3,hs1⟩:=zjK hs1
   have hn3:g435.t13.toNat < a0.length:=by first|omega|(simp;omega)
   refine sA ?_
   refine zj2 ?_
   refine zjO hs1 (λ hs1 hc4=>?_) (λ hs1 hc4=>?_)
   ·refine sA ?_
    cases hs1
    cases hk1
    try dsimp only at h
    refine sA ?_
    have he:=oi h
    subst he
    exact zjM ⟨[(6,(I 1))],[],0,39⟩ []
   ·refine sA ?_
    obtain ⟨hp5,hs1⟩:=zjK hs1
    have hn5:g435.t13.toNat < a1.length:=by first|omega|(simp;omega)
    refine sA ?_
    refine zj2 ?_
    obtain ⟨c447,hr6,hs1⟩:=zjJ hs1
    refine zjR (zix hr6) ?_
    refine sA ?_
    refine zjO hs1 (λ hs1 hc7=>?_) (λ hs1 hc7=>?_)
    ·refine sA ?_
     cases hs1
     cases hk1
     try dsimp only at h
     refine sA ?_
     have he:=oi h
     subst he
     exact zjM ⟨[(6,(I c447))],[],0,39⟩ []
    ·refine sA ?_
     cases hs1
     exact zjW hk1 (zjQ [])
  ·refine sA ?_
   cases hs1
   cases hk1
   try dsimp only at h
   refine sA ?_
   refine zjO h (λ h hc8=>?_) (λ h hc8=>?_)
   ·refine sA ?_
    cases h
    exact zjM ⟨[(6,(I (-1)))],[],0,39⟩ []
   ·refine sA ?_
    have he:=oi h
    subst he
    exact zjM ⟨[(6,(I 0))],[],0,39⟩ []
theorem zfn {a0:(List EventT)} {a1:(List EventT)} {r:Int} (h:zaX a0 a1=some r):Fn Tryz.prog 134 [(.lf true (.sl (a0.map zjU))),(.lf true (.sl (a1.map zjU)))] [] 0 (I r) [] 0:=by
 unfold zaX at h
 refine fc [] Tryz.func134 ?_
 simp only [Tryz.f134]
 refine sA ?_
 obtain ⟨c451,hr1,h⟩:=zjJ h
 refine zjR (zdl hr1) ?_
 refine sA ?_
 have he:=oi h
 subst he
 exact zjM ⟨[(4,(I c451))],[],0,8⟩ []
theorem ziy {a0:BranchT} {a1:BranchT} {r:Int} (h:zcn a0 a1=some r):Fn Tryz.prog 191 [(.ag [(.lf true (.sl (a0.fEv.map zjU)))]),(.ag [(.lf true (.sl (a1.fEv.map zjU)))])] [] 0 (I r) [] 0:=by
 unfold zcn at h
 refine fc [(1,[(4,2),(8,2),(8,5),(8,6),(11,2),(11,5),(11,6),(15,2),(15,5),(15,6),(15,13),(17,2),(17,5),(17,6),(17,13)])] Tryz.func191 ?_
 simp only [Tryz.f191]
 refine sA ?_
 obtain ⟨c429,hr1,h⟩:=zjJ h
 refine zjR (zhq hr1) ?_
 refine sA ?_
 obtain ⟨c430,hr2,h⟩:=zjJ h
 refine zjR (zhq hr2) ?_
 refine sA ?_
 obtain ⟨c433,hr3,h⟩:=zjJ h
 refine zjR (zec hr3) ?_
 refine sA ?_
 obtain ⟨c434,hr4,h⟩:=zjJ h
 refine zjR (zec hr4) ?_
 refine sA ?_
 obtain ⟨c452,hr5,h⟩:=zjJ h
 refine zjR (zfn hr5) ?_
 refine sA ?_
 obtain ⟨c453,hr6,h⟩:=zjJ h
 refine zjR (zh6 hr6) ?_
 refine sA ?_
 have he:=oi h
 subst he
 exact zjM ⟨[(4,(I c453))],[],0,26⟩ []
theorem zdZ {a0:(List BranchT)} {r:BranchT} (h:zh a0=some r):Fn Tryz.prog 190 [(.lf true (.sl (a0.map zjN))),(.fn 191 [])] [] 0 (.ag [(.lf true (.sl (r.fEv.map zjU)))]) [] 1:=by
 unfold zh at h
 refine fc [(1000,[(0,0),(1,0),(4,0)]),(1001,[(0,0),(1,0),(4,0),(9,0)]),(1002,[(0,0),(1,0),(4,0)]),(1003,[(0,0),(1,0),(4,0),(5,0)]),(1004,[(0,0),(1,0),(4,0),(5,0),(6,0)]),(1005,[(0,0),(1,0),(4,0),(5,0),(6,0),(17,0)]),(1006,[(0,0),(1,0),(4,0),(5,0),(6,0)]),(1007,[(0,0),(1,0),(4,0),(5,0),(6,0),(27,0)]),(1008,[(0,0),(1,0),(4,0),(5,0),(6,0)]),(1009,[(4,0)]),(2009,[])] Tryz.func190 ?_
 simp only [Tryz.f190]
 refine sA ?_
 obtain ⟨p427,hq1,h⟩:=zjJ h
 refine zki (λ s2=>s2=⟨[(0,(.lf true (.sl (a0.map zjN)))),(1,(.fn 191 [])),(4,(.pb 0 0))],[(0,some (true,.box [.nl]))],1,33⟩) ?_ ?_
 ·refine sA ?_
  refine zjO hq1 (λ hq1 hc2=>?_) (λ hq1 hc2=>?_)
  ·cases hq1
  ·refine sA ?_
   cases hq1
   exact zj1 rfl (zjQ [some 0])
 ·intro s2 hJ;subst hJ
  try dsimp only at h
  refine sA ?_
  obtain ⟨hp3,h⟩:=zjK h
  have hn3:0 < a0.length:=by first|omega|(simp;omega)
  refine sA ?_
  refine zj2 ?_
  obtain ⟨y456,hl4,h⟩:=zjJ h
  refine zj3 (λ g428:zH=>⟨[(0,(.lf true (.sl (a0.map zjN)))),(1,(.fn 191 [])),(4,(.pb 0 0)),(5,(.pb 1 0)),(6,(I g428.t6))],[(0,some (true,.box [.nl])),(1,some (true,.box [(.lf true (.sl (g428.b1_0.map zjU)))]))],2,33⟩) (za a0) _ _ hl4 (zjQ [some 0,some 1]) ?_
  ·intro n1 g428 z1 hs1 hk1
   unfold za at hs1
   try dsimp only at hs1
   refine sA ?_
   refine zjO hs1 (λ hs1 hc5=>?_) (λ hs1 hc5=>?_)
   ·refine sA ?_
    obtain ⟨hp6,hs1⟩:=zjK hs1
    have hn6:g428.t6.toNat < a0.length:=by first|omega|(simp;omega)
    refine sA ?_
    refine zj2 ?_
    obtain ⟨c455,hr7,hs1⟩:=zjJ hs1
    refine zjR (ziy hr7) ?_
    refine sA ?_
    refine zjO hs1 (λ hs1 hc8=>?_) (λ hs1 hc8=>?_)
    ·refine sA ?_
     obtain ⟨hp9,hs1⟩:=zjK hs1
     have hn9:g428.t6.toNat < a0.length:=by first|omega|(simp;omega)
     refine sA ?_
     refine zj2 ?_
     cases hs1
     exact zjW hk1 (zjQ [some 0,some 1])
    ·refine sA ?_
     cases hs1
     exact zjW hk1 (zjQ [some 0,some 1])
   ·refine sA ?_
    cases hs1
    cases hk1
    try dsimp only at h
    refine sA ?_
    cases h
    exact zjM ⟨[(4,(.pb 0 0))],[(0,some (true,.box [(.lf true (.sl (g428.b1_0.map zjU)))]))],1,33⟩ [some 0]
theorem zfx {a0:TellingsT} {r:(List EventT)} (h:zcb a0=some r):Fn Tryz.prog 141 [(.ag [(.lf true (.sl (a0.fBr.map zjN)))])] [] 0 (.lf true (.sl (r.map zjU))) [] 0:=by
 unfold zcb at h
 refine fc [(1000,[(1,0)]),(1001,[(1,0),(6,0)]),(1002,[(2,0)]),(1003,[(2,0)])] Tryz.func141 ?_
 simp only [Tryz.f141]
 refine sA ?_
 refine zjO h (λ h hc1=>?_) (λ h hc1=>?_)
 ·refine sA ?_
  cases h
  exact zjM ⟨[(2,(.lf true (.sl (([]).map zjU))))],[],0,11⟩ []
 ·refine sA ?_
  obtain ⟨c457,hr2,h⟩:=zjJ h
  refine zjR (zdZ hr2) ?_
  refine sA ?_
  cases h
  exact zjM ⟨[(2,(.lf true (.sl (c457.fEv.map zjU))))],[],0,11⟩ []
theorem zjd {r:zjV} (h:zfP=some r):Fn Tryz.prog 208 [] [] 0 (.ag [(I r.fSt),(I r.Next),(B r.fCa),(I r.Done),.nl,.nl]) [] 1:=by
 unfold zfP at h
 refine fc [] Tryz.func208 ?_
 simp only [Tryz.f208]
 refine sA ?_
 cases h
 exact zjM ⟨[(0,(.pb 0 0))],[(0,some (true,.box [(I 0),(I 1),(B false),(I 0),.nl,.nl]))],1,2⟩ [some 0]
theorem zjr {a0 a1:ByteArray} {r:ByteArray} (h:zed a0 a1=some r):Fn Tryz.prog 207 [.lf false (.sc (.string a0)),.lf false (.sc (.string a1))] [] 0 (.lf false (.sc (.string r))) [] 0:=by
 unfold zed at h
 obtain ⟨⟨hp1,hp2,hp3⟩,h⟩:=zjK h
 have he:=oi h;subst he
 exact zAG (Ent.of Tryz.func207 rfl (by simp [Tryz.f207])) λ w=>zAH Go.Proofs.Tryz.lays160 (by kernel_rfl) a0 a1 w hp1 hp2 (ascii_of_all hp3)
theorem zdR {a0:ByteArray} {r:Bool} (h:zaV a0=some r):Fn Tryz.prog 157 [(.lf false (.sc (.string a0)))] [] 0 (B r) [] 0:=by
 unfold zaV at h
 refine fc [] Tryz.func157 ?_
 simp only [Tryz.f157]
 refine sA ?_
 refine zj6 h (λ h hc1=>?_) (λ h hc1=>?_)
 ·refine sA ?_
  obtain ⟨c467,hr2,h⟩:=zjJ h
  refine zjR (zjr hr2) ?_
  refine sA ?_
  cases h
  exact zjM ⟨[(2,(B (c467.toList == ByteArray.empty.toList)))],[],0,11⟩ []
 ·refine sA ?_
  have he:=oi h
  subst he
  exact zjM ⟨[(2,(B false))],[],0,11⟩ []
theorem ziz {a0:ByteArray} {r:Bool} (h:ze0 a0=some r):Fn Tryz.prog 282 [(.lf false (.sc (.string a0)))] [] 0 (B r) [] 0:=by
 unfold ze0 at h
 refine fc [] Tryz.func282 ?_
 simp only [Tryz.f282]
 refine sA ?_
 obtain ⟨c468,hr1,h⟩:=zjJ h
 refine zjR (zdR hr1) ?_
 refine sA ?_
 cases h
 exact zjM ⟨[(2,(B (!c468)))],[],0,6⟩ []
theorem zeA {a0:(List ByteArray)} {r:Int} (h:zA a0=some r):Fn Tryz.prog 293 [(.lf true (.sl (a0.map eS))),(.fn 282 [])] [] 0 (I r) [] 0:=by
 unfold zA at h
 refine fc [(1000,[(0,0),(1,0)]),(1001,[(0,0),(1,0),(7,0),(8,0)]),(1002,[(0,0),(1,0),(7,0),(8,0),(9,0)]),(1003,[(0,0),(1,0),(5,0),(7,0),(8,0)]),(1004,[(0,0),(1,0),(5,0),(7,0),(8,0),(16,0)]),(1005,[(4,0)]),(1006,[(0,0),(1,0),(7,0),(8,0)]),(1007,[(4,0)])] Tryz.func293 ?_
 simp only [Tryz.f293]
 refine sA ?_
 obtain ⟨y471,hl1,h⟩:=zjJ h
 refine zj3 (λ g466:zr=>⟨[(0,(.lf true (.sl (a0.map eS)))),(1,(.fn 282 [])),(7,(I ((a0.length:Nat):Int))),(8,(I g466.t8))],[],0,19⟩) (ze a0) _ _ hl1 (zjQ []) ?_
 ·intro n1 g466 z1 hs1 hk1
  unfold ze at hs1
  try dsimp only at hs1
  refine sA ?_
  refine zjO hs1 (λ hs1 hc2=>?_) (λ hs1 hc2=>?_)
  ·refine sA ?_
   obtain ⟨hp3,hs1⟩:=zjK hs1
   have hn3:g466.t8.toNat < a0.length:=by first|omega|(simp;omega)
   refine sA ?_
   refine zj2 ?_
   obtain ⟨c470,hr4,hs1⟩:=zjJ hs1
   refine zjR (ziz hr4) ?_
   refine sA ?_
   refine zjO hs1 (λ hs1 hc5=>?_) (λ hs1 hc5=>?_)
   ·refine sA ?_
    cases hs1
    cases hk1
    try dsimp only at h
    refine sA ?_
    cases h
    exact zjM ⟨[(4,(I g466.t8))],[],0,19⟩ []
   ·refine sA ?_
    cases hs1
    exact zjW hk1 (zjQ [])
  ·refine sA ?_
   cases hs1
   cases hk1
   try dsimp only at h
   refine sA ?_
   cases h
   exact zjM ⟨[(4,(I (-1)))],[],0,19⟩ []
theorem zd0 {a0:(List ByteArray)} {r:Bool} (h:zt a0=some r):Fn Tryz.prog 281 [(.lf true (.sl (a0.map eS))),(.fn 282 [])] [] 0 (B r) [] 0:=by
 unfold zt at h
 refine fc [] Tryz.func281 ?_
 simp only [Tryz.f281]
 refine sA ?_
 obtain ⟨c474,hr1,h⟩:=zjJ h
 refine zjR (zeA hr1) ?_
 refine sA ?_
 cases h
 exact zjM ⟨[(4,(B (decide (c474 ≥ 0))))],[],0,9⟩ []
theorem zhr {a0:(List ByteArray)} {a1:Int} {r:Bool} (h:zeh a0 a1=some r):Fn Tryz.prog 255 [(.lf true (.sl (a0.map eS))),(I a1)] [] 0 (B r) [] 0:=by
 unfold zeh at h
 refine fc [] Tryz.func255 ?_
 simp only [Tryz.f255]
 refine sA ?_
 refine zj6 h (λ h hc1=>?_) (λ h hc1=>?_)
 ·refine sA ?_
  obtain ⟨c475,hr2,h⟩:=zjJ h
  refine zjR (zd0 hr2) ?_
  refine sA ?_
  cases h
  exact zjM ⟨[(4,(B (!c475)))],[],0,14⟩ []
 ·refine sA ?_
  have he:=oi h
  subst he
  exact zjM ⟨[(4,(B false))],[],0,14⟩ []
theorem zhs {a0:(List ByteArray)} {a1:ByteArray} {r:Int} (h:zdd a0 a1=some r):Fn Tryz.prog 195 [(.lf true (.sl (a0.map eS))),(.lf false (.sc (.string a1)))] [] 0 (I r) [] 0:=by
 unfold zdd at h
 refine fc [(1000,[(0,0),(1,0)]),(1001,[(0,0),(1,0),(7,0),(8,0)]),(1002,[(0,0),(1,0),(7,0),(8,0),(9,0)]),(1003,[(0,0),(1,0),(5,0),(7,0),(8,0)]),(1004,[(0,0),(1,0),(5,0),(7,0),(8,0),(16,0)]),(1005,[(4,0)]),(1006,[(0,0),(1,0),(7,0),(8,0)]),(1007,[(4,0)])] Tryz.func195 ?_
 simp only [Tryz.f195]
 refine sA ?_
 obtain ⟨y479,hl1,h⟩:=zjJ h
 refine zj3 (λ g478:zb1=>⟨[(0,(.lf true (.sl (a0.map eS)))),(1,(.lf false (.sc (.string a1)))),(7,(I ((a0.length:Nat):Int))),(8,(I g478.t8))],[],0,19⟩) (zU a0 a1) _ _ hl1 (zjQ []) ?_
 ·intro n1 g478 z1 hs1 hk1
  unfold zU at hs1
  try dsimp only at hs1
  refine sA ?_
  refine zjO hs1 (λ hs1 hc2=>?_) (λ hs1 hc2=>?_)
  ·refine sA ?_
   obtain ⟨hp3,hs1⟩:=zjK hs1
   have hn3:g478.t8.toNat < a0.length:=by first|omega|(simp;omega)
   refine sA ?_
   refine zj2 ?_
   refine zjO hs1 (λ hs1 hc4=>?_) (λ hs1 hc4=>?_)
   ·refine sA ?_
    cases hs1
    cases hk1
    try dsimp only at h
    refine sA ?_
    cases h
    exact zjM ⟨[(4,(I g478.t8))],[],0,19⟩ []
   ·refine sA ?_
    cases hs1
    exact zjW hk1 (zjQ [])
  ·refine sA ?_
   cases hs1
   cases hk1
   try dsimp only at h
   refine sA ?_
   cases h
   exact zjM ⟨[(4,(I (-1)))],[],0,19⟩ []
theorem zaj {a0:(List ByteArray)} {a1:ByteArray} {r:Bool} (h:zo a0 a1=some r):Fn Tryz.prog 142 [(.lf true (.sl (a0.map eS))),(.lf false (.sc (.string a1)))] [] 0 (B r) [] 0:=by
 unfold zo at h
 refine fc [] Tryz.func142 ?_
 simp only [Tryz.f142]
 refine sA ?_
 obtain ⟨c482,hr1,h⟩:=zjJ h
 refine zjR (zhs hr1) ?_
 refine sA ?_
 cases h
 exact zjM ⟨[(4,(B (decide (c482 ≥ 0))))],[],0,9⟩ []
theorem zhh {a0:(List ByteArray)} {r:Bool} (h:zdr a0=some r):Fn Tryz.prog 256 [(.lf true (.sl (a0.map eS)))] [] 0 (B r) [] 0:=by
 unfold zdr at h
 refine fc [(1000,[(0,0)]),(1001,[(0,0),(5,0),(6,0),(7,0)]),(1002,[(0,0),(5,0),(6,0),(7,0),(8,0)]),(1003,[(0,0),(3,0),(4,0),(5,0),(6,0),(7,0)]),(1004,[(0,0),(5,0),(6,0),(7,0),(16,0)]),(1005,[(2,0)]),(1006,[(0,0),(5,0),(6,0),(7,0)]),(1007,[(2,0)])] Tryz.func256 ?_
 simp only [Tryz.f256]
 refine sA ?_
 obtain ⟨y485,hl1,h⟩:=zjJ h
 refine zj3 (λ g477:zeF=>⟨[(0,(.lf true (.sl (a0.map eS)))),(5,(.lf true (.sl (a0.map eS)))),(6,(I ((a0.length:Nat):Int))),(7,(I g477.t7))],[],0,18⟩) (zbP a0) _ _ hl1 (zjQ []) ?_
 ·intro n1 g477 z1 hs1 hk1
  unfold zbP at hs1
  try dsimp only at hs1
  refine sA ?_
  refine zjO hs1 (λ hs1 hc2=>?_) (λ hs1 hc2=>?_)
  ·refine sA ?_
   obtain ⟨hp3,hs1⟩:=zjK hs1
   have hn3:g477.t7.toNat < a0.length:=by first|omega|(simp;omega)
   refine sA ?_
   refine zj2 ?_
   obtain ⟨hp4,hs1⟩:=zjK hs1
   refine sA ?_
   refine zj2 ?_
   obtain ⟨c484,hr5,hs1⟩:=zjJ hs1
   refine zjR (zaj hr5) ?_
   refine sA ?_
   refine zjO hs1 (λ hs1 hc6=>?_) (λ hs1 hc6=>?_)
   ·refine sA ?_
    cases hs1
    cases hk1
    try dsimp only at h
    refine sA ?_
    have he:=oi h
    subst he
    exact zjM ⟨[(2,(B false))],[],0,18⟩ []
   ·refine sA ?_
    cases hs1
    exact zjW hk1 (zjQ [])
  ·refine sA ?_
   cases hs1
   cases hk1
   try dsimp only at h
   refine sA ?_
   have he:=oi h
   subst he
   exact zjM ⟨[(2,(B true))],[],0,18⟩ []
theorem zgH {a0:ByteArray} {a1:ByteArray} {r:Bool} (h:zcg a0 a1=some r):Fn Tryz.prog 237 [(.lf false (.sc (.string a0))),(.lf false (.sc (.string a1)))] [] 0 (B r) [] 0:=by
 unfold zcg at h
 refine fc [] Tryz.func237 ?_
 simp only [Tryz.f237]
 refine sA ?_
 obtain ⟨c491,hr1,h⟩:=zjJ h
 refine zjR (zdQ hr1) ?_
 refine sA ?_
 refine zj6 h (λ h hc2=>?_) (λ h hc2=>?_)
 ·refine sA ?_
  obtain ⟨c492,hr3,h⟩:=zjJ h
  refine zjR (zdQ hr3) ?_
  refine sA ?_
  refine zj6 h (λ h hc4=>?_) (λ h hc4=>?_)
  ·refine sA ?_
   have he:=oi h
   subst he
   exact zjM ⟨[(4,(B true))],[],0,17⟩ []
  ·refine sA ?_
   cases h
   exact zjM ⟨[(4,(B (sLt a0 a1)))],[],0,17⟩ []
 ·refine sA ?_
  cases h
  exact zjM ⟨[(4,(B (sLt a0 a1)))],[],0,17⟩ []
theorem zgW {a0:(List ByteArray)} {r:Bool} (h:zaS a0=some r):Fn Tryz.prog 257 [(.lf true (.sl (a0.map eS)))] [] 0 (B r) [] 0:=by
 unfold zaS at h
 refine fc [(1000,[(0,0)]),(1001,[(0,0),(3,0)]),(1002,[(0,0),(3,0),(8,0)]),(1003,[(0,0),(3,0)]),(1004,[(0,0),(3,0),(20,0)]),(1005,[(2,0)]),(1006,[(2,0)])] Tryz.func257 ?_
 simp only [Tryz.f257]
 refine sA ?_
 obtain ⟨y495,hl1,h⟩:=zjJ h
 refine zj3 (λ g490:zcA=>⟨[(0,(.lf true (.sl (a0.map eS)))),(3,(I g490.t3))],[],0,21⟩) (zm a0) _ _ hl1 (zjQ []) ?_
 ·intro n1 g490 z1 hs1 hk1
  unfold zm at hs1
  try dsimp only at hs1
  refine sA ?_
  refine zjO hs1 (λ hs1 hc2=>?_) (λ hs1 hc2=>?_)
  ·refine sA ?_
   obtain ⟨hp3,hs1⟩:=zjK hs1
   have hn3:g490.t3.toNat < a0.length:=by first|omega|(simp;omega)
   refine sA ?_
   refine zj2 ?_
   obtain ⟨hp4,hs1⟩:=zjK hs1
   have hn4:(wI (g490.t3 - 1)).toNat < a0.length:=by first|omega|(simp;omega)
   refine sA ?_
   refine zj2 ?_
   obtain ⟨c494,hr5,hs1⟩:=zjJ hs1
   refine zjR (zgH hr5) ?_
   refine sA ?_
   refine zjO hs1 (λ hs1 hc6=>?_) (λ hs1 hc6=>?_)
   ·refine sA ?_
    cases hs1
    cases hk1
    try dsimp only at h
    refine sA ?_
    have he:=oi h
    subst he
    exact zjM ⟨[(2,(B false))],[],0,21⟩ []
   ·refine sA ?_
    cases hs1
    exact zjW hk1 (zjQ [])
  ·refine sA ?_
   cases hs1
   cases hk1
   try dsimp only at h
   refine sA ?_
   have he:=oi h
   subst he
   exact zjM ⟨[(2,(B true))],[],0,21⟩ []
theorem zeM {a0:zjV} {r:Bool} (h:za1 a0=some r):Fn Tryz.prog 224 [(.ag [(I a0.fSt),(I a0.Next),(B a0.fCa),(I a0.Done),(.lf true (.sl (a0.fSi.map eS))),(.lf true (.sl (a0.fTi.map eS)))])] [] 0 (B r) [] 0:=by
 unfold za1 at h
 refine fc [(1000,[(1,0)]),(1001,[(1,0),(18,0)]),(1002,[(2,0)]),(1003,[(1,0),(46,0)]),(1004,[(2,0)]),(1005,[(1,0),(49,0)]),(1006,[(2,0)]),(1007,[(2,0)]),(4001,[]),(4003,[])] Tryz.func224 ?_
 simp only [Tryz.f224]
 refine sA ?_
 obtain ⟨p465,hq1,h⟩:=zjJ h
 refine zki (λ s2=>s2=⟨[(1,(.pb 0 0)),(18,(B p465.t18))],[(0,some (true,.box [(I a0.fSt),(I a0.Next),(B a0.fCa),(I a0.Done),(.lf true (.sl (a0.fSi.map eS))),(.lf true (.sl (a0.fTi.map eS)))]))],1,78⟩) ?_ ?_
 ·refine sA ?_
  obtain ⟨c462,hr2,hq1⟩:=zjJ hq1
  refine zjR (zdP hr2) ?_
  refine sA ?_
  refine zj6 hq1 (λ hq1 hc3=>?_) (λ hq1 hc3=>?_)
  ·refine sA ?_
   cases hq1
   exact zj1 rfl (zjQ [some 0])
  ·refine sA ?_
   obtain ⟨c463,hr4,hq1⟩:=zjJ hq1
   refine zjR (zdP hr4) ?_
   refine sA ?_
   refine zj6 hq1 (λ hq1 hc5=>?_) (λ hq1 hc5=>?_)
   ·refine sA ?_
    cases hq1
    exact zj1 rfl (zjQ [some 0])
   ·refine sA ?_
    obtain ⟨c464,hr6,hq1⟩:=zjJ hq1
    refine zjR (zdP hr6) ?_
    refine sA ?_
    cases hq1
    exact zj1 rfl (zjQ [some 0])
 ·intro s2 hJ;subst hJ
  try dsimp only at h
  refine sA ?_
  refine zjO h (λ h hc7=>?_) (λ h hc7=>?_)
  ·refine sA ?_
   have he:=oi h
   subst he
   exact zjM ⟨[(2,(B false))],[],0,78⟩ []
  ·refine sA ?_
   obtain ⟨p500,hq8,h⟩:=zjJ h
   refine zki (λ s2=>s2=⟨[(1,(.pb 0 0)),(46,(B p500.t46))],[(0,some (true,.box [(I a0.fSt),(I a0.Next),(B a0.fCa),(I a0.Done),(.lf true (.sl (a0.fSi.map eS))),(.lf true (.sl (a0.fTi.map eS)))]))],1,78⟩) ?_ ?_
   ·refine sA ?_
    obtain ⟨c476,hr9,hq8⟩:=zjJ hq8
    refine zjR (zhr hr9) ?_
    refine sA ?_
    refine zj6 hq8 (λ hq8 hc10=>?_) (λ hq8 hc10=>?_)
    ·refine sA ?_
     cases hq8
     exact zj1 rfl (zjQ [some 0])
    ·refine sA ?_
     obtain ⟨c488,hr11,hq8⟩:=zjJ hq8
     refine zjR (zhh hr11) ?_
     refine sA ?_
     refine zj6 hq8 (λ hq8 hc12=>?_) (λ hq8 hc12=>?_)
     ·refine sA ?_
      cases hq8
      exact zj1 rfl (zjQ [some 0])
     ·refine sA ?_
      obtain ⟨c489,hr13,hq8⟩:=zjJ hq8
      refine zjR (zhr hr13) ?_
      refine sA ?_
      refine zj6 hq8 (λ hq8 hc14=>?_) (λ hq8 hc14=>?_)
      ·refine sA ?_
       cases hq8
       exact zj1 rfl (zjQ [some 0])
      ·refine sA ?_
       obtain ⟨c498,hr15,hq8⟩:=zjJ hq8
       refine zjR (zgW hr15) ?_
       refine sA ?_
       refine zj6 hq8 (λ hq8 hc16=>?_) (λ hq8 hc16=>?_)
       ·refine sA ?_
        cases hq8
        exact zj1 rfl (zjQ [some 0])
       ·refine sA ?_
        obtain ⟨c499,hr17,hq8⟩:=zjJ hq8
        refine zjR (zhh hr17) ?_
        refine sA ?_
        cases hq8
        exact zj1 rfl (zjQ [some 0])
   ·intro s2 hJ;subst hJ
    try dsimp only at h
    refine sA ?_
    refine zjO h (λ h hc18=>?_) (λ h hc18=>?_)
    ·refine sA ?_
     have he:=oi h
     subst he
     exact zjM ⟨[(2,(B false))],[],0,78⟩ []
    ·refine sA ?_
     refine zjO h (λ h hc19=>?_) (λ h hc19=>?_)
     ·refine sA ?_
      cases h
      exact zjM ⟨[(2,(B (decide (a0.Next > 1))))],[],0,78⟩ []
     ·refine sA ?_
      refine zj6 h (λ h hc20=>?_) (λ h hc20=>?_)
      ·refine sA ?_
       refine zj6 h (λ h hc21=>?_) (λ h hc21=>?_)
       ·refine sA ?_
        refine zj6 h (λ h hc22=>?_) (λ h hc22=>?_)
        ·refine sA ?_
         refine zj6 h (λ h hc23=>?_) (λ h hc23=>?_)
         ·refine sA ?_
          cases h
          exact zjM ⟨[(2,(B (((a0.fTi.length:Nat):Int) == 0)))],[],0,78⟩ []
         ·refine sA ?_
          have he:=oi h
          subst he
          exact zjM ⟨[(2,(B false))],[],0,78⟩ []
        ·refine sA ?_
         have he:=oi h
         subst he
         exact zjM ⟨[(2,(B false))],[],0,78⟩ []
       ·refine sA ?_
        have he:=oi h
        subst he
        exact zjM ⟨[(2,(B false))],[],0,78⟩ []
      ·refine sA ?_
       have he:=oi h
       subst he
       exact zjM ⟨[(2,(B false))],[],0,78⟩ []
theorem zfV {a0:Int} {r:Bool} (h:zbL a0=some r):Fn Tryz.prog 123 [(I a0)] [] 0 (B r) [] 0:=by
 unfold zbL at h
 refine fc [] Tryz.func123 ?_
 simp only [Tryz.f123]
 refine sA ?_
 obtain ⟨c503,hr1,h⟩:=zjJ h
 refine zjR (zdP hr1) ?_
 refine sA ?_
 have he:=oi h
 subst he
 exact zjM ⟨[(2,(B c503))],[],0,5⟩ []
theorem ze9 {a0:Int} {r:Bool} (h:zS a0=some r):Fn Tryz.prog 156 [(I a0)] [] 0 (B r) [] 0:=by
 unfold zS at h
 refine fc [] Tryz.func156 ?_
 simp only [Tryz.f156]
 refine sA ?_
 obtain ⟨c505,hr1,h⟩:=zjJ h
 refine zjR (zdP hr1) ?_
 refine sA ?_
 have he:=oi h
 subst he
 exact zjM ⟨[(2,(B c505))],[],0,5⟩ []
theorem ziT {a0:EventT} {r:Bool} (h:zei a0=some r):Fn Tryz.prog 84 [(.ag [(I a0.Id),(I a0.fVe),(I a0.Kind),(.lf false (.sc (.string a0.Name)))])] [] 0 (B r) [] 0:=by
 unfold zei at h
 refine fc [] Tryz.func84 ?_
 simp only [Tryz.f84]
 refine sA ?_
 obtain ⟨c502,hr1,h⟩:=zjJ h
 refine zjR (zdP hr1) ?_
 refine sA ?_
 refine zj6 h (λ h hc2=>?_) (λ h hc2=>?_)
 ·refine sA ?_
  obtain ⟨c504,hr3,h⟩:=zjJ h
  refine zjR (zfV hr3) ?_
  refine sA ?_
  refine zj6 h (λ h hc4=>?_) (λ h hc4=>?_)
  ·refine sA ?_
   obtain ⟨c506,hr5,h⟩:=zjJ h
   refine zjR (ze9 hr5) ?_
   refine sA ?_
   refine zj6 h (λ h hc6=>?_) (λ h hc6=>?_)
   ·refine sA ?_
    obtain ⟨c507,hr7,h⟩:=zjJ h
    refine zjR (zdR hr7) ?_
    refine sA ?_
    have he:=oi h
    subst he
    exact zjM ⟨[(2,(B c507))],[],0,21⟩ []
   ·refine sA ?_
    have he:=oi h
    subst he
    exact zjM ⟨[(2,(B false))],[],0,21⟩ []
  ·refine sA ?_
   have he:=oi h
   subst he
   exact zjM ⟨[(2,(B false))],[],0,21⟩ []
 ·refine sA ?_
  have he:=oi h
  subst he
  exact zjM ⟨[(2,(B false))],[],0,21⟩ []
theorem zf0 {a0:(List ByteArray)} {r:(List ByteArray)} (h:zaK a0=some r):Fn Tryz.prog 258 [(.lf true (.sl (a0.map eS)))] [] 0 (.os 0 1 0 r.length r.length false) [(0,some (true,.arr false 1 (r.map eS)))] 1:=by
 unfold zaK at h
 obtain ⟨hp,h⟩:=zjK h
 have he:=oi h;subst he
 refine fc [] Tryz.func258 ?_
 simp only [Tryz.f258]
 simp (disch:=assumption) only [go_sem,qA,qB,qC,qD,↓reduceIte,qE,reduceCtorEq,qF,qH,qI,qJ,qK,qG]
 intro b hb
 refine zoH (b=true) (by simp) (λ hc=>?_) (λ hc=>?_)
 ·have h0:a0=[]:=by simpa using hb (by simpa using hc)
  subst h0
  try simp (disch:=assumption) only [go_sem,qA,qB,qC,qD,↓reduceIte,qE,reduceCtorEq,qF,qH,qI,qJ,qK,qG]
  refine zlC ⟨[(2,(.os 0 1 0 0 0 false))],[(0,some (true,.arr false 1 (([]:List ByteArray).map eS)))],1,8⟩ (zlT (m:=0) [none] rfl rfl rfl (by rfl) ?_ ?_) ?_
  all_goals ((try simp (disch:=assumption) only [go_sem,qA,qB,qC,qD,↓reduceIte,qE,reduceCtorEq,qF,qH,qI,qJ,qK,qG]);(repeat' first | done | rfl | omega | refine And.intro ?_ ?_ | (simp;done) | (simp;omega)))
 ·try simp (disch:=assumption) only [go_sem,qA,qB,qC,qD,↓reduceIte,qE,reduceCtorEq,qF,qH,qI,qJ,qK,qG]
  first | refine And.intro (by first | omega | exact ⟨by omega,λ _=>zma λ _=>rfl⟩ | (refine ⟨?_,by omega⟩;first | exact zma λ _=>rfl | simp)) ?_ | skip
  try simp (disch:=assumption) only [go_sem,qA,qB,qC,qD,↓reduceIte,qE,reduceCtorEq,qF,qH,qI,qJ,qK,qG]
  refine zlC ⟨[(2,(.os 0 1 0 a0.length a0.length false))],[(0,some (true,.arr false 1 (a0.map eS)))],1,8⟩ (zlT (m:=0) [some 1] rfl rfl rfl (by rfl) ?_ ?_) ?_
  all_goals ((try simp (disch:=assumption) only [go_sem,qA,qB,qC,qD,↓reduceIte,qE,reduceCtorEq,qF,qH,qI,qJ,qK,qG]);(repeat' first | done | rfl | omega | refine And.intro ?_ ?_ | (simp;done) | (simp;omega)))
theorem zgJ {a0:zjV} {r:zjV} (h:zaF a0=some r):Fn Tryz.prog 225 [(.ag [(I a0.fSt),(I a0.Next),(B a0.fCa),(I a0.Done),(.lf true (.sl (a0.fSi.map eS))),(.lf true (.sl (a0.fTi.map eS)))])] [] 0 (.ag [(I r.fSt),(I r.Next),(B r.fCa),(I r.Done),(.os 0 1 0 r.fSi.length r.fSi.length false),(.os 1 1 0 r.fTi.length r.fTi.length false)]) [(0,some (true,.arr false 1 (r.fSi.map eS))),(1,some (true,.arr false 1 (r.fTi.map eS)))] 3:=by
 unfold zaF at h
 refine fc [(1,[(4,2)]),(1000,[(1,0),(2,0)]),(1001,[(1,0),(2,0)]),(1002,[(2,0)])] Tryz.func225 ?_
 simp only [Tryz.f225]
 refine sA ?_
 obtain ⟨c510,hr1,h⟩:=zjJ h
 refine zjR (zf0 hr1) ?_
 refine sA ?_
 obtain ⟨c511,hr2,h⟩:=zjJ h
 refine zjR (zf0 hr2) ?_
 refine sA ?_
 cases h
 exact zjM ⟨[(2,(.pb 2 0))],[(0,some (true,.arr false 1 (c510.map eS))),(1,some (true,.arr false 1 (c511.map eS))),(2,some (true,.box [(I a0.fSt),(I a0.Next),(B a0.fCa),(I a0.Done),(.os 0 1 0 c510.length c510.length false),(.os 1 1 0 c511.length c511.length false)]))],3,12⟩ [some 2,some 3,some 1]
theorem zf1 {a0:ByteArray} {r:Bool} (h:zbF a0=some r):Fn Tryz.prog 294 [(.lf false (.sc (.string a0)))] [] 0 (B r) [] 0:=by
 unfold zbF at h
 refine fc [] Tryz.func294 ?_
 simp only [Tryz.f294]
 refine sA ?_
 cases h
 exact zjM ⟨[(2,(B (!(a0.toList == a0.toList))))],[],0,6⟩ []
theorem zgp {a0:(List ByteArray)} {a1:ByteArray} {r:(Int×Bool)} (h:zT a0 a1=some r):Fn Tryz.prog 283 [(.lf true (.sl (a0.map eS))),(.lf false (.sc (.string a1)))] [] 0 (.tu [(I r.1),(B r.2)]) [] 0:=by
 unfold zT at h
 refine fc [(1000,[(0,0),(1,0)]),(1001,[(0,0),(1,0),(6,0)]),(1002,[(0,0),(1,0),(6,0),(7,0),(8,0)]),(1003,[(0,0),(1,0),(6,0),(7,0),(8,0),(15,0)]),(1004,[(0,0),(1,0),(6,0),(7,0),(8,0),(9,0)]),(1005,[(0,0),(1,0),(6,0),(7,0),(8,0),(9,0),(27,0)]),(1006,[(0,0),(1,0),(6,0),(7,0),(8,0)]),(1007,[(0,0),(1,0),(6,0),(7,0),(8,0)]),(1008,[(4,0),(5,0)])] Tryz.func283 ?_
 simp only [Tryz.f283]
 refine sA ?_
 obtain ⟨y520,hl1,h⟩:=zjJ h
 refine zj3 (λ g517:zbC=>⟨[(0,(.lf true (.sl (a0.map eS)))),(1,(.lf false (.sc (.string a1)))),(6,(I ((a0.length:Nat):Int))),(7,(I g517.t7)),(8,(I g517.t8))],[],0,54⟩) (zj a0 a1) _ _ hl1 (zjQ []) ?_
 ·intro n1 g517 z1 hs1 hk1
  unfold zj at hs1
  try dsimp only at hs1
  refine sA ?_
  refine zjO hs1 (λ hs1 hc2=>?_) (λ hs1 hc2=>?_)
  ·refine sA ?_
   obtain ⟨hp3,hs1⟩:=zjK hs1
   have hn3:(wI (shR 64 (wU (wI (g517.t7+g517.t8))) 1)).toNat < a0.length:=by first|omega|(simp;omega)
   refine sA ?_
   refine zj2 ?_
   obtain ⟨c519,hr4,hs1⟩:=zjJ hs1
   refine zjR (zgH hr4) ?_
   refine sA ?_
   refine zjO hs1 (λ hs1 hc5=>?_) (λ hs1 hc5=>?_)
   ·refine sA ?_
    cases hs1
    exact zjW hk1 (zjQ [])
   ·refine sA ?_
    cases hs1
    exact zjW hk1 (zjQ [])
  ·refine sA ?_
   cases hs1
   cases hk1
   try dsimp only at h
   refine sA ?_
   refine zj6 h (λ h hc6=>?_) (λ h hc6=>?_)
   ·refine sA ?_
    obtain ⟨hp7,h⟩:=zjK h
    have hn7:g517.t7.toNat < a0.length:=by first|omega|(simp;omega)
    refine sA ?_
    refine zj2 ?_
    refine zj6 h (λ h hc8=>?_) (λ h hc8=>?_)
    ·refine sA ?_
     cases h
     exact zjM ⟨[(4,(I g517.t7)),(5,(B true))],[],0,54⟩ []
    ·refine sA ?_
     obtain ⟨hp9,h⟩:=zjK h
     have hn9:g517.t7.toNat < a0.length:=by first|omega|(simp;omega)
     refine sA ?_
     refine zj2 ?_
     obtain ⟨c523,hr10,h⟩:=zjJ h
     refine zjR (zf1 hr10) ?_
     refine sA ?_
     refine zj6 h (λ h hc11=>?_) (λ h hc11=>?_)
     ·refine sA ?_
      obtain ⟨c524,hr12,h⟩:=zjJ h
      refine zjR (zf1 hr12) ?_
      refine sA ?_
      cases h
      exact zjM ⟨[(4,(I g517.t7)),(5,(B c524))],[],0,54⟩ []
     ·refine sA ?_
      cases h
      exact zjM ⟨[(4,(I g517.t7)),(5,(B false))],[],0,54⟩ []
   ·refine sA ?_
    cases h
    exact zjM ⟨[(4,(I g517.t7)),(5,(B false))],[],0,54⟩ []
theorem zgX {a0:List ByteArray} {a1 a2:Int} {m0:Nat} {x0:Bool} {r:List ByteArray} (h:zb2 a0 a1 a2=some r):Fn Tryz.prog 284 [(.os 0 1 0 a0.length m0 x0),(I a1),(I a2)] [(0,some (false,.arr true 1 (a0.map eS)))] 1 (.os 1 1 0 r.length r.length false) [(0,none),(1,some (false,.arr false 1 (r.map eS)))] 2:=by
 unfold zb2 at h
 obtain ⟨⟨hp1,hp2,hp3,hp4⟩,h⟩:=zjK h
 have he:=oi h;subst he
 refine fc [] Tryz.func284 ?_
 simp only [Tryz.f284]
 simp (disch:=assumption) only [go_sem,qA,qB,qC,qD,↓reduceIte,qE,reduceCtorEq,qF,qH,qI,qJ,qK,qG]
 refine And.intro (by omega) ?_
 try simp (disch:=assumption) only [go_sem,qA,qB,qC,qD,↓reduceIte,qE,reduceCtorEq,qF,qH,qI,qJ,qK,qG]
 refine zoH (a1 == a2) (by first | rfl | simp) (λ hc=>?_) (λ hc=>?_)
 ·try simp (disch:=assumption) only [go_sem,qA,qB,qC,qD,↓reduceIte,qE,reduceCtorEq,qF,qH,qI,qJ,qK,qG]
  have he:a1=a2:=by simpa using hc
  have hr:a0.take a1.toNat++a0.drop a2.toNat=a0:=by rw [he];exact List.take_append_drop _ _
  rw [hr]
  refine zlC ⟨[(6,(.os 1 1 0 a0.length a0.length false))],[(0,none),(1,some (false,.arr false 1 (a0.map eS)))],2,33⟩ (zlT (m:=1) [some 0,some 0] rfl rfl rfl (by rfl) ?_ ?_) ?_
  all_goals ((try simp (disch:=assumption) only [go_sem,qA,qB,qC,qD,↓reduceIte,qE,reduceCtorEq,qF,qH,qI,qJ,qK,qG]);(repeat' first | done | rfl | omega | refine And.intro ?_ ?_ | (simp;done) | (simp;omega)))
 ·try simp (disch:=assumption) only [go_sem,qA,qB,qC,qD,↓reduceIte,qE,reduceCtorEq,qF,qH,qI,qJ,qK,qG]
  refine And.intro (by omega) (And.intro (by omega) ?_)
  have hs:a2.toNat+(a0.length - a2.toNat)≤a0.length:=by omega
  simp (disch:=assumption) only [go_sem,qA,qB,qC,qD,↓reduceIte,qE,reduceCtorEq,qF,qH,qI,qJ,qK,qG,hs]
  have hd:(a0.drop a2.toNat).length=a0.length - a2.toNat:=qb
  have ht:(a0.take a1.toNat).length=a1.toNat:=by rw [qa];omega
  have hR:(a0.take a1.toNat++a0.drop a2.toNat).length=a1.toNat+(a0.drop a2.toNat).length:=by rw [qM,ht]
  refine And.intro ⟨by omega,(by first | exact zma λ _=>rfl | simp),by omega⟩ (And.intro ⟨by omega,by omega,by omega⟩ (And.intro (by omega) ?_))
  refine zlC ⟨[(6,(.os 1 1 0 (a0.take a1.toNat++a0.drop a2.toNat).length (a0.take a1.toNat++a0.drop a2.toNat).length false))],[(0,none),(1,some (false,.arr false 1 ((a0.take a1.toNat++a0.drop a2.toNat).map eS)))],2,33⟩ (zlT (m:=1) [some 0,some 1] rfl rfl rfl (by rfl) ?_ ?_) ?_
  all_goals ((try simp (disch:=assumption) only [go_sem,qA,qB,qC,qD,↓reduceIte,qE,reduceCtorEq,qF,qH,qI,qJ,qK,qG]);(repeat' first | done | rfl | omega | refine And.intro ?_ ?_ | (simp;done) | (simp;omega)))
theorem zgY {a0:List ByteArray} {a1:Int} {a2:List ByteArray} {m0 m2:Nat} {x0 x2:Bool} {r:List ByteArray} (h:zb3 a0 a1 a2=some r):Fn Tryz.prog 285 [(.os 0 1 0 a0.length m0 x0),(I a1),(.os 1 1 0 a2.length m2 x2)] [(0,some (false,.arr true 1 (a0.map eS))),(1,some (false,.arr true 1 (a2.map eS)))] 2 (.os 2 1 0 r.length r.length false) [(0,none),(1,none),(2,some (false,.arr false 1 (r.map eS)))] 3:=by
 unfold zb3 at h
 obtain ⟨⟨hp1,hp2,hp3,hp4⟩,h⟩:=zjK h
 have he:=oi h;subst he
 obtain ⟨x,rfl⟩:=List.length_eq_one_iff.1 hp1
 rw [List.append_assoc,List.singleton_append]
 exact zxY Go.Proofs.Tryz.lays22 (Ent.of Tryz.func285 rfl (by simp [Tryz.f285])) (λ _=>rfl) hp2 hp3 hp4
theorem zgZ {a0:zjV} {a1:ByteArray} {m1:Nat} {x1:Bool} {m2:Nat} {x2:Bool} {r:(Bool×zjV)} (h:zaT a0 a1=some r):Fn Tryz.prog 259 [(.pb 0 0),(.lf false (.sc (.string a1)))] [(0,some (false,.box [(I a0.fSt),(I a0.Next),(B a0.fCa),(I a0.Done),(.os 1 1 0 a0.fSi.length m1 x1),(.os 2 1 0 a0.fTi.length m2 x2)])),(1,some (false,.arr true 1 (a0.fSi.map eS))),(2,some (false,.arr true 1 (a0.fTi.map eS)))] 3 (B r.1) [(0,some (false,.box [(I r.2.fSt),(I r.2.Next),(B r.2.fCa),(I r.2.Done),(.os 1 1 0 a0.fSi.length a0.fSi.length false),(.os 3 1 0 r.2.fTi.length r.2.fTi.length false)])),(1,some (false,.arr false 1 (a0.fSi.map eS))),(2,none),(3,some (false,.arr false 1 (r.2.fTi.map eS)))] 4:=by
 unfold zaT at h
 refine fc [(1000,[(0,0),(1,0)]),(1001,[(0,0),(1,0),(5,0),(6,0)]),(1002,[]),(1003,[(0,0),(1,0),(5,0),(27,0)]),(1004,[]),(1005,[(0,0),(1,0),(5,0),(40,0)]),(1006,[(4,0)]),(1007,[(4,0)])] Tryz.func259 ?_
 simp only [Tryz.f259]
 refine sA ?_
 obtain ⟨c526,hr1,h⟩:=zjJ h
 refine zjR (zgp hr1) ?_
 refine sA ?_
 refine zjO h (λ h hc2=>?_) (λ h hc2=>?_)
 ·refine sA ?_
  obtain ⟨c527,hr3,h⟩:=zjJ h
  refine zll [2] (zgX hr3) ?_
  refine sA ?_
  cases h
  exact zjM ⟨[(4,(B true))],[(0,some (false,.box [(I a0.fSt),(I a0.Next),(B a0.fCa),(I a0.Done),(.os 1 1 0 a0.fSi.length a0.fSi.length false),(.os 3 1 0 c527.length c527.length false)])),(1,some (false,.arr false 1 (a0.fSi.map eS))),(2,none),(3,some (false,.arr false 1 (c527.map eS)))],4,47⟩ [some 0,some 1,some 2,some 3]
 ·refine sA ?_
  refine zjO h (λ h hc4=>?_) (λ h hc4=>?_)
  ·refine sA ?_
   cases h
   exact zjM ⟨[(4,(B false))],[(0,some (false,.box [(I a0.fSt),(I a0.Next),(B a0.fCa),(I a0.Done),(.os 1 1 0 a0.fSi.length a0.fSi.length false),(.os 3 1 0 a0.fTi.length a0.fTi.length false)])),(1,some (false,.arr false 1 (a0.fSi.map eS))),(2,none),(3,some (false,.arr false 1 (a0.fTi.map eS)))],4,47⟩ [some 0,some 1,some 2,some 2]
  ·refine sA ?_
   obtain ⟨c528,hr5,h⟩:=zjJ h
   refine zll [2,3] (zgY hr5) ?_
   refine sA ?_
   cases h
   exact zjM ⟨[(4,(B true))],[(0,some (false,.box [(I a0.fSt),(I a0.Next),(B a0.fCa),(I a0.Done),(.os 1 1 0 a0.fSi.length a0.fSi.length false),(.os 3 1 0 c528.length c528.length false)])),(1,some (false,.arr false 1 (a0.fSi.map eS))),(2,none),(3,some (false,.arr false 1 (c528.map eS)))],4,47⟩ [some 0,some 1,some 2,some 4]
end Go.TL.YteonagfnhdlfcaaGreatDoor

import Derived.Test.YteonagfnhdlfcaaGreatDoorWlFnExactPlayWorldA
open Nat renaming reduceAdd → qA, reduceMul → qB, reduceSub → qC, reduceEqDiff → qD, reduceLT → qE, reduceLeDiff → qF, reduceBEq → qG, zero_add → qb
open Int renaming reduceToNat → qH, reduceEq → qI, reduceLE → qJ, reduceLT → qK
open List renaming length_set → qL, length_append → qM, length_replicate → qN, length_map → qO, length_cons → qP, length_nil → qQ, set_set → qa
set_option linter.unusedSimpArgs false
set_option linter.unusedVariables false
noncomputable section
set_option maxRecDepth 8000
set_option maxHeartbeats 0
namespace Go.TL.YteonagfnhdlfcaaGreatDoor
open Go Go.Proofs Go.TL
theorem zgb {a0:zjV} {a1:Int} {a2:ByteArray} {m1:Nat} {x1:Bool} {m2:Nat} {x2:Bool} {r:(Bool×zjV)} (h:za2 a0 a1 a2=some r):Fn Tryz.prog 226 [(.pb 0 0),(I a1),(.lf false (.sc (.string a2)))] [(0,some (false,.box [(I a0.fSt),(I a0.Next),(B a0.fCa),(I a0.Done),(.os 1 1 0 a0.fSi.length m1 x1),(.os 2 1 0 a0.fTi.length m2 x2)])),(1,some (false,.arr true 1 (a0.fSi.map eS))),(2,some (false,.arr true 1 (a0.fTi.map eS)))] 3 (B r.1) [(0,some (false,.box [(I r.2.fSt),(I r.2.Next),(B r.2.fCa),(I r.2.Done),(.os 3 1 0 r.2.fSi.length r.2.fSi.length false),(.os 4 1 0 r.2.fTi.length r.2.fTi.length false)])),(1,none),(2,none),(3,some (false,.arr false 1 (r.2.fSi.map eS))),(4,some (false,.arr false 1 (r.2.fTi.map eS)))] 5:=by
 unfold za2 at h
 refine fc [(1000,[(0,0),(1,0),(2,0)]),(1001,[(0,0),(1,0),(2,0),(32,0)]),(1002,[(6,0)]),(1003,[(0,0),(2,0),(33,0)]),(1004,[(0,0),(2,0),(33,0),(34,0)]),(1005,[(0,0)]),(1006,[(0,0),(2,0),(33,0),(39,0)]),(1007,[(0,0),(2,0),(54,0)]),(1008,[(6,0)]),(1009,[(0,0)]),(1010,[(0,0),(2,0),(33,0),(65,0)]),(1011,[(0,0)]),(1012,[(0,0),(2,0),(33,0),(74,0)]),(1013,[(0,0),(79,0)]),(1014,[(6,0)]),(1015,[(0,0),(33,0),(80,0)]),(1016,[(0,0),(85,0)]),(1017,[(6,0)]),(1018,[(0,0)]),(1019,[(0,0),(89,0)]),(1020,[(0,0)]),(1021,[]),(1022,[(6,0)]),(4001,[]),(4007,[])] Tryz.func226 ?_
 simp only [Tryz.f226]
 refine sA ?_
 obtain ⟨p514,hq1,h⟩:=zjJ h
 refine zki (λ s2=>s2=⟨[(0,(.pb 0 0)),(1,(I a1)),(2,(.lf false (.sc (.string a2)))),(32,(B p514.t32))],[(0,some (false,.box [(I a0.fSt),(I a0.Next),(B a0.fCa),(I a0.Done),(.os 1 1 0 a0.fSi.length m1 x1),(.os 2 1 0 a0.fTi.length m2 x2)])),(1,some (false,.arr true 1 (a0.fSi.map eS))),(2,some (false,.arr true 1 (a0.fTi.map eS)))],3,104⟩) ?_ ?_
 ·refine sA ?_
  refine zj6 hq1 (λ hq1 hc2=>?_) (λ hq1 hc2=>?_)
  ·refine sA ?_
   cases hq1
   exact zj1 rfl (zjQ [some 0,some 1,some 2])
  ·refine sA ?_
   refine zj6 hq1 (λ hq1 hc3=>?_) (λ hq1 hc3=>?_)
   ·refine sA ?_
    cases hq1
    exact zj1 rfl (zjQ [some 0,some 1,some 2])
   ·refine sA ?_
    refine zj6 hq1 (λ hq1 hc4=>?_) (λ hq1 hc4=>?_)
    ·refine sA ?_
     cases hq1
     exact zj1 rfl (zjQ [some 0,some 1,some 2])
    ·refine sA ?_
     cases hq1
     exact zj1 rfl (zjQ [some 0,some 1,some 2])
 ·intro s2 hJ;subst hJ
  try dsimp only at h
  refine sA ?_
  refine zjO h (λ h hc5=>?_) (λ h hc5=>?_)
  ·refine sA ?_
   cases h
   exact zjM ⟨[(6,(B false))],[(0,some (false,.box [(I a0.fSt),(I a0.Next),(B a0.fCa),(I a0.Done),(.os 3 1 0 a0.fSi.length a0.fSi.length false),(.os 4 1 0 a0.fTi.length a0.fTi.length false)])),(1,none),(2,none),(3,some (false,.arr false 1 (a0.fSi.map eS))),(4,some (false,.arr false 1 (a0.fTi.map eS)))],5,104⟩ [some 0,some 1,some 2,some 1,some 2]
  ·refine sA ?_
   refine zjO h (λ h hc6=>?_) (λ h hc6=>?_)
   ·refine sA ?_
    cases h
    exact zjM ⟨[(6,(B true))],[(0,some (false,.box [(I 1),(I (wI (a0.Next+1))),(B a0.fCa),(I a0.Done),(.os 3 1 0 a0.fSi.length a0.fSi.length false),(.os 4 1 0 a0.fTi.length a0.fTi.length false)])),(1,none),(2,none),(3,some (false,.arr false 1 (a0.fSi.map eS))),(4,some (false,.arr false 1 (a0.fTi.map eS)))],5,104⟩ [some 0,some 1,some 2,some 1,some 2]
   ·refine sA ?_
    refine zjO h (λ h hc7=>?_) (λ h hc7=>?_)
    ·refine sA ?_
     obtain ⟨p516,hq8,h⟩:=zjJ h
     refine zki (λ s2=>s2=⟨[(0,(.pb 0 0)),(2,(.lf false (.sc (.string a2)))),(54,(B p516.t54))],[(0,some (false,.box [(I a0.fSt),(I a0.Next),(B a0.fCa),(I a0.Done),(.os 1 1 0 a0.fSi.length m1 x1),(.os 2 1 0 a0.fTi.length m2 x2)])),(1,some (false,.arr true 1 (a0.fSi.map eS))),(2,some (false,.arr true 1 (a0.fTi.map eS)))],3,104⟩) ?_ ?_
     ·refine sA ?_
      obtain ⟨c515,hr9,hq8⟩:=zjJ hq8
      refine zjR (zaj hr9) ?_
      refine sA ?_
      refine zj6 hq8 (λ hq8 hc10=>?_) (λ hq8 hc10=>?_)
      ·refine sA ?_
       cases hq8
       exact zj1 rfl (zjQ [some 0,some 1,some 2])
      ·refine sA ?_
       cases hq8
       exact zj1 rfl (zjQ [some 0,some 1,some 2])
     ·intro s2 hJ;subst hJ
      try dsimp only at h
      refine sA ?_
      refine zjO h (λ h hc11=>?_) (λ h hc11=>?_)
      ·refine sA ?_
       cases h
       exact zjM ⟨[(6,(B false))],[(0,some (false,.box [(I a0.fSt),(I a0.Next),(B a0.fCa),(I a0.Done),(.os 3 1 0 a0.fSi.length a0.fSi.length false),(.os 4 1 0 a0.fTi.length a0.fTi.length false)])),(1,none),(2,none),(3,some (false,.arr false 1 (a0.fSi.map eS))),(4,some (false,.arr false 1 (a0.fTi.map eS)))],5,104⟩ [some 0,some 1,some 2,some 1,some 2]
      ·refine sA ?_
       obtain ⟨hp12,h⟩:=zjK h
       refine sA ?_
       refine zj2 ?_
       cases h
       exact zjM ⟨[(6,(B true))],[(0,some (false,.box [(I a0.fSt),(I (wI (a0.Next+1))),(B a0.fCa),(I a0.Done),(.os 3 1 0 ((a0.fSi++([a2])).length) ((a0.fSi++([a2])).length) false),(.os 4 1 0 a0.fTi.length a0.fTi.length false)])),(1,none),(2,none),(3,some (false,.arr false 1 ((a0.fSi++([a2])).map eS))),(4,some (false,.arr false 1 (a0.fTi.map eS)))],5,104⟩ [some 0,some 1,some 2,some 4,some 2]
    ·refine sA ?_
     refine zjO h (λ h hc13=>?_) (λ h hc13=>?_)
     ·refine sA ?_
      cases h
      exact zjM ⟨[(6,(B true))],[(0,some (false,.box [(I a0.fSt),(I (wI (a0.Next+1))),(B a0.fCa),(I (wI (a0.Done+1))),(.os 3 1 0 a0.fSi.length a0.fSi.length false),(.os 4 1 0 a0.fTi.length a0.fTi.length false)])),(1,none),(2,none),(3,some (false,.arr false 1 (a0.fSi.map eS))),(4,some (false,.arr false 1 (a0.fTi.map eS)))],5,104⟩ [some 0,some 1,some 2,some 1,some 2]
     ·refine sA ?_
      refine zjO h (λ h hc14=>?_) (λ h hc14=>?_)
      ·refine sA ?_
       obtain ⟨c529,hr15,h⟩:=zjJ h
       refine zll [0,1,2] (zgZ hr15) ?_
       refine sA ?_
       refine zjO h (λ h hc16=>?_) (λ h hc16=>?_)
       ·refine sA ?_
        cases h
        exact zjM ⟨[(6,(B false))],[(0,some (false,.box [(I c529.2.fSt),(I c529.2.Next),(B c529.2.fCa),(I c529.2.Done),(.os 3 1 0 a0.fSi.length a0.fSi.length false),(.os 4 1 0 c529.2.fTi.length c529.2.fTi.length false)])),(1,none),(2,none),(3,some (false,.arr false 1 (a0.fSi.map eS))),(4,some (false,.arr false 1 (c529.2.fTi.map eS)))],5,104⟩ [some 0,some 1,some 2,some 1,some 3]
       ·refine sA ?_
        cases h
        exact zjM ⟨[(6,(B true))],[(0,some (false,.box [(I c529.2.fSt),(I (wI (c529.2.Next+1))),(B c529.2.fCa),(I c529.2.Done),(.os 3 1 0 a0.fSi.length a0.fSi.length false),(.os 4 1 0 c529.2.fTi.length c529.2.fTi.length false)])),(1,none),(2,none),(3,some (false,.arr false 1 (a0.fSi.map eS))),(4,some (false,.arr false 1 (c529.2.fTi.map eS)))],5,104⟩ [some 0,some 1,some 2,some 1,some 3]
      ·refine sA ?_
       refine zjO h (λ h hc17=>?_) (λ h hc17=>?_)
       ·refine sA ?_
        refine zjO h (λ h hc18=>?_) (λ h hc18=>?_)
        ·refine sA ?_
         cases h
         exact zjM ⟨[(6,(B false))],[(0,some (false,.box [(I a0.fSt),(I a0.Next),(B a0.fCa),(I a0.Done),(.os 3 1 0 a0.fSi.length a0.fSi.length false),(.os 4 1 0 a0.fTi.length a0.fTi.length false)])),(1,none),(2,none),(3,some (false,.arr false 1 (a0.fSi.map eS))),(4,some (false,.arr false 1 (a0.fTi.map eS)))],5,104⟩ [some 0,some 1,some 2,some 1,some 2]
        ·refine sA ?_
         cases h
         exact zjM ⟨[(6,(B true))],[(0,some (false,.box [(I a0.fSt),(I (wI (a0.Next+1))),(B true),(I a0.Done),(.os 3 1 0 a0.fSi.length a0.fSi.length false),(.os 4 1 0 a0.fTi.length a0.fTi.length false)])),(1,none),(2,none),(3,some (false,.arr false 1 (a0.fSi.map eS))),(4,some (false,.arr false 1 (a0.fTi.map eS)))],5,104⟩ [some 0,some 1,some 2,some 1,some 2]
       ·refine sA ?_
        refine zjO h (λ h hc19=>?_) (λ h hc19=>?_)
        ·refine sA ?_
         cases h
         exact zjM ⟨[(6,(B true))],[(0,some (false,.box [(I 2),(I (wI (a0.Next+1))),(B a0.fCa),(I a0.Done),(.os 3 1 0 a0.fSi.length a0.fSi.length false),(.os 4 1 0 (([]:List ByteArray).length) (([]:List ByteArray).length) false)])),(1,none),(2,none),(3,some (false,.arr false 1 (a0.fSi.map eS))),(4,some (false,.arr false 1 (([]:List ByteArray).map eS)))],5,104⟩ [some 0,some 1,some 2,some 1,none]
        ·refine sA ?_
         cases h
         exact zjM ⟨[(6,(B true))],[(0,some (false,.box [(I a0.fSt),(I (wI (a0.Next+1))),(B a0.fCa),(I a0.Done),(.os 3 1 0 a0.fSi.length a0.fSi.length false),(.os 4 1 0 a0.fTi.length a0.fTi.length false)])),(1,none),(2,none),(3,some (false,.arr false 1 (a0.fSi.map eS))),(4,some (false,.arr false 1 (a0.fTi.map eS)))],5,104⟩ [some 0,some 1,some 2,some 1,some 2]
theorem ziA {a0:zjV} {a1:EventT} {r:(zjV×Bool)} (h:zdz a0 a1=some r):Fn Tryz.prog 209 [(.ag [(I a0.fSt),(I a0.Next),(B a0.fCa),(I a0.Done),(.lf true (.sl (a0.fSi.map eS))),(.lf true (.sl (a0.fTi.map eS)))]),(.ag [(I a1.Id),(I a1.fVe),(I a1.Kind),(.lf false (.sc (.string a1.Name)))])] [] 0 (.tu [(.ag [(I r.1.fSt),(I r.1.Next),(B r.1.fCa),(I r.1.Done),(.os 0 1 0 r.1.fSi.length r.1.fSi.length false),(.os 1 1 0 r.1.fTi.length r.1.fTi.length false)]),(B r.2)]) [(0,some (true,.arr false 1 (r.1.fSi.map eS))),(1,some (true,.arr false 1 (r.1.fTi.map eS)))] 3:=by
 unfold zdz at h
 refine fc [(1000,[(2,0),(3,0),(4,0)]),(1001,[(2,0),(3,0),(4,0),(21,0)]),(1002,[(4,0),(5,0)]),(1003,[(3,0),(4,0),(6,0)]),(1004,[(4,0),(6,0),(35,0)]),(1005,[(4,0),(5,0)]),(1006,[(4,0),(5,0)]),(4001,[]),(4004,[])] Tryz.func209 ?_
 simp only [Tryz.f209]
 refine sA ?_
 obtain ⟨p509,hq1,h⟩:=zjJ h
 refine zki (λ s2=>s2=⟨[(2,(.pb 0 0)),(3,(.pb 1 0)),(4,(.pb 2 0)),(21,(B p509.t21))],[(0,some (true,.box [(I a0.fSt),(I a0.Next),(B a0.fCa),(I a0.Done),(.lf true (.sl (a0.fSi.map eS))),(.lf true (.sl (a0.fTi.map eS)))])),(1,some (true,.box [(I a1.Id),(I a1.fVe),(I a1.Kind),(.lf false (.sc (.string a1.Name)))])),(2,some (true,.box [(I 0),(I 0),(B false),(I 0),.nl,.nl]))],3,38⟩) ?_ ?_
 ·refine sA ?_
  obtain ⟨c501,hr2,hq1⟩:=zjJ hq1
  refine zjR (zeM hr2) ?_
  refine sA ?_
  refine zj6 hq1 (λ hq1 hc3=>?_) (λ hq1 hc3=>?_)
  ·refine sA ?_
   cases hq1
   exact zj1 rfl (zjQ [some 0,some 1,some 2])
  ·refine sA ?_
   obtain ⟨c508,hr4,hq1⟩:=zjJ hq1
   refine zjR (ziT hr4) ?_
   refine sA ?_
   refine zj6 hq1 (λ hq1 hc5=>?_) (λ hq1 hc5=>?_)
   ·refine sA ?_
    cases hq1
    exact zj1 rfl (zjQ [some 0,some 1,some 2])
   ·refine sA ?_
    cases hq1
    exact zj1 rfl (zjQ [some 0,some 1,some 2])
 ·intro s2 hJ;subst hJ
  try dsimp only at h
  refine sA ?_
  refine zjO h (λ h hc6=>?_) (λ h hc6=>?_)
  ·refine sA ?_
   cases h
   exact zjM ⟨[(4,(.pb 2 0)),(5,(B false))],[(0,some (true,.arr false 1 (([]:List ByteArray).map eS))),(1,some (true,.arr false 1 (([]:List ByteArray).map eS))),(2,some (true,.box [(I 0),(I 0),(B false),(I 0),(.os 0 1 0 (([]:List ByteArray).length) (([]:List ByteArray).length) false),(.os 1 1 0 (([]:List ByteArray).length) (([]:List ByteArray).length) false)]))],3,38⟩ [none,none,some 2]
  ·refine sA ?_
   obtain ⟨c512,hr7,h⟩:=zjJ h
   refine zjR (zgJ hr7) ?_
   refine sA ?_
   obtain ⟨p532,hq8,h⟩:=zjJ h
   refine zki (λ s2=>s2=⟨[(4,(.pb 0 0)),(6,(.pb 1 0)),(35,(B p532.t35))],[(0,some (true,.box [(I 0),(I 0),(B false),(I 0),.nl,.nl])),(1,some (true,.box [(I p532.b1_0),(I p532.b1_1),(B p532.b1_2),(I p532.b1_3),(.os 2 1 0 p532.c2.length p532.c2.length false),(.os 3 1 0 p532.c3.length p532.c3.length false)])),(2,some (true,.arr false 1 (p532.c2.map eS))),(3,some (true,.arr false 1 (p532.c3.map eS)))],4,38⟩) ?_ ?_
   ·refine sA ?_
    obtain ⟨c530,hr9,hq8⟩:=zjJ hq8
    refine zll [6,3,4] (zgb hr9) ?_
    refine sA ?_
    refine zj6 hq8 (λ hq8 hc10=>?_) (λ hq8 hc10=>?_)
    ·refine sA ?_
     cases hq8
     exact zj1 rfl (zjQ [some 2,some 6,some 7,some 8])
    ·refine sA ?_
     obtain ⟨c531,hr11,hq8⟩:=zjJ hq8
     refine zjR (zeM hr11) ?_
     refine sA ?_
     cases hq8
     exact zj1 rfl (zjQ [some 2,some 6,some 7,some 8])
   ·intro s2 hJ;subst hJ
    try dsimp only at h
    refine sA ?_
    refine zjO h (λ h hc12=>?_) (λ h hc12=>?_)
    ·refine sA ?_
     cases h
     exact zjM ⟨[(4,(.pb 2 0)),(5,(B false))],[(0,some (true,.arr false 1 (([]:List ByteArray).map eS))),(1,some (true,.arr false 1 (([]:List ByteArray).map eS))),(2,some (true,.box [(I 0),(I 0),(B false),(I 0),(.os 0 1 0 (([]:List ByteArray).length) (([]:List ByteArray).length) false),(.os 1 1 0 (([]:List ByteArray).length) (([]:List ByteArray).length) false)]))],3,38⟩ [none,none,some 0]
    ·refine sA ?_
     cases h
     exact zjM ⟨[(4,(.pb 2 0)),(5,(B true))],[(0,some (true,.arr false 1 (p532.c2.map eS))),(1,some (true,.arr false 1 (p532.c3.map eS))),(2,some (true,.box [(I p532.b1_0),(I p532.b1_1),(B p532.b1_2),(I p532.b1_3),(.os 0 1 0 p532.c2.length p532.c2.length false),(.os 1 1 0 p532.c3.length p532.c3.length false)]))],3,38⟩ [some 2,some 3,some 0]
theorem zgK {a0:(List EventT)} {r:(zjV×Int)} (h:zch a0=some r):Fn Tryz.prog 161 [(.lf true (.sl (a0.map zjU)))] [] 0 (.tu [(.ag [(I r.1.fSt),(I r.1.Next),(B r.1.fCa),(I r.1.Done),(.os 0 1 0 r.1.fSi.length r.1.fSi.length false),(.os 1 1 0 r.1.fTi.length r.1.fTi.length false)]),(I r.2)]) [(0,some (true,.arr false 1 (r.1.fSi.map eS))),(1,some (true,.arr false 1 (r.1.fTi.map eS)))] 3:=by
 unfold zch at h
 refine fc [(1000,[(0,0),(2,0)]),(1001,[(0,0),(2,0),(4,0)]),(1002,[(0,0),(2,0),(4,0),(10,0),(11,0),(12,0)]),(1003,[(0,0),(2,0),(4,0),(10,0),(11,0),(12,0),(13,0)]),(1004,[(0,0),(2,0),(4,0),(5,0),(6,0),(10,0),(11,0),(12,0)]),(1005,[(0,0),(2,0),(4,0),(5,0),(7,0),(8,0),(10,0),(11,0),(12,0)]),(1006,[(0,0),(2,0),(4,0),(5,0),(7,0),(10,0),(11,0),(12,0),(24,0)]),(1007,[(2,0),(3,0)]),(1008,[(0,0),(2,0),(4,0),(10,0),(11,0),(12,0)]),(1009,[(0,0),(2,0),(4,0),(10,0),(11,0),(12,0)]),(1010,[(2,0),(3,0)])] Tryz.func161 ?_
 simp only [Tryz.f161]
 refine sA ?_
 obtain ⟨c460,hr1,h⟩:=zjJ h
 refine zjR (zjd hr1) ?_
 refine sA ?_
 obtain ⟨y535,hl2,h⟩:=zjJ h
 refine zj3 (λ g461:zfc=>⟨[(0,(.lf true (.sl (a0.map zjU)))),(2,(.pb 0 0)),(4,(.pb 1 0)),(10,(.lf true (.sl (a0.map zjU)))),(11,(I ((a0.length:Nat):Int))),(12,(I g461.t12))],[(0,some (true,.box [(I 0),(I 0),(B false),(I 0),.nl,.nl])),(1,some (true,.box [(I g461.b1_0),(I g461.b1_1),(B g461.b1_2),(I g461.b1_3),(.os 2 1 0 g461.c2.length g461.c2.length false),(.os 3 1 0 g461.c3.length g461.c3.length false)])),(2,some (true,.arr false 1 (g461.c2.map eS))),(3,some (true,.arr false 1 (g461.c3.map eS)))],4,32⟩) (zO a0) _ _ hl2 (zjQ [some 0,some 2,none,none]) ?_
 ·intro n1 g461 z1 hs1 hk1
  unfold zO at hs1
  try dsimp only at hs1
  refine sA ?_
  refine zjO hs1 (λ hs1 hc3=>?_) (λ hs1 hc3=>?_)
  ·refine sA ?_
   obtain ⟨hp4,hs1⟩:=zjK hs1
   have hn4:g461.t12.toNat < a0.length:=by first|omega|(simp;omega)
   refine sA ?_
   refine zj2 ?_
   obtain ⟨c534,hr5,hs1⟩:=zjJ hs1
   refine zjR (ziA hr5) ?_
   refine sA ?_
   refine zjO hs1 (λ hs1 hc6=>?_) (λ hs1 hc6=>?_)
   ·refine sA ?_
    cases hs1
    cases hk1
    try dsimp only at h
    refine sA ?_
    cases h
    exact zjM ⟨[(2,(.pb 2 0)),(3,(I g461.t12))],[(0,some (true,.arr false 1 (g461.c2.map eS))),(1,some (true,.arr false 1 (g461.c3.map eS))),(2,some (true,.box [(I g461.b1_0),(I g461.b1_1),(B g461.b1_2),(I g461.b1_3),(.os 0 1 0 g461.c2.length g461.c2.length false),(.os 1 1 0 g461.c3.length g461.c3.length false)]))],3,32⟩ [some 2,some 3,some 0]
   ·refine sA ?_
    cases hs1
    exact zjW hk1 (zjQ [some 0,some 1,some 5,some 6])
  ·refine sA ?_
   cases hs1
   cases hk1
   try dsimp only at h
   refine sA ?_
   cases h
   exact zjM ⟨[(2,(.pb 2 0)),(3,(I ((a0.length:Nat):Int)))],[(0,some (true,.arr false 1 (g461.c2.map eS))),(1,some (true,.arr false 1 (g461.c3.map eS))),(2,some (true,.box [(I g461.b1_0),(I g461.b1_1),(B g461.b1_2),(I g461.b1_3),(.os 0 1 0 g461.c2.length g461.c2.length false),(.os 1 1 0 g461.c3.length g461.c3.length false)]))],3,32⟩ [some 2,some 3,some 0]
theorem zf2 {a0:RegionT} {r:zjV} (h:zaO a0=some r):Fn Tryz.prog 182 [(.ra true [.sc (.int .i64 a0.Id),.sc (.int .i64 a0.fVe),.sl (a0.fTe.fBr.map zjN)])] [] 0 (.ag [(I r.fSt),(I r.Next),(B r.fCa),(I r.Done),(.os 0 1 0 r.fSi.length r.fSi.length false),(.os 1 1 0 r.fTi.length r.fTi.length false)]) [(0,some (true,.arr false 1 (r.fSi.map eS))),(1,some (true,.arr false 1 (r.fTi.map eS)))] 3:=by
 unfold zaO at h
 refine fc [(1000,[(0,0),(2,0)]),(1001,[(2,0),(3,0)]),(1002,[(2,0)])] Tryz.func182 ?_
 simp only [Tryz.f182]
 refine sA ?_
 obtain ⟨c459,hr1,h⟩:=zjJ h
 refine zjR (zfx hr1) ?_
 refine sA ?_
 obtain ⟨c538,hr2,h⟩:=zjJ h
 refine zjR (zgK hr2) ?_
 refine sA ?_
 cases h
 exact zjM ⟨[(2,(.pb 2 0))],[(0,some (true,.arr false 1 (c538.1.fSi.map eS))),(1,some (true,.arr false 1 (c538.1.fTi.map eS))),(2,some (true,.box [(I c538.1.fSt),(I c538.1.Next),(B c538.1.fCa),(I c538.1.Done),(.os 0 1 0 c538.1.fSi.length c538.1.fSi.length false),(.os 1 1 0 c538.1.fTi.length c538.1.fTi.length false)]))],3,15⟩ [some 1,some 2,some 0]
theorem zht {a0:zjV} {a1:Int} {a2:ByteArray} {r:(Bool×Bool)} (h:zbi a0 a1 a2=some r):Fn Tryz.prog 183 [(.ag [(I a0.fSt),(I a0.Next),(B a0.fCa),(I a0.Done),(.lf true (.sl (a0.fSi.map eS))),(.lf true (.sl (a0.fTi.map eS)))]),(I a1),(.lf false (.sc (.string a2)))] [] 0 (.tu [(B r.1),(B r.2)]) [] 0:=by
 unfold zbi at h
 refine fc [(1000,[(1,0),(2,0),(3,0)]),(1001,[(1,0),(2,0),(3,0),(21,0)]),(1002,[(6,0),(7,0)]),(1003,[(1,0),(2,0),(8,0)]),(1004,[(6,0),(7,0)]),(4001,[])] Tryz.func183 ?_
 simp only [Tryz.f183]
 refine sA ?_
 obtain ⟨p543,hq1,h⟩:=zjJ h
 refine zki (λ s2=>s2=⟨[(1,(I a1)),(2,(.lf false (.sc (.string a2)))),(3,(.pb 0 0)),(21,(B p543.t21))],[(0,some (true,.box [(I a0.fSt),(I a0.Next),(B a0.fCa),(I a0.Done),(.lf true (.sl (a0.fSi.map eS))),(.lf true (.sl (a0.fTi.map eS)))]))],1,31⟩) ?_ ?_
 ·refine sA ?_
  obtain ⟨c540,hr2,hq1⟩:=zjJ hq1
  refine zjR (zeM hr2) ?_
  refine sA ?_
  refine zj6 hq1 (λ hq1 hc3=>?_) (λ hq1 hc3=>?_)
  ·refine sA ?_
   cases hq1
   exact zj1 rfl (zjQ [some 0])
  ·refine sA ?_
   obtain ⟨c541,hr4,hq1⟩:=zjJ hq1
   refine zjR (ze9 hr4) ?_
   refine sA ?_
   refine zj6 hq1 (λ hq1 hc5=>?_) (λ hq1 hc5=>?_)
   ·refine sA ?_
    cases hq1
    exact zj1 rfl (zjQ [some 0])
   ·refine sA ?_
    obtain ⟨c542,hr6,hq1⟩:=zjJ hq1
    refine zjR (zdR hr6) ?_
    refine sA ?_
    cases hq1
    exact zj1 rfl (zjQ [some 0])
 ·intro s2 hJ;subst hJ
  try dsimp only at h
  refine sA ?_
  refine zjO h (λ h hc7=>?_) (λ h hc7=>?_)
  ·refine sA ?_
   cases h
   exact zjM ⟨[(6,(B false)),(7,(B false))],[],0,31⟩ []
  ·refine sA ?_
   obtain ⟨c544,hr8,h⟩:=zjJ h
   refine zjR (zgJ hr8) ?_
   refine sA ?_
   obtain ⟨c545,hr9,h⟩:=zjJ h
   refine zll [4,1,2] (zgb hr9) ?_
   refine sA ?_
   refine zj6 h (λ h hc10=>?_) (λ h hc10=>?_)
   ·refine sA ?_
    obtain ⟨c546,hr11,h⟩:=zjJ h
    refine zjR (zeM hr11) ?_
    refine sA ?_
    cases h
    exact zjM ⟨[(6,(B c546)),(7,(B true))],[],0,31⟩ []
   ·refine sA ?_
    cases h
    exact zjM ⟨[(6,(B false)),(7,(B true))],[],0,31⟩ []
theorem zd1 {a0:RegionT} {r:Bool} (h:zG a0=some r):Fn Tryz.prog 66 [(.ra true [.sc (.int .i64 a0.Id),.sc (.int .i64 a0.fVe),.sl (a0.fTe.fBr.map zjN)])] [] 0 (B r) [] 0:=by
 unfold zG at h
 refine fc [] Tryz.func66 ?_
 simp only [Tryz.f66]
 refine sA ?_
 cases h
 exact zjM ⟨[(2,(B ((a0.fVe.tmod 10) == a0.Id)))],[],0,13⟩ []
theorem zab {a0:(List EventT)} {r:(List EventT)} (h:zd a0=some r):Fn Tryz.prog 174 [(.lf true (.sl (a0.map zjU)))] [] 0 (.os 0 4 0 r.length r.length false) [(0,some (true,.arr false 4 (r.map zjU)))] 1:=by
 unfold zd at h
 obtain ⟨hp,h⟩:=zjK h
 have he:=oi h;subst he
 refine fc [] Tryz.func174 ?_
 simp only [Tryz.f174]
 simp (disch:=assumption) only [go_sem,qA,qB,qC,qD,↓reduceIte,qE,reduceCtorEq,qF,qH,qI,qJ,qK,qG]
 intro b hb
 refine zoH (b=true) (by simp) (λ hc=>?_) (λ hc=>?_)
 ·have h0:a0=[]:=by simpa using hb (by simpa using hc)
  subst h0
  try simp (disch:=assumption) only [go_sem,qA,qB,qC,qD,↓reduceIte,qE,reduceCtorEq,qF,qH,qI,qJ,qK,qG]
  refine zlC ⟨[(2,(.os 0 4 0 0 0 false))],[(0,some (true,.arr false 4 (([]:List EventT).map zjU)))],1,8⟩ (zlT (m:=0) [none] rfl rfl rfl (by rfl) ?_ ?_) ?_
  all_goals ((try simp (disch:=assumption) only [go_sem,qA,qB,qC,qD,↓reduceIte,qE,reduceCtorEq,qF,qH,qI,qJ,qK,qG]);(repeat' first | done | rfl | omega | refine And.intro ?_ ?_ | (simp;done) | (simp;omega)))
 ·try simp (disch:=assumption) only [go_sem,qA,qB,qC,qD,↓reduceIte,qE,reduceCtorEq,qF,qH,qI,qJ,qK,qG]
  first | refine And.intro (by first | omega | exact ⟨by omega,λ _=>zma λ _=>rfl⟩ | (refine ⟨?_,by omega⟩;first | exact zma λ _=>rfl | simp)) ?_ | skip
  try simp (disch:=assumption) only [go_sem,qA,qB,qC,qD,↓reduceIte,qE,reduceCtorEq,qF,qH,qI,qJ,qK,qG]
  refine zlC ⟨[(2,(.os 0 4 0 a0.length a0.length false))],[(0,some (true,.arr false 4 (a0.map zjU)))],1,8⟩ (zlT (m:=0) [some 1] rfl rfl rfl (by rfl) ?_ ?_) ?_
  all_goals ((try simp (disch:=assumption) only [go_sem,qA,qB,qC,qD,↓reduceIte,qE,reduceCtorEq,qF,qH,qI,qJ,qK,qG]);(repeat' first | done | rfl | omega | refine And.intro ?_ ?_ | (simp;done) | (simp;omega)))
theorem zcO {a0:TellingsT} {r:TellingsT} (h:zP a0=some r):Fn Tryz.prog 127 [(.ag [(.lf true (.sl (a0.fBr.map zjN)))])] [] 0 (.ag [(.os 0 1 0 r.fBr.length r.fBr.length false)]) [(0,some (true,.deep [.sl [.sc,.sc,.sc,.sc]] (r.fBr.map zjN)))] 2:=by
 unfold zP at h
 refine fc [(5,[(1,4),(1,6)]),(1000,[(1,0),(2,0)]),(1001,[(1,0),(2,0),(3,0)]),(1002,[(2,0),(3,0),(8,0),(9,0),(10,0)]),(1003,[(2,0),(3,0),(8,0),(9,0),(10,0),(11,0)]),(1004,[(2,0),(3,0),(5,0),(8,0),(9,0),(10,0)]),(1005,[(2,0),(3,0),(8,0),(9,0),(10,0)]),(1006,[(2,0),(3,0),(8,0),(9,0),(10,0)]),(1007,[(2,0)])] Tryz.func127 ?_
 simp only [Tryz.f127]
 refine sA ?_
 obtain ⟨y558,hl1,h⟩:=zjJ h
 refine zj3 (λ g555:zco=>⟨[(2,(.pb 0 0)),(3,(.pb 1 0)),(8,(.lf true (.sl (a0.fBr.map zjN)))),(9,(I ((a0.fBr.length:Nat):Int))),(10,(I g555.t10))],[(0,some (true,.box [.nl])),(1,some (true,.box [(.os 2 1 0 g555.c2.length g555.c2.length false)])),(2,some (true,.deep [.sl [.sc,.sc,.sc,.sc]] (g555.c2.map zjN)))],3,25⟩) (zac a0) _ _ hl1 (zjQ [some 1,some 2,none]) ?_
 ·intro n1 g555 z1 hs1 hk1
  unfold zac at hs1
  try dsimp only at hs1
  refine sA ?_
  refine zjO hs1 (λ hs1 hc2=>?_) (λ hs1 hc2=>?_)
  ·refine sA ?_
   obtain ⟨hp3,hs1⟩:=zjK hs1
   have hn3:g555.t10.toNat < a0.fBr.length:=by first|omega|(simp;omega)
   refine sA ?_
   refine zj2 ?_
   obtain ⟨c557,hr4,hs1⟩:=zjJ hs1
   refine zjR (zab hr4) ?_
   refine sA ?_
   obtain ⟨hp5,hs1⟩:=zjK hs1
   refine sA ?_
   refine zj2 ?_
   cases hs1
   exact zjW hk1 (zob 6 (zjQ [some 0,some 1,some 6]))
  ·refine sA ?_
   cases hs1
   cases hk1
   try dsimp only at h
   refine sA ?_
   cases h
   exact zjM ⟨[(2,(.pb 1 0))],[(0,some (true,.deep [.sl [.sc,.sc,.sc,.sc]] (g555.c2.map zjN))),(1,some (true,.box [(.os 0 1 0 g555.c2.length g555.c2.length false)]))],2,25⟩ [some 2,some 0]
theorem zgM {a0:(List EventT)} {a1:(List EventT)} {r:Bool} (h:zbD a0 a1=some r):Fn Tryz.prog 136 [(.lf true (.sl (a0.map zjU))),(.lf true (.sl (a1.map zjU)))] [] 0 (B r) [] 0:=by
 unfold zbD at h
 refine fc [(1000,[(0,0),(1,0)]),(1001,[(0,0),(1,0),(10,0)]),(1002,[(4,0)]),(1003,[(0,0),(1,0),(12,0),(13,0)]),(1004,[(0,0),(1,0),(12,0),(13,0),(14,0)]),(1005,[(0,0),(1,0),(5,0),(12,0),(13,0)]),(1006,[(0,0),(1,0),(12,0),(13,0),(24,0)]),(1007,[(4,0)]),(1008,[(0,0),(1,0),(12,0),(13,0)]),(1009,[(4,0)])] Tryz.func136 ?_
 simp only [Tryz.f136]
 refine sA ?_
 refine zjO h (λ h hc1=>?_) (λ h hc1=>?_)
 ·refine sA ?_
  have he:=oi h
  subst he
  exact zjM ⟨[(4,(B false))],[],0,26⟩ []
 ·refine sA ?_
  obtain ⟨y562,hl2,h⟩:=zjJ h
  refine zj3 (λ g561:zaW=>⟨[(0,(.lf true (.sl (a0.map zjU)))),(1,(.lf true (.sl (a1.map zjU)))),(12,(I ((a0.length:Nat):Int))),(13,(I g561.t13))],[],0,26⟩) (zF a0 a1) _ _ hl2 (zjQ []) ?_
  ·intro n1 g561 z1 hs1 hk1
   unfold zF at hs1
   try dsimp only at hs1
   refine sA ?_
   refine zjO hs1 (λ hs1 hc3=>?_) (λ hs1 hc3=>?_)
   ·refine sA ?_
    obtain ⟨hp4,hs1⟩:=zjK hs1
    have hn4:g561.t13.toNat < a0.length:=by first|omega|(simp;omega)
    refine sA ?_
    refine zj2 ?_
    obtain ⟨hp5,hs1⟩:=zjK hs1
    have hn5:g561.t13.toNat < a1.length:=by first|omega|(simp;omega)
    refine sA ?_
    refine zj2 ?_
    first | refine And.intro ⟨by kernel_rfl,by kernel_rfl,by kernel_rfl⟩ ?_ | skip
    refine sA ?_
    refine zjO hs1 (λ hs1 hc7=>?_) (λ hs1 hc7=>?_)
    ·refine sA ?_
     cases hs1
     cases hk1
     try dsimp only at h
     refine sA ?_
     have he:=oi h
     subst he
     exact zjM ⟨[(4,(B false))],[],0,26⟩ []
    ·refine sA ?_
     cases hs1
     exact zjW hk1 (zjQ [])
   ·refine sA ?_
    cases hs1
    cases hk1
    try dsimp only at h
    refine sA ?_
    have he:=oi h
    subst he
    exact zjM ⟨[(4,(B true))],[],0,26⟩ []
theorem zgA {a0:(List EventT)} {a1:(List EventT)} {r:Bool} (h:zdW a0 a1=some r):Fn Tryz.prog 64 [(.lf true (.sl (a0.map zjU))),(.lf true (.sl (a1.map zjU)))] [] 0 (B r) [] 0:=by
 unfold zdW at h
 refine fc [] Tryz.func64 ?_
 simp only [Tryz.f64]
 refine sA ?_
 refine zj6 h (λ h hc1=>?_) (λ h hc1=>?_)
 ·refine sA ?_
  obtain ⟨hp2,h⟩:=zjK h
  refine sA ?_
  refine zj2 ?_
  obtain ⟨c565,hr3,h⟩:=zjJ h
  refine zjR (zgM hr3) ?_
  refine sA ?_
  have he:=oi h
  subst he
  exact zjM ⟨[(4,(B c565))],[],0,18⟩ []
 ·refine sA ?_
  have he:=oi h
  subst he
  exact zjM ⟨[(4,(B false))],[],0,18⟩ []
theorem ziB {a0:BranchT} {a1:(List EventT)} {r:Bool} (h:ze7 a0 a1=some r):Fn Tryz.prog 216 [(.ag [(.lf true (.sl (a0.fEv.map zjU)))]),(.ra true [.sl (a1.map zjU)])] [] 0 (B r) [] 0:=by
 unfold ze7 at h
 refine fc [] Tryz.func216 ?_
 simp only [Tryz.f216]
 refine sA ?_
 obtain ⟨c566,hr1,h⟩:=zjJ h
 refine zjR (zgA hr1) ?_
 refine sA ?_
 have he:=oi h
 subst he
 exact zjM ⟨[(3,(B c566))],[],0,8⟩ []
theorem zdS {a0:(List BranchT)} {a1:(List EventT)} {r:Int} (h:zq a0 a1=some r):Fn Tryz.prog 135 [(.lf true (.sl (a0.map zjN))),(.fn 216 [(.ra true [.sl (a1.map zjU)])])] [] 0 (I r) [] 0:=by
 unfold zq at h
 refine fc [(1000,[(0,0),(1,0)]),(1001,[(0,0),(1,0),(7,0),(8,0)]),(1002,[(0,0),(1,0),(7,0),(8,0),(9,0)]),(1003,[(0,0),(1,0),(5,0),(7,0),(8,0)]),(1004,[(0,0),(1,0),(5,0),(7,0),(8,0),(16,0)]),(1005,[(4,0)]),(1006,[(0,0),(1,0),(7,0),(8,0)]),(1007,[(4,0)])] Tryz.func135 ?_
 simp only [Tryz.f135]
 refine sA ?_
 obtain ⟨y569,hl1,h⟩:=zjJ h
 refine zj3 (λ g560:zk=>⟨[(0,(.lf true (.sl (a0.map zjN)))),(1,(.fn 216 [(.ra true [.sl (a1.map zjU)])])),(7,(I ((a0.length:Nat):Int))),(8,(I g560.t8))],[],0,19⟩) (zc a0 a1) _ _ hl1 (zjQ []) ?_
 ·intro n1 g560 z1 hs1 hk1
  unfold zc at hs1
  try dsimp only at hs1
  refine sA ?_
  refine zjO hs1 (λ hs1 hc2=>?_) (λ hs1 hc2=>?_)
  ·refine sA ?_
   obtain ⟨hp3,hs1⟩:=zjK hs1
   have hn3:g560.t8.toNat < a0.length:=by first|omega|(simp;omega)
   refine sA ?_
   refine zj2 ?_
   obtain ⟨c568,hr4,hs1⟩:=zjJ hs1
   refine zjR (ziB hr4) ?_
   refine sA ?_
   refine zjO hs1 (λ hs1 hc5=>?_) (λ hs1 hc5=>?_)
   ·refine sA ?_
    cases hs1
    cases hk1
    try dsimp only at h
    refine sA ?_
    cases h
    exact zjM ⟨[(4,(I g560.t8))],[],0,19⟩ []
   ·refine sA ?_
    cases hs1
    exact zjW hk1 (zjQ [])
  ·refine sA ?_
   cases hs1
   cases hk1
   try dsimp only at h
   refine sA ?_
   cases h
   exact zjM ⟨[(4,(I (-1)))],[],0,19⟩ []
theorem zdb {a0:(List BranchT)} {a1:(List EventT)} {r:Bool} (h:zf a0 a1=some r):Fn Tryz.prog 62 [(.lf true (.sl (a0.map zjN))),(.fn 216 [(.ra true [.sl (a1.map zjU)])])] [] 0 (B r) [] 0:=by
 unfold zf at h
 refine fc [] Tryz.func62 ?_
 simp only [Tryz.f62]
 refine sA ?_
 obtain ⟨c572,hr1,h⟩:=zjJ h
 refine zjR (zdS hr1) ?_
 refine sA ?_
 cases h
 exact zjM ⟨[(4,(B (decide (c572 ≥ 0))))],[],0,9⟩ []
theorem ziC {a0:BranchT} {a1:(List EventT)} {r:Bool} (h:zaG a0 a1=some r):Fn Tryz.prog 218 [(.ag [(.lf true (.sl (a0.fEv.map zjU)))]),(.ra true [.sl (a1.map zjU)])] [] 0 (B r) [] 0:=by
 unfold zaG at h
 refine fc [] Tryz.func218 ?_
 simp only [Tryz.f218]
 refine sA ?_
 obtain ⟨c574,hr1,h⟩:=zjJ h
 refine zjR (zgA hr1) ?_
 refine sA ?_
 have he:=oi h
 subst he
 exact zjM ⟨[(3,(B c574))],[],0,8⟩ []
theorem zfo {a0:List BranchT} {a1:List EventT} {m0:Nat} {x0:Bool} {r:List BranchT} (h:zv a0 a1=some r):Fn Tryz.prog 217 [(.os 0 1 0 a0.length m0 x0),(.fn 218 [(.pb 1 0)])] [(0,some (false,.deep [.sl [.sc,.sc,.sc,.sc]] (a0.map zjN))),(1,some (false,.box [(.lf true (.sl (a1.map zjU)))]))] 2 (.os 0 1 0 r.length r.length false) [(0,some (false,.deep [.sl [.sc,.sc,.sc,.sc]] (r.map zjN))),(1,some (false,.box [(.lf true (.sl (a1.map zjU)))]))] 2:=by
 unfold zv at h
 obtain ⟨⟨hp1,hp2⟩,h⟩:=zjK h
 have he:=oi h;subst he
 refine zAN (E:=zjN) (X:=λ b:BranchT=>.sl (b.fEv.map zjU)) (λ _=>rfl) (p:=λ b=>(zaG b a1).getD false) (λ x y e=>by rw [zAM e]) (enters_of (P:=Tryz.prog) Tryz.func218 (by kernel_rfl) rfl) (λ b hb=>?_) hp1
 have hs:=List.all_eq_true.1 hp2 b hb
 obtain ⟨v,hv⟩:=Option.isSome_iff_exists.1 hs
 rw [hv]
 exact ⟨_,ziC hv⟩
theorem zje {a0:BranchT} {a1:BranchT} {r:Int} (h:zfQ a0 a1=some r):Fn Tryz.prog 220 [(.ag [(.lf true (.sl (a0.fEv.map zjU)))]),(.ag [(.lf true (.sl (a1.fEv.map zjU)))])] [] 0 (I r) [] 0:=by
 unfold zfQ at h
 refine fc [] Tryz.func220 ?_
 simp only [Tryz.f220]
 refine sA ?_
 obtain ⟨c581,hr1,h⟩:=zjJ h
 refine zjR (zfn hr1) ?_
 refine sA ?_
 have he:=oi h
 subst he
 exact zjM ⟨[(4,(I c581))],[],0,10⟩ []
theorem zfB {a0:List BranchT} {m0:Nat} {x0:Bool} {r:List BranchT} (h:zD a0=some r):Fn Tryz.prog 219 [(.os 0 1 0 a0.length m0 x0),(.fn 220 [])] [(0,some (false,.deep [.sl [.sc,.sc,.sc,.sc]] (a0.map zjN)))] 1 (.tu []) [(0,some (false,.deep [.sl [.sc,.sc,.sc,.sc]] (r.map zjN)))] 1:=by
 unfold zD at h
 obtain ⟨⟨hp1,hp2,hp3⟩,h⟩:=zjK h
 have he:=oi h;subst he
 have e1:Ent Tryz.prog (Tryz.sortB_ren.f 6):=(Ent.of Tryz.func219 rfl (by simp [Tryz.f219]):Ent Tryz.prog 219)
 have e2:=enters_of (P:=Tryz.prog) Tryz.func220 (by kernel_rfl) rfl
 have key:=zzv (s:=.sl [.sc,.sc,.sc,.sc]) (E:=zjN) (X:=λ b:BranchT=>.sl (b.fEv.map zjU)) Go.Proofs.Tryz.sortB e1 Tryz.sortBAgg Tryz.sortBSize (λ _=>rfl) (cf:=λ a b=>(zkR a.fEv b.fEv).1) zve e2 (l:=a0) (R:=zrF brL a0) (λ x hx y hy=>⟨_,zje (by have h1:=List.all_eq_true.1 hp2 x hx;have h2:=List.all_eq_true.1 hp2 y hy;exact zzw (of_decide_eq_true h1) (of_decide_eq_true h2))⟩) (x0:=x0) (m0:=m0) hp1 (λ r hp hs=>zx0 hp3 hp hs)
 have e0:Tryz.sortB_ren.f 6=219:=rfl
 rw [e0] at key
 exact key
theorem zgc {a0:TellingsT} {a1:(List EventT)} {r:TellingsT} (h:zb6 a0 a1=some r):Fn Tryz.prog 175 [(.ag [(.lf true (.sl (a0.fBr.map zjN)))]),(.lf true (.sl (a1.map zjU)))] [] 0 (.ag [(.os 0 1 0 r.fBr.length r.fBr.length false)]) [(0,some (true,.deep [.sl [.sc,.sc,.sc,.sc]] (r.fBr.map zjN)))] 2:=by
 unfold zb6 at h
 refine fc [(5,[(1,3),(1,5)]),(1000,[(2,0),(3,0),(4,0)]),(1001,[(3,0),(4,0),(5,0)]),(1002,[(3,0),(4,0),(5,0),(11,0)]),(1003,[(4,0)]),(1004,[(3,0),(4,0),(5,0)]),(1005,[(4,0),(5,0)]),(1006,[(4,0),(5,0)]),(1007,[(4,0)]),(5006,[])] Tryz.func175 ?_
 simp only [Tryz.f175]
 refine sA ?_
 obtain ⟨c577,hr1,h⟩:=zjJ h
 refine zjR (zcO hr1) ?_
 refine sA ?_
 obtain ⟨c578,hr2,h⟩:=zjJ h
 refine zjR (zdb hr2) ?_
 refine sA ?_
 refine zjO h (λ h hc3=>?_) (λ h hc3=>?_)
 ·refine sA ?_
  have he:=oi h
  subst he
  exact zjM ⟨[(4,(.pb 1 0))],[(0,some (true,.deep [.sl [.sc,.sc,.sc,.sc]] (c577.fBr.map zjN))),(1,some (true,.box [(.os 0 1 0 c577.fBr.length c577.fBr.length false)]))],2,30⟩ [some 3,some 2]
 ·refine sA ?_
  obtain ⟨c579,hr4,h⟩:=zjJ h
  refine zll [3,1] (zfo hr4) ?_
  refine sA ?_
  obtain ⟨c580,hr5,h⟩:=zjJ h
  refine zjR (zab hr5) ?_
  refine sA ?_
  obtain ⟨hp6,h⟩:=zjK h
  refine sA ?_
  refine zj2 ?_
  refine zt4 8 ?_
  refine sA ?_
  obtain ⟨c582,hr7,h⟩:=zjJ h
  refine zll [8] (zfB hr7) ?_
  refine sA ?_
  obtain ⟨hp8,h⟩:=zjK h
  try rw [← hp8]
  refine sA ?_
  cases h
  exact zjM ⟨[(4,(.pb 1 0))],[(0,some (true,.deep [.sl [.sc,.sc,.sc,.sc]] (c582.map zjN))),(1,some (true,.box [(.os 0 1 0 c582.length c582.length false)]))],2,30⟩ [some 8,some 2]
theorem zgd {a0:RegionT} {a1:Int} {a2:ByteArray} {r:Int} (h:zy a0 a1 a2=some r):Fn Tryz.prog 137 [(.ra true [.sc (.int .i64 a0.Id),.sc (.int .i64 a0.fVe),.sl (a0.fTe.fBr.map zjN)]),(I a1),(.lf false (.sc (.string a2)))] [] 0 (I r) [] 0:=by
 unfold zy at h
 refine fc [(14,[(4,6),(8,6),(12,6),(4,16),(4,17),(16,16)]),(1000,[(0,0),(1,0),(2,0)]),(1001,[(0,0),(1,0),(2,0),(7,0)]),(1002,[(0,0),(1,0),(2,0),(7,0),(8,0)]),(1003,[(0,0),(1,0),(2,0),(7,0),(8,0),(9,0)]),(1004,[(0,0),(1,0),(2,0),(7,0),(8,0),(9,0),(25,0)]),(1005,[(6,0)]),(1006,[(0,0),(1,0),(2,0),(7,0),(8,0),(9,0),(34,0)]),(1007,[(6,0)]),(1008,[(0,0),(1,0),(2,0),(7,0),(8,0),(9,0),(38,0)]),(1009,[(6,0)]),(1010,[(0,0),(1,0),(2,0),(7,0),(8,0),(47,0)]),(1011,[(6,0)]),(1012,[(0,0),(1,0),(2,0),(7,0),(8,0),(50,0)]),(1013,[(6,0)]),(1014,[]),(1015,[(6,0)]),(4004,[]),(4008,[])] Tryz.func137 ?_
 simp only [Tryz.f137]
 refine sA ?_
 obtain ⟨c458,hr1,h⟩:=zjJ h
 refine zjR (zfx hr1) ?_
 refine sA ?_
 obtain ⟨c539,hr2,h⟩:=zjJ h
 refine zjR (zf2 hr2) ?_
 refine sA ?_
 obtain ⟨c547,hr3,h⟩:=zjJ h
 refine zjR (zht hr3) ?_
 refine sA ?_
 obtain ⟨p550,hq4,h⟩:=zjJ h
 refine zki (λ s2=>s2=⟨[(0,(.ra true [.sc (.int .i64 a0.Id),.sc (.int .i64 a0.fVe),.sl (a0.fTe.fBr.map zjN)])),(1,(I a1)),(2,(.lf false (.sc (.string a2)))),(7,(.lf true (.sl (c458.map zjU)))),(8,(.pb 0 0)),(9,(B c547.1)),(25,(B p550.t25))],[(0,some (true,.box [(I c539.fSt),(I c539.Next),(B c539.fCa),(I c539.Done),(.os 1 1 0 c539.fSi.length c539.fSi.length false),(.os 2 1 0 c539.fTi.length c539.fTi.length false)])),(1,some (true,.arr false 1 (c539.fSi.map eS))),(2,some (true,.arr false 1 (c539.fTi.map eS)))],3,75⟩) ?_ ?_
 ·refine sA ?_
  obtain ⟨c548,hr5,hq4⟩:=zjJ hq4
  refine zjR (ze9 hr5) ?_
  refine sA ?_
  refine zj6 hq4 (λ hq4 hc6=>?_) (λ hq4 hc6=>?_)
  ·refine sA ?_
   cases hq4
   exact zj1 rfl (zjQ [some 3,some 0,some 1])
  ·refine sA ?_
   obtain ⟨c549,hr7,hq4⟩:=zjJ hq4
   refine zjR (zdR hr7) ?_
   refine sA ?_
   cases hq4
   exact zj1 rfl (zjQ [some 3,some 0,some 1])
 ·intro s2 hJ;subst hJ
  try dsimp only at h
  refine sA ?_
  refine zjO h (λ h hc8=>?_) (λ h hc8=>?_)
  ·refine sA ?_
   have he:=oi h
   subst he
   exact zjM ⟨[(6,(I 1))],[],0,75⟩ []
  ·refine sA ?_
   obtain ⟨c551,hr9,h⟩:=zjJ h
   refine zjR (zd1 hr9) ?_
   refine sA ?_
   refine zjO h (λ h hc10=>?_) (λ h hc10=>?_)
   ·refine sA ?_
    have he:=oi h
    subst he
    exact zjM ⟨[(6,(I 2))],[],0,75⟩ []
   ·refine sA ?_
    obtain ⟨p553,hq11,h⟩:=zjJ h
    refine zki (λ s2=>s2=⟨[(0,(.ra true [.sc (.int .i64 a0.Id),.sc (.int .i64 a0.fVe),.sl (a0.fTe.fBr.map zjN)])),(1,(I a1)),(2,(.lf false (.sc (.string a2)))),(7,(.lf true (.sl (c458.map zjU)))),(8,(.pb 0 0)),(9,(B c547.1)),(38,(B p553.t38))],[(0,some (true,.box [(I c539.fSt),(I c539.Next),(B c539.fCa),(I c539.Done),(.os 1 1 0 c539.fSi.length c539.fSi.length false),(.os 2 1 0 c539.fTi.length c539.fTi.length false)])),(1,some (true,.arr false 1 (c539.fSi.map eS))),(2,some (true,.arr false 1 (c539.fTi.map eS)))],3,75⟩) ?_ ?_
    ·refine sA ?_
     refine zj6 hq11 (λ hq11 hc12=>?_) (λ hq11 hc12=>?_)
     ·refine sA ?_
      obtain ⟨c552,hr13,hq11⟩:=zjJ hq11
      refine zjR (zaj hr13) ?_
      refine sA ?_
      cases hq11
      exact zj1 rfl (zjQ [some 0,some 1,some 2])
     ·refine sA ?_
      cases hq11
      exact zj1 rfl (zjQ [some 0,some 1,some 2])
    ·intro s2 hJ;subst hJ
     try dsimp only at h
     refine sA ?_
     refine zjO h (λ h hc14=>?_) (λ h hc14=>?_)
     ·refine sA ?_
      have he:=oi h
      subst he
      exact zjM ⟨[(6,(I 5))],[],0,75⟩ []
     ·refine sA ?_
      refine zjO h (λ h hc15=>?_) (λ h hc15=>?_)
      ·refine sA ?_
       have he:=oi h
       subst he
       exact zjM ⟨[(6,(I 3))],[],0,75⟩ []
      ·refine sA ?_
       refine zjO h (λ h hc16=>?_) (λ h hc16=>?_)
       ·refine sA ?_
        have he:=oi h
        subst he
        exact zjM ⟨[(6,(I 4))],[],0,75⟩ []
       ·refine sA ?_
        obtain ⟨c554,hr17,h⟩:=zjJ h
        refine zjR (zab hr17) ?_
        refine sA ?_
        obtain ⟨hp18,h⟩:=zjK h
        refine sA ?_
        refine zj2 ?_
        obtain ⟨c583,hr19,h⟩:=zjJ h
        refine zjR (zgc hr19) ?_
        refine sA ?_
        cases h
theorem zge {a0:(List RegionT)} {i0:Nat} {f0:RegionT} {a3:Int} {a4:ByteArray} {r:(Int×(List RegionT))} (h:zQ a0 i0 f0 a3 a4=some r):Fn Tryz.prog 137 [(.pe 0 3 i0 0),(I a3),(.lf false (.sc (.string a4)))] [(0,some (false,.foc [.sc,.sc,.sl [.sl [.sc,.sc,.sc,.sc]]] (a0.map zjS) i0 [(I f0.Id),(I f0.fVe),(.lf true (.sl (f0.fTe.fBr.map zjN)))]))] 1 (I r.1) [(0,some (false,.deep [.sc,.sc,.sl [.sl [.sc,.sc,.sc,.sc]]] (r.2.map zjS)))] 1:=by
 unfold zQ at h
 refine fc [(14,[(4,6),(8,6),(12,6),(4,16),(4,17),(16,16)]),(1000,[(0,0),(1,0),(2,0)]),(1001,[(0,0),(1,0),(2,0),(7,0)]),(1002,[(0,0),(1,0),(2,0),(7,0),(8,0)]),(1003,[(0,0),(1,0),(2,0),(7,0),(8,0),(9,0)]),(1004,[(0,0),(1,0),(2,0),(7,0),(8,0),(9,0),(25,0)]),(1005,[(6,0)]),(1006,[(0,0),(1,0),(2,0),(7,0),(8,0),(9,0),(34,0)]),(1007,[(6,0)]),(1008,[(0,0),(1,0),(2,0),(7,0),(8,0),(9,0),(38,0)]),(1009,[(6,0)]),(1010,[(0,0),(1,0),(2,0),(7,0),(8,0),(47,0)]),(1011,[(6,0)]),(1012,[(0,0),(1,0),(2,0),(7,0),(8,0),(50,0)]),(1013,[(6,0)]),(1014,[]),(1015,[(6,0)])] Tryz.func137 ?_
 simp only [Tryz.f137]
 refine sA ?_
 obtain ⟨c587,hr1,h⟩:=zjJ h
 refine zjR (zfx hr1) ?_
 refine sA ?_
 obtain ⟨c588,hr2,h⟩:=zjJ h
 refine zjR (zf2 hr2) ?_
 refine sA ?_
 obtain ⟨c589,hr3,h⟩:=zjJ h
 refine zjR (zht hr3) ?_
 refine sA ?_
 obtain ⟨c590,hr4,h⟩:=zjJ h
 refine zjR (ze9 hr4) ?_
 refine sA ?_
 refine zj6 h (λ h hc5=>?_) (λ h hc5=>?_)
 ·cases h
 ·refine sA ?_
  obtain ⟨c591,hr6,h⟩:=zjJ h
  refine zjR (zdR hr6) ?_
  refine sA ?_
  refine zjO h (λ h hc7=>?_) (λ h hc7=>?_)
  ·cases h
  ·refine sA ?_
   obtain ⟨c592,hr8,h⟩:=zjJ h
   refine zjR (zd1 hr8) ?_
   refine sA ?_
   refine zjO h (λ h hc9=>?_) (λ h hc9=>?_)
   ·cases h
   ·refine sA ?_
    refine zj6 h (λ h hc10=>?_) (λ h hc10=>?_)
    ·refine sA ?_
     obtain ⟨c593,hr11,h⟩:=zjJ h
     refine zjR (zaj hr11) ?_
     refine sA ?_
     refine zjO h (λ h hc12=>?_) (λ h hc12=>?_)
     ·cases h
     ·refine sA ?_
      refine zjO h (λ h hc13=>?_) (λ h hc13=>?_)
      ·cases h
      ·refine sA ?_
       refine zjO h (λ h hc14=>?_) (λ h hc14=>?_)
       ·cases h
       ·refine sA ?_
        obtain ⟨c594,hr15,h⟩:=zjJ h
        refine zjR (zab hr15) ?_
        refine sA ?_
        obtain ⟨hp16,h⟩:=zjK h
        refine sA ?_
        refine zj2 ?_
        obtain ⟨c595,hr17,h⟩:=zjJ h
        refine zjR (zgc hr17) ?_
        refine sA ?_
        cases h
        refine zlv 0 ?_
        refine sA ?_
        exact zjM ⟨[(6,(I 0))],[(0,some (false,.deep [.sc,.sc,.sl [.sl [.sc,.sc,.sc,.sc]]] ((a0.set i0 (⟨f0.Id,f0.fVe,c595⟩:RegionT)).map zjS)))],1,75⟩ [some 0]
    ·refine sA ?_
     refine zjO h (λ h hc18=>?_) (λ h hc18=>?_)
     ·cases h
     ·refine sA ?_
      refine zjO h (λ h hc19=>?_) (λ h hc19=>?_)
      ·cases h
      ·refine sA ?_
       obtain ⟨c596,hr20,h⟩:=zjJ h
       refine zjR (zab hr20) ?_
       refine sA ?_
       obtain ⟨hp21,h⟩:=zjK h
       refine sA ?_
       refine zj2 ?_
       obtain ⟨c597,hr22,h⟩:=zjJ h
       refine zjR (zgc hr22) ?_
       refine sA ?_
       cases h
       refine zlv 0 ?_
       refine sA ?_
       exact zjM ⟨[(6,(I 0))],[(0,some (false,.deep [.sc,.sc,.sl [.sl [.sc,.sc,.sc,.sc]]] ((a0.set i0 (⟨f0.Id,f0.fVe,c597⟩:RegionT)).map zjS)))],1,75⟩ [some 0]
theorem zjf {a0:Int} {r:Bool} (h:zfM a0=some r):Fn Tryz.prog 59 [(I a0)] [] 0 (B r) [] 0:=by
 unfold zfM at h
 refine fc [] Tryz.func59 ?_
 simp only [Tryz.f59]
 refine sA ?_
 obtain ⟨c601,hr1,h⟩:=zjJ h
 refine zjR (zdP hr1) ?_
 refine sA ?_
 have he:=oi h
 subst he
 exact zjM ⟨[(2,(B c601))],[],0,5⟩ []
theorem zh7 {a0:Int} {a1:Int} {r:(Int×Bool)} (h:zcZ a0 a1=some r):Fn Tryz.prog 245 [(I a0),(I a1)] [] 0 (.tu [(I r.1),(B r.2)]) [] 0:=by
 unfold zcZ at h
 refine fc [(1000,[(0,0),(1,0)]),(1001,[(0,0),(1,0),(14,0)]),(1002,[(4,0),(5,0)]),(1003,[(0,0),(6,0)]),(1004,[(6,0),(23,0)]),(1005,[(6,0)]),(1006,[(6,0),(28,0)]),(1007,[(4,0),(5,0)]),(1008,[(4,0),(5,0)]),(2023,[]),(4001,[])] Tryz.func245 ?_
 simp only [Tryz.f245]
 refine sA ?_
 obtain ⟨p603,hq1,h⟩:=zjJ h
 refine zki (λ s2=>s2=⟨[(0,(I a0)),(1,(I a1)),(14,(B p603.t14))],[],0,30⟩) ?_ ?_
 ·refine sA ?_
  obtain ⟨c600,hr2,hq1⟩:=zjJ hq1
  refine zjR (zfV hr2) ?_
  refine sA ?_
  refine zj6 hq1 (λ hq1 hc3=>?_) (λ hq1 hc3=>?_)
  ·refine sA ?_
   cases hq1
   exact zj1 rfl (zjQ [])
  ·refine sA ?_
   obtain ⟨c602,hr4,hq1⟩:=zjJ hq1
   refine zjR (zjf hr4) ?_
   refine sA ?_
   cases hq1
   exact zj1 rfl (zjQ [])
 ·intro s2 hJ;subst hJ
  try dsimp only at h
  refine sA ?_
  refine zjO h (λ h hc5=>?_) (λ h hc5=>?_)
  ·refine sA ?_
   cases h
   exact zjM ⟨[(4,(I 0)),(5,(B false))],[],0,30⟩ []
  ·refine sA ?_
   obtain ⟨p604,hq6,h⟩:=zjJ h
   refine zki (λ s2=>s2=⟨[(6,(I p604.t6))],[],0,30⟩) ?_ ?_
   ·refine sA ?_
    refine zjO hq6 (λ hq6 hc7=>?_) (λ hq6 hc7=>?_)
    ·refine sA ?_
     cases hq6
     exact zj1 rfl (zjQ [])
    ·refine sA ?_
     cases hq6
     exact zj1 rfl (zjQ [])
   ·intro s2 hJ;subst hJ
    try dsimp only at h
    refine sA ?_
    obtain ⟨c605,hr8,h⟩:=zjJ h
    refine zjR (zfV hr8) ?_
    refine sA ?_
    refine zjO h (λ h hc9=>?_) (λ h hc9=>?_)
    ·refine sA ?_
     cases h
     exact zjM ⟨[(4,(I 0)),(5,(B false))],[],0,30⟩ []
    ·refine sA ?_
     cases h
     exact zjM ⟨[(4,(I p604.t6)),(5,(B true))],[],0,30⟩ []
theorem zhu {a0:(List RegionT)} {i0:Nat} {r:(Bool×(List RegionT))} (h:zbJ a0 i0=some r):Fn Tryz.prog 204 [(.pe 0 3 i0 0)] [(0,some (false,.deep [.sc,.sc,.sl [.sl [.sc,.sc,.sc,.sc]]] (a0.map zjS)))] 1 (B r.1) [(0,some (false,.deep [.sc,.sc,.sl [.sl [.sc,.sc,.sc,.sc]]] (r.2.map zjS)))] 1:=by
 unfold zbJ at h
 refine fc [(1000,[(0,0)]),(1001,[(0,0),(3,0),(4,0)]),(1002,[(0,0),(3,0),(4,0),(17,0)]),(1003,[(4,0)]),(1004,[(2,0)]),(5003,[])] Tryz.func204 ?_
 simp only [Tryz.f204]
 refine sA ?_
 obtain ⟨hp1,h⟩:=zjK h
 have hn1:i0 < a0.length:=by first|omega|(simp;omega)
 refine sA ?_
 refine zj2 ?_
 obtain ⟨hp2,h⟩:=zjK h
 have hn2:i0 < a0.length:=by first|omega|(simp;omega)
 refine sA ?_
 refine zj2 ?_
 obtain ⟨c608,hr3,h⟩:=zjJ h
 refine zjR (zh7 hr3) ?_
 refine sA ?_
 refine zjO h (λ h hc4=>?_) (λ h hc4=>?_)
 ·refine sA ?_
  obtain ⟨hp5,h⟩:=zjK h
  refine zmf 0 i0 ?_
  refine sA ?_
  cases h
  refine zlv 0 ?_
  refine sA ?_
  exact zjM ⟨[(2,(B c608.2))],[(0,some (false,.deep [.sc,.sc,.sl [.sl [.sc,.sc,.sc,.sc]]] ((a0.set i0 (⟨(nth a0 i0).Id,c608.1,((nth a0 i0).fTe)⟩:RegionT)).map zjS)))],1,23⟩ [some 0]
 ·refine sA ?_
  cases h
  exact zjM ⟨[(2,(B c608.2))],[(0,some (false,.deep [.sc,.sc,.sl [.sl [.sc,.sc,.sc,.sc]]] (a0.map zjS)))],1,23⟩ [some 0]
theorem zeW {a0:Bool} {r:Int} (h:zb8 a0=some r):Fn Tryz.prog 203 [(B a0)] [] 0 (I r) [] 0:=by
 unfold zb8 at h
 refine fc [(1000,[(0,0)]),(1001,[(3,0)]),(1002,[(2,0)]),(1003,[(2,0)])] Tryz.func203 ?_
 simp only [Tryz.f203]
 refine sA ?_
 refine zjO h (λ h hc1=>?_) (λ h hc1=>?_)
 ·refine sA ?_
  have he:=oi h
  subst he
  exact zjM ⟨[(2,(I 0))],[],0,4⟩ []
 ·refine sA ?_
  have he:=oi h
  subst he
  exact zjM ⟨[(2,(I 1))],[],0,4⟩ []
theorem zhG {a0:RegionT} {r:WordT} (h:zcc a0=some r):Fn Tryz.prog 72 [(.ra true [.sc (.int .i64 a0.Id),.sc (.int .i64 a0.fVe),.sl (a0.fTe.fBr.map zjN)])] [] 0 (.ag [(I r.fVe),(.os 0 1 0 r.fTe.fBr.length r.fTe.fBr.length false)]) [(0,some (true,.deep [.sl [.sc,.sc,.sc,.sc]] (r.fTe.fBr.map zjN)))] 2:=by
 unfold zcc at h
 refine fc [(1,[(3,8)])] Tryz.func72 ?_
 simp only [Tryz.f72]
 refine sA ?_
 obtain ⟨c611,hr1,h⟩:=zjJ h
 refine zjR (zcO hr1) ?_
 refine sA ?_
 cases h
 exact zjM ⟨[(2,(.pb 1 0))],[(0,some (true,.deep [.sl [.sc,.sc,.sc,.sc]] (c611.fBr.map zjN))),(1,some (true,.box [(I a0.fVe),(.os 0 1 0 c611.fBr.length c611.fBr.length false)]))],2,13⟩ [some 1,some 0]
theorem zg0 {a0:SaidT} {r:SaidT} (h:zcW a0=some r):Fn Tryz.prog 167 [(.ag [(I a0.To),(I a0.Word.fVe),(.lf true (.sl (a0.Word.fTe.fBr.map zjN)))])] [] 0 (.ag [(I r.To),(I r.Word.fVe),(.os 0 1 0 r.Word.fTe.fBr.length r.Word.fTe.fBr.length false)]) [(0,some (true,.deep [.sl [.sc,.sc,.sc,.sc]] (r.Word.fTe.fBr.map zjN)))] 2:=by
 unfold zcW at h
 refine fc [(1000,[(1,0),(2,0)]),(1001,[(1,0),(2,0)]),(1002,[(2,0)])] Tryz.func167 ?_
 simp only [Tryz.f167]
 refine sA ?_
 obtain ⟨c613,hr1,h⟩:=zjJ h
 refine zjR (zcO hr1) ?_
 refine sA ?_
 cases h
 exact zjM ⟨[(2,(.pb 1 0))],[(0,some (true,.deep [.sl [.sc,.sc,.sc,.sc]] (c613.fBr.map zjN))),(1,some (true,.box [(I a0.To),(I a0.Word.fVe),(.os 0 1 0 c613.fBr.length c613.fBr.length false)]))],2,10⟩ [some 2,some 1]
theorem zhv {a0:(List EventT)} {r:(List ByteArray)} (h:zeu a0=some r):Fn Tryz.prog 140 [(.lf true (.sl (a0.map zjU)))] [] 0 (.os 0 1 0 r.length r.length false) [(0,some (true,.arr false 1 (r.map eS)))] 1:=by
 unfold zeu at h
 refine fc [(1000,[(0,0)]),(1001,[(0,0),(3,0)]),(1002,[(3,0),(7,0),(8,0),(9,0)]),(1003,[(3,0),(7,0),(8,0),(9,0),(10,0)]),(1004,[(3,0),(5,0),(7,0),(8,0),(9,0)]),(1005,[(3,0),(5,0),(7,0),(8,0),(9,0),(15,0)]),(1006,[(3,0),(7,0),(8,0),(9,0)]),(1007,[(3,0),(7,0),(8,0),(9,0)]),(1008,[(2,0)])] Tryz.func140 ?_
 simp only [Tryz.f140]
 refine sA ?_
 obtain ⟨y621,hl1,h⟩:=zjJ h
 refine zj3 (λ g620:ze4=>⟨[(3,(.os 0 1 0 g620.c0.length g620.c0.length false)),(7,(.lf true (.sl (a0.map zjU)))),(8,(I ((a0.length:Nat):Int))),(9,(I g620.t9))],[(0,some (true,.arr false 1 (g620.c0.map eS)))],1,23⟩) (zcq a0) _ _ hl1 (zjQ [some 0]) ?_
 ·intro n1 g620 z1 hs1 hk1
  unfold zcq at hs1
  try dsimp only at hs1
  refine sA ?_
  refine zjO hs1 (λ hs1 hc2=>?_) (λ hs1 hc2=>?_)
  ·refine sA ?_
   obtain ⟨hp3,hs1⟩:=zjK hs1
   have hn3:g620.t9.toNat < a0.length:=by first|omega|(simp;omega)
   refine sA ?_
   refine zj2 ?_
   refine zjO hs1 (λ hs1 hc4=>?_) (λ hs1 hc4=>?_)
   ·refine sA ?_
    obtain ⟨hp5,hs1⟩:=zjK hs1
    refine sA ?_
    refine zj2 ?_
    cases hs1
    exact zjW hk1 (zjQ [some 3])
   ·refine sA ?_
    cases hs1
    exact zjW hk1 (zjQ [some 0])
  ·refine sA ?_
   cases hs1
   cases hk1
   try dsimp only at h
   refine sA ?_
   cases h
   exact zjM ⟨[(2,(.os 0 1 0 g620.c0.length g620.c0.length false))],[(0,some (true,.arr false 1 (g620.c0.map eS)))],1,23⟩ [some 0]
theorem zhk {a0:List ByteArray} {m0:Nat} {x0:Bool} {r:List ByteArray} (h:zcH a0=some r):Fn Tryz.prog 143 [(.os 0 1 0 a0.length m0 x0)] [(0,some (false,.arr true 1 (a0.map eS)))] 1 (.tu []) [(0,some (false,.arr false 1 (r.map eS)))] 1:=by
 unfold zcH at h
 obtain ⟨hp1,h⟩:=zjK h
 have he:=oi h;subst he
 have e1:Ent Tryz.prog (Tryz.lays190_ren.f 190):=(Ent.of Tryz.func143 rfl (by simp [Tryz.f143]):Ent Tryz.prog 143)
 have key:=zzz (E:=eS) (m0:=m0) (x0:=x0) (t0:=true) (t1:=false) Go.Proofs.Tryz.lays190 e1 (λ _=>rfl) hp1
 have e0:Tryz.lays190_ren.f 190=143:=rfl
 rw [e0] at key
 exact key
theorem zgN {a0:List ByteArray} {m0:Nat} {x0:Bool} {r:List ByteArray} (h:zbE a0=some r):Fn Tryz.prog 144 [(.os 0 1 0 a0.length m0 x0)] [(0,some (false,.arr true 1 (a0.map eS)))] 1 (.os 1 1 0 r.length r.length false) [(0,none),(1,some (false,.arr false 1 (r.map eS)))] 2:=by
 unfold zbE at h
 obtain ⟨hp1,h⟩:=zjK h
 have he:=oi h;subst he
 have e1:Ent Tryz.prog (Tryz.lays194_ren.f 194):=(Ent.of Tryz.func144 rfl (by simp [Tryz.f144]):Ent Tryz.prog 144)
 have key:=zzB (E:=eS) (m0:=m0) (x0:=x0) (t0:=true) Go.Proofs.Tryz.lays194 e1 (λ _=>rfl) hp1
 have e0:Tryz.lays194_ren.f 194=144:=rfl
 rw [e0] at key
 exact key
theorem zh8 {a0:TellingsT} {r:(List ByteArray)} (h:zc2 a0=some r):Fn Tryz.prog 71 [(.ag [(.lf true (.sl (a0.fBr.map zjN)))])] [] 0 (.os 0 1 0 r.length r.length false) [(0,some (true,.arr false 1 (r.map eS)))] 1:=by
 unfold zc2 at h
 refine fc [(1000,[(1,0)]),(1001,[(1,0),(3,0),(4,0)]),(1002,[(3,0),(4,0),(14,0),(15,0),(16,0)]),(1003,[(3,0),(4,0),(14,0),(15,0),(16,0),(17,0)]),(1004,[(3,0),(4,0),(6,0),(14,0),(15,0),(16,0)]),(1005,[(3,0),(4,0),(14,0),(15,0),(16,0),(22,0),(23,0),(24,0)]),(1006,[(3,0),(4,0),(14,0),(15,0),(16,0),(22,0),(23,0),(24,0),(25,0)]),(1007,[(3,0),(4,0),(8,0),(14,0),(15,0),(16,0),(22,0),(23,0),(24,0)]),(1008,[(3,0),(4,0),(8,0),(14,0),(15,0),(16,0),(22,0),(23,0),(24,0),(31,0)]),(1009,[(3,0),(4,0),(14,0),(15,0),(16,0),(22,0),(23,0),(24,0)]),(1010,[(3,0),(4,0),(14,0),(15,0),(16,0),(22,0),(23,0),(24,0)]),(1011,[(3,0),(4,0),(14,0),(15,0),(16,0)]),(1012,[(4,0)]),(1013,[(2,0)])] Tryz.func71 ?_
 simp only [Tryz.f71]
 refine sA ?_
 obtain ⟨c619,hr1,h⟩:=zjJ h
 refine zjR (zfx hr1) ?_
 refine sA ?_
 obtain ⟨c622,hr2,h⟩:=zjJ h
 refine zjR (zhv hr2) ?_
 refine sA ?_
 obtain ⟨y634,hl3,h⟩:=zjJ h
 refine zj3 (λ g623:zdg=>⟨[(3,(.os 0 1 0 c622.length c622.length false)),(4,(.os 1 1 0 g623.c1.length g623.c1.length false)),(14,(.lf true (.sl (a0.fBr.map zjN)))),(15,(I ((a0.fBr.length:Nat):Int))),(16,(I g623.t16))],[(0,some (true,.arr false 1 (c622.map eS))),(1,some (true,.arr false 1 (g623.c1.map eS)))],2,42⟩) (zaP a0 c622) _ _ hl3 (zjQ [some 1,some 2]) ?_
 ·intro n1 g623 z1 hs1 hk1
  unfold zaP at hs1
  try dsimp only at hs1
  refine sA ?_
  refine zjO hs1 (λ hs1 hc4=>?_) (λ hs1 hc4=>?_)
  ·refine sA ?_
   obtain ⟨hp5,hs1⟩:=zjK hs1
   have hn5:g623.t16.toNat < a0.fBr.length:=by first|omega|(simp;omega)
   refine sA ?_
   refine zj2 ?_
   obtain ⟨c629,hr6,hs1⟩:=zjJ hs1
   refine zjR (zhv hr6) ?_
   refine sA ?_
   obtain ⟨y633,hl7,hs1⟩:=zjJ hs1
   refine zj3 (λ g630:zdh=>⟨[(3,(.os 0 1 0 c622.length c622.length false)),(4,(.os 1 1 0 g630.c1.length g630.c1.length false)),(14,(.lf true (.sl (a0.fBr.map zjN)))),(15,(I ((a0.fBr.length:Nat):Int))),(16,(I g623.t16)),(22,(.os 2 1 0 c629.length c629.length false)),(23,(I ((c629.length:Nat):Int))),(24,(I g630.t24))],[(0,some (true,.arr false 1 (c622.map eS))),(1,some (true,.arr false 1 (g630.c1.map eS))),(2,some (true,.arr false 1 (c629.map eS)))],3,42⟩) (z7 c629 c622) _ _ hl7 (zjQ [some 0,some 1,some 3]) ?_
   ·intro n2 g630 z2 hs2 hk2
    unfold z7 at hs2
    try dsimp only at hs2
    refine sA ?_
    refine zjO hs2 (λ hs2 hc8=>?_) (λ hs2 hc8=>?_)
    ·refine sA ?_
     obtain ⟨hp9,hs2⟩:=zjK hs2
     have hn9:g630.t24.toNat < c629.length:=by first|omega|(simp;omega)
     refine sA ?_
     refine zj2 ?_
     refine zm4 ?_
     refine sA ?_
     obtain ⟨c632,hr11,hs2⟩:=zjJ hs2
     refine zjR (zaj hr11) ?_
     refine sA ?_
     refine zjO hs2 (λ hs2 hc12=>?_) (λ hs2 hc12=>?_)
     ·refine sA ?_
      obtain ⟨hp13,hs2⟩:=zjK hs2
      refine sA ?_
      refine zj2 ?_
      cases hs2
      exact zjW hk2 (zjQ [some 0,some 4,some 2])
     ·refine sA ?_
      cases hs2
      exact zjW hk2 (zjQ [some 0,some 1,some 2])
    ·refine sA ?_
     cases hs2
     cases hk2
     try dsimp only at hs1
     refine sA ?_
     cases hs1
     exact zjW hk1 (zjQ [some 0,some 1])
  ·refine sA ?_
   cases hs1
   cases hk1
   try dsimp only at h
   refine sA ?_
   obtain ⟨c637,hr14,h⟩:=zjJ h
   refine zll [1] (zhk hr14) ?_
   refine sA ?_
   obtain ⟨hp15,h⟩:=zjK h
   try rw [← hp15]
   refine sA ?_
   obtain ⟨c638,hr16,h⟩:=zjJ h
   refine zll [1] (zgN hr16) ?_
   refine sA ?_
   have he:=oi h
   subst he
   exact zjM ⟨[(2,(.os 0 1 0 c638.length c638.length false))],[(0,some (true,.arr false 1 (c638.map eS)))],1,42⟩ [some 2]
theorem zg1 {a0:(List RegionT)} {i0:Nat} {r:(Int×(List RegionT))} (h:zaU a0 i0=some r):Fn Tryz.prog 67 [(.pe 0 3 i0 0)] [(0,some (false,.deep [.sc,.sc,.sl [.sl [.sc,.sc,.sc,.sc]]] (a0.map zjS)))] 1 (I r.1) [(0,some (false,.deep [.sc,.sc,.sl [.sl [.sc,.sc,.sc,.sc]]] (r.2.map zjS)))] 1:=by
 unfold zaU at h
 refine fc [(1000,[(0,0)]),(1001,[(0,0),(3,0)]),(1002,[(0,0),(3,0),(10,0),(11,0),(12,0)]),(1003,[(0,0),(3,0),(10,0),(11,0),(12,0),(13,0)]),(1004,[(0,0),(3,0),(5,0),(10,0),(11,0),(12,0)]),(1005,[(0,0),(3,0),(10,0),(11,0),(12,0),(19,0)]),(1006,[(0,0),(3,0),(10,0),(11,0),(12,0)]),(1007,[(0,0),(3,0),(10,0),(11,0),(12,0)]),(1008,[(2,0)]),(5002,[]),(5005,[])] Tryz.func67 ?_
 simp only [Tryz.f67]
 refine sA ?_
 obtain ⟨hp1,h⟩:=zjK h
 refine zmf 0 i0 ?_
 refine sA ?_
 obtain ⟨c643,hr2,h⟩:=zjJ h
 refine zjR (zh8 hr2) ?_
 refine sA ?_
 obtain ⟨y649,hl3,h⟩:=zjJ h
 refine zj3 (λ g644:zbb=>⟨[(0,(.pe 0 3 i0 0)),(3,(I g644.t3)),(10,(.os 1 1 0 c643.length c643.length false)),(11,(I ((c643.length:Nat):Int))),(12,(I g644.t12))],[(0,some (false,.deep [.sc,.sc,.sl [.sl [.sc,.sc,.sc,.sc]]] (g644.c0.map zjS))),(1,some (true,.arr false 1 (c643.map eS)))],2,24⟩) (zw c643 i0) _ _ hl3 (zob 0 (zjQ [some 0,some 4])) ?_
 ·intro n1 g644 z1 hs1 hk1
  unfold zw at hs1
  try dsimp only at hs1
  refine sA ?_
  refine zjO hs1 (λ hs1 hc4=>?_) (λ hs1 hc4=>?_)
  ·refine sA ?_
   obtain ⟨hp5,hs1⟩:=zjK hs1
   have hn5:g644.t12.toNat < c643.length:=by first|omega|(simp;omega)
   refine sA ?_
   refine zj2 ?_
   refine zm4 ?_
   refine sA ?_
   obtain ⟨hp7,hs1⟩:=zjK hs1
   refine zmf 0 i0 ?_
   refine sA ?_
   cases hab8:zy (⟨(nth g644.c0 i0).Id,(nth g644.c0 i0).fVe,((nth g644.c0 i0).fTe)⟩:RegionT) 2 (nth c643 g644.t12.toNat) with
   | some c647 =>
    rw [hab8] at hs1
    try dsimp only at hs1
    refine zjR (zgd hab8) ?_
    refine sA ?_
    refine zjO hs1 (λ hs1 hc9=>?_) (λ hs1 hc9=>?_)
    ·refine sA ?_
     cases hs1
     exact zjW hk1 (zob 0 (zjQ [some 0,some 1]))
    ·refine sA ?_
     cases hs1
     exact zjW hk1 (zob 0 (zjQ [some 0,some 1]))
   | none =>
    rw [hab8] at hs1
    try dsimp only at hs1
    obtain ⟨c648,hr10,hs1⟩:=zjJ hs1
    refine zzn [0] (zge hr10) ?_
    refine sA ?_
    refine zjO hs1 (λ hs1 hc11=>?_) (λ hs1 hc11=>?_)
    ·refine sA ?_
     cases hs1
     exact zjW hk1 (zjQ [some 0,some 1])
    ·refine sA ?_
     cases hs1
     exact zjW hk1 (zjQ [some 0,some 1])
  ·refine sA ?_
   cases hs1
   cases hk1
   try dsimp only at h
   refine sA ?_
   cases h
   exact zjM ⟨[(2,(I g644.t3))],[(0,some (false,.deep [.sc,.sc,.sl [.sl [.sc,.sc,.sc,.sc]]] (g644.c0.map zjS)))],1,24⟩ [some 0]
theorem zhl {a0:WorldT} {a1:SaidT} {m1:Nat} {x1:Bool} {m2:Nat} {x2:Bool} {m3:Nat} {x3:Bool} {r:(Bool×WorldT)} (h:zbn a0 a1=some r):Fn Tryz.prog 205 [(.pb 0 0),(.ag [(I a1.To),(I a1.Word.fVe),(.os 3 1 0 a1.Word.fTe.fBr.length m3 x3)])] [(0,some (false,.box [(.os 1 3 0 a0.fRe.length m1 x1),(.os 2 3 0 a0.Line.length m2 x2)])),(1,some (false,.deep [.sc,.sc,.sl [.sl [.sc,.sc,.sc,.sc]]] (a0.fRe.map zjS))),(2,some (false,.deep [.sc,.sc,.sl [.sl [.sc,.sc,.sc,.sc]]] (a0.Line.map zj5))),(3,some (false,.deep [.sl [.sc,.sc,.sc,.sc]] (a1.Word.fTe.fBr.map zjN)))] 4 (B r.1) [(0,some (false,.box [(.os 1 3 0 a0.fRe.length a0.fRe.length false),(.os 4 3 0 r.2.Line.length r.2.Line.length false)])),(1,some (false,.deep [.sc,.sc,.sl [.sl [.sc,.sc,.sc,.sc]]] (a0.fRe.map zjS))),(2,none),(3,some (false,.deep [.sl [.sc,.sc,.sc,.sc]] (a1.Word.fTe.fBr.map zjN))),(4,some (false,.deep [.sc,.sc,.sl [.sl [.sc,.sc,.sc,.sc]]] (r.2.Line.map zj5)))] 5:=by
 unfold zbn at h
 refine fc [(3,[(4,6),(4,7)]),(1000,[(0,0),(3,0)]),(1001,[(0,0),(3,0),(10,0)]),(1002,[(4,0)]),(1003,[]),(1004,[(4,0)])] Tryz.func205 ?_
 simp only [Tryz.f205]
 refine sA ?_
 refine zjO h (λ h hc1=>?_) (λ h hc1=>?_)
 ·refine sA ?_
  cases h
  exact zjM ⟨[(4,(B false))],[(0,some (false,.box [(.os 1 3 0 a0.fRe.length a0.fRe.length false),(.os 4 3 0 a0.Line.length a0.Line.length false)])),(1,some (false,.deep [.sc,.sc,.sl [.sl [.sc,.sc,.sc,.sc]]] (a0.fRe.map zjS))),(2,none),(3,some (false,.deep [.sl [.sc,.sc,.sc,.sc]] (a1.Word.fTe.fBr.map zjN))),(4,some (false,.deep [.sc,.sc,.sl [.sl [.sc,.sc,.sc,.sc]]] (a0.Line.map zj5)))],5,22⟩ [some 0,some 1,some 2,some 3,some 2]
 ·refine sA ?_
  obtain ⟨c667,hr2,h⟩:=zjJ h
  refine zjR (zg0 hr2) ?_
  refine sA ?_
  obtain ⟨hp3,h⟩:=zjK h
  refine sA ?_
  refine zj2 ?_
  cases h
  refine zlv 8 ?_
  refine sA ?_
  exact zjM ⟨[(4,(B true))],[(0,some (false,.box [(.os 1 3 0 a0.fRe.length a0.fRe.length false),(.os 4 3 0 ((a0.Line++[c667]).length) ((a0.Line++[c667]).length) false)])),(1,some (false,.deep [.sc,.sc,.sl [.sl [.sc,.sc,.sc,.sc]]] (a0.fRe.map zjS))),(2,none),(3,some (false,.deep [.sl [.sc,.sc,.sc,.sc]] (a1.Word.fTe.fBr.map zjN))),(4,some (false,.deep [.sc,.sc,.sl [.sl [.sc,.sc,.sc,.sc]]] ((a0.Line++[c667]).map zj5)))],5,22⟩ [some 0,some 1,some 2,some 3,some 8]
theorem zgO {a0:WorldT} {a1:WorldStepT} {m1:Nat} {x1:Bool} {m2:Nat} {x2:Bool} {r:(Int×WorldT×(List RegionT))} (h:zaz a0 a1=some r):Fn Tryz.prog 150 [(.pb 0 0),(.ag [(I a1.Kind),(I a1.Region),(I a1.What),(.lf false (.sc (.string a1.Name))),(I a1.K)])] [(0,some (false,.box [(.os 1 3 0 a0.fRe.length m1 x1),(.os 2 3 0 a0.Line.length m2 x2)])),(1,some (false,.deep [.sc,.sc,.sl [.sl [.sc,.sc,.sc,.sc]]] (a0.fRe.map zjS))),(2,some (false,.deep [.sc,.sc,.sl [.sl [.sc,.sc,.sc,.sc]]] (a0.Line.map zj5)))] 3 (I r.1) [(0,some (false,.box [(.os 1 3 0 r.2.2.length r.2.2.length false),(.os 3 3 0 r.2.1.Line.length r.2.1.Line.length false)])),(1,some (false,.deep [.sc,.sc,.sl [.sl [.sc,.sc,.sc,.sc]]] (r.2.2.map zjS))),(2,none),(3,some (false,.deep [.sc,.sc,.sl [.sl [.sc,.sc,.sc,.sc]]] (r.2.1.Line.map zj5)))] 4:=by
 unfold zaz at h
 refine fc [(10,[(2,5)]),(1000,[(0,0),(3,0)]),(1001,[(0,0),(3,0),(9,0)]),(1002,[(4,0)]),(1003,[(0,0),(3,0),(5,0)]),(1004,[(0,0),(3,0),(5,0),(18,0)]),(1005,[(0,0),(3,0),(5,0),(18,0),(19,0)]),(1006,[(4,0)]),(1007,[(0,0),(3,0),(5,0),(18,0),(27,0)]),(1008,[(4,0)]),(1009,[(0,0),(3,0),(5,0),(32,0)]),(1010,[(4,0)]),(1011,[(4,0)]),(5006,[])] Tryz.func150 ?_
 simp only [Tryz.f150]
 refine sA ?_
 obtain ⟨c661,hr1,h⟩:=zjJ h
 refine zjR (zjq hr1) ?_
 refine sA ?_
 refine zjO h (λ h hc2=>?_) (λ h hc2=>?_)
 ·refine sA ?_
  cases h
  exact zjM ⟨[(4,(I 1))],[(0,some (false,.box [(.os 1 3 0 a0.fRe.length a0.fRe.length false),(.os 3 3 0 a0.Line.length a0.Line.length false)])),(1,some (false,.deep [.sc,.sc,.sl [.sl [.sc,.sc,.sc,.sc]]] (a0.fRe.map zjS))),(2,none),(3,some (false,.deep [.sc,.sc,.sl [.sl [.sc,.sc,.sc,.sc]]] (a0.Line.map zj5)))],4,51⟩ [some 0,some 1,some 2,some 2]
 ·refine sA ?_
  obtain ⟨hp3,h⟩:=zjK h
  have hn3:a1.Region.toNat < a0.fRe.length:=by first|omega|(simp;omega)
  refine sA ?_
  refine zj2 ?_
  refine zjO h (λ h hc4=>?_) (λ h hc4=>?_)
  ·refine sA ?_
   obtain ⟨hp5,h⟩:=zjK h
   refine zmf 1 a1.Region.toNat ?_
   refine sA ?_
   cases hab6:zy (⟨(nth a0.fRe a1.Region.toNat).Id,(nth a0.fRe a1.Region.toNat).fVe,((nth a0.fRe a1.Region.toNat).fTe)⟩:RegionT) a1.What a1.Name with
   | some c662 =>
    rw [hab6] at h
    try dsimp only at h
    refine zjR (zgd hab6) ?_
    refine sA ?_
    cases h
    refine zlv 1 ?_
    refine sA ?_
    exact zjM ⟨[(4,(I c662))],[(0,some (false,.box [(.os 1 3 0 ((a0.fRe.set a1.Region.toNat (⟨(nth a0.fRe a1.Region.toNat).Id,(nth a0.fRe a1.Region.toNat).fVe,((nth a0.fRe a1.Region.toNat).fTe)⟩:RegionT)).length) ((a0.fRe.set a1.Region.toNat (⟨(nth a0.fRe a1.Region.toNat).Id,(nth a0.fRe a1.Region.toNat).fVe,((nth a0.fRe a1.Region.toNat).fTe)⟩:RegionT)).length) false),(.os 3 3 0 a0.Line.length a0.Line.length false)])),(1,some (false,.deep [.sc,.sc,.sl [.sl [.sc,.sc,.sc,.sc]]] ((a0.fRe.set a1.Region.toNat (⟨(nth a0.fRe a1.Region.toNat).Id,(nth a0.fRe a1.Region.toNat).fVe,((nth a0.fRe a1.Region.toNat).fTe)⟩:RegionT)).map zjS))),(2,none),(3,some (false,.deep [.sc,.sc,.sl [.sl [.sc,.sc,.sc,.sc]]] (a0.Line.map zj5)))],4,51⟩ [some 0,some 1,some 2,some 2]
   | none =>
    rw [hab6] at h
    try dsimp only at h
    obtain ⟨c663,hr7,h⟩:=zjJ h
    refine zzn [1] (zge hr7) ?_
    refine sA ?_
    obtain ⟨hp8,h⟩:=zjK h
    try rw [← hp8]
    refine sA ?_
    cases h
    exact zjM ⟨[(4,(I c663.1))],[(0,some (false,.box [(.os 1 3 0 c663.2.length c663.2.length false),(.os 3 3 0 a0.Line.length a0.Line.length false)])),(1,some (false,.deep [.sc,.sc,.sl [.sl [.sc,.sc,.sc,.sc]]] (c663.2.map zjS))),(2,none),(3,some (false,.deep [.sc,.sc,.sl [.sl [.sc,.sc,.sc,.sc]]] (a0.Line.map zj5)))],4,51⟩ [some 0,some 1,some 2,some 2]
  ·refine sA ?_
   refine zjO h (λ h hc9=>?_) (λ h hc9=>?_)
   ·refine sA ?_
    obtain ⟨c664,hr10,h⟩:=zjJ h
    refine zll [1] (zhu hr10) ?_
    refine sA ?_
    obtain ⟨hp11,h⟩:=zjK h
    try rw [← hp11]
    refine sA ?_
    obtain ⟨c665,hr12,h⟩:=zjJ h
    refine zjR (zeW hr12) ?_
    refine sA ?_
    cases h
    exact zjM ⟨[(4,(I c665))],[(0,some (false,.box [(.os 1 3 0 c664.2.length c664.2.length false),(.os 3 3 0 a0.Line.length a0.Line.length false)])),(1,some (false,.deep [.sc,.sc,.sl [.sl [.sc,.sc,.sc,.sc]]] (c664.2.map zjS))),(2,none),(3,some (false,.deep [.sc,.sc,.sl [.sl [.sc,.sc,.sc,.sc]]] (a0.Line.map zj5)))],4,51⟩ [some 0,some 1,some 2,some 2]
   ·refine sA ?_
    refine zjO h (λ h hc13=>?_) (λ h hc13=>?_)
    ·refine sA ?_
     obtain ⟨c666,hr14,h⟩:=zjJ h
     refine zjR (zhG hr14) ?_
     refine sA ?_
     obtain ⟨c668,hr15,h⟩:=zjJ h
     refine zll [0,1,2,4] (zhl hr15) ?_
     refine sA ?_
     obtain ⟨c669,hr16,h⟩:=zjJ h
     refine zjR (zeW hr16) ?_
     refine sA ?_
     cases h
     exact zjM ⟨[(4,(I c669))],[(0,some (false,.box [(.os 1 3 0 a0.fRe.length a0.fRe.length false),(.os 3 3 0 c668.2.Line.length c668.2.Line.length false)])),(1,some (false,.deep [.sc,.sc,.sl [.sl [.sc,.sc,.sc,.sc]]] (a0.fRe.map zjS))),(2,none),(3,some (false,.deep [.sc,.sc,.sl [.sl [.sc,.sc,.sc,.sc]]] (c668.2.Line.map zj5)))],4,51⟩ [some 0,some 1,some 2,some 6]
    ·refine sA ?_
     obtain ⟨c670,hr17,h⟩:=zjJ h
     refine zjR (zd1 hr17) ?_
     refine sA ?_
     refine zj6 h (λ h hc18=>?_) (λ h hc18=>?_)
     ·refine sA ?_
      obtain ⟨c671,hr19,h⟩:=zjJ h
      refine zll [1] (zg1 hr19) ?_
      refine sA ?_
      obtain ⟨hp20,h⟩:=zjK h
      try rw [← hp20]
      refine sA ?_
      obtain ⟨c672,hr21,h⟩:=zjJ h
      refine zjR (zeW hr21) ?_
      refine sA ?_
      cases h
      exact zjM ⟨[(4,(I c672))],[(0,some (false,.box [(.os 1 3 0 c671.2.length c671.2.length false),(.os 3 3 0 a0.Line.length a0.Line.length false)])),(1,some (false,.deep [.sc,.sc,.sl [.sl [.sc,.sc,.sc,.sc]]] (c671.2.map zjS))),(2,none),(3,some (false,.deep [.sc,.sc,.sl [.sl [.sc,.sc,.sc,.sc]]] (a0.Line.map zj5)))],4,51⟩ [some 0,some 1,some 2,some 2]
     ·refine sA ?_
      obtain ⟨c673,hr22,h⟩:=zjJ h
      refine zjR (zeW hr22) ?_
      refine sA ?_
      cases h
      exact zjM ⟨[(4,(I c673))],[(0,some (false,.box [(.os 1 3 0 a0.fRe.length a0.fRe.length false),(.os 3 3 0 a0.Line.length a0.Line.length false)])),(1,some (false,.deep [.sc,.sc,.sl [.sl [.sc,.sc,.sc,.sc]]] (a0.fRe.map zjS))),(2,none),(3,some (false,.deep [.sc,.sc,.sl [.sl [.sc,.sc,.sc,.sc]]] (a0.Line.map zj5)))],4,51⟩ [some 0,some 1,some 2,some 2]
theorem zhm {a0:WorldT} {i2:Nat} {f2:SaidT} {a3:SaidT} {m1:Nat} {x1:Bool} {m3:Nat} {x3:Bool} {m2:Nat} {x2:Bool} {r:(Bool×WorldT)} (h:zbo a0 i2 f2 a3=some r):Fn Tryz.prog 205 [(.pb 0 0),(.ag [(I a3.To),(I a3.Word.fVe),(.os 3 1 0 f2.Word.fTe.fBr.length m3 x3)])] [(0,some (false,.box [(.os 1 3 0 a0.fRe.length m1 x1),(.os 2 3 0 a0.Line.length m2 x2)])),(1,some (false,.deep [.sc,.sc,.sl [.sl [.sc,.sc,.sc,.sc]]] (a0.fRe.map zjS))),(2,some (false,.foc [.sc,.sc,.sl [.sl [.sc,.sc,.sc,.sc]]] (a0.Line.map zj5) i2 [(I f2.To),(I f2.Word.fVe),(.os 3 1 0 f2.Word.fTe.fBr.length m3 x3)])),(3,some (false,.deep [.sl [.sc,.sc,.sc,.sc]] (f2.Word.fTe.fBr.map zjN)))] 4 (B r.1) [(0,some (false,.box [(.os 1 3 0 a0.fRe.length a0.fRe.length false),(.os 4 3 0 r.2.Line.length r.2.Line.length false)])),(1,some (false,.deep [.sc,.sc,.sl [.sl [.sc,.sc,.sc,.sc]]] (a0.fRe.map zjS))),(2,none),(3,none),(4,some (false,.deep [.sc,.sc,.sl [.sl [.sc,.sc,.sc,.sc]]] (r.2.Line.map zj5)))] 5:=by
 unfold zbo at h
 refine fc [(3,[(4,6),(4,7)]),(1000,[(0,0),(3,0)]),(1001,[(0,0),(3,0),(10,0)]),(1002,[(4,0)]),(1003,[]),(1004,[(4,0)])] Tryz.func205 ?_
 simp only [Tryz.f205]
 refine sA ?_
 refine zjO h (λ h hc1=>?_) (λ h hc1=>?_)
 ·refine sA ?_
  cases h
  refine zlv 2 ?_
  refine sA ?_
  exact zjM ⟨[(4,(B false))],[(0,some (false,.box [(.os 1 3 0 a0.fRe.length a0.fRe.length false),(.os 4 3 0 ((a0.Line.set i2 f2).length) ((a0.Line.set i2 f2).length) false)])),(1,some (false,.deep [.sc,.sc,.sl [.sl [.sc,.sc,.sc,.sc]]] (a0.fRe.map zjS))),(2,none),(3,none),(4,some (false,.deep [.sc,.sc,.sl [.sl [.sc,.sc,.sc,.sc]]] ((a0.Line.set i2 f2).map zj5)))],5,22⟩ [some 0,some 1,some 2,some 3,some 2]
 ·refine sA ?_
  obtain ⟨c677,hr2,h⟩:=zjJ h
  refine zjR (zg0 hr2) ?_
  refine sA ?_
  obtain ⟨hp3,h⟩:=zjK h
  refine sA ?_
  refine zj2 ?_
  cases h
  refine zlv 8 ?_
  refine sA ?_
  exact zjM ⟨[(4,(B true))],[(0,some (false,.box [(.os 1 3 0 a0.fRe.length a0.fRe.length false),(.os 4 3 0 (((a0.Line.set i2 f2)++[c677]).length) (((a0.Line.set i2 f2)++[c677]).length) false)])),(1,some (false,.deep [.sc,.sc,.sl [.sl [.sc,.sc,.sc,.sc]]] (a0.fRe.map zjS))),(2,none),(3,none),(4,some (false,.deep [.sc,.sc,.sl [.sl [.sc,.sc,.sc,.sc]]] (((a0.Line.set i2 f2)++[c677]).map zj5)))],5,22⟩ [some 0,some 1,some 2,some 3,some 8]
theorem zvj:zzo Tryz.prog 206 40:=by
 intro β f1 f2 f3 a0 a1 a2 m0 x0 hp1 hp2 hp3 hp4
 refine fc [] Tryz.func206 ?_
 simp only [Tryz.f206]
 simp (disch:=assumption) only [go_sem,qA,qB,qC,qD,↓reduceIte,qE,reduceCtorEq,qF,qH,qI,qJ,qK,qG]
 refine And.intro (by omega) ?_
 try simp (disch:=assumption) only [go_sem,qA,qB,qC,qD,↓reduceIte,qE,reduceCtorEq,qF,qH,qI,qJ,qK,qG]
 refine zoH (a1 == a2) (by first | rfl | simp) (λ hc=>?_) (λ hc=>?_)
 ·try simp (disch:=assumption) only [go_sem,qA,qB,qC,qD,↓reduceIte,qE,reduceCtorEq,qF,qH,qI,qJ,qK,qG]
  have he:a1=a2:=by simpa using hc
  have hr:a0.take a1.toNat++a0.drop a2.toNat=a0:=by rw [he];exact List.take_append_drop _ _
  rw [hr]
  refine zlC ⟨[(6,(.os 1 3 0 a0.length a0.length false))],[(0,none),(1,some (false,.arr true 3 (a0.map (E3 f1 f2 f3))))],2,33⟩ (zlT (m:=1) [some 0,some 0] rfl rfl rfl (by rfl) ?_ ?_) ?_
  all_goals ((try simp (disch:=assumption) only [go_sem,qA,qB,qC,qD,↓reduceIte,qE,reduceCtorEq,qF,qH,qI,qJ,qK,qG]);(repeat' first | done | rfl | omega | refine And.intro ?_ ?_ | (simp;done) | (simp;omega)))
 ·try simp (disch:=assumption) only [go_sem,qA,qB,qC,qD,↓reduceIte,qE,reduceCtorEq,qF,qH,qI,qJ,qK,qG]
  refine And.intro (by omega) (And.intro (by omega) ?_)
  have hs:a2.toNat+(a0.length - a2.toNat)≤a0.length:=by omega
  simp (disch:=assumption) only [go_sem,qA,qB,qC,qD,↓reduceIte,qE,reduceCtorEq,qF,qH,qI,qJ,qK,qG,hs]
  have hd:(a0.drop a2.toNat).length=a0.length - a2.toNat:=List.length_drop
  have ht:(a0.take a1.toNat).length=a1.toNat:=by rw [List.length_take];omega
  have hR:(a0.take a1.toNat++a0.drop a2.toNat).length=a1.toNat+(a0.drop a2.toNat).length:=by rw [qM,ht]
  refine And.intro ⟨by omega,(by first | exact zma λ _=>rfl | simp),by omega⟩ (And.intro ⟨by omega,by omega,by omega⟩ (And.intro (by omega) ?_))
  refine zlC ⟨[(6,(.os 1 3 0 (a0.take a1.toNat++a0.drop a2.toNat).length (a0.take a1.toNat++a0.drop a2.toNat).length false))],[(0,none),(1,some (false,.arr true 3 ((a0.take a1.toNat++a0.drop a2.toNat).map (E3 f1 f2 f3))))],2,33⟩ (zlT (m:=1) [some 0,some 1] rfl rfl rfl (by rfl) ?_ ?_) ?_
  all_goals ((try simp (disch:=assumption) only [go_sem,qA,qB,qC,qD,↓reduceIte,qE,reduceCtorEq,qF,qH,qI,qJ,qK,qG]);(repeat' first | done | rfl | omega | refine And.intro ?_ ?_ | (simp;done) | (simp;omega)))
theorem zgx {a0:List SaidT} {i0:Nat} {f0:SaidT} {a1 a2:Int} {m0:Nat} {x0:Bool} {r:List SaidT} (h:zaa a0 i0 f0 a1 a2=some r):Fn Tryz.prog 206 [(.os 0 3 0 a0.length m0 x0),(I a1),(I a2)] [(0,some (false,.foc [.sc,.sc,.sl [.sl [.sc,.sc,.sc,.sc]]] (a0.map zj5) i0 [(I f0.To),(I f0.Word.fVe),(.lf true (.sl (f0.Word.fTe.fBr.map zjN)))]))] 1 (.os 1 3 0 r.length r.length false) [(0,none),(1,some (false,.deep [.sc,.sc,.sl [.sl [.sc,.sc,.sc,.sc]]] (r.map zj5)))] 2:=by
 unfold zaa at h
 obtain ⟨⟨hp1,hp2,hp3,hp4⟩,h⟩:=zjK h
 have he:=oi h;subst he
 subst hp2;subst hp3
 have key:=zAF zvj (ss:=[.sc,.sc,.sl [.sl [.sc,.sc,.sc,.sc]]]) rfl (rows:=a0.map zj5) (p:=i0) (ks:=[(I f0.To),(I f0.Word.fVe),(.lf true (.sl (f0.Word.fTe.fBr.map zjN)))]) (m0:=m0) (x0:=x0) rfl (by rw [qO];exact hp1) (by rw [qO];exact hp4)
 rw [← List.map_take,← List.map_drop,← List.map_append,qO,qO] at key
 exact key
theorem ziU {a0:(List EventT)} {r:Bool} (h:zel a0=some r):Fn Tryz.prog 91 [(.lf true (.sl (a0.map zjU)))] [] 0 (B r) [] 0:=by
 unfold zel at h
 refine fc [(1000,[(0,0)]),(1001,[(0,0),(9,0)]),(1002,[(2,0)]),(1003,[(0,0),(10,0),(11,0),(12,0)]),(1004,[(0,0),(10,0),(11,0),(12,0),(13,0)]),(1005,[(0,0),(3,0),(4,0),(10,0),(11,0),(12,0)]),(1006,[(0,0),(10,0),(11,0),(12,0),(29,0)]),(1007,[(2,0)]),(1008,[(0,0),(10,0),(11,0),(12,0)]),(1009,[(0,0),(6,0)]),(1010,[(2,0)]),(4006,[])] Tryz.func91 ?_
 simp only [Tryz.f91]
 refine sA ?_
 refine zjO h (λ h hc1=>?_) (λ h hc1=>?_)
 ·refine sA ?_
  have he:=oi h
  subst he
  exact zjM ⟨[(2,(B false))],[],0,40⟩ []
 ·refine sA ?_
  obtain ⟨y685,hl2,h⟩:=zjJ h
  refine zj3 (λ g682:zd3=>⟨[(0,(.lf true (.sl (a0.map zjU)))),(10,(.lf true (.sl (a0.map zjU)))),(11,(I ((a0.length:Nat):Int))),(12,(I g682.t12))],[],0,40⟩) (zbr a0) _ _ hl2 (zjQ []) ?_
  ·intro n1 g682 z1 hs1 hk1
   unfold zbr at hs1
   try dsimp only at hs1
   refine sA ?_
   refine zjO hs1 (λ hs1 hc3=>?_) (λ hs1 hc3=>?_)
   ·refine sA ?_
    obtain ⟨hp4,hs1⟩:=zjK hs1
    have hn4:g682.t12.toNat < a0.length:=by first|omega|(simp;omega)
    refine sA ?_
    refine zj2 ?_
    obtain ⟨p684,hq5,hs1⟩:=zjJ hs1
    refine zki (λ s2=>s2=⟨[(0,(.lf true (.sl (a0.map zjU)))),(10,(.lf true (.sl (a0.map zjU)))),(11,(I ((a0.length:Nat):Int))),(12,(I g682.t12)),(29,(B p684.t29))],[],0,40⟩) ?_ ?_
    ·refine sA ?_
     refine zj6 hq5 (λ hq5 hc6=>?_) (λ hq5 hc6=>?_)
     ·refine sA ?_
      obtain ⟨hp7,hq5⟩:=zjK hq5
      have hn7:(wI (g682.t12 - 1)).toNat < a0.length:=by first|omega|(simp;omega)
      refine sA ?_
      refine zj2 ?_
      cases hq5
      exact zj1 rfl (zjQ [])
     ·refine sA ?_
      cases hq5
      exact zj1 rfl (zjQ [])
    ·intro s2 hJ;subst hJ
     try dsimp only at hs1
     refine sA ?_
     refine zjO hs1 (λ hs1 hc8=>?_) (λ hs1 hc8=>?_)
     ·refine sA ?_
      cases hs1
      cases hk1
      try dsimp only at h
      refine sA ?_
      have he:=oi h
      subst he
      exact zjM ⟨[(2,(B false))],[],0,40⟩ []
     ·refine sA ?_
      cases hs1
      exact zjW hk1 (zjQ [])
   ·refine sA ?_
    cases hs1
    cases hk1
    try dsimp only at h
    refine sA ?_
    obtain ⟨c689,hr9,h⟩:=zjJ h
    refine zjR (zgK hr9) ?_
    refine sA ?_
    cases h
    exact zjM ⟨[(2,(B (c689.2 == ((a0.length:Nat):Int))))],[],0,40⟩ []
theorem ziV {a0:(List EventT)} {r:Bool} (h:zem a0=some r):Fn Tryz.prog 61 [(.lf true (.sl (a0.map zjU)))] [] 0 (B r) [] 0:=by
 unfold zem at h
 refine fc [] Tryz.func61 ?_
 simp only [Tryz.f61]
 refine sA ?_
 refine zj6 h (λ h hc1=>?_) (λ h hc1=>?_)
 ·refine sA ?_
  obtain ⟨c690,hr2,h⟩:=zjJ h
  refine zjR (ziU hr2) ?_
  refine sA ?_
  have he:=oi h
  subst he
  exact zjM ⟨[(2,(B c690))],[],0,10⟩ []
 ·refine sA ?_
  have he:=oi h
  subst he
  exact zjM ⟨[(2,(B false))],[],0,10⟩ []
theorem zgk {a0:TellingsT} {r:Bool} (h:zbs a0=some r):Fn Tryz.prog 60 [(.ag [(.lf true (.sl (a0.fBr.map zjN)))])] [] 0 (B r) [] 0:=by
 unfold zbs at h
 refine fc [(1000,[(1,0)]),(1001,[(1,0),(10,0)]),(1002,[(2,0)]),(1003,[(1,0),(12,0),(13,0),(14,0)]),(1004,[(1,0),(12,0),(13,0),(14,0),(15,0)]),(1005,[(1,0),(3,0),(4,0),(12,0),(13,0),(14,0)]),(1006,[(1,0),(3,0),(4,0),(12,0),(13,0),(14,0),(22,0)]),(1007,[(2,0)]),(1008,[(1,0),(4,0),(12,0),(13,0),(14,0),(26,0),(27,0),(28,0)]),(1009,[(1,0),(4,0),(12,0),(13,0),(14,0),(26,0),(27,0),(28,0),(29,0)]),(1010,[(1,0),(4,0),(6,0),(12,0),(13,0),(14,0),(26,0),(27,0),(28,0)]),(1011,[(1,0),(4,0),(12,0),(13,0),(14,0),(26,0),(27,0),(28,0),(44,0)]),(1012,[(2,0)]),(1013,[(1,0),(4,0),(12,0),(13,0),(14,0),(26,0),(27,0),(28,0)]),(1014,[(1,0),(12,0),(13,0),(14,0)]),(1015,[(2,0)]),(4011,[])] Tryz.func60 ?_
 simp only [Tryz.f60]
 refine sA ?_
 refine zjO h (λ h hc1=>?_) (λ h hc1=>?_)
 ·refine sA ?_
  have he:=oi h
  subst he
  exact zjM ⟨[(2,(B false))],[],0,47⟩ []
 ·refine sA ?_
  obtain ⟨y713,hl2,h⟩:=zjJ h
  refine zj3 (λ g681:zas=>⟨[(1,(.pb 0 0)),(12,(.lf true (.sl (a0.fBr.map zjN)))),(13,(I ((a0.fBr.length:Nat):Int))),(14,(I g681.t14))],[(0,some (true,.box [(.lf true (.sl (a0.fBr.map zjN)))]))],1,47⟩) (zau a0) _ _ hl2 (zjQ [some 0]) ?_
  ·intro n1 g681 z1 hs1 hk1
   unfold zau at hs1
   try dsimp only at hs1
   refine sA ?_
   refine zjO hs1 (λ hs1 hc3=>?_) (λ hs1 hc3=>?_)
   ·refine sA ?_
    obtain ⟨hp4,hs1⟩:=zjK hs1
    have hn4:g681.t14.toNat < a0.fBr.length:=by first|omega|(simp;omega)
    refine sA ?_
    refine zj2 ?_
    obtain ⟨c702,hr5,hs1⟩:=zjJ hs1
    refine zjR (ziV hr5) ?_
    refine sA ?_
    refine zjO hs1 (λ hs1 hc6=>?_) (λ hs1 hc6=>?_)
    ·refine sA ?_
     cases hs1
     cases hk1
     try dsimp only at h
     refine sA ?_
     have he:=oi h
     subst he
     exact zjM ⟨[(2,(B false))],[],0,47⟩ []
    ·refine sA ?_
     obtain ⟨hp7,hs1⟩:=zjK hs1
     refine sA ?_
     refine zj2 ?_
     obtain ⟨y710,hl8,hs1⟩:=zjJ hs1
     refine zj3 (λ g703:zcE=>⟨[(1,(.pb 0 0)),(4,(.pb 1 0)),(12,(.lf true (.sl (a0.fBr.map zjN)))),(13,(I ((a0.fBr.length:Nat):Int))),(14,(I g681.t14)),(26,(.lf true (.sl ((a0.fBr.take g681.t14.toNat).map zjN)))),(27,(I (((a0.fBr.take g681.t14.toNat).length:Nat):Int))),(28,(I g703.t28))],[(0,some (true,.box [(.lf true (.sl (a0.fBr.map zjN)))])),(1,some (true,.box [(.lf true (.sl (((nth a0.fBr g681.t14.toNat).fEv).map zjU)))]))],2,47⟩) (zat a0 g681) _ _ hl8 (zjQ [some 0,some 1]) ?_
     ·intro n2 g703 z2 hs2 hk2
      unfold zat at hs2
      try dsimp only at hs2
      refine sA ?_
      refine zjO hs2 (λ hs2 hc9=>?_) (λ hs2 hc9=>?_)
      ·refine sA ?_
       obtain ⟨hp10,hs2⟩:=zjK hs2
       have hn10:g703.t28.toNat < (a0.fBr.take g681.t14.toNat).length:=by first|omega|(simp;omega)
       refine sA ?_
       refine zj2 ?_
       obtain ⟨p709,hq11,hs2⟩:=zjJ hs2
       refine zki (λ s2=>s2=⟨[(1,(.pb 0 0)),(4,(.pb 1 0)),(12,(.lf true (.sl (a0.fBr.map zjN)))),(13,(I ((a0.fBr.length:Nat):Int))),(14,(I g681.t14)),(26,(.lf true (.sl ((a0.fBr.take g681.t14.toNat).map zjN)))),(27,(I (((a0.fBr.take g681.t14.toNat).length:Nat):Int))),(28,(I g703.t28)),(44,(B p709.t44))],[(0,some (true,.box [(.lf true (.sl (a0.fBr.map zjN)))])),(1,some (true,.box [(.lf true (.sl (((nth a0.fBr g681.t14.toNat).fEv).map zjU)))]))],2,47⟩) ?_ ?_
       ·refine sA ?_
        obtain ⟨c707,hr12,hq11⟩:=zjJ hq11
        refine zjR (zfn hr12) ?_
        refine sA ?_
        refine zj6 hq11 (λ hq11 hc13=>?_) (λ hq11 hc13=>?_)
        ·refine sA ?_
         cases hq11
         exact zj1 rfl (zjQ [some 0,some 1])
        ·refine sA ?_
         obtain ⟨c708,hr14,hq11⟩:=zjJ hq11
         refine zjR (zgA hr14) ?_
         refine sA ?_
         cases hq11
         exact zj1 rfl (zjQ [some 0,some 1])
       ·intro s2 hJ;subst hJ
        try dsimp only at hs2
        refine sA ?_
        refine zjO hs2 (λ hs2 hc15=>?_) (λ hs2 hc15=>?_)
        ·refine sA ?_
         cases hs2
         cases hk2
         try dsimp only at hs1
         refine sA ?_
         cases hs1
         cases hk1
         try dsimp only at h
         refine sA ?_
         have he:=oi h
         subst he
         exact zjM ⟨[(2,(B false))],[],0,47⟩ []
        ·refine sA ?_
         cases hs2
         exact zjW hk2 (zjQ [some 0,some 1])
      ·refine sA ?_
       cases hs2
       cases hk2
       try dsimp only at hs1
       refine sA ?_
       cases hs1
       exact zjW hk1 (zjQ [some 0])
   ·refine sA ?_
    cases hs1
    cases hk1
    try dsimp only at h
    refine sA ?_
    have he:=oi h
    subst he
    exact zjM ⟨[(2,(B true))],[],0,47⟩ []
theorem zhH {a0:TellingsT} {a1:TellingsT} {r:(TellingsT×Bool)} (h:zce a0 a1=some r):Fn Tryz.prog 128 [(.ag [(.lf true (.sl (a0.fBr.map zjN)))]),(.ag [(.lf true (.sl (a1.fBr.map zjN)))])] [] 0 (.tu [(.ag [(.os 0 1 0 r.1.fBr.length r.1.fBr.length false)]),(B r.2)]) [(0,some (true,.deep [.sl [.sc,.sc,.sc,.sc]] (r.1.fBr.map zjN)))] 2:=by
 unfold zce at h
 refine fc [(1000,[(2,0),(3,0),(4,0)]),(1001,[(2,0),(3,0),(4,0),(16,0)]),(1002,[(4,0),(5,0)]),(1003,[(3,0),(4,0),(6,0)]),(1004,[(4,0),(6,0),(21,0),(22,0),(23,0)]),(1005,[(4,0),(6,0),(21,0),(22,0),(23,0),(24,0)]),(1006,[(4,0),(6,0),(8,0),(21,0),(22,0),(23,0)]),(1007,[(4,0),(6,0),(21,0),(22,0),(23,0)]),(1008,[(4,0),(6,0),(21,0),(22,0),(23,0)]),(1009,[(4,0),(6,0),(35,0)]),(1010,[(4,0),(5,0)]),(1011,[(4,0),(5,0)]),(4001,[])] Tryz.func128 ?_
 simp only [Tryz.f128]
 refine sA ?_
 obtain ⟨p718,hq1,h⟩:=zjJ h
 refine zki (λ s2=>s2=⟨[(2,(.pb 0 0)),(3,(.pb 1 0)),(4,(.pb 2 0)),(16,(B p718.t16))],[(0,some (true,.box [(.lf true (.sl (a0.fBr.map zjN)))])),(1,some (true,.box [(.lf true (.sl (a1.fBr.map zjN)))])),(2,some (true,.box [.nl]))],3,38⟩) ?_ ?_
 ·refine sA ?_
  obtain ⟨c716,hr2,hq1⟩:=zjJ hq1
  refine zjR (zgk hr2) ?_
  refine sA ?_
  refine zj6 hq1 (λ hq1 hc3=>?_) (λ hq1 hc3=>?_)
  ·refine sA ?_
   cases hq1
   exact zj1 rfl (zjQ [some 0,some 1,some 2])
  ·refine sA ?_
   obtain ⟨c717,hr4,hq1⟩:=zjJ hq1
   refine zjR (zgk hr4) ?_
   refine sA ?_
   cases hq1
   exact zj1 rfl (zjQ [some 0,some 1,some 2])
 ·intro s2 hJ;subst hJ
  try dsimp only at h
  refine sA ?_
  refine zjO h (λ h hc5=>?_) (λ h hc5=>?_)
  ·refine sA ?_
   cases h
   exact zjM ⟨[(4,(.pb 1 0)),(5,(B false))],[(0,some (true,.deep [.sl [.sc,.sc,.sc,.sc]] (([]:List BranchT).map zjN))),(1,some (true,.box [(.os 0 1 0 (([]:List BranchT).length) (([]:List BranchT).length) false)]))],2,38⟩ [none,some 2]
  ·refine sA ?_
   obtain ⟨c719,hr6,h⟩:=zjJ h
   refine zjR (zcO hr6) ?_
   refine sA ?_
   obtain ⟨y723,hl7,h⟩:=zjJ h
   refine zj3 (λ g720:zcr=>⟨[(4,(.pb 0 0)),(6,(.pb 1 0)),(21,(.lf true (.sl (a1.fBr.map zjN)))),(22,(I ((a1.fBr.length:Nat):Int))),(23,(I g720.t23))],[(0,some (true,.box [.nl])),(1,some (true,.box [(.os 2 1 0 g720.c2.length g720.c2.length false)])),(2,some (true,.deep [.sl [.sc,.sc,.sc,.sc]] (g720.c2.map zjN)))],3,38⟩) (zad a1) _ _ hl7 (zjQ [some 2,some 5,some 3]) ?_
   ·intro n1 g720 z1 hs1 hk1
    unfold zad at hs1
    try dsimp only at hs1
    refine sA ?_
    refine zjO hs1 (λ hs1 hc8=>?_) (λ hs1 hc8=>?_)
    ·refine sA ?_
     obtain ⟨hp9,hs1⟩:=zjK hs1
     have hn9:g720.t23.toNat < a1.fBr.length:=by first|omega|(simp;omega)
     refine sA ?_
     refine zj2 ?_
     obtain ⟨c722,hr10,hs1⟩:=zjJ hs1
     refine zjR (zgc hr10) ?_
     refine sA ?_
     cases hs1
     exact zjW hk1 (zjQ [some 0,some 1,some 4])
    ·refine sA ?_
     cases hs1
     cases hk1
     try dsimp only at h
     refine sA ?_
     refine zjO h (λ h hc11=>?_) (λ h hc11=>?_)
     ·refine sA ?_
      cases h
      exact zjM ⟨[(4,(.pb 1 0)),(5,(B false))],[(0,some (true,.deep [.sl [.sc,.sc,.sc,.sc]] (([]:List BranchT).map zjN))),(1,some (true,.box [(.os 0 1 0 (([]:List BranchT).length) (([]:List BranchT).length) false)]))],2,38⟩ [none,some 0]
     ·refine sA ?_
      cases h
      exact zjM ⟨[(4,(.pb 1 0)),(5,(B true))],[(0,some (true,.deep [.sl [.sc,.sc,.sc,.sc]] (g720.c2.map zjN))),(1,some (true,.box [(.os 0 1 0 g720.c2.length g720.c2.length false)]))],2,38⟩ [some 2,some 0]
theorem zg4 {a0:(List RegionT)} {i0:Nat} {a2:WordT} {m1:Nat} {x1:Bool} {r:(Bool×(List RegionT))} (h:zae a0 i0 a2=some r):Fn Tryz.prog 55 [(.pe 0 3 i0 0),(.ag [(I a2.fVe),(.os 1 1 0 a2.fTe.fBr.length m1 x1)])] [(0,some (false,.deep [.sc,.sc,.sl [.sl [.sc,.sc,.sc,.sc]]] (a0.map zjS))),(1,some (false,.deep [.sl [.sc,.sc,.sc,.sc]] (a2.fTe.fBr.map zjN)))] 2 (B r.1) [(0,some (false,.deep [.sc,.sc,.sl [.sl [.sc,.sc,.sc,.sc]]] (r.2.map zjS))),(1,some (false,.deep [.sl [.sc,.sc,.sc,.sc]] (a2.fTe.fBr.map zjN)))] 2:=by
 unfold zae at h
 refine fc [(1,[(3,10),(5,10)]),(3,[(9,12)]),(1000,[(0,0),(3,0)]),(1001,[(0,0),(3,0),(5,0),(6,0)]),(1002,[(0,0),(3,0),(5,0),(6,0),(17,0)]),(1003,[(6,0)]),(1004,[(4,0)]),(5001,[])] Tryz.func55 ?_
 simp only [Tryz.f55]
 refine sA ?_
 obtain ⟨hp1,h⟩:=zjK h
 refine zmf 0 i0 ?_
 refine sA ?_
 obtain ⟨c725,hr2,h⟩:=zjJ h
 refine zjR (zhH hr2) ?_
 refine sA ?_
 refine zjO h (λ h hc3=>?_) (λ h hc3=>?_)
 ·refine sA ?_
  cases h
  refine zlv 0 ?_
  refine sA ?_
  exact zjM ⟨[(4,(B c725.2))],[(0,some (false,.deep [.sc,.sc,.sl [.sl [.sc,.sc,.sc,.sc]]] ((a0.set i0 (⟨(nth a0 i0).Id,(max ((nth a0 i0).fVe) a2.fVe),c725.1⟩:RegionT)).map zjS))),(1,some (false,.deep [.sl [.sc,.sc,.sc,.sc]] (a2.fTe.fBr.map zjN)))],2,33⟩ [some 0,some 1]
 ·refine sA ?_
  cases h
  refine zlv 0 ?_
  refine sA ?_
  exact zjM ⟨[(4,(B c725.2))],[(0,some (false,.deep [.sc,.sc,.sl [.sl [.sc,.sc,.sc,.sc]]] ((a0.set i0 (⟨(nth a0 i0).Id,(nth a0 i0).fVe,((nth a0 i0).fTe)⟩:RegionT)).map zjS))),(1,some (false,.deep [.sl [.sc,.sc,.sc,.sc]] (a2.fTe.fBr.map zjN)))],2,33⟩ [some 0,some 1]
theorem zdm {a0:WorldT} {a1:WorldStepT} {m1:Nat} {x1:Bool} {m2:Nat} {x2:Bool} {r:(Int×WorldT×(List RegionT))} (h:zL a0 a1=some r):Fn Tryz.prog 151 [(.pb 0 0),(.ag [(I a1.Kind),(I a1.Region),(I a1.What),(.lf false (.sc (.string a1.Name))),(I a1.K)])] [(0,some (false,.box [(.os 1 3 0 a0.fRe.length m1 x1),(.os 2 3 0 a0.Line.length m2 x2)])),(1,some (false,.deep [.sc,.sc,.sl [.sl [.sc,.sc,.sc,.sc]]] (a0.fRe.map zjS))),(2,some (false,.deep [.sc,.sc,.sl [.sl [.sc,.sc,.sc,.sc]]] (a0.Line.map zj5)))] 3 (I r.1) [(0,some (false,.box [(.os 1 3 0 r.2.2.length r.2.2.length false),(.os 3 3 0 r.2.1.Line.length r.2.1.Line.length false)])),(1,some (false,.deep [.sc,.sc,.sl [.sl [.sc,.sc,.sc,.sc]]] (r.2.2.map zjS))),(2,none),(3,some (false,.deep [.sc,.sc,.sl [.sl [.sc,.sc,.sc,.sc]]] (r.2.1.Line.map zj5)))] 4:=by
 unfold zL at h
 refine fc [(3,[(3,8),(5,8),(7,8)]),(1000,[(0,0),(3,0)]),(1001,[(0,0),(3,0),(15,0)]),(1002,[(4,0)]),(1003,[(0,0),(3,0),(5,0)]),(1004,[(0,0),(3,0),(5,0),(26,0)]),(1005,[(4,0)]),(1006,[(0,0),(3,0),(5,0)]),(1007,[(59,0)]),(1008,[(4,0)]),(1009,[(4,0)]),(5003,[])] Tryz.func151 ?_
 simp only [Tryz.f151]
 refine sA ?_
 obtain ⟨c676,hr1,h⟩:=zjJ h
 refine zjR (zdP hr1) ?_
 refine sA ?_
 refine zjO h (λ h hc2=>?_) (λ h hc2=>?_)
 ·refine sA ?_
  cases h
  exact zjM ⟨[(4,(I 1))],[(0,some (false,.box [(.os 1 3 0 a0.fRe.length a0.fRe.length false),(.os 3 3 0 a0.Line.length a0.Line.length false)])),(1,some (false,.deep [.sc,.sc,.sl [.sl [.sc,.sc,.sc,.sc]]] (a0.fRe.map zjS))),(2,none),(3,some (false,.deep [.sc,.sc,.sl [.sl [.sc,.sc,.sc,.sc]]] (a0.Line.map zj5)))],4,60⟩ [some 0,some 1,some 2,some 2]
 ·refine sA ?_
  obtain ⟨hp3,h⟩:=zjK h
  refine zmf 2 a1.K.toNat ?_
  refine sA ?_
  obtain ⟨hp4,h⟩:=zjK h
  have hn4:a1.K.toNat < a0.Line.length:=by first|omega|(simp;omega)
  refine sA ?_
  refine zj2 ?_
  refine zjO h (λ h hc5=>?_) (λ h hc5=>?_)
  ·refine sA ?_
   obtain ⟨c678,hr6,h⟩:=zjJ h
   refine zll [0,1,2,6] (zhm hr6) ?_
   refine sA ?_
   obtain ⟨c679,hr7,h⟩:=zjJ h
   refine zjR (zeW hr7) ?_
   refine sA ?_
   cases h
   exact zjM ⟨[(4,(I c679))],[(0,some (false,.box [(.os 1 3 0 a0.fRe.length a0.fRe.length false),(.os 3 3 0 c678.2.Line.length c678.2.Line.length false)])),(1,some (false,.deep [.sc,.sc,.sl [.sl [.sc,.sc,.sc,.sc]]] (a0.fRe.map zjS))),(2,none),(3,some (false,.deep [.sc,.sc,.sl [.sl [.sc,.sc,.sc,.sc]]] (c678.2.Line.map zj5)))],4,60⟩ [some 0,some 1,some 2,some 8]
  ·refine sA ?_
   obtain ⟨c680,hr8,h⟩:=zjJ h
   refine zzn [2] (zgx hr8) ?_
   refine sA ?_
   refine zj6 h (λ h hc9=>?_) (λ h hc9=>?_)
   ·refine sA ?_
    obtain ⟨hp10,h⟩:=zjK h
    have hn10:((nth a0.Line a1.K.toNat).To).toNat < a0.fRe.length:=by first|omega|(simp;omega)
    refine sA ?_
    refine zj2 ?_
    obtain ⟨c726,hr11,h⟩:=zjJ h
    refine zll [1,6] (zg4 hr11) ?_
    refine sA ?_
    obtain ⟨hp12,h⟩:=zjK h
    try rw [← hp12]
    refine sA ?_
    refine zjO h (λ h hc13=>?_) (λ h hc13=>?_)
    ·refine sA ?_
     cases h
     exact zjM ⟨[(4,(I 2))],[(0,some (false,.box [(.os 1 3 0 c726.2.length c726.2.length false),(.os 3 3 0 c680.length c680.length false)])),(1,some (false,.deep [.sc,.sc,.sl [.sl [.sc,.sc,.sc,.sc]]] (c726.2.map zjS))),(2,none),(3,some (false,.deep [.sc,.sc,.sl [.sl [.sc,.sc,.sc,.sc]]] (c680.map zj5)))],4,60⟩ [some 0,some 1,some 2,some 8]
    ·refine sA ?_
     cases h
     exact zjM ⟨[(4,(I 0))],[(0,some (false,.box [(.os 1 3 0 c726.2.length c726.2.length false),(.os 3 3 0 c680.length c680.length false)])),(1,some (false,.deep [.sc,.sc,.sl [.sl [.sc,.sc,.sc,.sc]]] (c726.2.map zjS))),(2,none),(3,some (false,.deep [.sc,.sc,.sl [.sl [.sc,.sc,.sc,.sc]]] (c680.map zj5)))],4,60⟩ [some 0,some 1,some 2,some 8]
   ·refine sA ?_
    cases h
    exact zjM ⟨[(4,(I 0))],[(0,some (false,.box [(.os 1 3 0 a0.fRe.length a0.fRe.length false),(.os 3 3 0 c680.length c680.length false)])),(1,some (false,.deep [.sc,.sc,.sl [.sl [.sc,.sc,.sc,.sc]]] (a0.fRe.map zjS))),(2,none),(3,some (false,.deep [.sc,.sc,.sl [.sl [.sc,.sc,.sc,.sc]]] (c680.map zj5)))],4,60⟩ [some 0,some 1,some 2,some 8]
theorem zhw {a0:WorldT} {a1:WorldStepT} {m1:Nat} {x1:Bool} {m2:Nat} {x2:Bool} {r:(Int×WorldT×(List RegionT))} (h:zbK a0 a1=some r):Fn Tryz.prog 80 [(.pb 0 0),(.ag [(I a1.Kind),(I a1.Region),(I a1.What),(.lf false (.sc (.string a1.Name))),(I a1.K)])] [(0,some (false,.box [(.os 1 3 0 a0.fRe.length m1 x1),(.os 2 3 0 a0.Line.length m2 x2)])),(1,some (false,.deep [.sc,.sc,.sl [.sl [.sc,.sc,.sc,.sc]]] (a0.fRe.map zjS))),(2,some (false,.deep [.sc,.sc,.sl [.sl [.sc,.sc,.sc,.sc]]] (a0.Line.map zj5)))] 3 (I r.1) [(0,some (false,.box [(.os 1 3 0 r.2.2.length r.2.2.length false),(.os 3 3 0 r.2.1.Line.length r.2.1.Line.length false)])),(1,some (false,.deep [.sc,.sc,.sl [.sl [.sc,.sc,.sc,.sc]]] (r.2.2.map zjS))),(2,none),(3,some (false,.deep [.sc,.sc,.sl [.sl [.sc,.sc,.sc,.sc]]] (r.2.1.Line.map zj5)))] 4:=by
 unfold zbK at h
 refine fc [(1000,[(0,0),(3,0)]),(1001,[(0,0),(3,0),(6,0)]),(1002,[(0,0),(3,0),(6,0),(7,0)]),(1003,[(0,0),(3,0),(6,0),(7,0)]),(1004,[(0,0),(3,0),(6,0),(7,0)]),(1005,[(0,0),(3,0),(6,0),(7,0)]),(1006,[(4,0)]),(1007,[(0,0),(3,0),(6,0),(15,0)]),(1008,[(0,0),(3,0),(6,0),(15,0)]),(1009,[(0,0),(3,0),(15,0)]),(1010,[(4,0)]),(1011,[(4,0)]),(2007,[])] Tryz.func80 ?_
 simp only [Tryz.f80]
 refine sA ?_
 obtain ⟨p660,hq1,h⟩:=zjJ h
 refine zki (λ s2=>s2=⟨[(0,(.pb 0 0)),(3,(.pb 3 0)),(6,(I a1.Kind)),(7,(B p660.t7))],[(0,some (false,.box [(.os 1 3 0 a0.fRe.length m1 x1),(.os 2 3 0 a0.Line.length m2 x2)])),(1,some (false,.deep [.sc,.sc,.sl [.sl [.sc,.sc,.sc,.sc]]] (a0.fRe.map zjS))),(2,some (false,.deep [.sc,.sc,.sl [.sl [.sc,.sc,.sc,.sc]]] (a0.Line.map zj5))),(3,some (true,.box [(I a1.Kind),(I a1.Region),(I a1.What),(.lf false (.sc (.string a1.Name))),(I a1.K)]))],4,22⟩) ?_ ?_
 ·refine sA ?_
  refine zjO hq1 (λ hq1 hc2=>?_) (λ hq1 hc2=>?_)
  ·refine sA ?_
   cases hq1
   exact zj1 rfl (zjQ [some 0,some 1,some 2,some 3])
  ·refine sA ?_
   refine zjO hq1 (λ hq1 hc3=>?_) (λ hq1 hc3=>?_)
   ·refine sA ?_
    cases hq1
    exact zj1 rfl (zjQ [some 0,some 1,some 2,some 3])
   ·refine sA ?_
    refine zjO hq1 (λ hq1 hc4=>?_) (λ hq1 hc4=>?_)
    ·refine sA ?_
     cases hq1
     exact zj1 rfl (zjQ [some 0,some 1,some 2,some 3])
    ·refine sA ?_
     cases hq1
     exact zj1 rfl (zjQ [some 0,some 1,some 2,some 3])
 ·intro s2 hJ;subst hJ
  try dsimp only at h
  refine sA ?_
  refine zjO h (λ h hc5=>?_) (λ h hc5=>?_)
  ·refine sA ?_
   obtain ⟨c674,hr6,h⟩:=zjJ h
   refine zll [0,1,2] (zgO hr6) ?_
   refine sA ?_
   cases h
   exact zjM ⟨[(4,(I c674.1))],[(0,some (false,.box [(.os 1 3 0 c674.2.2.length c674.2.2.length false),(.os 3 3 0 c674.2.1.Line.length c674.2.1.Line.length false)])),(1,some (false,.deep [.sc,.sc,.sl [.sl [.sc,.sc,.sc,.sc]]] (c674.2.2.map zjS))),(2,none),(3,some (false,.deep [.sc,.sc,.sl [.sl [.sc,.sc,.sc,.sc]]] (c674.2.1.Line.map zj5)))],4,22⟩ [some 0,some 1,some 2,some 4]
  ·refine sA ?_
   refine zjO h (λ h hc7=>?_) (λ h hc7=>?_)
   ·refine sA ?_
    obtain ⟨c727,hr8,h⟩:=zjJ h
    refine zll [0,1,2] (zdm hr8) ?_
    refine sA ?_
    cases h
    exact zjM ⟨[(4,(I c727.1))],[(0,some (false,.box [(.os 1 3 0 c727.2.2.length c727.2.2.length false),(.os 3 3 0 c727.2.1.Line.length c727.2.1.Line.length false)])),(1,some (false,.deep [.sc,.sc,.sl [.sl [.sc,.sc,.sc,.sc]]] (c727.2.2.map zjS))),(2,none),(3,some (false,.deep [.sc,.sc,.sl [.sl [.sc,.sc,.sc,.sc]]] (c727.2.1.Line.map zj5)))],4,22⟩ [some 0,some 1,some 2,some 4]
   ·refine sA ?_
    refine zjO h (λ h hc9=>?_) (λ h hc9=>?_)
    ·refine sA ?_
     obtain ⟨c728,hr10,h⟩:=zjJ h
     refine zll [0,1,2] (zdm hr10) ?_
     refine sA ?_
     cases h
     exact zjM ⟨[(4,(I c728.1))],[(0,some (false,.box [(.os 1 3 0 c728.2.2.length c728.2.2.length false),(.os 3 3 0 c728.2.1.Line.length c728.2.1.Line.length false)])),(1,some (false,.deep [.sc,.sc,.sl [.sl [.sc,.sc,.sc,.sc]]] (c728.2.2.map zjS))),(2,none),(3,some (false,.deep [.sc,.sc,.sl [.sl [.sc,.sc,.sc,.sc]]] (c728.2.1.Line.map zj5)))],4,22⟩ [some 0,some 1,some 2,some 4]
    ·refine sA ?_
     refine zjO h (λ h hc11=>?_) (λ h hc11=>?_)
     ·refine sA ?_
      obtain ⟨c729,hr12,h⟩:=zjJ h
      refine zll [0,1,2] (zdm hr12) ?_
      refine sA ?_
      cases h
      exact zjM ⟨[(4,(I c729.1))],[(0,some (false,.box [(.os 1 3 0 c729.2.2.length c729.2.2.length false),(.os 3 3 0 c729.2.1.Line.length c729.2.1.Line.length false)])),(1,some (false,.deep [.sc,.sc,.sl [.sl [.sc,.sc,.sc,.sc]]] (c729.2.2.map zjS))),(2,none),(3,some (false,.deep [.sc,.sc,.sl [.sl [.sc,.sc,.sc,.sc]]] (c729.2.1.Line.map zj5)))],4,22⟩ [some 0,some 1,some 2,some 4]
     ·refine sA ?_
      cases h
      exact zjM ⟨[(4,(I 1))],[(0,some (false,.box [(.os 1 3 0 a0.fRe.length a0.fRe.length false),(.os 3 3 0 a0.Line.length a0.Line.length false)])),(1,some (false,.deep [.sc,.sc,.sl [.sl [.sc,.sc,.sc,.sc]]] (a0.fRe.map zjS))),(2,none),(3,some (false,.deep [.sc,.sc,.sl [.sl [.sc,.sc,.sc,.sc]]] (a0.Line.map zj5)))],4,22⟩ [some 0,some 1,some 2,some 2]
theorem zg2 {a0:(List WorldStepT)} {r:(WorldT×(List Int)×Bool)} (h:zcX a0=some r):Fn Tryz.prog 25 [(.lf true (.sl (a0.map zj4)))] [] 0 (.tu [(.ag [(.os 0 3 0 r.1.fRe.length r.1.fRe.length false),(.os 1 3 0 r.1.Line.length r.1.Line.length false)]),(.os 2 1 0 r.2.1.length r.2.1.length false),(B r.2.2)]) [(0,some (true,.deep [.sc,.sc,.sl [.sl [.sc,.sc,.sc,.sc]]] (r.1.fRe.map zjS))),(1,some (true,.deep [.sc,.sc,.sl [.sl [.sc,.sc,.sc,.sc]]] (r.1.Line.map zj5))),(2,some (true,.arr false 1 (r.2.1.map eI)))] 4:=by
 unfold zcX at h
 refine fc [(1000,[(0,0),(2,0)]),(1001,[(0,0),(2,0),(11,0)]),(1002,[(2,0),(3,0),(4,0)]),(1003,[(0,0),(2,0),(5,0),(6,0)]),(1004,[(2,0),(5,0),(6,0),(15,0),(16,0),(17,0)]),(1005,[(2,0),(5,0),(6,0),(15,0),(16,0),(17,0),(18,0)]),(1006,[(2,0),(5,0),(6,0),(8,0),(15,0),(16,0),(17,0)]),(1007,[(2,0),(5,0),(6,0),(15,0),(16,0),(17,0)]),(1008,[(2,0),(5,0),(6,0),(15,0),(16,0),(17,0)]),(1009,[(2,0),(3,0),(4,0)])] Tryz.func25 ?_
 simp only [Tryz.f25]
 refine sA ?_
 refine zjO h (λ h hc1=>?_) (λ h hc1=>?_)
 ·refine sA ?_
  cases h
  exact zjM ⟨[(2,(.pb 3 0)),(3,(.os 2 1 0 (([]:List Int).length) (([]:List Int).length) false)),(4,(B false))],[(0,some (true,.deep [.sc,.sc,.sl [.sl [.sc,.sc,.sc,.sc]]] (([]:List RegionT).map zjS))),(1,some (true,.deep [.sc,.sc,.sl [.sl [.sc,.sc,.sc,.sc]]] (([]:List SaidT).map zj5))),(2,some (true,.arr false 1 (([]:List Int).map eI))),(3,some (true,.box [(.os 0 3 0 (([]:List RegionT).length) (([]:List RegionT).length) false),(.os 1 3 0 (([]:List SaidT).length) (([]:List SaidT).length) false)]))],4,29⟩ [none,none,none,some 0]
 ·refine sA ?_
  obtain ⟨c422,hr2,h⟩:=zjJ h
  refine zjR (zjc hr2) ?_
  refine sA ?_
  obtain ⟨y731,hl3,h⟩:=zjJ h
  refine zj3 (λ g423:zea=>⟨[(2,(.pb 0 0)),(5,(.pb 1 0)),(6,(.os 2 1 0 g423.c2.length g423.c2.length false)),(15,(.lf true (.sl (a0.map zj4)))),(16,(I ((a0.length:Nat):Int))),(17,(I g423.t17))],[(0,some (true,.box [.nl,.nl])),(1,some (true,.box [(.os 3 3 0 g423.c3.length g423.c3.length false),(.os 4 3 0 g423.c4.length g423.c4.length false)])),(2,some (true,.arr false 1 (g423.c2.map eI))),(3,some (true,.deep [.sc,.sc,.sl [.sl [.sc,.sc,.sc,.sc]]] (g423.c3.map zjS))),(4,some (true,.deep [.sc,.sc,.sl [.sl [.sc,.sc,.sc,.sc]]] (g423.c4.map zj5)))],5,29⟩) (zby a0) _ _ hl3 (zjQ [some 0,some 4,some 3,some 1,none]) ?_
  ·intro n1 g423 z1 hs1 hk1
   unfold zby at hs1
   try dsimp only at hs1
   refine sA ?_
   refine zjO hs1 (λ hs1 hc4=>?_) (λ hs1 hc4=>?_)
   ·refine sA ?_
    obtain ⟨hp5,hs1⟩:=zjK hs1
    have hn5:g423.t17.toNat < a0.length:=by first|omega|(simp;omega)
    refine sA ?_
    refine zj2 ?_
    obtain ⟨c730,hr6,hs1⟩:=zjJ hs1
    refine zll [1,3,4] (zhw hr6) ?_
    refine sA ?_
    obtain ⟨hp7,hs1⟩:=zjK hs1
    refine sA ?_
    refine zj2 ?_
    cases hs1
    exact zjW hk1 (zjQ [some 0,some 1,some 8,some 3,some 6])
   ·refine sA ?_
    cases hs1
    cases hk1
    try dsimp only at h
    refine sA ?_
    cases h
    exact zjM ⟨[(2,(.pb 3 0)),(3,(.os 2 1 0 g423.c2.length g423.c2.length false)),(4,(B true))],[(0,some (true,.deep [.sc,.sc,.sl [.sl [.sc,.sc,.sc,.sc]]] (g423.c3.map zjS))),(1,some (true,.deep [.sc,.sc,.sl [.sl [.sc,.sc,.sc,.sc]]] (g423.c4.map zj5))),(2,some (true,.arr false 1 (g423.c2.map eI))),(3,some (true,.box [(.os 0 3 0 g423.c3.length g423.c3.length false),(.os 1 3 0 g423.c4.length g423.c4.length false)]))],4,29⟩ [some 3,some 4,some 2,some 0]
theorem zjs {a0:EventT} {a1:EventT} {r:Bool} (h:zfd a0 a1=some r):Fn Tryz.prog 268 [(.ag [(I a0.Id),(I a0.fVe),(I a0.Kind),(.lf false (.sc (.string a0.Name)))]),(.ag [(I a1.Id),(I a1.fVe),(I a1.Kind),(.lf false (.sc (.string a1.Name)))])] [] 0 (B r) [] 0:=by
 unfold zfd at h
 refine fc [(1000,[(2,0),(3,0)]),(1001,[(2,0),(3,0),(9,0)]),(1002,[(4,0)]),(1003,[(2,0),(3,0),(14,0)]),(1004,[(4,0)]),(1005,[(2,0),(3,0),(19,0)]),(1006,[(4,0)]),(1007,[(24,0)]),(1008,[(4,0)]),(1009,[(4,0)])] Tryz.func268 ?_
 simp only [Tryz.f268]
 refine sA ?_
 refine zjO h (λ h hc1=>?_) (λ h hc1=>?_)
 ·refine sA ?_
  have he:=oi h
  subst he
  exact zjM ⟨[(4,(B false))],[],0,25⟩ []
 ·refine sA ?_
  refine zjO h (λ h hc2=>?_) (λ h hc2=>?_)
  ·refine sA ?_
   have he:=oi h
   subst he
   exact zjM ⟨[(4,(B false))],[],0,25⟩ []
  ·refine sA ?_
   refine zjO h (λ h hc3=>?_) (λ h hc3=>?_)
   ·refine sA ?_
    have he:=oi h
    subst he
    exact zjM ⟨[(4,(B false))],[],0,25⟩ []
   ·refine sA ?_
    refine zjO h (λ h hc4=>?_) (λ h hc4=>?_)
    ·refine sA ?_
     have he:=oi h
     subst he
     exact zjM ⟨[(4,(B false))],[],0,25⟩ []
    ·refine sA ?_
     have he:=oi h
     subst he
     exact zjM ⟨[(4,(B true))],[],0,25⟩ []
theorem zjg {a0:(List EventT)} {a1:(List EventT)} {r:Bool} (h:zeP a0 a1=some r):Fn Tryz.prog 244 [(.lf true (.sl (a0.map zjU))),(.lf true (.sl (a1.map zjU)))] [] 0 (B r) [] 0:=by
 unfold zeP at h
 refine fc [(1000,[(0,0),(1,0)]),(1001,[(0,0),(1,0),(10,0)]),(1002,[(4,0)]),(1003,[(0,0),(1,0),(5,0)]),(1004,[(0,0),(1,0),(5,0),(14,0)]),(1005,[(0,0),(1,0),(5,0)]),(1006,[(0,0),(1,0),(5,0),(26,0)]),(1007,[(4,0)]),(1008,[(4,0)])] Tryz.func244 ?_
 simp only [Tryz.f244]
 refine sA ?_
 refine zjO h (λ h hc1=>?_) (λ h hc1=>?_)
 ·refine sA ?_
  have he:=oi h
  subst he
  exact zjM ⟨[(4,(B false))],[],0,27⟩ []
 ·refine sA ?_
  obtain ⟨y738,hl2,h⟩:=zjJ h
  refine zj3 (λ g735:zeG=>⟨[(0,(.lf true (.sl (a0.map zjU)))),(1,(.lf true (.sl (a1.map zjU)))),(5,(I g735.t5))],[],0,27⟩) (zbQ a0 a1) _ _ hl2 (zjQ []) ?_
  ·intro n1 g735 z1 hs1 hk1
   unfold zbQ at hs1
   try dsimp only at hs1
   refine sA ?_
   refine zjO hs1 (λ hs1 hc3=>?_) (λ hs1 hc3=>?_)
   ·refine sA ?_
    obtain ⟨hp4,hs1⟩:=zjK hs1
    have hn4:g735.t5.toNat < a0.length:=by first|omega|(simp;omega)
    refine sA ?_
    refine zj2 ?_
    obtain ⟨hp5,hs1⟩:=zjK hs1
    have hn5:g735.t5.toNat < a1.length:=by first|omega|(simp;omega)
    refine sA ?_
    refine zj2 ?_
    obtain ⟨c737,hr6,hs1⟩:=zjJ hs1
    refine zjR (zjs hr6) ?_
    refine sA ?_
    refine zjO hs1 (λ hs1 hc7=>?_) (λ hs1 hc7=>?_)
    ·refine sA ?_
     cases hs1
     cases hk1
     try dsimp only at h
     refine sA ?_
     have he:=oi h
     subst he
     exact zjM ⟨[(4,(B false))],[],0,27⟩ []
    ·refine sA ?_
     cases hs1
     exact zjW hk1 (zjQ [])
   ·refine sA ?_
    cases hs1
    cases hk1
    try dsimp only at h
    refine sA ?_
    have he:=oi h
    subst he
    exact zjM ⟨[(4,(B true))],[],0,27⟩ []
theorem zjh {a0:BranchT} {a1:BranchT} {r:Bool} (h:zeQ a0 a1=some r):Fn Tryz.prog 200 [(.ag [(.lf true (.sl (a0.fEv.map zjU)))]),(.ag [(.lf true (.sl (a1.fEv.map zjU)))])] [] 0 (B r) [] 0:=by
 unfold zeQ at h
 refine fc [(1000,[(2,0),(3,0)]),(1001,[(10,0)]),(1002,[(4,0)]),(1003,[(4,0)])] Tryz.func200 ?_
 simp only [Tryz.f200]
 refine sA ?_
 obtain ⟨c741,hr1,h⟩:=zjJ h
 refine zjR (zjg hr1) ?_
 refine sA ?_
 refine zjO h (λ h hc2=>?_) (λ h hc2=>?_)
 ·refine sA ?_
  have he:=oi h
  subst he
  exact zjM ⟨[(4,(B false))],[],0,11⟩ []
 ·refine sA ?_
  have he:=oi h
  subst he
  exact zjM ⟨[(4,(B true))],[],0,11⟩ []
theorem ziW {a0:(List BranchT)} {a1:(List BranchT)} {r:Bool} (h:zen a0 a1=some r):Fn Tryz.prog 147 [(.lf true (.sl (a0.map zjN))),(.lf true (.sl (a1.map zjN)))] [] 0 (B r) [] 0:=by
 unfold zen at h
 refine fc [(1000,[(0,0),(1,0)]),(1001,[(0,0),(1,0),(10,0)]),(1002,[(4,0)]),(1003,[(0,0),(1,0),(5,0)]),(1004,[(0,0),(1,0),(5,0),(14,0)]),(1005,[(0,0),(1,0),(5,0)]),(1006,[(0,0),(1,0),(5,0),(26,0)]),(1007,[(4,0)]),(1008,[(4,0)])] Tryz.func147 ?_
 simp only [Tryz.f147]
 refine sA ?_
 refine zjO h (λ h hc1=>?_) (λ h hc1=>?_)
 ·refine sA ?_
  have he:=oi h
  subst he
  exact zjM ⟨[(4,(B false))],[],0,27⟩ []
 ·refine sA ?_
  obtain ⟨y744,hl2,h⟩:=zjJ h
  refine zj3 (λ g734:zd4=>⟨[(0,(.lf true (.sl (a0.map zjN)))),(1,(.lf true (.sl (a1.map zjN)))),(5,(I g734.t5))],[],0,27⟩) (zbt a0 a1) _ _ hl2 (zjQ []) ?_
  ·intro n1 g734 z1 hs1 hk1
   unfold zbt at hs1
   try dsimp only at hs1
   refine sA ?_
   refine zjO hs1 (λ hs1 hc3=>?_) (λ hs1 hc3=>?_)
   ·refine sA ?_
    obtain ⟨hp4,hs1⟩:=zjK hs1
    have hn4:g734.t5.toNat < a0.length:=by first|omega|(simp;omega)
    refine sA ?_
    refine zj2 ?_
    obtain ⟨hp5,hs1⟩:=zjK hs1
    have hn5:g734.t5.toNat < a1.length:=by first|omega|(simp;omega)
    refine sA ?_
    refine zj2 ?_
    obtain ⟨c743,hr6,hs1⟩:=zjJ hs1
    refine zjR (zjh hr6) ?_
    refine sA ?_
    refine zjO hs1 (λ hs1 hc7=>?_) (λ hs1 hc7=>?_)
    ·refine sA ?_
     cases hs1
     cases hk1
     try dsimp only at h
     refine sA ?_
     have he:=oi h
     subst he
     exact zjM ⟨[(4,(B false))],[],0,27⟩ []
    ·refine sA ?_
     cases hs1
     exact zjW hk1 (zjQ [])
   ·refine sA ?_
    cases hs1
    cases hk1
    try dsimp only at h
    refine sA ?_
    have he:=oi h
    subst he
    exact zjM ⟨[(4,(B true))],[],0,27⟩ []
theorem zgL {a0:TellingsT} {a1:TellingsT} {r:Bool} (h:zci a0 a1=some r):Fn Tryz.prog 75 [(.ag [(.lf true (.sl (a0.fBr.map zjN)))]),(.ag [(.lf true (.sl (a1.fBr.map zjN)))])] [] 0 (B r) [] 0:=by
 unfold zci at h
 refine fc [(1000,[(2,0),(3,0)]),(1001,[(10,0)]),(1002,[(4,0)]),(1003,[(4,0)])] Tryz.func75 ?_
 simp only [Tryz.f75]
 refine sA ?_
 obtain ⟨c747,hr1,h⟩:=zjJ h
 refine zjR (ziW hr1) ?_
 refine sA ?_
 refine zjO h (λ h hc2=>?_) (λ h hc2=>?_)
 ·refine sA ?_
  have he:=oi h
  subst he
  exact zjM ⟨[(4,(B false))],[],0,11⟩ []
 ·refine sA ?_
  have he:=oi h
  subst he
  exact zjM ⟨[(4,(B true))],[],0,11⟩ []
theorem zji {a0:RegionT} {a1:RegionT} {r:Bool} (h:zeR a0 a1=some r):Fn Tryz.prog 21 [(.ag [(I a0.Id),(I a0.fVe),(.lf true (.sl (a0.fTe.fBr.map zjN)))]),(.ag [(I a1.Id),(I a1.fVe),(.lf true (.sl (a1.fTe.fBr.map zjN)))])] [] 0 (B r) [] 0:=by
 unfold zeR at h
 refine fc [(1000,[(2,0),(3,0)]),(1001,[(2,0),(3,0),(9,0)]),(1002,[(4,0)]),(1003,[(2,0),(3,0),(14,0)]),(1004,[(4,0)]),(1005,[(20,0)]),(1006,[(4,0)]),(1007,[(4,0)])] Tryz.func21 ?_
 simp only [Tryz.f21]
 refine sA ?_
 refine zjO h (λ h hc1=>?_) (λ h hc1=>?_)
 ·refine sA ?_
  have he:=oi h
  subst he
  exact zjM ⟨[(4,(B false))],[],0,21⟩ []
 ·refine sA ?_
  refine zjO h (λ h hc2=>?_) (λ h hc2=>?_)
  ·refine sA ?_
   have he:=oi h
   subst he
   exact zjM ⟨[(4,(B false))],[],0,21⟩ []
  ·refine sA ?_
   obtain ⟨c748,hr3,h⟩:=zjJ h
   refine zjR (zgL hr3) ?_
   refine sA ?_
   refine zjO h (λ h hc4=>?_) (λ h hc4=>?_)
   ·refine sA ?_
    have he:=oi h
    subst he
    exact zjM ⟨[(4,(B false))],[],0,21⟩ []
   ·refine sA ?_
    have he:=oi h
    subst he
    exact zjM ⟨[(4,(B true))],[],0,21⟩ []
theorem ziX {a0:(List RegionT)} {a1:(List RegionT)} {r:Bool} (h:zes a0 a1=some r):Fn Tryz.prog 106 [(.lf true (.sl (a0.map zjS))),(.lf true (.sl (a1.map zjS)))] [] 0 (B r) [] 0:=by
 unfold zes at h
 refine fc [(1000,[(0,0),(1,0)]),(1001,[(0,0),(1,0),(10,0)]),(1002,[(4,0)]),(1003,[(0,0),(1,0),(5,0)]),(1004,[(0,0),(1,0),(5,0),(14,0)]),(1005,[(0,0),(1,0),(5,0)]),(1006,[(0,0),(1,0),(5,0),(26,0)]),(1007,[(4,0)]),(1008,[(4,0)])] Tryz.func106 ?_
 simp only [Tryz.f106]
 refine sA ?_
 refine zjO h (λ h hc1=>?_) (λ h hc1=>?_)
 ·refine sA ?_
  have he:=oi h
  subst he
  exact zjM ⟨[(4,(B false))],[],0,27⟩ []
 ·refine sA ?_
  obtain ⟨y751,hl2,h⟩:=zjJ h
  refine zj3 (λ g733:zd7=>⟨[(0,(.lf true (.sl (a0.map zjS)))),(1,(.lf true (.sl (a1.map zjS)))),(5,(I g733.t5))],[],0,27⟩) (zbv a0 a1) _ _ hl2 (zjQ []) ?_
  ·intro n1 g733 z1 hs1 hk1
   unfold zbv at hs1
   try dsimp only at hs1
   refine sA ?_
   refine zjO hs1 (λ hs1 hc3=>?_) (λ hs1 hc3=>?_)
   ·refine sA ?_
    obtain ⟨hp4,hs1⟩:=zjK hs1
    have hn4:g733.t5.toNat < a0.length:=by first|omega|(simp;omega)
    refine sA ?_
    refine zj2 ?_
    obtain ⟨hp5,hs1⟩:=zjK hs1
    have hn5:g733.t5.toNat < a1.length:=by first|omega|(simp;omega)
    refine sA ?_
    refine zj2 ?_
    obtain ⟨c750,hr6,hs1⟩:=zjJ hs1
    refine zjR (zji hr6) ?_
    refine sA ?_
    refine zjO hs1 (λ hs1 hc7=>?_) (λ hs1 hc7=>?_)
    ·refine sA ?_
     cases hs1
     cases hk1
     try dsimp only at h
     refine sA ?_
     have he:=oi h
     subst he
     exact zjM ⟨[(4,(B false))],[],0,27⟩ []
    ·refine sA ?_
     cases hs1
     exact zjW hk1 (zjQ [])
   ·refine sA ?_
    cases hs1
    cases hk1
    try dsimp only at h
    refine sA ?_
    have he:=oi h
    subst he
    exact zjM ⟨[(4,(B true))],[],0,27⟩ []
theorem zjz {a0:WordT} {a1:WordT} {r:Bool} (h:zfE a0 a1=some r):Fn Tryz.prog 214 [(.ag [(I a0.fVe),(.lf true (.sl (a0.fTe.fBr.map zjN)))]),(.ag [(I a1.fVe),(.lf true (.sl (a1.fTe.fBr.map zjN)))])] [] 0 (B r) [] 0:=by
 unfold zfE at h
 refine fc [(1000,[(2,0),(3,0)]),(1001,[(2,0),(3,0),(9,0)]),(1002,[(4,0)]),(1003,[(15,0)]),(1004,[(4,0)]),(1005,[(4,0)])] Tryz.func214 ?_
 simp only [Tryz.f214]
 refine sA ?_
 refine zjO h (λ h hc1=>?_) (λ h hc1=>?_)
 ·refine sA ?_
  have he:=oi h
  subst he
  exact zjM ⟨[(4,(B false))],[],0,16⟩ []
 ·refine sA ?_
  obtain ⟨c756,hr2,h⟩:=zjJ h
  refine zjR (zgL hr2) ?_
  refine sA ?_
  refine zjO h (λ h hc3=>?_) (λ h hc3=>?_)
  ·refine sA ?_
   have he:=oi h
   subst he
   exact zjM ⟨[(4,(B false))],[],0,16⟩ []
  ·refine sA ?_
   have he:=oi h
   subst he
   exact zjM ⟨[(4,(B true))],[],0,16⟩ []
theorem zjA {a0:SaidT} {a1:SaidT} {r:Bool} (h:zfF a0 a1=some r):Fn Tryz.prog 169 [(.ag [(I a0.To),(I a0.Word.fVe),(.lf true (.sl (a0.Word.fTe.fBr.map zjN)))]),(.ag [(I a1.To),(I a1.Word.fVe),(.lf true (.sl (a1.Word.fTe.fBr.map zjN)))])] [] 0 (B r) [] 0:=by
 unfold zfF at h
 refine fc [(1000,[(2,0),(3,0)]),(1001,[(2,0),(3,0),(9,0)]),(1002,[(4,0)]),(1003,[(15,0)]),(1004,[(4,0)]),(1005,[(4,0)])] Tryz.func169 ?_
 simp only [Tryz.f169]
 refine sA ?_
 refine zjO h (λ h hc1=>?_) (λ h hc1=>?_)
 ·refine sA ?_
  have he:=oi h
  subst he
  exact zjM ⟨[(4,(B false))],[],0,16⟩ []
 ·refine sA ?_
  obtain ⟨c757,hr2,h⟩:=zjJ h
  refine zjR (zjz hr2) ?_
  refine sA ?_
  refine zjO h (λ h hc3=>?_) (λ h hc3=>?_)
  ·refine sA ?_
   have he:=oi h
   subst he
   exact zjM ⟨[(4,(B false))],[],0,16⟩ []
  ·refine sA ?_
   have he:=oi h
   subst he
   exact zjM ⟨[(4,(B true))],[],0,16⟩ []
theorem zjt {a0:(List SaidT)} {a1:(List SaidT)} {r:Bool} (h:zff a0 a1=some r):Fn Tryz.prog 107 [(.lf true (.sl (a0.map zj5))),(.lf true (.sl (a1.map zj5)))] [] 0 (B r) [] 0:=by
 unfold zff at h
 refine fc [(1000,[(0,0),(1,0)]),(1001,[(0,0),(1,0),(10,0)]),(1002,[(4,0)]),(1003,[(0,0),(1,0),(5,0)]),(1004,[(0,0),(1,0),(5,0),(14,0)]),(1005,[(0,0),(1,0),(5,0)]),(1006,[(0,0),(1,0),(5,0),(26,0)]),(1007,[(4,0)]),(1008,[(4,0)])] Tryz.func107 ?_
 simp only [Tryz.f107]
 refine sA ?_
 refine zjO h (λ h hc1=>?_) (λ h hc1=>?_)
 ·refine sA ?_
  have he:=oi h
  subst he
  exact zjM ⟨[(4,(B false))],[],0,27⟩ []
 ·refine sA ?_
  obtain ⟨y760,hl2,h⟩:=zjJ h
  refine zj3 (λ g755:ze1=>⟨[(0,(.lf true (.sl (a0.map zj5)))),(1,(.lf true (.sl (a1.map zj5)))),(5,(I g755.t5))],[],0,27⟩) (zck a0 a1) _ _ hl2 (zjQ []) ?_
  ·intro n1 g755 z1 hs1 hk1
   unfold zck at hs1
   try dsimp only at hs1
   refine sA ?_
   refine zjO hs1 (λ hs1 hc3=>?_) (λ hs1 hc3=>?_)
   ·refine sA ?_
    obtain ⟨hp4,hs1⟩:=zjK hs1
    have hn4:g755.t5.toNat < a0.length:=by first|omega|(simp;omega)
    refine sA ?_
    refine zj2 ?_
    obtain ⟨hp5,hs1⟩:=zjK hs1
    have hn5:g755.t5.toNat < a1.length:=by first|omega|(simp;omega)
    refine sA ?_
    refine zj2 ?_
    obtain ⟨c759,hr6,hs1⟩:=zjJ hs1
    refine zjR (zjA hr6) ?_
    refine sA ?_
    refine zjO hs1 (λ hs1 hc7=>?_) (λ hs1 hc7=>?_)
    ·refine sA ?_
     cases hs1
     cases hk1
     try dsimp only at h
     refine sA ?_
     have he:=oi h
     subst he
     exact zjM ⟨[(4,(B false))],[],0,27⟩ []
    ·refine sA ?_
     cases hs1
     exact zjW hk1 (zjQ [])
   ·refine sA ?_
    cases hs1
    cases hk1
    try dsimp only at h
    refine sA ?_
    have he:=oi h
    subst he
    exact zjM ⟨[(4,(B true))],[],0,27⟩ []
theorem zgq {a0:WorldT} {a1:WorldT} {r:Bool} (h:zc1 a0 a1=some r):Fn Tryz.prog 39 [(.ag [(.lf true (.sl (a0.fRe.map zjS))),(.lf true (.sl (a0.Line.map zj5)))]),(.ag [(.lf true (.sl (a1.fRe.map zjS))),(.lf true (.sl (a1.Line.map zj5)))])] [] 0 (B r) [] 0:=by
 unfold zc1 at h
 refine fc [(1000,[(2,0),(3,0)]),(1001,[(2,0),(3,0),(10,0)]),(1002,[(4,0)]),(1003,[(16,0)]),(1004,[(4,0)]),(1005,[(4,0)])] Tryz.func39 ?_
 simp only [Tryz.f39]
 refine sA ?_
 obtain ⟨c754,hr1,h⟩:=zjJ h
 refine zjR (ziX hr1) ?_
 refine sA ?_
 refine zjO h (λ h hc2=>?_) (λ h hc2=>?_)
 ·refine sA ?_
  have he:=oi h
  subst he
  exact zjM ⟨[(4,(B false))],[],0,17⟩ []
 ·refine sA ?_
  obtain ⟨c763,hr3,h⟩:=zjJ h
  refine zjR (zjt hr3) ?_
  refine sA ?_
  refine zjO h (λ h hc4=>?_) (λ h hc4=>?_)
  ·refine sA ?_
   have he:=oi h
   subst he
   exact zjM ⟨[(4,(B false))],[],0,17⟩ []
  ·refine sA ?_
   have he:=oi h
   subst he
   exact zjM ⟨[(4,(B true))],[],0,17⟩ []
theorem zgB {a0:(List Int)} {a1:(List Int)} {r:Bool} (h:zdX a0 a1=some r):Fn Tryz.prog 44 [(.lf true (.sl (a0.map eI))),(.lf true (.sl (a1.map eI)))] [] 0 (B r) [] 0:=by
 unfold zdX at h
 refine fc [(1000,[(0,0),(1,0)]),(1001,[(0,0),(1,0),(10,0)]),(1002,[(4,0)]),(1003,[(0,0),(1,0),(5,0)]),(1004,[(0,0),(1,0),(5,0),(14,0)]),(1005,[(0,0),(1,0),(5,0)]),(1006,[(0,0),(1,0),(5,0),(25,0)]),(1007,[(4,0)]),(1008,[(4,0)])] Tryz.func44 ?_
 simp only [Tryz.f44]
 refine sA ?_
 refine zjO h (λ h hc1=>?_) (λ h hc1=>?_)
 ·refine sA ?_
  have he:=oi h
  subst he
  exact zjM ⟨[(4,(B false))],[],0,26⟩ []
 ·refine sA ?_
  obtain ⟨y766,hl2,h⟩:=zjJ h
  refine zj3 (λ g765:zfr=>⟨[(0,(.lf true (.sl (a0.map eI)))),(1,(.lf true (.sl (a1.map eI)))),(5,(I g765.t5))],[],0,26⟩) (zcS a0 a1) _ _ hl2 (zjQ []) ?_
  ·intro n1 g765 z1 hs1 hk1
   unfold zcS at hs1
   try dsimp only at hs1
   refine sA ?_
   refine zjO hs1 (λ hs1 hc3=>?_) (λ hs1 hc3=>?_)
   ·refine sA ?_
    obtain ⟨hp4,hs1⟩:=zjK hs1
    have hn4:g765.t5.toNat < a0.length:=by first|omega|(simp;omega)
    refine sA ?_
    refine zj2 ?_
    obtain ⟨hp5,hs1⟩:=zjK hs1
    have hn5:g765.t5.toNat < a1.length:=by first|omega|(simp;omega)
    refine sA ?_
    refine zj2 ?_
    refine zjO hs1 (λ hs1 hc6=>?_) (λ hs1 hc6=>?_)
    ·refine sA ?_
     cases hs1
     cases hk1
     try dsimp only at h
     refine sA ?_
     have he:=oi h
     subst he
     exact zjM ⟨[(4,(B false))],[],0,26⟩ []
    ·refine sA ?_
     cases hs1
     exact zjW hk1 (zjQ [])
   ·refine sA ?_
    cases hs1
    cases hk1
    try dsimp only at h
    refine sA ?_
    have he:=oi h
    subst he
    exact zjM ⟨[(4,(B true))],[],0,26⟩ []
theorem zh9 {a0:WorldStepT} {a1:WorldStepT} {r:Bool} (h:zc9 a0 a1=some r):Fn Tryz.prog 114 [(.ag [(I a0.Kind),(I a0.Region),(I a0.What),(.lf false (.sc (.string a0.Name))),(I a0.K)]),(.ag [(I a1.Kind),(I a1.Region),(I a1.What),(.lf false (.sc (.string a1.Name))),(I a1.K)])] [] 0 (B r) [] 0:=by
 unfold zc9 at h
 refine fc [(1000,[(2,0),(3,0)]),(1001,[(2,0),(3,0),(9,0)]),(1002,[(4,0)]),(1003,[(2,0),(3,0),(14,0)]),(1004,[(4,0)]),(1005,[(2,0),(3,0),(19,0)]),(1006,[(4,0)]),(1007,[(2,0),(3,0),(24,0)]),(1008,[(4,0)]),(1009,[(29,0)]),(1010,[(4,0)]),(1011,[(4,0)])] Tryz.func114 ?_
 simp only [Tryz.f114]
 refine sA ?_
 refine zjO h (λ h hc1=>?_) (λ h hc1=>?_)
 ·refine sA ?_
  have he:=oi h
  subst he
  exact zjM ⟨[(4,(B false))],[],0,30⟩ []
 ·refine sA ?_
  refine zjO h (λ h hc2=>?_) (λ h hc2=>?_)
  ·refine sA ?_
   have he:=oi h
   subst he
   exact zjM ⟨[(4,(B false))],[],0,30⟩ []
  ·refine sA ?_
   refine zjO h (λ h hc3=>?_) (λ h hc3=>?_)
   ·refine sA ?_
    have he:=oi h
    subst he
    exact zjM ⟨[(4,(B false))],[],0,30⟩ []
   ·refine sA ?_
    refine zjO h (λ h hc4=>?_) (λ h hc4=>?_)
    ·refine sA ?_
     have he:=oi h
     subst he
     exact zjM ⟨[(4,(B false))],[],0,30⟩ []
    ·refine sA ?_
     refine zjO h (λ h hc5=>?_) (λ h hc5=>?_)
     ·refine sA ?_
      have he:=oi h
      subst he
      exact zjM ⟨[(4,(B false))],[],0,30⟩ []
     ·refine sA ?_
      have he:=oi h
      subst he
      exact zjM ⟨[(4,(B true))],[],0,30⟩ []
theorem zhS {a0:(List WorldStepT)} {a1:(List WorldStepT)} {r:Bool} (h:zcz a0 a1=some r):Fn Tryz.prog 45 [(.lf true (.sl (a0.map zj4))),(.lf true (.sl (a1.map zj4)))] [] 0 (B r) [] 0:=by
 unfold zcz at h
 refine fc [(1000,[(0,0),(1,0)]),(1001,[(0,0),(1,0),(10,0)]),(1002,[(4,0)]),(1003,[(0,0),(1,0),(5,0)]),(1004,[(0,0),(1,0),(5,0),(14,0)]),(1005,[(0,0),(1,0),(5,0)]),(1006,[(0,0),(1,0),(5,0),(26,0)]),(1007,[(4,0)]),(1008,[(4,0)])] Tryz.func45 ?_
 simp only [Tryz.f45]
 refine sA ?_
 refine zjO h (λ h hc1=>?_) (λ h hc1=>?_)
 ·refine sA ?_
  have he:=oi h
  subst he
  exact zjM ⟨[(4,(B false))],[],0,27⟩ []
 ·refine sA ?_
  obtain ⟨y775,hl2,h⟩:=zjJ h
  refine zj3 (λ g772:zcN=>⟨[(0,(.lf true (.sl (a0.map zj4)))),(1,(.lf true (.sl (a1.map zj4)))),(5,(I g772.t5))],[],0,27⟩) (zay a0 a1) _ _ hl2 (zjQ []) ?_
  ·intro n1 g772 z1 hs1 hk1
   unfold zay at hs1
   try dsimp only at hs1
   refine sA ?_
   refine zjO hs1 (λ hs1 hc3=>?_) (λ hs1 hc3=>?_)
   ·refine sA ?_
    obtain ⟨hp4,hs1⟩:=zjK hs1
    have hn4:g772.t5.toNat < a0.length:=by first|omega|(simp;omega)
    refine sA ?_
    refine zj2 ?_
    obtain ⟨hp5,hs1⟩:=zjK hs1
    have hn5:g772.t5.toNat < a1.length:=by first|omega|(simp;omega)
    refine sA ?_
    refine zj2 ?_
    obtain ⟨c774,hr6,hs1⟩:=zjJ hs1
    refine zjR (zh9 hr6) ?_
    refine sA ?_
    refine zjO hs1 (λ hs1 hc7=>?_) (λ hs1 hc7=>?_)
    ·refine sA ?_
     cases hs1
     cases hk1
     try dsimp only at h
     refine sA ?_
     have he:=oi h
     subst he
     exact zjM ⟨[(4,(B false))],[],0,27⟩ []
    ·refine sA ?_
     cases hs1
     exact zjW hk1 (zjQ [])
   ·refine sA ?_
    cases hs1
    cases hk1
    try dsimp only at h
    refine sA ?_
    have he:=oi h
    subst he
    exact zjM ⟨[(4,(B true))],[],0,27⟩ []
theorem zgf {a0:Int} {r:ByteArray} (h:zak a0=some r):Fn Tryz.prog 115 [(I a0)] [] 0 (.lf false (.sc (.string r))) [] 0:=by
 unfold zak at h
 refine fc [(1000,[(0,0)]),(1001,[(0,0),(5,0)]),(1002,[(2,0)]),(1003,[(0,0),(3,0)]),(1004,[(0,0),(3,0),(7,0)]),(1005,[(0,0),(3,0)]),(1006,[(0,0),(3,0)]),(1007,[(2,0)])] Tryz.func115 ?_
 simp only [Tryz.f115]
 refine sA ?_
 refine zjO h (λ h hc1=>?_) (λ h hc1=>?_)
 ·refine sA ?_
  cases h
  exact zjM ⟨[(2,(.lf false (.sc (.string (⟨#[109,48]⟩:ByteArray)))))],[],0,20⟩ []
 ·refine sA ?_
  obtain ⟨y782,hl2,h⟩:=zjJ h
  refine zj3 (λ g781:zfS=>⟨[(0,(I g781.t0)),(3,(.lf false (.sc (.string g781.t3))))],[],0,20⟩) (zeC) _ _ hl2 (zjQ []) ?_
  ·intro n1 g781 z1 hs1 hk1
   unfold zeC at hs1
   try dsimp only at hs1
   refine sA ?_
   refine zjO hs1 (λ hs1 hc3=>?_) (λ hs1 hc3=>?_)
   ·refine sA ?_
    obtain ⟨hp4,hs1⟩:=zjK hs1
    refine sA ?_
    refine zj2 ?_
    cases hs1
    exact zjW hk1 (zjQ [])
   ·refine sA ?_
    cases hs1
    cases hk1
    try dsimp only at h
    refine sA ?_
    obtain ⟨hp5,h⟩:=zjK h
    refine sA ?_
    refine zj2 ?_
    cases h
    exact zjM ⟨[(2,(.lf false (.sc (.string ((⟨#[109]⟩:ByteArray)++g781.t3)))))],[],0,20⟩ []
theorem zg5 {a0:(List WorldStepT)} {a1:Int} {m0:Nat} {x0:Bool} {r:(Int×(List WorldStepT))} (h:zba a0 a1=some r):Fn Tryz.prog 46 [(.os 0 5 0 a0.length m0 x0),(I a1)] [(0,some (false,.arr true 5 (a0.map zj4)))] 1 (I r.1) [(0,some (false,.arr false 5 (r.2.map zj4)))] 1:=by
 unfold zba at h
 refine fc [(1000,[(0,0),(1,0)]),(1001,[(0,0),(1,0),(5,0)]),(1002,[(0,0),(1,0),(5,0),(9,0)]),(1003,[(0,0),(1,0),(5,0)]),(1004,[(0,0),(1,0),(5,0)]),(1005,[(0,0),(1,0),(5,0)]),(1006,[(0,0),(1,0),(5,0)]),(1007,[(0,0),(1,0),(5,0)]),(1008,[(0,0),(1,0),(5,0)]),(1009,[(0,0),(1,0),(5,0)]),(1010,[(0,0),(1,0),(5,0)]),(1011,[(0,0),(1,0),(5,0)]),(1012,[(0,0),(1,0),(5,0)]),(1013,[(0,0),(1,0),(5,0)]),(1014,[(4,0)])] Tryz.func46 ?_
 simp only [Tryz.f46]
 simp (disch:=first | assumption | (simp only [qL];assumption)) only [go_sem,qA,qB,qC,qD,↓reduceIte,qE,reduceCtorEq,qF,qH,qI,qJ,qK,qG,zm1,qa]
 obtain ⟨y785,hl1,h⟩:=zjJ h
 refine zj3 (λ g780:zbp=>⟨[(0,(.os 0 5 0 g780.c0.length g780.c0.length false)),(1,(I g780.t1)),(5,(I g780.t5))],[(0,some (false,.arr true 5 (g780.c0.map zj4)))],1,49⟩) (zM) _ _ hl1 (zlT (m:=1) [some 0] rfl rfl rfl (by rfl) (by ((try simp (disch:=first | assumption | (simp only [qL];assumption)) only [go_sem,qA,qB,qC,qD,↓reduceIte,qE,reduceCtorEq,qF,qH,qI,qJ,qK,qG,zm1,qa]);(repeat' first | done | rfl | omega | refine And.intro ?_ ?_ | (simp;done) | (simp;omega)))) (by ((try simp (disch:=first | assumption | (simp only [qL];assumption)) only [go_sem,qA,qB,qC,qD,↓reduceIte,qE,reduceCtorEq,qF,qH,qI,qJ,qK,qG,zm1,qa]);(repeat' first | done | rfl | omega | refine And.intro ?_ ?_ | (simp;done) | (simp;omega))))) ?_
 ·intro n1 g780 z1 hs1 hk1
  unfold zM at hs1
  try dsimp only at hs1
  simp (disch:=first | assumption | (simp only [qL];assumption)) only [go_sem,qA,qB,qC,qD,↓reduceIte,qE,reduceCtorEq,qF,qH,qI,qJ,qK,qG,zm1,qa]
  refine zjO hs1 (λ hs1 hc2=>?_) (λ hs1 hc2=>?_)
  ·try simp (disch:=first | assumption | (simp only [qL];assumption)) only [go_sem,qA,qB,qC,qD,↓reduceIte,qE,reduceCtorEq,qF,qH,qI,qJ,qK,qG,zm1,qa]
   obtain ⟨hp3,hs1⟩:=zjK hs1
   have hn3:g780.t5.toNat < g780.c0.length:=by first|omega|(simp;omega)
   try simp (disch:=first | assumption | (simp only [qL];assumption)) only [go_sem,qA,qB,qC,qD,↓reduceIte,qE,reduceCtorEq,qF,qH,qI,qJ,qK,qG,zm1,qa]
   refine zj2 ?_
   refine zm4 ?_
   try simp (disch:=first | assumption | (simp only [qL];assumption)) only [go_sem,qA,qB,qC,qD,↓reduceIte,qE,reduceCtorEq,qF,qH,qI,qJ,qK,qG,zm1,qa]
   obtain ⟨hp5,hs1⟩:=zjK hs1
   have hn5:g780.t5.toNat < g780.c0.length:=by first|omega|(simp;omega)
   try simp (disch:=first | assumption | (simp only [qL];assumption)) only [go_sem,qA,qB,qC,qD,↓reduceIte,qE,reduceCtorEq,qF,qH,qI,qJ,qK,qG,zm1,qa]
   refine zj2 ?_
   refine zm4 ?_
   try simp (disch:=first | assumption | (simp only [qL];assumption)) only [go_sem,qA,qB,qC,qD,↓reduceIte,qE,reduceCtorEq,qF,qH,qI,qJ,qK,qG,zm1,qa]
   obtain ⟨hp7,hs1⟩:=zjK hs1
   have hn7:g780.t5.toNat < g780.c0.length:=by first|omega|(simp;omega)
   try simp (disch:=first | assumption | (simp only [qL];assumption)) only [go_sem,qA,qB,qC,qD,↓reduceIte,qE,reduceCtorEq,qF,qH,qI,qJ,qK,qG,zm1,qa]
   refine zj2 ?_
   refine zm4 ?_
   try simp (disch:=first | assumption | (simp only [qL];assumption)) only [go_sem,qA,qB,qC,qD,↓reduceIte,qE,reduceCtorEq,qF,qH,qI,qJ,qK,qG,zm1,qa]
   obtain ⟨c784,hr9,hs1⟩:=zjJ hs1
   refine zrD (zgf hr9) (by first | rfl | (simp (disch:=first | assumption | (simp only [qL];assumption)) only [go_sem,qA,qB,qC,qD,↓reduceIte,qE,reduceCtorEq,qF,qH,qI,qJ,qK,qG,zm1,qa];first | done | rfl) | (simp only [qM,qP,qQ,qO,qL,qN,qb,qA];rfl) | (simp (disch:=first | assumption | (simp only [qL];assumption)) only [go_sem,qA,qB,qC,qD,↓reduceIte,qE,reduceCtorEq,qF,qH,qI,qJ,qK,qG,zm1,qa];simp only [qM,qP,qQ,qO,qL,qN,qb,qA];rfl)) (FitAll.refl _) (.inl (by first | rfl | (simp (disch:=first | assumption | (simp only [qL];assumption)) only [go_sem,qA,qB,qC,qD,↓reduceIte,qE,reduceCtorEq,qF,qH,qI,qJ,qK,qG,zm1,qa];done))) ?_
   try simp (disch:=first | assumption | (simp only [qL];assumption)) only [go_sem,qA,qB,qC,qD,↓reduceIte,qE,reduceCtorEq,qF,qH,qI,qJ,qK,qG,zm1,qa]
   obtain ⟨hp10,hs1⟩:=zjK hs1
   have hn10:g780.t5.toNat < g780.c0.length:=by first|omega|(simp;omega)
   try simp (disch:=first | assumption | (simp only [qL];assumption)) only [go_sem,qA,qB,qC,qD,↓reduceIte,qE,reduceCtorEq,qF,qH,qI,qJ,qK,qG,zm1,qa]
   refine zj2 ?_
   refine zm4 ?_
   try simp (disch:=first | assumption | (simp only [qL];assumption)) only [go_sem,qA,qB,qC,qD,↓reduceIte,qE,reduceCtorEq,qF,qH,qI,qJ,qK,qG,zm1,qa]
   obtain ⟨hp12,hs1⟩:=zjK hs1
   have hn12:g780.t5.toNat < g780.c0.length:=by first|omega|(simp;omega)
   try simp (disch:=first | assumption | (simp only [qL];assumption)) only [go_sem,qA,qB,qC,qD,↓reduceIte,qE,reduceCtorEq,qF,qH,qI,qJ,qK,qG,zm1,qa]
   refine zj2 ?_
   refine zm4 ?_
   try simp (disch:=first | assumption | (simp only [qL];assumption)) only [go_sem,qA,qB,qC,qD,↓reduceIte,qE,reduceCtorEq,qF,qH,qI,qJ,qK,qG,zm1,qa]
   cases hs1
   refine zjW hk1 ?_
   refine zlT (m:=1) [some 0] rfl rfl rfl (by rfl) ?_ ?_
   all_goals ((try simp (disch:=first | assumption | (simp only [qL];assumption)) only [go_sem,qA,qB,qC,qD,↓reduceIte,qE,reduceCtorEq,qF,qH,qI,qJ,qK,qG,zm1,qa]);(repeat' first | done | rfl | omega | refine And.intro ?_ ?_ | (simp;done) | (simp;omega)))
  ·try simp (disch:=first | assumption | (simp only [qL];assumption)) only [go_sem,qA,qB,qC,qD,↓reduceIte,qE,reduceCtorEq,qF,qH,qI,qJ,qK,qG,zm1,qa]
   cases hs1
   cases hk1
   try dsimp only at h
   try simp (disch:=first | assumption | (simp only [qL];assumption)) only [go_sem,qA,qB,qC,qD,↓reduceIte,qE,reduceCtorEq,qF,qH,qI,qJ,qK,qG,zm1,qa]
   cases h
   refine zlC ⟨[(4,(I g780.t1))],[(0,some (false,.arr false 5 (g780.c0.map zj4)))],1,49⟩ (zlT (m:=1) [some 0] rfl rfl rfl (by rfl) ?_ ?_) ?_
   all_goals ((try simp (disch:=first | assumption | (simp only [qL];assumption)) only [go_sem,qA,qB,qC,qD,↓reduceIte,qE,reduceCtorEq,qF,qH,qI,qJ,qK,qG,zm1,qa]);(repeat' first | done | rfl | omega | refine And.intro ?_ ?_ | (simp;done) | (simp;omega)))
theorem zhT {a0:(List EventT)} {a1:Int} {m0:Nat} {x0:Bool} {r:(Int×(List EventT))} (h:zct a0 a1=some r):Fn Tryz.prog 201 [(.os 0 4 0 a0.length m0 x0),(I a1)] [(0,some (false,.arr true 4 (a0.map zjU)))] 1 (I r.1) [(0,some (false,.arr false 4 (r.2.map zjU)))] 1:=by
 unfold zct at h
 refine fc [(1000,[(0,0),(1,0)]),(1001,[(0,0),(1,0),(5,0)]),(1002,[(0,0),(1,0),(5,0),(9,0)]),(1003,[(0,0),(1,0),(5,0)]),(1004,[(0,0),(1,0),(5,0)]),(1005,[(0,0),(1,0),(5,0)]),(1006,[(0,0),(1,0),(5,0)]),(1007,[(0,0),(1,0),(5,0)]),(1008,[(0,0),(1,0),(5,0)]),(1009,[(0,0),(1,0),(5,0)]),(1010,[(0,0),(1,0),(5,0)]),(1011,[(0,0),(1,0),(5,0)]),(1012,[(4,0)])] Tryz.func201 ?_
 simp only [Tryz.f201]
 refine sA ?_
 obtain ⟨y800,hl1,h⟩:=zjJ h
 refine zj3 (λ g797:zcC=>⟨[(0,(.os 0 4 0 g797.c0.length g797.c0.length false)),(1,(I g797.t1)),(5,(I g797.t5))],[(0,some (false,.arr true 4 (g797.c0.map zjU)))],1,42⟩) (zan) _ _ hl1 (zjQ [some 0]) ?_
 ·intro n1 g797 z1 hs1 hk1
  unfold zan at hs1
  try dsimp only at hs1
  refine sA ?_
  refine zjO hs1 (λ hs1 hc2=>?_) (λ hs1 hc2=>?_)
  ·refine sA ?_
   obtain ⟨hp3,hs1⟩:=zjK hs1
   have hn3:g797.t5.toNat < g797.c0.length:=by first|omega|(simp;omega)
   refine sA ?_
   refine zj2 ?_
   refine zm4 ?_
   refine sA ?_
   obtain ⟨hp5,hs1⟩:=zjK hs1
   have hn5:g797.t5.toNat < g797.c0.length:=by first|omega|(simp;omega)
   refine sA ?_
   refine zj2 ?_
   refine zm4 ?_
   refine sA ?_
   obtain ⟨hp7,hs1⟩:=zjK hs1
   have hn7:g797.t5.toNat < g797.c0.length:=by first|omega|(simp;omega)
   refine sA ?_
   refine zj2 ?_
   refine zm4 ?_
   refine sA ?_
   obtain ⟨c799,hr9,hs1⟩:=zjJ hs1
   refine zjR (zgf hr9) ?_
   refine sA ?_
   obtain ⟨hp10,hs1⟩:=zjK hs1
   have hn10:g797.t5.toNat < g797.c0.length:=by first|omega|(simp;omega)
   refine sA ?_
   refine zj2 ?_
   refine zm4 ?_
   refine sA ?_
   cases hs1
   exact zjW hk1 (zjQ [some 0])
  ·refine sA ?_
   cases hs1
   cases hk1
   try dsimp only at h
   refine sA ?_
   cases h
   exact zjM ⟨[(4,(I g797.t1))],[(0,some (false,.arr false 4 (g797.c0.map zjU)))],1,42⟩ [some 0]
theorem zf3 {a0:(List BranchT)} {a1:Int} {m0:Nat} {x0:Bool} {r:(Int×(List BranchT))} (h:zaM a0 a1=some r):Fn Tryz.prog 148 [(.os 0 1 0 a0.length m0 x0),(I a1)] [(0,some (false,.deep [.sl [.sc,.sc,.sc,.sc]] (a0.map zjN)))] 1 (I r.1) [(0,some (false,.deep [.sl [.sc,.sc,.sc,.sc]] (r.2.map zjN)))] 1:=by
 unfold zaM at h
 refine fc [(1000,[(0,0),(1,0)]),(1001,[(0,0),(1,0),(5,0)]),(1002,[(0,0),(1,0),(5,0),(9,0)]),(1003,[(0,0),(1,0),(5,0)]),(1004,[(0,0),(1,0),(5,0)]),(1005,[(4,0)]),(5004,[])] Tryz.func148 ?_
 simp only [Tryz.f148]
 refine sA ?_
 obtain ⟨y803,hl1,h⟩:=zjJ h
 refine zj3 (λ g796:zb4=>⟨[(0,(.os 0 1 0 g796.c0.length g796.c0.length false)),(1,(I g796.t1)),(5,(I g796.t5))],[(0,some (false,.deep [.sl [.sc,.sc,.sc,.sc]] (g796.c0.map zjN)))],1,20⟩) (zV) _ _ hl1 (zjQ [some 0]) ?_
 ·intro n1 g796 z1 hs1 hk1
  unfold zV at hs1
  try dsimp only at hs1
  refine sA ?_
  refine zjO hs1 (λ hs1 hc2=>?_) (λ hs1 hc2=>?_)
  ·refine sA ?_
   obtain ⟨hp3,hs1⟩:=zjK hs1
   refine zmf 0 g796.t5.toNat ?_
   refine sA ?_
   obtain ⟨hp4,hs1⟩:=zjK hs1
   have hn4:g796.t5.toNat < g796.c0.length:=by first|omega|(simp;omega)
   refine sA ?_
   refine zj2 ?_
   obtain ⟨c802,hr5,hs1⟩:=zjJ hs1
   refine zll [1] (zhT hr5) ?_
   refine sA ?_
   obtain ⟨hp6,hs1⟩:=zjK hs1
   try rw [← hp6]
   refine sA ?_
   cases hs1
   exact zjW hk1 (zob 0 (zjQ [some 0]))
  ·refine sA ?_
   cases hs1
   cases hk1
   try dsimp only at h
   refine sA ?_
   cases h
   exact zjM ⟨[(4,(I g796.t1))],[(0,some (false,.deep [.sl [.sc,.sc,.sc,.sc]] (g796.c0.map zjN)))],1,20⟩ [some 0]
theorem zhx {a0:(List RegionT)} {a1:Int} {m0:Nat} {x0:Bool} {r:(Int×(List RegionT))} (h:zbG a0 a1=some r):Fn Tryz.prog 108 [(.os 0 3 0 a0.length m0 x0),(I a1)] [(0,some (false,.deep [.sc,.sc,.sl [.sl [.sc,.sc,.sc,.sc]]] (a0.map zjS)))] 1 (I r.1) [(0,some (false,.deep [.sc,.sc,.sl [.sl [.sc,.sc,.sc,.sc]]] (r.2.map zjS)))] 1:=by
 unfold zbG at h
 refine fc [(1000,[(0,0),(1,0)]),(1001,[(0,0),(1,0),(5,0)]),(1002,[(0,0),(1,0),(5,0),(9,0)]),(1003,[(0,0),(1,0),(5,0)]),(1004,[(0,0),(1,0),(5,0)]),(1005,[(0,0),(1,0),(5,0)]),(1006,[(0,0),(1,0),(5,0)]),(1007,[(0,0),(1,0),(5,0)]),(1008,[(0,0),(1,0),(5,0)]),(1009,[(4,0)]),(5004,[])] Tryz.func108 ?_
 simp only [Tryz.f108]
 refine sA ?_
 obtain ⟨y806,hl1,h⟩:=zjJ h
 refine zj3 (λ g792:zb5=>⟨[(0,(.os 0 3 0 g792.c0.length g792.c0.length false)),(1,(I g792.t1)),(5,(I g792.t5))],[(0,some (false,.deep [.sc,.sc,.sl [.sl [.sc,.sc,.sc,.sc]]] (g792.c0.map zjS)))],1,35⟩) (zW) _ _ hl1 (zjQ [some 0]) ?_
 ·intro n1 g792 z1 hs1 hk1
  unfold zW at hs1
  try dsimp only at hs1
  refine sA ?_
  refine zjO hs1 (λ hs1 hc2=>?_) (λ hs1 hc2=>?_)
  ·refine sA ?_
   obtain ⟨hp3,hs1⟩:=zjK hs1
   refine zmf 0 g792.t5.toNat ?_
   refine sA ?_
   obtain ⟨hp4,hs1⟩:=zjK hs1
   have hn4:g792.t5.toNat < g792.c0.length:=by first|omega|(simp;omega)
   refine sA ?_
   refine zj2 ?_
   obtain ⟨hp5,hs1⟩:=zjK hs1
   have hn5:g792.t5.toNat < g792.c0.length:=by first|omega|(simp;omega)
   refine sA ?_
   refine zj2 ?_
   obtain ⟨hp6,hs1⟩:=zjK hs1
   have hn6:g792.t5.toNat < g792.c0.length:=by first|omega|(simp;omega)
   refine sA ?_
   refine zj2 ?_
   obtain ⟨c805,hr7,hs1⟩:=zjJ hs1
   refine zll [3] (zf3 hr7) ?_
   refine sA ?_
   obtain ⟨hp8,hs1⟩:=zjK hs1
   try rw [← hp8]
   refine sA ?_
   cases hs1
   exact zjW hk1 (zob 0 (zjQ [some 0]))
  ·refine sA ?_
   cases hs1
   cases hk1
   try dsimp only at h
   refine sA ?_
   cases h
   exact zjM ⟨[(4,(I g792.t1))],[(0,some (false,.deep [.sc,.sc,.sl [.sl [.sc,.sc,.sc,.sc]]] (g792.c0.map zjS)))],1,35⟩ [some 0]
theorem zhU {a0:(List SaidT)} {a1:Int} {m0:Nat} {x0:Bool} {r:(Int×(List SaidT))} (h:zcv a0 a1=some r):Fn Tryz.prog 109 [(.os 0 3 0 a0.length m0 x0),(I a1)] [(0,some (false,.deep [.sc,.sc,.sl [.sl [.sc,.sc,.sc,.sc]]] (a0.map zj5)))] 1 (I r.1) [(0,some (false,.deep [.sc,.sc,.sl [.sl [.sc,.sc,.sc,.sc]]] (r.2.map zj5)))] 1:=by
 unfold zcv at h
 refine fc [(1000,[(0,0),(1,0)]),(1001,[(0,0),(1,0),(5,0)]),(1002,[(0,0),(1,0),(5,0),(9,0)]),(1003,[(0,0),(1,0),(5,0)]),(1004,[(0,0),(1,0),(5,0)]),(1005,[(0,0),(1,0),(5,0)]),(1006,[(0,0),(1,0),(5,0)]),(1007,[(0,0),(1,0),(5,0)]),(1008,[(0,0),(1,0),(5,0)]),(1009,[(4,0)]),(5004,[])] Tryz.func109 ?_
 simp only [Tryz.f109]
 refine sA ?_
 obtain ⟨y813,hl1,h⟩:=zjJ h
 refine zj3 (λ g810:zcG=>⟨[(0,(.os 0 3 0 g810.c0.length g810.c0.length false)),(1,(I g810.t1)),(5,(I g810.t5))],[(0,some (false,.deep [.sc,.sc,.sl [.sl [.sc,.sc,.sc,.sc]]] (g810.c0.map zj5)))],1,37⟩) (zav) _ _ hl1 (zjQ [some 0]) ?_
 ·intro n1 g810 z1 hs1 hk1
  unfold zav at hs1
  try dsimp only at hs1
  refine sA ?_
  refine zjO hs1 (λ hs1 hc2=>?_) (λ hs1 hc2=>?_)
  ·refine sA ?_
   obtain ⟨hp3,hs1⟩:=zjK hs1
   refine zmf 0 g810.t5.toNat ?_
   refine sA ?_
   obtain ⟨hp4,hs1⟩:=zjK hs1
   have hn4:g810.t5.toNat < g810.c0.length:=by first|omega|(simp;omega)
   refine sA ?_
   refine zj2 ?_
   obtain ⟨hp5,hs1⟩:=zjK hs1
   have hn5:g810.t5.toNat < g810.c0.length:=by first|omega|(simp;omega)
   refine sA ?_
   refine zj2 ?_
   obtain ⟨hp6,hs1⟩:=zjK hs1
   have hn6:g810.t5.toNat < g810.c0.length:=by first|omega|(simp;omega)
   refine sA ?_
   refine zj2 ?_
   obtain ⟨c812,hr7,hs1⟩:=zjJ hs1
   refine zll [3] (zf3 hr7) ?_
   refine sA ?_
   obtain ⟨hp8,hs1⟩:=zjK hs1
   try rw [← hp8]
   refine sA ?_
   cases hs1
   exact zjW hk1 (zob 0 (zjQ [some 0]))
  ·refine sA ?_
   cases hs1
   cases hk1
   try dsimp only at h
   refine sA ?_
   cases h
   exact zjM ⟨[(4,(I g810.t1))],[(0,some (false,.deep [.sc,.sc,.sl [.sl [.sc,.sc,.sc,.sc]]] (g810.c0.map zj5)))],1,37⟩ [some 0]
theorem zhy {a0:WorldT} {a1:Int} {m0:Nat} {x0:Bool} {m1:Nat} {x1:Bool} {r:(Int×(List RegionT)×(List SaidT))} (h:zdf a0 a1=some r):Fn Tryz.prog 40 [(.ag [(.os 0 3 0 a0.fRe.length m0 x0),(.os 1 3 0 a0.Line.length m1 x1)]),(I a1)] [(0,some (false,.deep [.sc,.sc,.sl [.sl [.sc,.sc,.sc,.sc]]] (a0.fRe.map zjS))),(1,some (false,.deep [.sc,.sc,.sl [.sl [.sc,.sc,.sc,.sc]]] (a0.Line.map zj5)))] 2 (I r.1) [(0,some (false,.deep [.sc,.sc,.sl [.sl [.sc,.sc,.sc,.sc]]] (r.2.1.map zjS))),(1,some (false,.deep [.sc,.sc,.sl [.sl [.sc,.sc,.sc,.sc]]] (r.2.2.map zj5)))] 2:=by
 unfold zdf at h
 refine fc [(1000,[(1,0),(2,0)]),(1001,[(1,0),(2,0)]),(1002,[(1,0)]),(1003,[(4,0)])] Tryz.func40 ?_
 simp only [Tryz.f40]
 refine sA ?_
 obtain ⟨c807,hr1,h⟩:=zjJ h
 refine zll [0] (zhx hr1) ?_
 refine sA ?_
 obtain ⟨hp2,h⟩:=zjK h
 try rw [← hp2]
 refine sA ?_
 obtain ⟨c814,hr3,h⟩:=zjJ h
 refine zll [1] (zhU hr3) ?_
 refine sA ?_
 obtain ⟨hp4,h⟩:=zjK h
 try rw [← hp4]
 refine sA ?_
 cases h
 exact zjM ⟨[(4,(I c814.1))],[(0,some (false,.deep [.sc,.sc,.sl [.sl [.sc,.sc,.sc,.sc]]] (c807.2.map zjS))),(1,some (false,.deep [.sc,.sc,.sl [.sl [.sc,.sc,.sc,.sc]]] (c814.2.map zj5)))],2,14⟩ [some 0,some 1]
theorem ziD {a0:(List Int)} {a1:Int} {m0:Nat} {x0:Bool} {r:(Int×(List Int))} (h:zdE a0 a1=some r):Fn Tryz.prog 47 [(.os 0 1 0 a0.length m0 x0),(I a1)] [(0,some (false,.arr true 1 (a0.map eI)))] 1 (I r.1) [(0,some (false,.arr false 1 (r.2.map eI)))] 1:=by
 unfold zdE at h
 refine fc [(1000,[(0,0),(1,0)]),(1001,[(0,0),(1,0),(5,0)]),(1002,[(0,0),(1,0),(5,0),(9,0)]),(1003,[(0,0),(1,0),(5,0)]),(1004,[(0,0),(1,0),(5,0)]),(1005,[(0,0),(1,0),(5,0)]),(1006,[(4,0)])] Tryz.func47 ?_
 simp only [Tryz.f47]
 refine sA ?_
 obtain ⟨y818,hl1,h⟩:=zjJ h
 refine zj3 (λ g817:zdD=>⟨[(0,(.os 0 1 0 g817.c0.length g817.c0.length false)),(1,(I g817.t1)),(5,(I g817.t5))],[(0,some (false,.arr true 1 (g817.c0.map eI)))],1,19⟩) (za7) _ _ hl1 (zjQ [some 0]) ?_
 ·intro n1 g817 z1 hs1 hk1
  unfold za7 at hs1
  try dsimp only at hs1
  refine sA ?_
  refine zjO hs1 (λ hs1 hc2=>?_) (λ hs1 hc2=>?_)
  ·refine sA ?_
   obtain ⟨hp3,hs1⟩:=zjK hs1
   have hn3:g817.t5.toNat < g817.c0.length:=by first|omega|(simp;omega)
   refine sA ?_
   refine zj2 ?_
   refine zm4 ?_
   refine sA ?_
   cases hs1
   exact zjW hk1 (zjQ [some 0])
  ·refine sA ?_
   cases hs1
   cases hk1
   try dsimp only at h
   refine sA ?_
   cases h
   exact zjM ⟨[(4,(I g817.t1))],[(0,some (false,.arr false 1 (g817.c0.map eI)))],1,19⟩ [some 0]
theorem ziE {a0:(List EventT)} {a1:Int} {r:Int} (h:zdG a0 a1=some r):Fn Tryz.prog 202 [(.lf true (.sl (a0.map zjU))),(I a1)] [] 0 (I r) [] 0:=by
 unfold zdG at h
 refine fc [(13,[(4,6)]),(1000,[(0,0),(1,0)]),(1001,[(0,0),(1,0),(5,0)]),(1002,[(0,0),(1,0),(5,0),(9,0)]),(1003,[(0,0),(1,0),(5,0)]),(1004,[(0,0),(1,0),(5,0),(18,0)]),(1005,[(4,0)]),(1006,[(0,0),(1,0),(5,0)]),(1007,[(0,0),(1,0),(5,0),(27,0)]),(1008,[(4,0)]),(1009,[(0,0),(1,0),(5,0)]),(1010,[(0,0),(1,0),(5,0),(36,0)]),(1011,[(4,0)]),(1012,[(0,0),(1,0),(5,0)]),(1013,[(0,0),(1,0),(5,0),(46,0)]),(1014,[(4,0)]),(1015,[(0,0),(1,0),(5,0)]),(1016,[(4,0)])] Tryz.func202 ?_
 simp only [Tryz.f202]
 refine sA ?_
 obtain ⟨y825,hl1,h⟩:=zjJ h
 refine zj3 (λ g822:zdF=>⟨[(0,(.lf true (.sl (a0.map zjU)))),(1,(I g822.t1)),(5,(I g822.t5))],[],0,50⟩) (za8 a0) _ _ hl1 (zjQ []) ?_
 ·intro n1 g822 z1 hs1 hk1
  unfold za8 at hs1
  try dsimp only at hs1
  refine sA ?_
  refine zjO hs1 (λ hs1 hc2=>?_) (λ hs1 hc2=>?_)
  ·refine sA ?_
   obtain ⟨hp3,hs1⟩:=zjK hs1
   have hn3:g822.t5.toNat < a0.length:=by first|omega|(simp;omega)
   refine sA ?_
   refine zj2 ?_
   refine zjO hs1 (λ hs1 hc4=>?_) (λ hs1 hc4=>?_)
   ·refine sA ?_
    cases hs1
    cases hk1
    try dsimp only at h
    refine sA ?_
    cases h
    exact zjM ⟨[(4,(I (-1)))],[],0,50⟩ []
   ·refine sA ?_
    obtain ⟨hp5,hs1⟩:=zjK hs1
    have hn5:g822.t5.toNat < a0.length:=by first|omega|(simp;omega)
    refine sA ?_
    refine zj2 ?_
    refine zjO hs1 (λ hs1 hc6=>?_) (λ hs1 hc6=>?_)
    ·refine sA ?_
     cases hs1
     cases hk1
     try dsimp only at h
     refine sA ?_
     cases h
     exact zjM ⟨[(4,(I (-1)))],[],0,50⟩ []
    ·refine sA ?_
     obtain ⟨hp7,hs1⟩:=zjK hs1
     have hn7:g822.t5.toNat < a0.length:=by first|omega|(simp;omega)
     refine sA ?_
     refine zj2 ?_
     refine zjO hs1 (λ hs1 hc8=>?_) (λ hs1 hc8=>?_)
     ·refine sA ?_
      cases hs1
      cases hk1
      try dsimp only at h
      refine sA ?_
      cases h
      exact zjM ⟨[(4,(I (-1)))],[],0,50⟩ []
     ·refine sA ?_
      obtain ⟨hp9,hs1⟩:=zjK hs1
      have hn9:g822.t5.toNat < a0.length:=by first|omega|(simp;omega)
      refine sA ?_
      refine zj2 ?_
      obtain ⟨c824,hr10,hs1⟩:=zjJ hs1
      refine zjR (zgf hr10) ?_
      refine sA ?_
      refine zjO hs1 (λ hs1 hc11=>?_) (λ hs1 hc11=>?_)
      ·refine sA ?_
       cases hs1
       cases hk1
       try dsimp only at h
       refine sA ?_
       cases h
       exact zjM ⟨[(4,(I (-1)))],[],0,50⟩ []
      ·refine sA ?_
       cases hs1
       exact zjW hk1 (zjQ [])
  ·refine sA ?_
   cases hs1
   cases hk1
   try dsimp only at h
   refine sA ?_
   cases h
   exact zjM ⟨[(4,(I g822.t1))],[],0,50⟩ []
theorem zgy {a0:(List BranchT)} {a1:Int} {r:Int} (h:zbS a0 a1=some r):Fn Tryz.prog 149 [(.lf true (.sl (a0.map zjN))),(I a1)] [] 0 (I r) [] 0:=by
 unfold zbS at h
 refine fc [(1000,[(0,0),(1,0)]),(1001,[(0,0),(1,0),(5,0)]),(1002,[(0,0),(1,0),(5,0),(9,0)]),(1003,[(0,0),(1,0),(5,0)]),(1004,[(0,0),(1,0),(5,0)]),(1005,[(0,0),(1,0),(5,0),(20,0)]),(1006,[(4,0)]),(1007,[(4,0)])] Tryz.func149 ?_
 simp only [Tryz.f149]
 refine sA ?_
 obtain ⟨y830,hl1,h⟩:=zjJ h
 refine zj3 (λ g821:zde=>⟨[(0,(.lf true (.sl (a0.map zjN)))),(1,(I g821.t1)),(5,(I g821.t5))],[],0,22⟩) (zaN a0) _ _ hl1 (zjQ []) ?_
 ·intro n1 g821 z1 hs1 hk1
  unfold zaN at hs1
  try dsimp only at hs1
  refine sA ?_
  refine zjO hs1 (λ hs1 hc2=>?_) (λ hs1 hc2=>?_)
  ·refine sA ?_
   obtain ⟨hp3,hs1⟩:=zjK hs1
   have hn3:g821.t5.toNat < a0.length:=by first|omega|(simp;omega)
   refine sA ?_
   refine zj2 ?_
   obtain ⟨c829,hr4,hs1⟩:=zjJ hs1
   refine zjR (ziE hr4) ?_
   refine sA ?_
   refine zjO hs1 (λ hs1 hc5=>?_) (λ hs1 hc5=>?_)
   ·refine sA ?_
    cases hs1
    cases hk1
    try dsimp only at h
    refine sA ?_
    cases h
    exact zjM ⟨[(4,(I (-1)))],[],0,22⟩ []
   ·refine sA ?_
    cases hs1
    exact zjW hk1 (zjQ [])
  ·refine sA ?_
   cases hs1
   cases hk1
   try dsimp only at h
   refine sA ?_
   cases h
   exact zjM ⟨[(4,(I g821.t1))],[],0,22⟩ []
theorem zia {a0:(List RegionT)} {a1:Int} {r:Int} (h:zc6 a0 a1=some r):Fn Tryz.prog 110 [(.lf true (.sl (a0.map zjS))),(I a1)] [] 0 (I r) [] 0:=by
 unfold zc6 at h
 refine fc [(1000,[(0,0),(1,0)]),(1001,[(0,0),(1,0),(5,0)]),(1002,[(0,0),(1,0),(5,0),(9,0)]),(1003,[(0,0),(1,0),(5,0)]),(1004,[(0,0),(1,0),(5,0),(18,0)]),(1005,[(4,0)]),(1006,[(0,0),(1,0),(5,0)]),(1007,[(0,0),(1,0),(5,0),(27,0)]),(1008,[(4,0)]),(1009,[(0,0),(1,0),(5,0)]),(1010,[(0,0),(1,0),(5,0)]),(1011,[(0,0),(1,0),(5,0),(39,0)]),(1012,[(4,0)]),(1013,[(4,0)])] Tryz.func110 ?_
 simp only [Tryz.f110]
 refine sA ?_
 obtain ⟨y835,hl1,h⟩:=zjJ h
 refine zj3 (λ g820:zdi=>⟨[(0,(.lf true (.sl (a0.map zjS)))),(1,(I g820.t1)),(5,(I g820.t5))],[],0,41⟩) (zaQ a0) _ _ hl1 (zjQ []) ?_
 ·intro n1 g820 z1 hs1 hk1
  unfold zaQ at hs1
  try dsimp only at hs1
  refine sA ?_
  refine zjO hs1 (λ hs1 hc2=>?_) (λ hs1 hc2=>?_)
  ·refine sA ?_
   obtain ⟨hp3,hs1⟩:=zjK hs1
   have hn3:g820.t5.toNat < a0.length:=by first|omega|(simp;omega)
   refine sA ?_
   refine zj2 ?_
   refine zjO hs1 (λ hs1 hc4=>?_) (λ hs1 hc4=>?_)
   ·refine sA ?_
    cases hs1
    cases hk1
    try dsimp only at h
    refine sA ?_
    cases h
    exact zjM ⟨[(4,(I (-1)))],[],0,41⟩ []
   ·refine sA ?_
    obtain ⟨hp5,hs1⟩:=zjK hs1
    have hn5:g820.t5.toNat < a0.length:=by first|omega|(simp;omega)
    refine sA ?_
    refine zj2 ?_
    refine zjO hs1 (λ hs1 hc6=>?_) (λ hs1 hc6=>?_)
    ·refine sA ?_
     cases hs1
     cases hk1
     try dsimp only at h
     refine sA ?_
     cases h
     exact zjM ⟨[(4,(I (-1)))],[],0,41⟩ []
    ·refine sA ?_
     obtain ⟨hp7,hs1⟩:=zjK hs1
     have hn7:g820.t5.toNat < a0.length:=by first|omega|(simp;omega)
     refine sA ?_
     refine zj2 ?_
     obtain ⟨c834,hr8,hs1⟩:=zjJ hs1
     refine zjR (zgy hr8) ?_
     refine sA ?_
     refine zjO hs1 (λ hs1 hc9=>?_) (λ hs1 hc9=>?_)
     ·refine sA ?_
      cases hs1
      cases hk1
      try dsimp only at h
      refine sA ?_
      cases h
      exact zjM ⟨[(4,(I (-1)))],[],0,41⟩ []
     ·refine sA ?_
      cases hs1
      exact zjW hk1 (zjQ [])
  ·refine sA ?_
   cases hs1
   cases hk1
   try dsimp only at h
   refine sA ?_
   cases h
   exact zjM ⟨[(4,(I g820.t1))],[],0,41⟩ []
theorem ziY {a0:(List SaidT)} {a1:Int} {r:Int} (h:zex a0 a1=some r):Fn Tryz.prog 111 [(.lf true (.sl (a0.map zj5))),(I a1)] [] 0 (I r) [] 0:=by
 unfold zex at h
 refine fc [(1000,[(0,0),(1,0)]),(1001,[(0,0),(1,0),(5,0)]),(1002,[(0,0),(1,0),(5,0),(9,0)]),(1003,[(0,0),(1,0),(5,0)]),(1004,[(0,0),(1,0),(5,0),(18,0)]),(1005,[(4,0)]),(1006,[(0,0),(1,0),(5,0)]),(1007,[(0,0),(1,0),(5,0),(28,0)]),(1008,[(4,0)]),(1009,[(0,0),(1,0),(5,0)]),(1010,[(0,0),(1,0),(5,0)]),(1011,[(0,0),(1,0),(5,0),(41,0)]),(1012,[(4,0)]),(1013,[(4,0)])] Tryz.func111 ?_
 simp only [Tryz.f111]
 refine sA ?_
 obtain ⟨y842,hl1,h⟩:=zjJ h
 refine zj3 (λ g839:zd8=>⟨[(0,(.lf true (.sl (a0.map zj5)))),(1,(I g839.t1)),(5,(I g839.t5))],[],0,43⟩) (zbw a0) _ _ hl1 (zjQ []) ?_
 ·intro n1 g839 z1 hs1 hk1
  unfold zbw at hs1
  try dsimp only at hs1
  refine sA ?_
  refine zjO hs1 (λ hs1 hc2=>?_) (λ hs1 hc2=>?_)
  ·refine sA ?_
   obtain ⟨hp3,hs1⟩:=zjK hs1
   have hn3:g839.t5.toNat < a0.length:=by first|omega|(simp;omega)
   refine sA ?_
   refine zj2 ?_
   refine zjO hs1 (λ hs1 hc4=>?_) (λ hs1 hc4=>?_)
   ·refine sA ?_
    cases hs1
    cases hk1
    try dsimp only at h
    refine sA ?_
    cases h
    exact zjM ⟨[(4,(I (-1)))],[],0,43⟩ []
   ·refine sA ?_
    obtain ⟨hp5,hs1⟩:=zjK hs1
    have hn5:g839.t5.toNat < a0.length:=by first|omega|(simp;omega)
    refine sA ?_
    refine zj2 ?_
    refine zjO hs1 (λ hs1 hc6=>?_) (λ hs1 hc6=>?_)
    ·refine sA ?_
     cases hs1
     cases hk1
     try dsimp only at h
     refine sA ?_
     cases h
     exact zjM ⟨[(4,(I (-1)))],[],0,43⟩ []
    ·refine sA ?_
     obtain ⟨hp7,hs1⟩:=zjK hs1
     have hn7:g839.t5.toNat < a0.length:=by first|omega|(simp;omega)
     refine sA ?_
     refine zj2 ?_
     obtain ⟨c841,hr8,hs1⟩:=zjJ hs1
     refine zjR (zgy hr8) ?_
     refine sA ?_
     refine zjO hs1 (λ hs1 hc9=>?_) (λ hs1 hc9=>?_)
     ·refine sA ?_
      cases hs1
      cases hk1
      try dsimp only at h
      refine sA ?_
      cases h
      exact zjM ⟨[(4,(I (-1)))],[],0,43⟩ []
     ·refine sA ?_
      cases hs1
      exact zjW hk1 (zjQ [])
  ·refine sA ?_
   cases hs1
   cases hk1
   try dsimp only at h
   refine sA ?_
   cases h
   exact zjM ⟨[(4,(I g839.t1))],[],0,43⟩ []
theorem zg3 {a0:WorldT} {a1:Int} {r:Int} (h:zbY a0 a1=some r):Fn Tryz.prog 41 [(.ag [(.lf true (.sl (a0.fRe.map zjS))),(.lf true (.sl (a0.Line.map zj5)))]),(I a1)] [] 0 (I r) [] 0:=by
 unfold zbY at h
 refine fc [(1000,[(1,0),(2,0)]),(1001,[(1,0),(2,0)]),(1002,[(1,0),(2,0),(10,0)]),(1003,[(4,0)]),(1004,[(1,0)]),(1005,[(1,0),(16,0)]),(1006,[(4,0)]),(1007,[(4,0)])] Tryz.func41 ?_
 simp only [Tryz.f41]
 refine sA ?_
 obtain ⟨c838,hr1,h⟩:=zjJ h
 refine zjR (zia hr1) ?_
 refine sA ?_
 refine zjO h (λ h hc2=>?_) (λ h hc2=>?_)
 ·refine sA ?_
  cases h
  exact zjM ⟨[(4,(I (-1)))],[],0,18⟩ []
 ·refine sA ?_
  obtain ⟨c845,hr3,h⟩:=zjJ h
  refine zjR (ziY hr3) ?_
  refine sA ?_
  refine zjO h (λ h hc4=>?_) (λ h hc4=>?_)
  ·refine sA ?_
   cases h
   exact zjM ⟨[(4,(I (-1)))],[],0,18⟩ []
  ·refine sA ?_
   have he:=oi h
   subst he
   exact zjM ⟨[(4,(I c845))],[],0,18⟩ []
theorem zhi {a0:(List Int)} {a1:Int} {r:Int} (h:zds a0 a1=some r):Fn Tryz.prog 48 [(.lf true (.sl (a0.map eI))),(I a1)] [] 0 (I r) [] 0:=by
 unfold zds at h
 refine fc [(1000,[(0,0),(1,0)]),(1001,[(0,0),(1,0),(5,0)]),(1002,[(0,0),(1,0),(5,0),(9,0)]),(1003,[(0,0),(1,0),(5,0)]),(1004,[(0,0),(1,0),(5,0),(17,0)]),(1005,[(4,0)]),(1006,[(0,0),(1,0),(5,0)]),(1007,[(4,0)])] Tryz.func48 ?_
 simp only [Tryz.f48]
 refine sA ?_
 obtain ⟨y848,hl1,h⟩:=zjJ h
 refine zj3 (λ g847:zeH=>⟨[(0,(.lf true (.sl (a0.map eI)))),(1,(I g847.t1)),(5,(I g847.t5))],[],0,21⟩) (zbR a0) _ _ hl1 (zjQ []) ?_
 ·intro n1 g847 z1 hs1 hk1
  unfold zbR at hs1
  try dsimp only at hs1
  refine sA ?_
  refine zjO hs1 (λ hs1 hc2=>?_) (λ hs1 hc2=>?_)
  ·refine sA ?_
   obtain ⟨hp3,hs1⟩:=zjK hs1
   have hn3:g847.t5.toNat < a0.length:=by first|omega|(simp;omega)
   refine sA ?_
   refine zj2 ?_
   refine zjO hs1 (λ hs1 hc4=>?_) (λ hs1 hc4=>?_)
   ·refine sA ?_
    cases hs1
    cases hk1
    try dsimp only at h
    refine sA ?_
    cases h
    exact zjM ⟨[(4,(I (-1)))],[],0,21⟩ []
   ·refine sA ?_
    cases hs1
    exact zjW hk1 (zjQ [])
  ·refine sA ?_
   cases hs1
   cases hk1
   try dsimp only at h
   refine sA ?_
   cases h
   exact zjM ⟨[(4,(I g847.t1))],[],0,21⟩ []
theorem zg6 {a0:(List WorldStepT)} {r:Bool} (h:zcs a0=some r):Fn Tryz.prog 7 [(.lf true (.sl (a0.map zj4)))] [] 0 (B r) [] 0:=by
 unfold zcs at h
 refine fc [(1000,[(0,0)]),(1001,[(0,0),(3,0)]),(1002,[(0,0),(3,0)]),(1003,[(0,0),(21,0)]),(1004,[(2,0)]),(1005,[(0,0),(4,0),(5,0),(6,0)]),(1006,[(0,0),(4,0),(5,0),(6,0),(7,0)]),(1007,[(0,0),(4,0),(5,0),(6,0),(7,0),(8,0),(9,0),(10,0)]),(1008,[(0,0),(4,0),(5,0),(6,0),(7,0),(8,0),(9,0),(10,0),(51,0)]),(1009,[(2,0)]),(1010,[(0,0),(4,0),(5,0),(6,0),(7,0),(8,0),(9,0),(10,0),(56,0)]),(1011,[(2,0)]),(1012,[(0,0),(4,0),(5,0),(6,0),(7,0),(8,0),(9,0),(10,0),(11,0)]),(1013,[(0,0),(4,0),(5,0),(6,0),(8,0),(9,0),(10,0),(11,0)]),(1014,[(0,0),(4,0),(5,0),(6,0),(8,0),(9,0),(78,0)]),(1015,[(2,0)]),(1016,[(0,0),(4,0),(5,0),(6,0),(8,0),(9,0),(12,0)]),(1017,[(0,0),(4,0),(5,0),(6,0),(8,0),(9,0),(12,0)]),(1018,[(0,0),(4,0),(5,0),(6,0),(8,0),(9,0),(12,0)]),(1019,[(0,0),(4,0),(5,0),(6,0),(8,0),(9,0),(12,0),(13,0)]),(1020,[(0,0),(4,0),(5,0),(6,0),(8,0),(9,0),(12,0),(13,0)]),(1021,[(0,0),(4,0),(5,0),(6,0),(8,0),(9,0),(12,0),(13,0),(89,0)]),(1022,[(2,0)]),(1023,[(0,0),(4,0),(5,0),(6,0),(8,0),(9,0),(12,0),(13,0)]),(1024,[(0,0),(4,0),(5,0),(6,0),(8,0),(9,0),(12,0),(13,0),(94,0)]),(1025,[(2,0)]),(1026,[(0,0),(4,0),(5,0),(6,0),(8,0),(9,0),(12,0),(97,0)]),(1027,[(2,0)]),(1028,[(4,0),(5,0),(6,0),(8,0),(9,0),(12,0),(14,0),(15,0),(16,0)]),(1029,[(8,0),(9,0),(12,0),(119,0)]),(1030,[(2,0)]),(1031,[(8,0),(9,0),(12,0),(13,0)]),(1032,[(9,0),(12,0),(13,0)]),(1033,[(9,0),(12,0),(13,0),(124,0)]),(1034,[(2,0)]),(1035,[(12,0),(13,0)]),(1036,[(12,0),(13,0),(129,0)]),(1037,[(2,0)]),(1038,[(132,0)]),(1039,[(2,0)]),(1040,[(2,0)]),(4008,[]),(4014,[]),(4029,[])] Tryz.func7 ?_
 simp only [Tryz.f7]
 refine sA ?_
 obtain ⟨c414,hr1,h⟩:=zjJ h
 refine zjR (zhR hr1) ?_
 refine sA ?_
 refine zjO h (λ h hc2=>?_) (λ h hc2=>?_)
 ·refine sA ?_
  have he:=oi h
  subst he
  exact zjM ⟨[(2,(B true))],[],0,133⟩ []
 ·refine sA ?_
  obtain ⟨c419,hr3,h⟩:=zjJ h
  refine zjR (zhp hr3) ?_
  refine sA ?_
  obtain ⟨c420,hr4,h⟩:=zjJ h
  refine zjR (ziS hr4) ?_
  refine sA ?_
  obtain ⟨c421,hr5,h⟩:=zjJ h
  refine zjR (zeZ hr5) ?_
  refine sA ?_
  obtain ⟨c732,hr6,h⟩:=zjJ h
  refine zjR (zg2 hr6) ?_
  refine sA ?_
  obtain ⟨p770,hq7,h⟩:=zjJ h
  refine zki (λ s2=>s2=⟨[(0,(.lf true (.sl (a0.map zj4)))),(4,(.pb 0 0)),(5,(.os 1 1 0 c420.2.1.length c420.2.1.length false)),(6,(B c420.2.2)),(7,(.os 2 5 0 c421.length c421.length false)),(8,(.pb 3 0)),(9,(.os 4 1 0 c732.2.1.length c732.2.1.length false)),(10,(B c732.2.2)),(51,(B p770.t51))],[(0,some (true,.box [(.lf true (.sl (c420.1.fRe.map zjS))),(.lf true (.sl (c420.1.Line.map zj5)))])),(1,some (true,.arr false 1 (c420.2.1.map eI))),(2,some (true,.arr false 5 (c421.map zj4))),(3,some (true,.box [(.os 5 3 0 c732.1.fRe.length c732.1.fRe.length false),(.os 6 3 0 c732.1.Line.length c732.1.Line.length false)])),(4,some (true,.arr false 1 (c732.2.1.map eI))),(5,some (true,.deep [.sc,.sc,.sl [.sl [.sc,.sc,.sc,.sc]]] (c732.1.fRe.map zjS))),(6,some (true,.deep [.sc,.sc,.sl [.sl [.sc,.sc,.sc,.sc]]] (c732.1.Line.map zj5)))],7,133⟩) ?_ ?_
  ·refine sA ?_
   obtain ⟨c764,hr8,hq7⟩:=zjJ hq7
   refine zjR (zgq hr8) ?_
   refine sA ?_
   refine zj6 hq7 (λ hq7 hc9=>?_) (λ hq7 hc9=>?_)
   ·refine sA ?_
    cases hq7
    exact zj1 rfl (zjQ [some 2,some 0,some 3,some 8,some 6,some 4,some 5])
   ·refine sA ?_
    obtain ⟨c769,hr10,hq7⟩:=zjJ hq7
    refine zjR (zgB hr10) ?_
    refine sA ?_
    refine zj6 hq7 (λ hq7 hc11=>?_) (λ hq7 hc11=>?_)
    ·refine sA ?_
     cases hq7
     exact zj1 rfl (zjQ [some 2,some 0,some 3,some 8,some 6,some 4,some 5])
    ·refine sA ?_
     cases hq7
     exact zj1 rfl (zjQ [some 2,some 0,some 3,some 8,some 6,some 4,some 5])
  ·intro s2 hJ;subst hJ
   try dsimp only at h
   refine sA ?_
   refine zjO h (λ h hc12=>?_) (λ h hc12=>?_)
   ·refine sA ?_
    have he:=oi h
    subst he
    exact zjM ⟨[(2,(B false))],[],0,133⟩ []
   ·refine sA ?_
    obtain ⟨c771,hr13,h⟩:=zjJ h
    refine zjR (zeZ hr13) ?_
    refine sA ?_
    obtain ⟨c778,hr14,h⟩:=zjJ h
    refine zjR (zhS hr14) ?_
    refine sA ?_
    refine zjO h (λ h hc15=>?_) (λ h hc15=>?_)
    ·refine sA ?_
     have he:=oi h
     subst he
     exact zjM ⟨[(2,(B false))],[],0,133⟩ []
    ·refine sA ?_
     obtain ⟨c786,hr16,h⟩:=zjJ h
     refine zll [2] (zg5 hr16) ?_
     refine sA ?_
     obtain ⟨hp17,h⟩:=zjK h
     try rw [← hp17]
     refine sA ?_
     obtain ⟨p789,hq18,h⟩:=zjJ h
     refine zki (λ s2=>s2=⟨[(0,(.lf true (.sl (a0.map zj4)))),(4,(.pb 0 0)),(5,(.os 1 1 0 c420.2.1.length c420.2.1.length false)),(6,(B c420.2.2)),(8,(.pb 2 0)),(9,(.os 3 1 0 c732.2.1.length c732.2.1.length false)),(78,(B p789.t78))],[(0,some (true,.box [(.lf true (.sl (c420.1.fRe.map zjS))),(.lf true (.sl (c420.1.Line.map zj5)))])),(1,some (true,.arr false 1 (c420.2.1.map eI))),(2,some (true,.box [(.os 4 3 0 c732.1.fRe.length c732.1.fRe.length false),(.os 5 3 0 c732.1.Line.length c732.1.Line.length false)])),(3,some (true,.arr false 1 (c732.2.1.map eI))),(4,some (true,.deep [.sc,.sc,.sl [.sl [.sc,.sc,.sc,.sc]]] (c732.1.fRe.map zjS))),(5,some (true,.deep [.sc,.sc,.sl [.sl [.sc,.sc,.sc,.sc]]] (c732.1.Line.map zj5)))],6,133⟩) ?_ ?_
     ·refine sA ?_
      refine zj6 hq18 (λ hq18 hc19=>?_) (λ hq18 hc19=>?_)
      ·refine sA ?_
       cases hq18
       exact zj1 rfl (zjQ [some 0,some 1,some 3,some 4,some 5,some 6])
      ·refine sA ?_
       obtain ⟨c787,hr20,hq18⟩:=zjJ hq18
       refine zjR (zgq hr20) ?_
       refine sA ?_
       refine zj6 hq18 (λ hq18 hc21=>?_) (λ hq18 hc21=>?_)
       ·refine sA ?_
        cases hq18
        exact zj1 rfl (zjQ [some 0,some 1,some 3,some 4,some 5,some 6])
       ·refine sA ?_
        obtain ⟨c788,hr22,hq18⟩:=zjJ hq18
        refine zjR (zgB hr22) ?_
        refine sA ?_
        refine zj6 hq18 (λ hq18 hc23=>?_) (λ hq18 hc23=>?_)
        ·refine sA ?_
         cases hq18
         exact zj1 rfl (zjQ [some 0,some 1,some 3,some 4,some 5,some 6])
        ·refine sA ?_
         cases hq18
         exact zj1 rfl (zjQ [some 0,some 1,some 3,some 4,some 5,some 6])
     ·intro s2 hJ;subst hJ
      try dsimp only at h
      refine sA ?_
      refine zjO h (λ h hc24=>?_) (λ h hc24=>?_)
      ·refine sA ?_
       have he:=oi h
       subst he
       exact zjM ⟨[(2,(B false))],[],0,133⟩ []
      ·refine sA ?_
       obtain ⟨c815,hr25,h⟩:=zjJ h
       refine zll [4,5] (zhy hr25) ?_
       refine sA ?_
       obtain ⟨hp26,h⟩:=zjK h
       try rw [← hp26]
       refine sA ?_
       obtain ⟨hp27,h⟩:=zjK h
       try rw [← hp27]
       refine sA ?_
       obtain ⟨c819,hr28,h⟩:=zjJ h
       refine zll [3] (ziD hr28) ?_
       refine sA ?_
       obtain ⟨hp29,h⟩:=zjK h
       try rw [← hp29]
       refine sA ?_
       obtain ⟨c846,hr30,h⟩:=zjJ h
       refine zjR (zg3 hr30) ?_
       refine sA ?_
       refine zjO h (λ h hc31=>?_) (λ h hc31=>?_)
       ·refine sA ?_
        have he:=oi h
        subst he
        exact zjM ⟨[(2,(B false))],[],0,133⟩ []
       ·refine sA ?_
        obtain ⟨c851,hr32,h⟩:=zjJ h
        refine zjR (zhi hr32) ?_
        refine sA ?_
        refine zjO h (λ h hc33=>?_) (λ h hc33=>?_)
        ·refine sA ?_
         have he:=oi h
         subst he
         exact zjM ⟨[(2,(B false))],[],0,133⟩ []
        ·refine sA ?_
         refine zjO h (λ h hc34=>?_) (λ h hc34=>?_)
         ·refine sA ?_
          have he:=oi h
          subst he
          exact zjM ⟨[(2,(B false))],[],0,133⟩ []
         ·refine sA ?_
          obtain ⟨c852,hr35,h⟩:=zjJ h
          refine zjR (zeZ hr35) ?_
          refine sA ?_
          obtain ⟨c853,hr36,h⟩:=zjJ h
          refine zjR (zg2 hr36) ?_
          refine sA ?_
          obtain ⟨p856,hq37,h⟩:=zjJ h
          refine zki (λ s2=>s2=⟨[(8,(.pb 0 0)),(9,(.os 1 1 0 c819.2.length c732.2.1.length false)),(12,(I c819.1)),(119,(B p856.t119))],[(0,some (true,.box [(.os 2 3 0 c815.2.1.length c732.1.fRe.length false),(.os 3 3 0 c815.2.2.length c732.1.Line.length false)])),(1,some (true,.arr false 1 (c819.2.map eI))),(2,some (true,.deep [.sc,.sc,.sl [.sl [.sc,.sc,.sc,.sc]]] (c815.2.1.map zjS))),(3,some (true,.deep [.sc,.sc,.sl [.sl [.sc,.sc,.sc,.sc]]] (c815.2.2.map zj5)))],4,133⟩) ?_ ?_
          ·refine sA ?_
           obtain ⟨c854,hr38,hq37⟩:=zjJ hq37
           refine zjR (zgq hr38) ?_
           refine sA ?_
           refine zj6 hq37 (λ hq37 hc39=>?_) (λ hq37 hc39=>?_)
           ·refine sA ?_
            cases hq37
            exact zj1 rfl (zjQ [some 2,some 3,some 4,some 5])
           ·refine sA ?_
            obtain ⟨c855,hr40,hq37⟩:=zjJ hq37
            refine zjR (zgB hr40) ?_
            refine sA ?_
            refine zj6 hq37 (λ hq37 hc41=>?_) (λ hq37 hc41=>?_)
            ·refine sA ?_
             cases hq37
             exact zj1 rfl (zjQ [some 2,some 3,some 4,some 5])
            ·refine sA ?_
             cases hq37
             exact zj1 rfl (zjQ [some 2,some 3,some 4,some 5])
          ·intro s2 hJ;subst hJ
           try dsimp only at h
           refine sA ?_
           refine zjO h (λ h hc42=>?_) (λ h hc42=>?_)
           ·refine sA ?_
            have he:=oi h
            subst he
            exact zjM ⟨[(2,(B false))],[],0,133⟩ []
           ·refine sA ?_
            obtain ⟨c857,hr43,h⟩:=zjJ h
            refine zjR (zg3 hr43) ?_
            refine sA ?_
            refine zjO h (λ h hc44=>?_) (λ h hc44=>?_)
            ·refine sA ?_
             have he:=oi h
             subst he
             exact zjM ⟨[(2,(B false))],[],0,133⟩ []
            ·refine sA ?_
             obtain ⟨c858,hr45,h⟩:=zjJ h
             refine zjR (zhi hr45) ?_
             refine sA ?_
             refine zjO h (λ h hc46=>?_) (λ h hc46=>?_)
             ·refine sA ?_
              have he:=oi h
              subst he
              exact zjM ⟨[(2,(B false))],[],0,133⟩ []
             ·refine sA ?_
              refine zjO h (λ h hc47=>?_) (λ h hc47=>?_)
              ·refine sA ?_
               have he:=oi h
               subst he
               exact zjM ⟨[(2,(B false))],[],0,133⟩ []
              ·refine sA ?_
               have he:=oi h
               subst he
               exact zjM ⟨[(2,(B true))],[],0,133⟩ []
end Go.TL.YteonagfnhdlfcaaGreatDoor

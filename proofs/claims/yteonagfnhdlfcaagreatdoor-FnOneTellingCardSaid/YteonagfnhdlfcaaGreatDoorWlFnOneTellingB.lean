import Derived.Test.YteonagfnhdlfcaaGreatDoorWlFnOneTellingA
open Nat renaming reduceAdd → qA, reduceMul → qB, reduceSub → qC, reduceEqDiff → qD, reduceLT → qE, reduceLeDiff → qF, reduceBEq → qG, zero_add → qa
open Int renaming reduceToNat → qH, reduceEq → qI, reduceLE → qJ, reduceLT → qK
open List renaming length_set → qL, length_append → qM, length_replicate → qN, length_map → qO, length_cons → qP, length_nil → qQ, length_take → qb, length_drop → qc
set_option linter.unusedSimpArgs false
set_option linter.unusedVariables false
noncomputable section
set_option maxRecDepth 8000
set_option maxHeartbeats 0
namespace Go.TL.YteonagfnhdlfcaaGreatDoor
open Go Go.Proofs Go.TL
theorem zje {a0:(List zka)} {r:Bool} (h:zeM a0=some r):Fn Tryz.prog 221 [(.lf true (.sl (a0.map zko)))] [] 0 (B r) [] 0:=by
 unfold zeM at h
 refine fc [(1000,[(0,0)]),(1001,[(0,0),(7,0),(8,0)]),(1002,[(0,0),(7,0),(8,0),(9,0)]),(1003,[(0,0),(3,0),(7,0),(8,0)]),(1004,[(0,0),(7,0),(8,0),(26,0)]),(1006,[(0,0),(7,0),(8,0)]),(1007,[(0,0),(5,0)]),(4004,[])] Tryz.func221 ?_
 simp only [Tryz.f221]
 refine sA ?_
 obtain ⟨y0,hl1,h⟩:=zj7 h
 refine zky (λ g0:zex=>⟨[(0,(.lf true (.sl (a0.map zko)))),(7,(I ((a0.length:Nat):Int))),(8,(I g0.t8))],[],0,42⟩) (zbR a0) _ _ hl1 (zkg []) ?_
 ·intro n1 g0 z1 hs1 hk1
  unfold zbR at hs1
  try dsimp only at hs1
  refine sA ?_
  refine zki hs1 (λ hs1 _=>sA ?_) (λ hs1 _=>sA ?_)
  ·obtain ⟨p0,hq3,hs1⟩:=zj7 hs1
   refine zkC (λ s2=>s2=⟨[(0,(.lf true (.sl (a0.map zko)))),(7,(I ((a0.length:Nat):Int))),(8,(I g0.t8)),(26,(B p0.t26))],[],0,42⟩) ?_ ?_
   ·refine sA ?_
    refine zkt hq3 (λ hq3 _=>sA ?_) (λ hq3 _=>sA ?_)
    ·obtain ⟨hp5,hq3⟩:=zj8 hq3
     have hn5:(wI (g0.t8 - 1)).toNat < a0.length:=by first|omega|(simp;omega)
     refine sA ?_
     refine zkw ?_
     obtain ⟨hp6,hq3⟩:=zj8 hq3
     have hn6:g0.t8.toNat < a0.length:=by first|omega|(simp;omega)
     refine sA ?_
     refine zkw ?_
     cases hq3
     exact zkp rfl (zkg [])
    ·cases hq3
     exact zkp rfl (zkg [])
   ·intro s2 hJ;subst hJ
    try dsimp only at hs1
    refine sA ?_
    refine zki hs1 (λ hs1 _=>sA ?_) (λ hs1 _=>sA ?_)
    ·cases hs1
     cases hk1
     try dsimp only at h
     refine sA ?_
     have he:=oi h
     subst he
     exact zkc ⟨[(2,(B false))],[],0,42⟩ []
    ·cases hs1
     exact zkr hk1 (zkg [])
  ·cases hs1
   cases hk1
   try dsimp only at h
   refine sA ?_
   obtain ⟨c0,hr8,h⟩:=zj7 h
   refine zkj (zf6 hr8) (sA ?_)
   refine zkt h (λ h _=>sA ?_) (λ h _=>sA ?_)
   ·cases h
    exact zkc ⟨[(2,(B (decide (((a0.length:Nat):Int)≤60))))],[],0,42⟩ []
   ·have he:=oi h
    subst he
    exact zkc ⟨[(2,(B false))],[],0,42⟩ []
theorem ziY {a0:(List zka)} {r:Bool} (h:zd3 a0=some r):Fn Tryz.prog 176 [(.lf true (.sl (a0.map zko)))] [] 0 (B r) [] 0:=by
 unfold zd3 at h
 refine fc [] Tryz.func176 ?_
 simp only [Tryz.f176]
 refine sA ?_
 refine zkt h (λ h _=>sA ?_) (λ h _=>sA ?_)
 ·obtain ⟨c0,hr2,h⟩:=zj7 h
  refine zkj (zje hr2) (sA ?_)
  have he:=oi h
  subst he
  exact zkc ⟨[(2,(B c0))],[],0,10⟩ []
 ·have he:=oi h
  subst he
  exact zkc ⟨[(2,(B false))],[],0,10⟩ []
theorem zjs {a0:zka} {a1:zka} {r:Int} (h:zfl a0 a1=some r):Fn Tryz.prog 222 [(.ag [(I a0.Id),(I a0.fVe),(I a0.Kind),(.lf false (.sc (.string a0.Name)))]),(.ag [(I a1.Id),(I a1.fVe),(I a1.Kind),(.lf false (.sc (.string a1.Name)))])] [] 0 (I r) [] 0:=by
 unfold zfl at h
 refine fc [(1000,[(2,0),(3,0)]),(1001,[(2,0),(3,0),(5,0)]),(1002,[(15,0)]),(1005,[(2,0),(3,0),(16,0)]),(1006,[(26,0)]),(1009,[(2,0),(3,0),(27,0)]),(1011,[(33,0)])] Tryz.func222 ?_
 simp only [Tryz.f222]
 refine sA ?_
 refine zki h (λ h _=>sA ?_) (λ h _=>sA ?_)
 ·refine zki h (λ h _=>sA ?_) (λ h _=>sA ?_)
  ·cases h
   exact zkc ⟨[(4,(I (-1)))],[],0,39⟩ []
  ·have he:=oi h
   subst he
   exact zkc ⟨[(4,(I 1))],[],0,39⟩ []
 ·refine zki h (λ h _=>sA ?_) (λ h _=>sA ?_)
  ·refine zki h (λ h _=>sA ?_) (λ h _=>sA ?_)
   ·cases h
    exact zkc ⟨[(4,(I (-1)))],[],0,39⟩ []
   ·have he:=oi h
    subst he
    exact zkc ⟨[(4,(I 1))],[],0,39⟩ []
  ·refine zki h (λ h _=>sA ?_) (λ h _=>sA ?_)
   ·cases h
    exact zkc ⟨[(4,(I (-1)))],[],0,39⟩ []
   ·refine zki h (λ h _=>sA ?_) (λ h _=>sA ?_)
    ·have he:=oi h
     subst he
     exact zkc ⟨[(4,(I 1))],[],0,39⟩ []
    ·have he:=oi h
     subst he
     exact zkc ⟨[(4,(I 0))],[],0,39⟩ []
theorem zeJ {a0:(List zka)} {a1:(List zka)} {r:(Int×Int)} (h:za4 a0 a1=some r):Fn Tryz.prog 177 [(.lf true (.sl (a0.map zko))),(.lf true (.sl (a1.map zko)))] [] 0 (.tu [(I r.1),(I r.2)]) [] 0:=by
 unfold za4 at h
 refine fc [(1000,[(0,0),(1,0)]),(1001,[(0,0),(1,0),(6,0)]),(1002,[(0,0),(1,0),(6,0),(17,0)]),(1003,[(0,0),(1,0),(6,0)]),(1004,[(0,0),(1,0),(6,0),(7,0)]),(1005,[(0,0),(1,0),(6,0),(7,0),(30,0)]),(1007,[(0,0),(1,0),(33,0)]),(1009,[(0,0),(1,0),(41,0)])] Tryz.func177 ?_
 simp only [Tryz.f177]
 refine sA ?_
 obtain ⟨y0,hl1,h⟩:=zj7 h
 refine zky (λ g0:zd4=>⟨[(0,(.lf true (.sl (a0.map zko)))),(1,(.lf true (.sl (a1.map zko)))),(6,(I g0.t6))],[],0,51⟩) (zbp a0 a1) _ _ hl1 (zkg []) ?_
 ·intro n1 g0 z1 hs1 hk1
  unfold zbp at hs1
  try dsimp only at hs1
  refine sA ?_
  refine zkt hs1 (λ hs1 _=>sA ?_) (λ hs1 _=>sA ?_)
  ·refine zki hs1 (λ hs1 _=>sA ?_) (λ hs1 _=>sA ?_)
   ·obtain ⟨hp4,hs1⟩:=zj8 hs1
    have hn4:g0.t6.toNat < a0.length:=by first|omega|(simp;omega)
    refine sA ?_
    refine zkw ?_
    obtain ⟨hp5,hs1⟩:=zj8 hs1
    have hn5:g0.t6.toNat < a1.length:=by first|omega|(simp;omega)
    refine sA ?_
    refine zkw ?_
    obtain ⟨c0,hr6,hs1⟩:=zj7 hs1
    refine zkj (zjs hr6) (sA ?_)
    refine zki hs1 (λ hs1 _=>sA ?_) (λ hs1 _=>sA ?_)
    ·cases hs1
     cases hk1
     try dsimp only at h
     refine sA ?_
     cases h
     exact zkc ⟨[(4,(I c0)),(5,(I g0.t6))],[],0,51⟩ []
    ·cases hs1
     exact zkr hk1 (zkg [])
   ·cases hs1
    cases hk1
    try dsimp only at h
    refine sA ?_
    refine zki h (λ h _=>sA ?_) (λ h _=>sA ?_)
    ·cases h
     exact zkc ⟨[(4,(I (-1))),(5,(I ((a0.length:Nat):Int)))],[],0,51⟩ []
    ·refine zki h (λ h _=>sA ?_) (λ h _=>sA ?_)
     ·cases h
      exact zkc ⟨[(4,(I 1)),(5,(I ((a1.length:Nat):Int)))],[],0,51⟩ []
     ·cases h
      exact zkc ⟨[(4,(I 0)),(5,(I ((a0.length:Nat):Int)))],[],0,51⟩ []
  ·cases hs1
   cases hk1
   try dsimp only at h
   refine sA ?_
   refine zki h (λ h _=>sA ?_) (λ h _=>sA ?_)
   ·cases h
    exact zkc ⟨[(4,(I (-1))),(5,(I ((a0.length:Nat):Int)))],[],0,51⟩ []
   ·refine zki h (λ h _=>sA ?_) (λ h _=>sA ?_)
    ·cases h
     exact zkc ⟨[(4,(I 1)),(5,(I ((a1.length:Nat):Int)))],[],0,51⟩ []
    ·cases h
     exact zkc ⟨[(4,(I 0)),(5,(I ((a0.length:Nat):Int)))],[],0,51⟩ []
theorem zdB {a0:(List zka)} {a1:(List zka)} {r:Bool} (h:zaN a0 a1=some r):Fn Tryz.prog 178 [(.lf true (.sl (a0.map zko))),(.lf true (.sl (a1.map zko)))] [] 0 (B r) [] 0:=by
 unfold zaN at h
 refine fc [(1000,[(0,0),(1,0)]),(1001,[(1,0),(6,0)])] Tryz.func178 ?_
 simp only [Tryz.f178]
 refine sA ?_
 obtain ⟨c0,hr1,h⟩:=zj7 h
 refine zkj (zeJ hr1) (sA ?_)
 cases h
 exact zkc ⟨[(4,(B (c0.2 == ((a1.length:Nat):Int))))],[],0,17⟩ []
theorem zdM {a0:zkh} {r:Bool} (h:zao a0=some r):Fn Tryz.prog 130 [(.ag [(.lf true (.sl (a0.fBr.map zkf)))])] [] 0 (B r) [] 0:=by
 unfold zao at h
 refine fc [(1000,[(1,0)]),(1001,[(1,0),(10,0),(11,0),(12,0)]),(1002,[(1,0),(10,0),(11,0),(12,0),(13,0)]),(1003,[(1,0),(3,0),(4,0),(10,0),(11,0),(12,0)]),(1004,[(1,0),(3,0),(4,0),(10,0),(11,0),(12,0),(20,0)]),(1006,[(1,0),(3,0),(4,0),(10,0),(11,0),(12,0),(24,0),(25,0),(26,0)]),(1007,[(1,0),(3,0),(4,0),(10,0),(11,0),(12,0),(24,0),(25,0),(26,0),(27,0)]),(1008,[(1,0),(3,0),(4,0),(5,0),(6,0),(10,0),(11,0),(12,0),(24,0),(25,0),(26,0)]),(1009,[(1,0),(3,0),(4,0),(5,0),(6,0),(7,0),(10,0),(11,0),(12,0),(24,0),(25,0),(26,0)]),(1010,[(1,0),(3,0),(4,0),(10,0),(11,0),(12,0),(24,0),(25,0),(26,0),(52,0)]),(1012,[(1,0),(3,0),(4,0),(10,0),(11,0),(12,0),(24,0),(25,0),(26,0)]),(1013,[(1,0),(10,0),(11,0),(12,0)]),(4010,[])] Tryz.func130 ?_
 simp only [Tryz.f130]
 refine sA ?_
 obtain ⟨y0,hl1,h⟩:=zj7 h
 refine zky (λ g0:zaO=>⟨[(1,(.pb 0 0)),(10,(.lf true (.sl (a0.fBr.map zkf)))),(11,(I ((a0.fBr.length:Nat):Int))),(12,(I g0.t12))],[(0,some (true,.box [(.lf true (.sl (a0.fBr.map zkf)))]))],1,59⟩) (zaQ a0) _ _ hl1 (zkg [some 0]) ?_
 ·intro n1 g0 z1 hs1 hk1
  unfold zaQ at hs1
  try dsimp only at hs1
  refine sA ?_
  refine zki hs1 (λ hs1 _=>sA ?_) (λ hs1 _=>sA ?_)
  ·obtain ⟨hp3,hs1⟩:=zj8 hs1
   have hn3:g0.t12.toNat < a0.fBr.length:=by first|omega|(simp;omega)
   refine sA ?_
   refine zkw ?_
   obtain ⟨c0,hr4,hs1⟩:=zj7 hs1
   refine zkj (ziY hr4) (sA ?_)
   refine zki hs1 (λ hs1 _=>sA ?_) (λ hs1 _=>sA ?_)
   ·cases hs1
    cases hk1
    try dsimp only at h
    refine sA ?_
    have he:=oi h
    subst he
    exact zkc ⟨[(2,(B false))],[],0,59⟩ []
   ·obtain ⟨hp6,hs1⟩:=zj8 hs1
    refine sA ?_
    refine zkw ?_
    obtain ⟨y1,hl7,hs1⟩:=zj7 hs1
    refine zky (λ g1:zcZ=>⟨[(1,(.pb 0 0)),(3,(I g0.t12)),(4,(.pb 1 0)),(10,(.lf true (.sl (a0.fBr.map zkf)))),(11,(I ((a0.fBr.length:Nat):Int))),(12,(I g0.t12)),(24,(.lf true (.sl ((a0.fBr.take g0.t12.toNat).map zkf)))),(25,(I (((a0.fBr.take g0.t12.toNat).length:Nat):Int))),(26,(I g1.t26))],[(0,some (true,.box [(.lf true (.sl (a0.fBr.map zkf)))])),(1,some (true,.box [(.lf true (.sl (((nth a0.fBr g0.t12.toNat).fEv).map zko)))]))],2,59⟩) (zaP a0 g0) _ _ hl7 (zkg [some 0,some 1]) ?_
    ·intro n2 g1 z2 hs2 hk2
     unfold zaP at hs2
     try dsimp only at hs2
     refine sA ?_
     refine zki hs2 (λ hs2 _=>sA ?_) (λ hs2 _=>sA ?_)
     ·obtain ⟨hp9,hs2⟩:=zj8 hs2
      have hn9:g1.t26.toNat < (a0.fBr.take g0.t12.toNat).length:=by first|omega|(simp;omega)
      refine sA ?_
      refine zkw ?_
      obtain ⟨c1,hr10,hs2⟩:=zj7 hs2
      refine zkj (zeJ hr10) (sA ?_)
      obtain ⟨p0,hq11,hs2⟩:=zj7 hs2
      refine zkC (λ s2=>s2=⟨[(1,(.pb 0 0)),(3,(I g0.t12)),(4,(.pb 1 0)),(10,(.lf true (.sl (a0.fBr.map zkf)))),(11,(I ((a0.fBr.length:Nat):Int))),(12,(I g0.t12)),(24,(.lf true (.sl ((a0.fBr.take g0.t12.toNat).map zkf)))),(25,(I (((a0.fBr.take g0.t12.toNat).length:Nat):Int))),(26,(I g1.t26)),(52,(B p0.t52))],[(0,some (true,.box [(.lf true (.sl (a0.fBr.map zkf)))])),(1,some (true,.box [(.lf true (.sl (((nth a0.fBr g0.t12.toNat).fEv).map zko)))]))],2,59⟩) ?_ ?_
      ·refine sA ?_
       refine zkt hq11 (λ hq11 _=>sA ?_) (λ hq11 _=>sA ?_)
       ·cases hq11
        exact zkp rfl (zkg [some 0,some 1])
       ·obtain ⟨c2,hr13,hq11⟩:=zj7 hq11
        refine zkj (zdB hr13) (sA ?_)
        refine zkt hq11 (λ hq11 _=>sA ?_) (λ hq11 _=>sA ?_)
        ·cases hq11
         exact zkp rfl (zkg [some 0,some 1])
        ·cases hq11
         exact zkp rfl (zkg [some 0,some 1])
      ·intro s2 hJ;subst hJ
       try dsimp only at hs2
       refine sA ?_
       refine zki hs2 (λ hs2 _=>sA ?_) (λ hs2 _=>sA ?_)
       ·cases hs2
        cases hk2
        try dsimp only at hs1
        refine sA ?_
        cases hs1
        cases hk1
        try dsimp only at h
        refine sA ?_
        have he:=oi h
        subst he
        exact zkc ⟨[(2,(B false))],[],0,59⟩ []
       ·cases hs2
        exact zkr hk2 (zkg [some 0,some 1])
     ·cases hs2
      cases hk2
      try dsimp only at hs1
      refine sA ?_
      cases hs1
      exact zkr hk1 (zkg [some 0])
  ·cases hs1
   cases hk1
   try dsimp only at h
   refine sA ?_
   cases h
   exact zkc ⟨[(2,(B (decide (((a0.fBr.length:Nat):Int)≤12))))],[],0,59⟩ []
theorem zbZ {a0:zkb} {r:Bool} (h:zW a0=some r):Fn Tryz.prog 56 [(.ag [(I a0.Id),(I a0.fVe),(.lf true (.sl (a0.fTe.fBr.map zkf)))])] [] 0 (B r) [] 0:=by
 unfold zW at h
 refine fc [(1000,[(1,0)]),(1001,[(1,0),(22,0)]),(1003,[(1,0),(25,0),(26,0),(27,0)]),(1004,[(1,0),(25,0),(26,0),(27,0),(28,0)]),(1005,[(1,0),(4,0),(25,0),(26,0),(27,0)]),(1006,[(1,0),(25,0),(26,0),(27,0),(32,0),(33,0),(34,0)]),(1007,[(1,0),(25,0),(26,0),(27,0),(32,0),(33,0),(34,0),(35,0)]),(1008,[(1,0),(6,0),(25,0),(26,0),(27,0),(32,0),(33,0),(34,0)]),(1009,[(1,0),(25,0),(26,0),(27,0),(32,0),(33,0),(34,0),(42,0)]),(1011,[(1,0),(25,0),(26,0),(27,0),(32,0),(33,0),(34,0)]),(1012,[(1,0),(25,0),(26,0),(27,0)]),(4001,[])] Tryz.func56 ?_
 simp only [Tryz.f56]
 refine sA ?_
 obtain ⟨p0,hq1,h⟩:=zj7 h
 refine zkC (λ s2=>s2=⟨[(1,(.pb 0 0)),(22,(B p0.t22))],[(0,some (true,.box [(I a0.Id),(I a0.fVe),(.lf true (.sl (a0.fTe.fBr.map zkf)))]))],1,45⟩) ?_ ?_
 ·refine sA ?_
  obtain ⟨c0,hr2,hq1⟩:=zj7 hq1
  refine zkj (zab hr2) (sA ?_)
  refine zkt hq1 (λ hq1 _=>sA ?_) (λ hq1 _=>sA ?_)
  ·cases hq1
   exact zkp rfl (zkg [some 0])
  ·obtain ⟨c1,hr4,hq1⟩:=zj7 hq1
   refine zkj (zgc hr4) (sA ?_)
   refine zkt hq1 (λ hq1 _=>sA ?_) (λ hq1 _=>sA ?_)
   ·cases hq1
    exact zkp rfl (zkg [some 0])
   ·obtain ⟨c2,hr6,hq1⟩:=zj7 hq1
    refine zkj (zdM hr6) (sA ?_)
    cases hq1
    exact zkp rfl (zkg [some 0])
 ·intro s2 hJ;subst hJ
  try dsimp only at h
  refine sA ?_
  refine zki h (λ h _=>sA ?_) (λ h _=>sA ?_)
  ·have he:=oi h
   subst he
   exact zkc ⟨[(2,(B false))],[],0,45⟩ []
  ·obtain ⟨y0,hl8,h⟩:=zj7 h
   refine zky (λ g0:zbt=>⟨[(1,(.pb 0 0)),(25,(.lf true (.sl (a0.fTe.fBr.map zkf)))),(26,(I ((a0.fTe.fBr.length:Nat):Int))),(27,(I g0.t27))],[(0,some (true,.box [(I a0.Id),(I a0.fVe),(.lf true (.sl (a0.fTe.fBr.map zkf)))]))],1,45⟩) (zbv a0) _ _ hl8 (zkg [some 0]) ?_
   ·intro n1 g0 z1 hs1 hk1
    unfold zbv at hs1
    try dsimp only at hs1
    refine sA ?_
    refine zki hs1 (λ hs1 _=>sA ?_) (λ hs1 _=>sA ?_)
    ·obtain ⟨hp10,hs1⟩:=zj8 hs1
     have hn10:g0.t27.toNat < a0.fTe.fBr.length:=by first|omega|(simp;omega)
     refine sA ?_
     refine zkw ?_
     obtain ⟨y1,hl11,hs1⟩:=zj7 hs1
     refine zky (λ g1:zd7=>⟨[(1,(.pb 0 0)),(25,(.lf true (.sl (a0.fTe.fBr.map zkf)))),(26,(I ((a0.fTe.fBr.length:Nat):Int))),(27,(I g0.t27)),(32,(.lf true (.sl (((nth a0.fTe.fBr g0.t27.toNat).fEv).map zko)))),(33,(I ((((nth a0.fTe.fBr g0.t27.toNat).fEv).length:Nat):Int))),(34,(I g1.t34))],[(0,some (true,.box [(I a0.Id),(I a0.fVe),(.lf true (.sl (a0.fTe.fBr.map zkf)))]))],1,45⟩) (zbu a0 g0) _ _ hl11 (zkg [some 0]) ?_
     ·intro n2 g1 z2 hs2 hk2
      unfold zbu at hs2
      try dsimp only at hs2
      refine sA ?_
      refine zki hs2 (λ hs2 _=>sA ?_) (λ hs2 _=>sA ?_)
      ·obtain ⟨hp13,hs2⟩:=zj8 hs2
       have hn13:g1.t34.toNat < ((nth a0.fTe.fBr g0.t27.toNat).fEv).length:=by first|omega|(simp;omega)
       refine sA ?_
       refine zkw ?_
       refine zki hs2 (λ hs2 _=>sA ?_) (λ hs2 _=>sA ?_)
       ·cases hs2
        cases hk2
        try dsimp only at hs1
        refine sA ?_
        cases hs1
        cases hk1
        try dsimp only at h
        refine sA ?_
        have he:=oi h
        subst he
        exact zkc ⟨[(2,(B false))],[],0,45⟩ []
       ·cases hs2
        exact zkr hk2 (zkg [some 0])
      ·cases hs2
       cases hk2
       try dsimp only at hs1
       refine sA ?_
       cases hs1
       exact zkr hk1 (zkg [some 0])
    ·cases hs1
     cases hk1
     try dsimp only at h
     refine sA ?_
     have he:=oi h
     subst he
     exact zkc ⟨[(2,(B true))],[],0,45⟩ []
theorem zhz {a0:zkn} {r:Bool} (h:zdg a0=some r):Fn Tryz.prog 34 [(.ag [(.lf true (.sl (a0.fRe.map zkl))),(.lf true (.sl (a0.Line.map zkz)))])] [] 0 (B r) [] 0:=by
 unfold zdg at h
 refine fc [(1000,[(1,0)]),(1001,[(1,0),(16,0)]),(1003,[(1,0),(18,0),(19,0),(20,0)]),(1004,[(1,0),(18,0),(19,0),(20,0),(21,0)]),(1005,[(1,0),(3,0),(4,0),(18,0),(19,0),(20,0)]),(1006,[(1,0),(18,0),(19,0),(20,0),(33,0)]),(1008,[(1,0),(18,0),(19,0),(20,0)]),(1009,[(36,0),(37,0),(38,0)]),(1010,[(36,0),(37,0),(38,0),(39,0)]),(1011,[(6,0),(36,0),(37,0),(38,0)]),(1012,[(36,0),(37,0),(38,0),(56,0)]),(1014,[(36,0),(37,0),(38,0)]),(4001,[]),(4006,[]),(4012,[])] Tryz.func34 ?_
 simp only [Tryz.f34]
 refine sA ?_
 obtain ⟨p0,hq1,h⟩:=zj7 h
 refine zkC (λ s2=>s2=⟨[(1,(.pb 0 0)),(16,(B p0.t16))],[(0,some (true,.box [(.lf true (.sl (a0.fRe.map zkl))),(.lf true (.sl (a0.Line.map zkz)))]))],1,58⟩) ?_ ?_
 ·refine sA ?_
  refine zkt hq1 (λ hq1 _=>sA ?_) (λ hq1 _=>sA ?_)
  ·cases hq1
   exact zkp rfl (zkg [some 0])
  ·cases hq1
   exact zkp rfl (zkg [some 0])
 ·intro s2 hJ;subst hJ
  try dsimp only at h
  refine sA ?_
  refine zki h (λ h _=>sA ?_) (λ h _=>sA ?_)
  ·have he:=oi h
   subst he
   exact zkc ⟨[(2,(B false))],[],0,58⟩ []
  ·obtain ⟨y0,hl4,h⟩:=zj7 h
   refine zky (λ g0:zez=>⟨[(1,(.pb 0 0)),(18,(.lf true (.sl (a0.fRe.map zkl)))),(19,(I ((a0.fRe.length:Nat):Int))),(20,(I g0.t20))],[(0,some (true,.box [(.lf true (.sl (a0.fRe.map zkl))),(.lf true (.sl (a0.Line.map zkz)))]))],1,58⟩) (zbT a0) _ _ hl4 (zkg [some 0]) ?_
   ·intro n1 g0 z1 hs1 hk1
    unfold zbT at hs1
    try dsimp only at hs1
    refine sA ?_
    refine zki hs1 (λ hs1 _=>sA ?_) (λ hs1 _=>sA ?_)
    ·obtain ⟨hp6,hs1⟩:=zj8 hs1
     have hn6:g0.t20.toNat < a0.fRe.length:=by first|omega|(simp;omega)
     refine sA ?_
     refine zkw ?_
     obtain ⟨p1,hq7,hs1⟩:=zj7 hs1
     refine zkC (λ s2=>s2=⟨[(1,(.pb 0 0)),(18,(.lf true (.sl (a0.fRe.map zkl)))),(19,(I ((a0.fRe.length:Nat):Int))),(20,(I g0.t20)),(33,(B p1.t33))],[(0,some (true,.box [(.lf true (.sl (a0.fRe.map zkl))),(.lf true (.sl (a0.Line.map zkz)))]))],1,58⟩) ?_ ?_
     ·refine sA ?_
      obtain ⟨c0,hr8,hq7⟩:=zj7 hq7
      refine zkj (zbZ hr8) (sA ?_)
      refine zkt hq7 (λ hq7 _=>sA ?_) (λ hq7 _=>sA ?_)
      ·cases hq7
       exact zkp rfl (zkg [some 0])
      ·cases hq7
       exact zkp rfl (zkg [some 0])
     ·intro s2 hJ;subst hJ
      try dsimp only at hs1
      refine sA ?_
      refine zki hs1 (λ hs1 _=>sA ?_) (λ hs1 _=>sA ?_)
      ·cases hs1
       cases hk1
       try dsimp only at h
       refine sA ?_
       have he:=oi h
       subst he
       exact zkc ⟨[(2,(B false))],[],0,58⟩ []
      ·cases hs1
       exact zkr hk1 (zkg [some 0])
    ·cases hs1
     cases hk1
     try dsimp only at h
     refine sA ?_
     obtain ⟨y1,hl11,h⟩:=zj7 h
     refine zky (λ g1:zeA=>⟨[(36,(.lf true (.sl (a0.Line.map zkz)))),(37,(I ((a0.Line.length:Nat):Int))),(38,(I g1.t38))],[],0,58⟩) (_) _ _ hl11 (zkg []) ?_
     ·intro n3 g1 z3 hs3 hk3
      unfold zcT at hs3
      try dsimp only at hs3
      refine sA ?_
      refine zki hs3 (λ hs3 _=>sA ?_) (λ hs3 _=>sA ?_)
      ·obtain ⟨hp13,hs3⟩:=zj8 hs3
       have hn13:g1.t38.toNat < a0.Line.length:=by first|omega|(simp;omega)
       refine sA ?_
       refine zkw ?_
       obtain ⟨p2,hq14,hs3⟩:=zj7 hs3
       refine zkC (λ s2=>s2=⟨[(36,(.lf true (.sl (a0.Line.map zkz)))),(37,(I ((a0.Line.length:Nat):Int))),(38,(I g1.t38)),(56,(B p2.t56))],[],0,58⟩) ?_ ?_
       ·refine sA ?_
        obtain ⟨c1,hr15,hq14⟩:=zj7 hq14
        refine zkj (zab hr15) (sA ?_)
        refine zkt hq14 (λ hq14 _=>sA ?_) (λ hq14 _=>sA ?_)
        ·cases hq14
         exact zkp rfl (zkg [])
        ·obtain ⟨c2,hr17,hq14⟩:=zj7 hq14
         refine zkj (zbZ hr17) (sA ?_)
         cases hq14
         exact zkp rfl (zkg [])
       ·intro s2 hJ;subst hJ
        try dsimp only at hs3
        refine sA ?_
        refine zki hs3 (λ hs3 _=>sA ?_) (λ hs3 _=>sA ?_)
        ·cases hs3
         cases hk3
         try dsimp only at h
         refine sA ?_
         have he:=oi h
         subst he
         exact zkc ⟨[(2,(B false))],[],0,58⟩ []
        ·cases hs3
         exact zkr hk3 (zkg [])
      ·cases hs3
       cases hk3
       try dsimp only at h
       refine sA ?_
       have he:=oi h
       subst he
       exact zkc ⟨[(2,(B true))],[],0,58⟩ []
theorem zO {a0:(List zka)} {r:(List zka)} (h:zp a0=some r):Fn Tryz.prog 172 [(.lf true (.sl (a0.map zko)))] [] 0 (.os 0 4 0 r.length r.length false) [(0,some (true,.arr false 4 (r.map zko)))] 1:=by
 unfold zp at h
 refine fc [] Tryz.func172 ?_
 simp only [Tryz.f172]
 refine sA ?_
 obtain ⟨hp1,h⟩:=zj8 h
 refine sA ?_
 refine zkw ?_
 cases h
 exact zkc ⟨[(2,(.os 0 4 0 ((([])++a0).length) ((([])++a0).length) false))],[(0,some (true,.arr false 4 ((([])++a0).map zko)))],1,6⟩ [some 1]
theorem zfr {a0:zkh} {r:zkh} (h:zbA a0=some r):Fn Tryz.prog 121 [(.ag [(.lf true (.sl (a0.fBr.map zkf)))])] [] 0 (.ag [(.os 0 1 0 r.fBr.length r.fBr.length false)]) [(0,some (true,.deep [.sl [.sc,.sc,.sc,.sc]] (r.fBr.map zkf)))] 2:=by
 unfold zbA at h
 refine fc [(1000,[(1,0),(2,0)]),(1001,[(1,0),(2,0),(3,0)]),(1002,[(2,0),(3,0),(7,0),(8,0),(9,0)]),(1003,[(2,0),(3,0),(7,0),(8,0),(9,0),(10,0)]),(1004,[(2,0),(3,0),(5,0),(7,0),(8,0),(9,0)]),(1005,[(2,0),(3,0),(7,0),(8,0),(9,0)]),(1006,[(2,0),(3,0),(7,0),(8,0),(9,0)])] Tryz.func121 ?_
 simp only [Tryz.f121]
 refine sA ?_
 obtain ⟨y0,hl1,h⟩:=zj7 h
 refine zky (λ g0:zf1=>⟨[(2,(.pb 0 0)),(3,(.os 1 1 0 g0.c1.length g0.c1.length false)),(7,(.lf true (.sl (a0.fBr.map zkf)))),(8,(I ((a0.fBr.length:Nat):Int))),(9,(I g0.t9))],[(0,some (true,.box [.nl])),(1,some (true,.deep [.sl [.sc,.sc,.sc,.sc]] (g0.c1.map zkf)))],2,23⟩) (zdi a0) _ _ hl1 (zkg [some 1,none]) ?_
 ·intro n1 g0 z1 hs1 hk1
  unfold zdi at hs1
  try dsimp only at hs1
  refine sA ?_
  refine zki hs1 (λ hs1 _=>sA ?_) (λ hs1 _=>sA ?_)
  ·obtain ⟨hp3,hs1⟩:=zj8 hs1
   have hn3:g0.t9.toNat < a0.fBr.length:=by first|omega|(simp;omega)
   refine sA ?_
   refine zkw ?_
   obtain ⟨c0,hr4,hs1⟩:=zj7 hs1
   refine zkj (zO hr4) (sA ?_)
   obtain ⟨hp5,hs1⟩:=zj8 hs1
   refine sA ?_
   refine zkw ?_
   cases hs1
   exact zkr hk1 (zqc 5 (zkg [some 0,some 5]))
  ·cases hs1
   cases hk1
   try dsimp only at h
   refine sA ?_
   cases h
   exact zkc ⟨[(2,(.pb 1 0))],[(0,some (true,.deep [.sl [.sc,.sc,.sc,.sc]] (g0.c1.map zkf))),(1,some (true,.box [(.os 0 1 0 g0.c1.length g0.c1.length false)]))],2,23⟩ [some 1,some 0]
theorem zhP {a0:zkb} {r:zkb} (h:zd0 a0=some r):Fn Tryz.prog 70 [(.ag [(I a0.Id),(I a0.fVe),(.lf true (.sl (a0.fTe.fBr.map zkf)))])] [] 0 (.ag [(I r.Id),(I r.fVe),(.lf false (.sl (r.fTe.fBr.map zkf)))]) [] 1:=by
 unfold zd0 at h
 refine fc [(1000,[(1,0),(2,0)]),(1001,[(1,0),(2,0)])] Tryz.func70 ?_
 simp only [Tryz.f70]
 refine sA ?_
 obtain ⟨c0,hr1,h⟩:=zj7 h
 refine zkj (zfr hr1) (sA ?_)
 cases h
 refine zk6 2 (sA ?_)
 exact zkc ⟨[(2,(.pb 0 0))],[(0,some (true,.box [(I a0.Id),(I a0.fVe),(.lf false (.sl (c0.fBr.map zkf)))]))],1,8⟩ [some 1]
theorem zgN {a0:zlF} {r:zlF} (h:za1 a0=some r):Fn Tryz.prog 164 [(.ag [(I a0.fVe),(.lf true (.sl (a0.fTe.fBr.map zkf)))])] [] 0 (.ag [(I r.fVe),(.lf false (.sl (r.fTe.fBr.map zkf)))]) [] 1:=by
 unfold za1 at h
 refine fc [(1,[(1,4)])] Tryz.func164 ?_
 simp only [Tryz.f164]
 refine sA ?_
 obtain ⟨c0,hr1,h⟩:=zj7 h
 refine zkj (zfr hr1) (sA ?_)
 cases h
 refine zk6 2 (sA ?_)
 exact zkc ⟨[(2,(.pb 0 0))],[(0,some (true,.box [(I a0.fVe),(.lf false (.sl (c0.fBr.map zkf)))]))],1,9⟩ [some 1]
theorem zik {a0:zkn} {r:zkn} (h:zes a0=some r):Fn Tryz.prog 99 [(.ag [(.lf true (.sl (a0.fRe.map zkl))),(.lf true (.sl (a0.Line.map zkz)))])] [] 0 (.ag [(.os 0 3 0 r.fRe.length r.fRe.length false),(.os 1 3 0 r.Line.length r.Line.length false)]) [(0,some (true,.arr false 3 (r.fRe.map zkl))),(1,some (true,.arr false 3 (r.Line.map zkz)))] 3:=by
 unfold zes at h
 refine fc [(5,[(1,3),(1,4)]),(10,[(1,6),(3,6),(1,8)]),(1000,[(1,0),(2,0)]),(1001,[(1,0),(2,0),(3,0)]),(1002,[(1,0),(2,0),(3,0),(9,0),(10,0),(11,0)]),(1003,[(1,0),(2,0),(3,0),(9,0),(10,0),(11,0),(12,0)]),(1004,[(1,0),(2,0),(3,0),(5,0),(9,0),(10,0),(11,0)]),(1005,[(1,0),(2,0),(3,0),(9,0),(10,0),(11,0)]),(1006,[(1,0),(2,0),(3,0),(9,0),(10,0),(11,0)]),(1007,[(2,0),(3,0),(24,0),(25,0),(26,0)]),(1008,[(2,0),(3,0),(24,0),(25,0),(26,0),(27,0)]),(1009,[(2,0),(3,0),(7,0),(24,0),(25,0),(26,0)]),(1010,[(2,0),(3,0),(24,0),(25,0),(26,0)]),(1011,[(2,0),(3,0),(24,0),(25,0),(26,0)])] Tryz.func99 ?_
 simp only [Tryz.f99]
 refine sA ?_
 obtain ⟨y0,hl1,h⟩:=zj7 h
 refine zky (λ g0:zf2=>⟨[(1,(.pb 0 0)),(2,(.pb 1 0)),(3,(.pb 2 0)),(9,(.lf true (.sl (a0.fRe.map zkl)))),(10,(I ((a0.fRe.length:Nat):Int))),(11,(I g0.t11))],[(0,some (true,.box [(.lf true (.sl (a0.fRe.map zkl))),(.lf true (.sl (a0.Line.map zkz)))])),(1,some (true,.box [.nl,.nl])),(2,some (true,.box [(.os 3 3 0 g0.c3.length g0.c3.length false),.nl])),(3,some (true,.arr false 3 (g0.c3.map zkl)))],4,43⟩) (zcl a0) _ _ hl1 (zkg [some 0,some 1,some 2,none]) ?_
 ·intro n1 g0 z1 hs1 hk1
  unfold zcl at hs1
  try dsimp only at hs1
  refine sA ?_
  refine zki hs1 (λ hs1 _=>sA ?_) (λ hs1 _=>sA ?_)
  ·obtain ⟨hp3,hs1⟩:=zj8 hs1
   have hn3:g0.t11.toNat < a0.fRe.length:=by first|omega|(simp;omega)
   refine sA ?_
   refine zkw ?_
   obtain ⟨c0,hr4,hs1⟩:=zj7 hs1
   refine zkj (zhP hr4) (sA ?_)
   obtain ⟨hp5,hs1⟩:=zj8 hs1
   refine sA ?_
   refine zkw ?_
   cases hs1
   exact zkr hk1 (zkg [some 0,some 1,some 2,some 7])
  ·cases hs1
   cases hk1
   try dsimp only at h
   refine sA ?_
   obtain ⟨y1,hl6,h⟩:=zj7 h
   refine zky (λ g1:zf3=>⟨[(2,(.pb 0 0)),(3,(.pb 1 0)),(24,(.lf true (.sl (a0.Line.map zkz)))),(25,(I ((a0.Line.length:Nat):Int))),(26,(I g1.t26))],[(0,some (true,.box [.nl,.nl])),(1,some (true,.box [(.os 2 3 0 g0.c3.length g0.c3.length false),(.os 3 3 0 g1.c3.length g1.c3.length false)])),(2,some (true,.arr false 3 (g0.c3.map zkl))),(3,some (true,.arr false 3 (g1.c3.map zkz)))],4,43⟩) (_) _ _ hl6 (zkg [some 1,some 2,some 3,none]) ?_
   ·intro n3 g1 z3 hs3 hk3
    unfold zdj at hs3
    try dsimp only at hs3
    refine sA ?_
    refine zki hs3 (λ hs3 _=>sA ?_) (λ hs3 _=>sA ?_)
    ·obtain ⟨hp8,hs3⟩:=zj8 hs3
     have hn8:g1.t26.toNat < a0.Line.length:=by first|omega|(simp;omega)
     refine sA ?_
     refine zkw ?_
     obtain ⟨c1,hr9,hs3⟩:=zj7 hs3
     refine zkj (zgN hr9) (sA ?_)
     obtain ⟨hp10,hs3⟩:=zj8 hs3
     refine sA ?_
     refine zkw ?_
     cases hs3
     exact zkr hk3 (zkg [some 0,some 1,some 2,some 7])
    ·cases hs3
     cases hk3
     try dsimp only at h
     refine sA ?_
     cases h
     exact zkc ⟨[(2,(.pb 2 0))],[(0,some (true,.arr false 3 (g0.c3.map zkl))),(1,some (true,.arr false 3 (g1.c3.map zkz))),(2,some (true,.box [(.os 0 3 0 g0.c3.length g0.c3.length false),(.os 1 3 0 g1.c3.length g1.c3.length false)]))],3,43⟩ [some 2,some 3,some 0]
theorem zjQ {a0:(List zkd)} {a1:(List zka)} {r:(List zkd)} (h:zgg a0 a1=some r):Fn Tryz.prog 179 [(.lf true (.sl (a0.map zkf))),(.lf true (.sl (a1.map zko)))] [] 0 (.lf true (.sl (r.map zkf))) [] 0:=by
 unfold zgg at h
 refine fc [(1000,[(0,0),(1,0)]),(1001,[(0,0),(1,0),(5,0)]),(1002,[(0,0),(1,0),(5,0),(6,0)]),(1003,[(0,0),(1,0),(5,0),(6,0),(13,0),(14,0),(15,0)]),(1004,[(0,0),(1,0),(5,0),(6,0),(13,0),(14,0),(15,0),(16,0)]),(1005,[(0,0),(1,0),(5,0),(6,0),(8,0),(13,0),(14,0),(15,0)]),(1006,[(0,0),(1,0),(5,0),(6,0),(13,0),(14,0),(15,0),(22,0)]),(1008,[(0,0),(1,0),(5,0),(6,0),(13,0),(14,0),(15,0)]),(1009,[(1,0),(5,0),(6,0),(25,0),(26,0),(27,0)]),(1010,[(1,0),(5,0),(6,0),(25,0),(26,0),(27,0),(28,0)]),(1011,[(1,0),(5,0),(6,0),(10,0),(25,0),(26,0),(27,0)]),(1012,[(1,0),(5,0),(6,0),(10,0),(25,0),(26,0),(27,0),(34,0)]),(1013,[(1,0),(5,0),(6,0),(10,0),(11,0),(25,0),(26,0),(27,0)]),(1014,[(1,0),(5,0),(6,0),(10,0),(25,0),(26,0),(27,0),(47,0)]),(1015,[(1,0),(5,0),(10,0),(25,0),(26,0),(27,0)]),(1016,[(1,0),(5,0),(6,0),(10,0),(25,0),(26,0),(27,0)]),(1017,[(1,0),(5,0),(6,0),(25,0),(26,0),(27,0)]),(1018,[(1,0),(5,0),(6,0),(25,0),(26,0),(27,0)]),(1019,[(1,0),(5,0),(63,0)]),(1020,[(5,0)]),(4014,[]),(5017,[])] Tryz.func179 ?_
 simp only [Tryz.f179]
 refine sA ?_
 obtain ⟨y0,hl1,h⟩:=zj7 h
 refine zky (λ g0:zf0=>⟨[(0,(.lf true (.sl (a0.map zkf)))),(1,(.lf true (.sl (a1.map zko)))),(5,.nl),(6,(B false)),(13,(.lf true (.sl (a0.map zkf)))),(14,(I ((a0.length:Nat):Int))),(15,(I g0.t15))],[],0,71⟩) (zci a0 a1) _ _ hl1 (zkg []) ?_
 ·intro n1 g0 z1 hs1 hk1
  unfold zci at hs1
  try dsimp only at hs1
  refine sA ?_
  refine zki hs1 (λ hs1 _=>sA ?_) (λ hs1 _=>sA ?_)
  ·obtain ⟨hp3,hs1⟩:=zj8 hs1
   have hn3:g0.t15.toNat < a0.length:=by first|omega|(simp;omega)
   refine sA ?_
   refine zkw ?_
   obtain ⟨c0,hr4,hs1⟩:=zj7 hs1
   refine zkj (zdB hr4) (sA ?_)
   refine zki hs1 (λ hs1 _=>sA ?_) (λ hs1 _=>sA ?_)
   ·cases hs1
    cases hk1
    try dsimp only at h
    refine sA ?_
    have he:=oi h
    subst he
    exact zkc ⟨[(4,(.lf true (.sl (a0.map zkf))))],[],0,71⟩ []
   ·cases hs1
    exact zkr hk1 (zkg [])
  ·cases hs1
   cases hk1
   try dsimp only at h
   refine sA ?_
   obtain ⟨y1,hl6,h⟩:=zj7 h
   refine zky (λ g1:zgR=>⟨[(1,(.lf true (.sl (a1.map zko)))),(5,(.os 0 1 0 g1.c0.length g1.c0.length false)),(6,(B g1.t6)),(25,(.lf true (.sl (a0.map zkf)))),(26,(I ((a0.length:Nat):Int))),(27,(I g1.t27))],[(0,some (true,.deep [.sl [.sc,.sc,.sc,.sc]] (g1.c0.map zkf)))],1,71⟩) (_) _ _ hl6 (zkg [none]) ?_
   ·intro n3 g1 z3 hs3 hk3
    unfold zdh at hs3
    try dsimp only at hs3
    refine sA ?_
    refine zki hs3 (λ hs3 _=>sA ?_) (λ hs3 _=>sA ?_)
    ·obtain ⟨hp8,hs3⟩:=zj8 hs3
     have hn8:g1.t27.toNat < a0.length:=by first|omega|(simp;omega)
     refine sA ?_
     refine zkw ?_
     obtain ⟨c1,hr9,hs3⟩:=zj7 hs3
     refine zkj (zdB hr9) (sA ?_)
     refine zki hs3 (λ hs3 _=>sA ?_) (λ hs3 _=>sA ?_)
     ·cases hs3
      exact zkr hk3 (zkg [some 0])
     ·obtain ⟨c2,hr11,hs3⟩:=zj7 hs3
      refine zkj (zeJ hr11) (sA ?_)
      obtain ⟨p0,hq12,hs3⟩:=zj7 hs3
      refine zkC (λ s2=>s2=⟨[(1,(.lf true (.sl (a1.map zko)))),(5,(.os 0 1 0 g1.c0.length g1.c0.length false)),(6,(B g1.t6)),(10,(.pb 1 0)),(25,(.lf true (.sl (a0.map zkf)))),(26,(I ((a0.length:Nat):Int))),(27,(I g1.t27)),(47,(B p0.t47))],[(0,some (true,.deep [.sl [.sc,.sc,.sc,.sc]] (g1.c0.map zkf))),(1,some (true,.box [(.lf true (.sl (((nth a0 g1.t27.toNat).fEv).map zko)))]))],2,71⟩) ?_ ?_
      ·refine sA ?_
       refine zkt hq12 (λ hq12 _=>sA ?_) (λ hq12 _=>sA ?_)
       ·cases hq12
        exact zkp rfl (zkg [some 0,some 1])
       ·cases hq12
        exact zkp rfl (zkg [some 0,some 1])
      ·intro s2 hJ;subst hJ
       try dsimp only at hs3
       refine sA ?_
       refine zki hs3 (λ hs3 _=>sA ?_) (λ hs3 _=>sA ?_)
       ·obtain ⟨c3,hr15,hs3⟩:=zj7 hs3
        refine zkj (zO hr15) (sA ?_)
        obtain ⟨hp16,hs3⟩:=zj8 hs3
        refine sA ?_
        refine zkw ?_
        refine zt9 4 (sA ?_)
        obtain ⟨c4,hr17,hs3⟩:=zj7 hs3
        refine zkj (zO hr17) (sA ?_)
        obtain ⟨hp18,hs3⟩:=zj8 hs3
        refine sA ?_
        refine zkw ?_
        cases hs3
        exact zkr hk3 (zqc 7 (zkg [some 7]))
       ·refine zBl (sA ?_)
        obtain ⟨c5,hr19,hs3⟩:=zj7 hs3
        refine zkj (zO hr19) (sA ?_)
        obtain ⟨hp20,hs3⟩:=zj8 hs3
        refine sA ?_
        refine zkw ?_
        cases hs3
        exact zkr hk3 (zqc 4 (zkg [some 4]))
    ·cases hs3
     cases hk3
     try dsimp only at h
     refine sA ?_
     refine zki h (λ h _=>sA ?_) (λ h _=>sA ?_)
     ·obtain ⟨c6,hr22,h⟩:=zj7 h
      refine zkj (zO hr22) (sA ?_)
      obtain ⟨hp23,h⟩:=zj8 h
      refine sA ?_
      refine zkw ?_
      cases h
      refine zl8 3 (sA ?_)
      refine zk6 3 (sA ?_)
      exact zkc ⟨[(4,(.lf true (.sl ((g1.c0++[(⟨c6⟩:zkd)]).map zkf))))],[],0,71⟩ []
     ·cases h
      refine zk6 0 (sA ?_)
      exact zkc ⟨[(4,(.lf true (.sl (g1.c0.map zkf))))],[],0,71⟩ []
theorem zjt {a0:zkh} {a1:zkh} {r:zkh} (h:zfn a0 a1=some r):Fn Tryz.prog 131 [(.ag [(.lf true (.sl (a0.fBr.map zkf)))]),(.ag [(.lf true (.sl (a1.fBr.map zkf)))])] [] 0 (.ag [(.os 0 1 0 r.fBr.length r.fBr.length false)]) [(0,some (true,.deep [.sl [.sc,.sc,.sc,.sc]] (r.fBr.map zkf)))] 2:=by
 unfold zfn at h
 refine fc [(1000,[(2,0),(3,0),(4,0)]),(1001,[(3,0),(4,0),(5,0)]),(1002,[(4,0),(5,0),(11,0),(12,0),(13,0)]),(1003,[(4,0),(5,0),(11,0),(12,0),(13,0),(14,0)]),(1004,[(4,0),(5,0),(7,0),(11,0),(12,0),(13,0)]),(1005,[(4,0),(5,0),(11,0),(12,0),(13,0)]),(1006,[(4,0),(5,0),(11,0),(12,0),(13,0)])] Tryz.func131 ?_
 simp only [Tryz.f131]
 refine sA ?_
 obtain ⟨y0,hl1,h⟩:=zj7 h
 refine zky (λ g0:zfd=>⟨[(4,(.pb 0 0)),(5,(.lf true (.sl (g0.t5.map zkf)))),(11,(.lf true (.sl (a1.fBr.map zkf)))),(12,(I ((a1.fBr.length:Nat):Int))),(13,(I g0.t13))],[(0,some (true,.box [.nl]))],1,25⟩) (zcj a1) _ _ hl1 (zkg [some 2]) ?_
 ·intro n1 g0 z1 hs1 hk1
  unfold zcj at hs1
  try dsimp only at hs1
  refine sA ?_
  refine zki hs1 (λ hs1 _=>sA ?_) (λ hs1 _=>sA ?_)
  ·obtain ⟨hp3,hs1⟩:=zj8 hs1
   have hn3:g0.t13.toNat < a1.fBr.length:=by first|omega|(simp;omega)
   refine sA ?_
   refine zkw ?_
   obtain ⟨c0,hr4,hs1⟩:=zj7 hs1
   refine zkj (zjQ hr4) (sA ?_)
   cases hs1
   exact zkr hk1 (zkg [some 0])
  ·cases hs1
   cases hk1
   try dsimp only at h
   refine sA ?_
   obtain ⟨c1,hr5,h⟩:=zj7 h
   refine zkj (zfr hr5) (sA ?_)
   have he:=oi h
   subst he
   exact zkc ⟨[(4,(.pb 1 0))],[(0,some (true,.deep [.sl [.sc,.sc,.sc,.sc]] (c1.fBr.map zkf))),(1,some (true,.box [(.os 0 1 0 c1.fBr.length c1.fBr.length false)]))],2,25⟩ [some 1,some 0]
theorem zii {a0:zkh} {a1:zkh} {r:(zkh×Bool)} (h:zcA a0 a1=some r):Fn Tryz.prog 57 [(.ag [(.lf true (.sl (a0.fBr.map zkf)))]),(.ag [(.lf true (.sl (a1.fBr.map zkf)))])] [] 0 (.tu [(.ag [(.os 0 1 0 r.1.fBr.length r.1.fBr.length false)]),(B r.2)]) [(0,some (true,.deep [.sl [.sc,.sc,.sc,.sc]] (r.1.fBr.map zkf)))] 2:=by
 unfold zcA at h
 refine fc [(1000,[(2,0),(3,0),(4,0)]),(1001,[(2,0),(3,0),(4,0),(14,0)]),(1003,[(4,0),(6,0)]),(1004,[(4,0),(6,0),(21,0)]),(4001,[])] Tryz.func57 ?_
 simp only [Tryz.f57]
 refine sA ?_
 obtain ⟨p0,hq1,h⟩:=zj7 h
 refine zkC (λ s2=>s2=⟨[(2,(.pb 0 0)),(3,(.pb 1 0)),(4,(.pb 2 0)),(14,(B p0.t14))],[(0,some (true,.box [(.lf true (.sl (a0.fBr.map zkf)))])),(1,some (true,.box [(.lf true (.sl (a1.fBr.map zkf)))])),(2,some (true,.box [.nl]))],3,24⟩) ?_ ?_
 ·refine sA ?_
  obtain ⟨c0,hr2,hq1⟩:=zj7 hq1
  refine zkj (zdM hr2) (sA ?_)
  refine zkt hq1 (λ hq1 _=>sA ?_) (λ hq1 _=>sA ?_)
  ·cases hq1
   exact zkp rfl (zkg [some 0,some 1,some 2])
  ·obtain ⟨c1,hr4,hq1⟩:=zj7 hq1
   refine zkj (zdM hr4) (sA ?_)
   cases hq1
   exact zkp rfl (zkg [some 0,some 1,some 2])
 ·intro s2 hJ;subst hJ
  try dsimp only at h
  refine sA ?_
  refine zki h (λ h _=>sA ?_) (λ h _=>sA ?_)
  ·cases h
   exact zkc ⟨[(4,(.pb 1 0)),(5,(B false))],[(0,some (true,.deep [.sl [.sc,.sc,.sc,.sc]] (([]:List zkd).map zkf))),(1,some (true,.box [(.os 0 1 0 (([]:List zkd).length) (([]:List zkd).length) false)]))],2,24⟩ [none,some 2]
  ·obtain ⟨c2,hr6,h⟩:=zj7 h
   refine zkj (zjt hr6) (sA ?_)
   obtain ⟨c3,hr7,h⟩:=zj7 h
   refine zkj (zdM hr7) (sA ?_)
   refine zki h (λ h _=>sA ?_) (λ h _=>sA ?_)
   ·cases h
    exact zkc ⟨[(4,(.pb 1 0)),(5,(B false))],[(0,some (true,.deep [.sl [.sc,.sc,.sc,.sc]] (([]:List zkd).map zkf))),(1,some (true,.box [(.os 0 1 0 (([]:List zkd).length) (([]:List zkd).length) false)]))],2,24⟩ [none,some 2]
   ·cases h
    exact zkc ⟨[(4,(.pb 1 0)),(5,(B true))],[(0,some (true,.deep [.sl [.sc,.sc,.sc,.sc]] (c2.fBr.map zkf))),(1,some (true,.box [(.os 0 1 0 c2.fBr.length c2.fBr.length false)]))],2,24⟩ [some 3,some 2]
theorem ziZ {a0:zkb} {a1:zlF} {r:(zkb×Bool)} (h:zeg a0 a1=some r):Fn Tryz.prog 10 [(.ag [(I a0.Id),(I a0.fVe),(.lf true (.sl (a0.fTe.fBr.map zkf)))]),(.ag [(I a1.fVe),(.lf true (.sl (a1.fTe.fBr.map zkf)))])] [] 0 (.tu [(.ag [(I r.1.Id),(I r.1.fVe),(.lf false (.sl (r.1.fTe.fBr.map zkf)))]),(B r.2)]) [] 1:=by
 unfold zeg at h
 refine fc [(1000,[(2,0),(3,0),(4,0)]),(1001,[(2,0),(3,0),(4,0),(19,0)]),(1003,[(2,0),(3,0),(4,0),(6,0),(7,0)]),(1004,[(2,0),(3,0),(4,0),(6,0),(30,0)]),(1006,[(2,0),(3,0),(4,0),(6,0),(36,0)]),(1007,[(2,0),(4,0),(6,0)]),(1008,[(2,0),(4,0)]),(2036,[]),(4001,[])] Tryz.func10 ?_
 simp only [Tryz.f10]
 refine sA ?_
 obtain ⟨p0,hq1,h⟩:=zj7 h
 refine zkC (λ s2=>s2=⟨[(2,(.pb 0 0)),(3,(.pb 1 0)),(4,(.pb 2 0)),(19,(B p0.t19))],[(0,some (true,.box [(I a0.Id),(I a0.fVe),(.lf true (.sl (a0.fTe.fBr.map zkf)))])),(1,some (true,.box [(I a1.fVe),(.lf true (.sl (a1.fTe.fBr.map zkf)))])),(2,some (true,.box [(I 0),(I 0),.nl]))],3,43⟩) ?_ ?_
 ·refine sA ?_
  obtain ⟨c0,hr2,hq1⟩:=zj7 hq1
  refine zkj (zbZ hr2) (sA ?_)
  refine zkt hq1 (λ hq1 _=>sA ?_) (λ hq1 _=>sA ?_)
  ·cases hq1
   exact zkp rfl (zkg [some 0,some 1,some 2])
  ·obtain ⟨c1,hr4,hq1⟩:=zj7 hq1
   refine zkj (zbZ hr4) (sA ?_)
   cases hq1
   exact zkp rfl (zkg [some 0,some 1,some 2])
 ·intro s2 hJ;subst hJ
  try dsimp only at h
  refine sA ?_
  refine zki h (λ h _=>sA ?_) (λ h _=>sA ?_)
  ·cases h
   exact zkc ⟨[(4,(.pb 0 0)),(5,(B false))],[(0,some (true,.box [(I 0),(I 0),(.lf false (.sl (([]).map zkf)))]))],1,43⟩ [some 2]
  ·obtain ⟨c2,hr6,h⟩:=zj7 h
   refine zkj (zii hr6) (sA ?_)
   refine zki h (λ h _=>sA ?_) (λ h _=>sA ?_)
   ·cases h
    exact zkc ⟨[(4,(.pb 0 0)),(5,(B false))],[(0,some (true,.box [(I 0),(I 0),(.lf false (.sl (([]).map zkf)))]))],1,43⟩ [some 2]
   ·obtain ⟨p1,hq8,h⟩:=zj7 h
    refine zkC (λ s2=>s2=⟨[(2,(.pb 0 0)),(4,(.pb 1 0)),(6,(.pb 2 0))],[(0,some (true,.box [(I a0.Id),(I p1.b0_1),(.lf true (.sl (a0.fTe.fBr.map zkf)))])),(1,some (true,.box [(I 0),(I 0),.nl])),(2,some (true,.box [(.os 3 1 0 c2.1.fBr.length c2.1.fBr.length false)])),(3,some (true,.deep [.sl [.sc,.sc,.sc,.sc]] (c2.1.fBr.map zkf)))],4,43⟩) ?_ ?_
    ·refine sA ?_
     refine zki hq8 (λ hq8 _=>sA ?_) (λ hq8 _=>sA ?_)
     ·cases hq8
      exact zkp rfl (zkg [some 0,some 2,some 5,some 3])
     ·cases hq8
      exact zkp rfl (zkg [some 0,some 2,some 5,some 3])
    ·intro s2 hJ;subst hJ
     try dsimp only at h
     refine sA ?_
     cases h
     refine zk6 3 (sA ?_)
     exact zkc ⟨[(4,(.pb 0 0)),(5,(B true))],[(0,some (true,.box [(I a0.Id),(I p1.b0_1),(.lf false (.sl (c2.1.fBr.map zkf)))]))],1,43⟩ [some 1]
theorem zhA {a0:zkb} {r:Bool} (h:zdf a0=some r):Fn Tryz.prog 68 [(.ag [(I a0.Id),(I a0.fVe),(.lf true (.sl (a0.fTe.fBr.map zkf)))])] [] 0 (B r) [] 0:=by
 unfold zdf at h
 refine fc [] Tryz.func68 ?_
 simp only [Tryz.f68]
 refine sA ?_
 cases h
 exact zkc ⟨[(2,(B ((a0.fVe.tmod 10) == a0.Id)))],[],0,9⟩ []
theorem zhd {a0:(List zkd)} {r:Int} (h:zcJ a0=some r):Fn Tryz.prog 184 [(.lf true (.sl (a0.map zkf)))] [] 0 (I r) [] 0:=by
 unfold zcJ at h
 refine fc [(1000,[(0,0)]),(1001,[(0,0),(3,0)]),(1002,[(0,0),(3,0),(9,0),(10,0),(11,0)]),(1003,[(0,0),(3,0),(9,0),(10,0),(11,0),(12,0)]),(1004,[(0,0),(3,0),(4,0),(5,0),(9,0),(10,0),(11,0)]),(1005,[(0,0),(3,0),(4,0),(5,0),(9,0),(10,0),(11,0),(17,0)]),(1006,[(0,0),(3,0),(9,0),(10,0),(11,0)]),(1007,[(0,0),(3,0),(4,0),(5,0),(6,0),(9,0),(10,0),(11,0)]),(1008,[(0,0),(3,0),(4,0),(5,0),(6,0),(7,0),(9,0),(10,0),(11,0)]),(1009,[(0,0),(3,0),(4,0),(5,0),(6,0),(7,0),(8,0),(9,0),(10,0),(11,0)]),(1010,[(0,0),(3,0),(4,0),(9,0),(10,0),(11,0),(55,0)]),(1011,[(0,0),(3,0),(9,0),(10,0),(11,0)]),(1012,[(0,0),(3,0),(9,0),(10,0),(11,0)]),(4010,[])] Tryz.func184 ?_
 simp only [Tryz.f184]
 refine sA ?_
 obtain ⟨y0,hl1,h⟩:=zj7 h
 refine zky (λ g0:zfN=>⟨[(0,(.lf true (.sl (a0.map zkf)))),(3,(I g0.t3)),(9,(.lf true (.sl (a0.map zkf)))),(10,(I ((a0.length:Nat):Int))),(11,(I g0.t11))],[],0,59⟩) (zK a0) _ _ hl1 (zkg []) ?_
 ·intro n1 g0 z1 hs1 hk1
  unfold zK at hs1
  try dsimp only at hs1
  refine sA ?_
  refine zki hs1 (λ hs1 _=>sA ?_) (λ hs1 _=>sA ?_)
  ·obtain ⟨hp3,hs1⟩:=zj8 hs1
   have hn3:g0.t11.toNat < a0.length:=by first|omega|(simp;omega)
   refine sA ?_
   refine zkw ?_
   refine zki hs1 (λ hs1 _=>sA ?_) (λ hs1 _=>sA ?_)
   ·cases hs1
    exact zkr hk1 (zkg [])
   ·obtain ⟨hp5,hs1⟩:=zj8 hs1
    have hn5:g0.t3.toNat < a0.length:=by first|omega|(simp;omega)
    refine sA ?_
    refine zkw ?_
    obtain ⟨hp6,hs1⟩:=zj8 hs1
    have hn6:(wI (((((nth a0 g0.t11.toNat).fEv).length:Nat):Int) - 1)).toNat < ((nth a0 g0.t11.toNat).fEv).length:=by first|omega|(simp;omega)
    refine sA ?_
    refine zkw ?_
    obtain ⟨hp7,hs1⟩:=zj8 hs1
    have hn7:(wI (((((nth a0 g0.t3.toNat).fEv).length:Nat):Int) - 1)).toNat < ((nth a0 g0.t3.toNat).fEv).length:=by first|omega|(simp;omega)
    refine sA ?_
    refine zkw ?_
    obtain ⟨p0,hq8,hs1⟩:=zj7 hs1
    refine zkC (λ s2=>s2=⟨[(0,(.lf true (.sl (a0.map zkf)))),(3,(I g0.t3)),(4,(I g0.t11)),(9,(.lf true (.sl (a0.map zkf)))),(10,(I ((a0.length:Nat):Int))),(11,(I g0.t11)),(55,(B p0.t55))],[],0,59⟩) ?_ ?_
    ·refine sA ?_
     refine zkt hq8 (λ hq8 _=>sA ?_) (λ hq8 _=>sA ?_)
     ·cases hq8
      exact zkp rfl (zkg [])
     ·refine zkt hq8 (λ hq8 _=>sA ?_) (λ hq8 _=>sA ?_)
      ·cases hq8
       exact zkp rfl (zkg [])
      ·cases hq8
       exact zkp rfl (zkg [])
    ·intro s2 hJ;subst hJ
     try dsimp only at hs1
     refine sA ?_
     refine zki hs1 (λ hs1 _=>sA ?_) (λ hs1 _=>sA ?_)
     ·cases hs1
      exact zkr hk1 (zkg [])
     ·cases hs1
      exact zkr hk1 (zkg [])
  ·cases hs1
   cases hk1
   try dsimp only at h
   refine sA ?_
   cases h
   exact zkc ⟨[(2,(I g0.t3))],[],0,59⟩ []
theorem zi0 {a0:zkb} {r:(List zka)} (h:zd9 a0=some r):Fn Tryz.prog 188 [(.ag [(I a0.Id),(I a0.fVe),(.lf true (.sl (a0.fTe.fBr.map zkf)))])] [] 0 (.lf true (.sl (r.map zko))) [] 0:=by
 unfold zd9 at h
 refine fc [(1000,[(1,0)]),(1001,[(1,0),(3,0)]),(1002,[(1,0),(3,0),(9,0)])] Tryz.func188 ?_
 simp only [Tryz.f188]
 refine sA ?_
 obtain ⟨c0,hr1,h⟩:=zj7 h
 refine zkj (zhd hr1) (sA ?_)
 refine zki h (λ h _=>sA ?_) (λ h _=>sA ?_)
 ·cases h
  exact zkc ⟨[(2,(.lf true (.sl (([]).map zko))))],[],0,17⟩ []
 ·obtain ⟨hp3,h⟩:=zj8 h
  have hn3:c0.toNat < a0.fTe.fBr.length:=by first|omega|(simp;omega)
  refine sA ?_
  refine zkw ?_
  cases h
  exact zkc ⟨[(2,(.lf true (.sl (((nth a0.fTe.fBr c0.toNat).fEv).map zko))))],[],0,17⟩ []
theorem zju {a0:(List zkd)} {a1:(List zka)} {m0:Nat} {x0:Bool} {r:(List zkd)} (h:zd1 a0 a1=some r):Fn Tryz.prog 179 [(.lf true (.sl (a0.map zkf))),(.os 0 4 0 a1.length m0 x0)] [(0,some (false,.arr true 4 (a1.map zko)))] 1 (.lf true (.sl (r.map zkf))) [(0,some (false,.arr false 4 (a1.map zko)))] 1:=by
 unfold zd1 at h
 refine fc [(1000,[(0,0),(1,0)]),(1001,[(0,0),(1,0),(5,0)]),(1002,[(0,0),(1,0),(5,0),(6,0)]),(1003,[(0,0),(1,0),(5,0),(6,0),(13,0),(14,0),(15,0)]),(1004,[(0,0),(1,0),(5,0),(6,0),(13,0),(14,0),(15,0),(16,0)]),(1005,[(0,0),(1,0),(5,0),(6,0),(8,0),(13,0),(14,0),(15,0)]),(1006,[(0,0),(1,0),(5,0),(6,0),(13,0),(14,0),(15,0),(22,0)]),(1008,[(0,0),(1,0),(5,0),(6,0),(13,0),(14,0),(15,0)]),(1009,[(1,0),(5,0),(6,0),(25,0),(26,0),(27,0)]),(1010,[(1,0),(5,0),(6,0),(25,0),(26,0),(27,0),(28,0)]),(1011,[(1,0),(5,0),(6,0),(10,0),(25,0),(26,0),(27,0)]),(1012,[(1,0),(5,0),(6,0),(10,0),(25,0),(26,0),(27,0),(34,0)]),(1013,[(1,0),(5,0),(6,0),(10,0),(11,0),(25,0),(26,0),(27,0)]),(1014,[(1,0),(5,0),(6,0),(10,0),(25,0),(26,0),(27,0),(47,0)]),(1015,[(1,0),(5,0),(10,0),(25,0),(26,0),(27,0)]),(1016,[(1,0),(5,0),(6,0),(10,0),(25,0),(26,0),(27,0)]),(1017,[(1,0),(5,0),(6,0),(25,0),(26,0),(27,0)]),(1018,[(1,0),(5,0),(6,0),(25,0),(26,0),(27,0)]),(1019,[(1,0),(5,0),(63,0)]),(1020,[(5,0)]),(4014,[]),(5017,[])] Tryz.func179 ?_
 simp only [Tryz.f179]
 refine sA ?_
 obtain ⟨y0,hl1,h⟩:=zj7 h
 refine zky (λ g0:zfe=>⟨[(0,(.lf true (.sl (a0.map zkf)))),(1,(.os 0 4 0 a1.length m0 x0)),(5,.nl),(6,(B false)),(13,(.lf true (.sl (a0.map zkf)))),(14,(I ((a0.length:Nat):Int))),(15,(I g0.t15))],[(0,some (false,.arr true 4 (a1.map zko)))],1,71⟩) (zbn a0 a1) _ _ hl1 (zkg [some 0]) ?_
 ·intro n1 g0 z1 hs1 hk1
  unfold zbn at hs1
  try dsimp only at hs1
  refine sA ?_
  refine zki hs1 (λ hs1 _=>sA ?_) (λ hs1 _=>sA ?_)
  ·obtain ⟨hp3,hs1⟩:=zj8 hs1
   have hn3:g0.t15.toNat < a0.length:=by first|omega|(simp;omega)
   refine sA ?_
   refine zkw ?_
   obtain ⟨c0,hr4,hs1⟩:=zj7 hs1
   refine zkj (zdB hr4) (sA ?_)
   refine zki hs1 (λ hs1 _=>sA ?_) (λ hs1 _=>sA ?_)
   ·cases hs1
    cases hk1
    try dsimp only at h
    refine sA ?_
    have he:=oi h
    subst he
    exact zkc ⟨[(4,(.lf true (.sl (a0.map zkf))))],[(0,some (false,.arr false 4 (a1.map zko)))],1,71⟩ [some 0]
   ·cases hs1
    exact zkr hk1 (zkg [some 0])
  ·cases hs1
   cases hk1
   try dsimp only at h
   refine sA ?_
   obtain ⟨y1,hl6,h⟩:=zj7 h
   refine zky (λ g1:zgp=>⟨[(1,(.os 0 4 0 a1.length m0 x0)),(5,(.os 1 1 0 g1.c1.length g1.c1.length false)),(6,(B g1.t6)),(25,(.lf true (.sl (a0.map zkf)))),(26,(I ((a0.length:Nat):Int))),(27,(I g1.t27))],[(0,some (false,.arr true 4 (a1.map zko))),(1,some (true,.deep [.sl [.sc,.sc,.sc,.sc]] (g1.c1.map zkf)))],2,71⟩) (_) _ _ hl6 (zkg [some 0,none]) ?_
   ·intro n3 g1 z3 hs3 hk3
    unfold zck at hs3
    try dsimp only at hs3
    refine sA ?_
    refine zki hs3 (λ hs3 _=>sA ?_) (λ hs3 _=>sA ?_)
    ·obtain ⟨hp8,hs3⟩:=zj8 hs3
     have hn8:g1.t27.toNat < a0.length:=by first|omega|(simp;omega)
     refine sA ?_
     refine zkw ?_
     obtain ⟨c1,hr9,hs3⟩:=zj7 hs3
     refine zkj (zdB hr9) (sA ?_)
     refine zki hs3 (λ hs3 _=>sA ?_) (λ hs3 _=>sA ?_)
     ·cases hs3
      exact zkr hk3 (zkg [some 0,some 1])
     ·obtain ⟨c2,hr11,hs3⟩:=zj7 hs3
      refine zkj (zeJ hr11) (sA ?_)
      obtain ⟨p0,hq12,hs3⟩:=zj7 hs3
      refine zkC (λ s2=>s2=⟨[(1,(.os 0 4 0 a1.length m0 x0)),(5,(.os 1 1 0 g1.c1.length g1.c1.length false)),(6,(B g1.t6)),(10,(.pb 2 0)),(25,(.lf true (.sl (a0.map zkf)))),(26,(I ((a0.length:Nat):Int))),(27,(I g1.t27)),(47,(B p0.t47))],[(0,some (false,.arr true 4 (a1.map zko))),(1,some (true,.deep [.sl [.sc,.sc,.sc,.sc]] (g1.c1.map zkf))),(2,some (true,.box [(.lf true (.sl (((nth a0 g1.t27.toNat).fEv).map zko)))]))],3,71⟩) ?_ ?_
      ·refine sA ?_
       refine zkt hq12 (λ hq12 _=>sA ?_) (λ hq12 _=>sA ?_)
       ·cases hq12
        exact zkp rfl (zkg [some 0,some 1,some 2])
       ·cases hq12
        exact zkp rfl (zkg [some 0,some 1,some 2])
      ·intro s2 hJ;subst hJ
       try dsimp only at hs3
       refine sA ?_
       refine zki hs3 (λ hs3 _=>sA ?_) (λ hs3 _=>sA ?_)
       ·obtain ⟨c3,hr15,hs3⟩:=zj7 hs3
        refine zkj (zO hr15) (sA ?_)
        obtain ⟨hp16,hs3⟩:=zj8 hs3
        refine sA ?_
        refine zkw ?_
        refine zt9 5 (sA ?_)
        obtain ⟨c4,hr17,hs3⟩:=zj7 hs3
        refine zkj (zO hr17) (sA ?_)
        obtain ⟨hp18,hs3⟩:=zj8 hs3
        refine sA ?_
        refine zkw ?_
        cases hs3
        exact zkr hk3 (zqc 8 (zkg [some 0,some 8]))
       ·refine zBl (sA ?_)
        obtain ⟨c5,hr19,hs3⟩:=zj7 hs3
        refine zkj (zO hr19) (sA ?_)
        obtain ⟨hp20,hs3⟩:=zj8 hs3
        refine sA ?_
        refine zkw ?_
        cases hs3
        exact zkr hk3 (zqc 5 (zkg [some 0,some 5]))
    ·cases hs3
     cases hk3
     try dsimp only at h
     refine sA ?_
     refine zki h (λ h _=>sA ?_) (λ h _=>sA ?_)
     ·obtain ⟨c6,hr22,h⟩:=zj7 h
      refine zkj (zO hr22) (sA ?_)
      obtain ⟨hp23,h⟩:=zj8 h
      refine sA ?_
      refine zkw ?_
      cases h
      refine zl8 4 (sA ?_)
      refine zk6 4 (sA ?_)
      exact zkc ⟨[(4,(.lf true (.sl ((g1.c1++[(⟨c6⟩:zkd)]).map zkf))))],[(0,some (false,.arr false 4 (a1.map zko)))],1,71⟩ [some 0]
     ·cases h
      refine zk6 1 (sA ?_)
      exact zkc ⟨[(4,(.lf true (.sl (g1.c1.map zkf))))],[(0,some (false,.arr false 4 (a1.map zko)))],1,71⟩ [some 0]
theorem zh6 {a0:zkb} {a1:Int} {a2:ByteArray} {r:(zkb×Int)} (h:zdw a0 a1 a2=some r):Fn Tryz.prog 139 [(.ag [(I a0.Id),(I a0.fVe),(.lf true (.sl (a0.fTe.fBr.map zkf)))]),(I a1),(.lf false (.sc (.string a2)))] [] 0 (.tu [(.ag [(I r.1.Id),(I r.1.fVe),(.lf true (.sl (r.1.fTe.fBr.map zkf)))]),(I r.2)]) [] 1:=by
 unfold zdw at h
 refine fc [(15,[(2,4),(5,4),(2,6),(2,7),(6,6)]),(1000,[(1,0),(2,0),(3,0),(6,0)]),(1001,[(1,0),(2,0),(3,0),(6,0),(21,0)]),(1003,[(1,0),(2,0),(3,0),(6,0),(25,0)]),(1005,[(1,0),(2,0),(3,0),(6,0),(8,0)]),(1006,[(1,0),(2,0),(3,0),(6,0),(8,0),(9,0)]),(1007,[(1,0),(2,0),(3,0),(6,0),(8,0),(9,0),(42,0)]),(1009,[(3,0),(6,0),(8,0),(9,0),(11,0)]),(1010,[(3,0),(6,0),(8,0),(11,0),(13,0)]),(1011,[(3,0),(6,0),(8,0),(11,0),(58,0)]),(1013,[(3,0),(6,0),(8,0),(11,0),(62,0)]),(1015,[(3,0),(6,0)]),(4001,[]),(4007,[])] Tryz.func139 ?_
 simp only [Tryz.f139]
 refine sA ?_
 obtain ⟨p0,hq1,h⟩:=zj7 h
 refine zkC (λ s2=>s2=⟨[(1,(I a1)),(2,(.lf false (.sc (.string a2)))),(3,(.pb 0 0)),(6,(.pb 1 0)),(21,(B p0.t21))],[(0,some (true,.box [(I a0.Id),(I a0.fVe),(.lf true (.sl (a0.fTe.fBr.map zkf)))])),(1,some (true,.box [(I 0),(I 0),.nl]))],2,77⟩) ?_ ?_
 ·refine sA ?_
  obtain ⟨c0,hr2,hq1⟩:=zj7 hq1
  refine zkj (zab hr2) (sA ?_)
  refine zkt hq1 (λ hq1 _=>sA ?_) (λ hq1 _=>sA ?_)
  ·cases hq1
   exact zkp rfl (zkg [some 0,some 1])
  ·obtain ⟨c1,hr4,hq1⟩:=zj7 hq1
   refine zkj (zg0 hr4) (sA ?_)
   cases hq1
   exact zkp rfl (zkg [some 0,some 1])
 ·intro s2 hJ;subst hJ
  try dsimp only at h
  refine sA ?_
  refine zki h (λ h _=>sA ?_) (λ h _=>sA ?_)
  ·cases h
   exact zkc ⟨[(6,(.pb 0 0)),(7,(I 1))],[(0,some (true,.box [(I a0.Id),(I a0.fVe),(.lf true (.sl (a0.fTe.fBr.map zkf)))]))],1,77⟩ [some 1]
  ·obtain ⟨c2,hr6,h⟩:=zj7 h
   refine zkj (zhA hr6) (sA ?_)
   refine zki h (λ h _=>sA ?_) (λ h _=>sA ?_)
   ·cases h
    exact zkc ⟨[(6,(.pb 0 0)),(7,(I 2))],[(0,some (true,.box [(I a0.Id),(I a0.fVe),(.lf true (.sl (a0.fTe.fBr.map zkf)))]))],1,77⟩ [some 1]
   ·obtain ⟨c3,hr8,h⟩:=zj7 h
    refine zkj (zi0 hr8) (sA ?_)
    obtain ⟨c4,hr9,h⟩:=zj7 h
    refine zkj (zf6 hr9) (sA ?_)
    obtain ⟨p1,hq10,h⟩:=zj7 h
    refine zkC (λ s2=>s2=⟨[(1,(I a1)),(2,(.lf false (.sc (.string a2)))),(3,(.pb 0 0)),(6,(.pb 1 0)),(8,(.lf true (.sl (c3.map zko)))),(9,(.pb 2 0)),(42,(B p1.t42))],[(0,some (true,.box [(I a0.Id),(I a0.fVe),(.lf true (.sl (a0.fTe.fBr.map zkf)))])),(1,some (true,.box [(I 0),(I 0),.nl])),(2,some (true,.box [(I c4.1.fSt),(I c4.1.Next),(B c4.1.fCa),(I c4.1.Done),(.lf true (.sl (c4.1.fSi.map eS))),(.lf true (.sl (c4.1.fTi.map eS)))]))],3,77⟩) ?_ ?_
    ·refine sA ?_
     refine zkt hq10 (λ hq10 _=>sA ?_) (λ hq10 _=>sA ?_)
     ·obtain ⟨c5,hr12,hq10⟩:=zj7 hq10
      refine zkj (zfW hr12) (sA ?_)
      cases hq10
      exact zkp rfl (zkg [some 0,some 1,some 3])
     ·cases hq10
      exact zkp rfl (zkg [some 0,some 1,some 3])
    ·intro s2 hJ;subst hJ
     try dsimp only at h
     refine sA ?_
     refine zki h (λ h _=>sA ?_) (λ h _=>sA ?_)
     ·cases h
      exact zkc ⟨[(6,(.pb 0 0)),(7,(I 5))],[(0,some (true,.box [(I a0.Id),(I a0.fVe),(.lf true (.sl (a0.fTe.fBr.map zkf)))]))],1,77⟩ [some 1]
     ·obtain ⟨c6,hr14,h⟩:=zj7 h
      refine zkj (zhO hr14) (sA ?_)
      refine zki h (λ h _=>sA ?_) (λ h _=>sA ?_)
      ·cases h
       exact zkc ⟨[(6,(.pb 0 0)),(7,(I 3))],[(0,some (true,.box [(I a0.Id),(I a0.fVe),(.lf true (.sl (a0.fTe.fBr.map zkf)))]))],1,77⟩ [some 1]
      ·refine zki h (λ h _=>sA ?_) (λ h _=>sA ?_)
       ·cases h
        exact zkc ⟨[(6,(.pb 0 0)),(7,(I 4))],[(0,some (true,.box [(I a0.Id),(I a0.fVe),(.lf true (.sl (a0.fTe.fBr.map zkf)))]))],1,77⟩ [some 1]
       ·obtain ⟨c7,hr17,h⟩:=zj7 h
        refine zkj (zO hr17) (sA ?_)
        obtain ⟨hp18,h⟩:=zj8 h
        refine sA ?_
        refine zkw ?_
        obtain ⟨c8,hr19,h⟩:=zj7 h
        refine zlj [8] (zju hr19) (sA ?_)
        obtain ⟨c9,hr20,h⟩:=zj7 h
        refine zkj (zfr hr20) (sA ?_)
        cases h
        refine zk6 9 (sA ?_)
        exact zkc ⟨[(6,(.pb 0 0)),(7,(I 0))],[(0,some (true,.box [(I a0.Id),(I a0.fVe),(.lf true (.sl (c9.fBr.map zkf)))]))],1,77⟩ [some 1]
theorem zjG {a0:Int} {a1:Int} {r:Int} (h:zfK a0 a1=some r):Fn Tryz.prog 215 [(I a0),(I a1)] [] 0 (I r) [] 0:=by
 unfold zfK at h
 refine fc [(1000,[(0,0),(1,0)]),(1001,[(0,0),(5,0)]),(1002,[(5,0),(14,0)]),(1003,[(5,0)])] Tryz.func215 ?_
 simp only [Tryz.f215]
 refine sA ?_
 refine zki h (λ h _=>sA ?_) (λ h _=>sA ?_)
 ·cases h
  exact zkc ⟨[(4,(I (wI ((wI ((wI (a0 - (a0.tmod 10)))+a1))+10))))],[],0,18⟩ []
 ·cases h
  exact zkc ⟨[(4,(I (wI ((wI (a0 - (a0.tmod 10)))+a1))))],[],0,18⟩ []
theorem ziC {a0:Int} {a1:Int} {r:(Int×Bool)} (h:zdp a0 a1=some r):Fn Tryz.prog 170 [(I a0),(I a1)] [] 0 (.tu [(I r.1),(B r.2)]) [] 0:=by
 unfold zdp at h
 refine fc [(1000,[(0,0),(1,0)]),(1001,[(0,0),(1,0),(14,0)]),(1003,[(6,0)]),(1004,[(6,0),(20,0)]),(4001,[])] Tryz.func170 ?_
 simp only [Tryz.f170]
 refine sA ?_
 obtain ⟨p0,hq1,h⟩:=zj7 h
 refine zkC (λ s2=>s2=⟨[(0,(I a0)),(1,(I a1)),(14,(B p0.t14))],[],0,22⟩) ?_ ?_
 ·refine sA ?_
  obtain ⟨c0,hr2,hq1⟩:=zj7 hq1
  refine zkj (zgc hr2) (sA ?_)
  refine zkt hq1 (λ hq1 _=>sA ?_) (λ hq1 _=>sA ?_)
  ·cases hq1
   exact zkp rfl (zkg [])
  ·obtain ⟨c1,hr4,hq1⟩:=zj7 hq1
   refine zkj (zab hr4) (sA ?_)
   cases hq1
   exact zkp rfl (zkg [])
 ·intro s2 hJ;subst hJ
  try dsimp only at h
  refine sA ?_
  refine zki h (λ h _=>sA ?_) (λ h _=>sA ?_)
  ·cases h
   exact zkc ⟨[(4,(I 0)),(5,(B false))],[],0,22⟩ []
  ·obtain ⟨c2,hr6,h⟩:=zj7 h
   refine zkj (zjG hr6) (sA ?_)
   obtain ⟨c3,hr7,h⟩:=zj7 h
   refine zkj (zgc hr7) (sA ?_)
   refine zki h (λ h _=>sA ?_) (λ h _=>sA ?_)
   ·cases h
    exact zkc ⟨[(4,(I 0)),(5,(B false))],[],0,22⟩ []
   ·cases h
    exact zkc ⟨[(4,(I c2)),(5,(B true))],[],0,22⟩ []
theorem zjv {a0:zkb} {r:(zkb×Bool)} (h:zd2 a0=some r):Fn Tryz.prog 117 [(.ag [(I a0.Id),(I a0.fVe),(.lf true (.sl (a0.fTe.fBr.map zkf)))])] [] 0 (.tu [(.ag [(I r.1.Id),(I r.1.fVe),(.lf false (.sl (r.1.fTe.fBr.map zkf)))]),(B r.2)]) [] 1:=by
 unfold zd2 at h
 refine fc [(1000,[(1,0),(2,0)]),(1001,[(1,0),(2,0),(8,0)]),(1003,[(1,0),(2,0),(4,0),(5,0)]),(1004,[(1,0),(2,0),(4,0),(19,0)]),(1006,[(1,0),(2,0),(4,0)]),(1007,[(1,0),(2,0)])] Tryz.func117 ?_
 simp only [Tryz.f117]
 refine sA ?_
 obtain ⟨c0,hr1,h⟩:=zj7 h
 refine zkj (zbZ hr1) (sA ?_)
 refine zki h (λ h _=>sA ?_) (λ h _=>sA ?_)
 ·cases h
  exact zkc ⟨[(2,(.pb 0 0)),(3,(B false))],[(0,some (true,.box [(I 0),(I 0),(.lf false (.sl (([]).map zkf)))]))],1,26⟩ [some 1]
 ·obtain ⟨c1,hr3,h⟩:=zj7 h
  refine zkj (ziC hr3) (sA ?_)
  refine zki h (λ h _=>sA ?_) (λ h _=>sA ?_)
  ·cases h
   exact zkc ⟨[(2,(.pb 0 0)),(3,(B false))],[(0,some (true,.box [(I 0),(I 0),(.lf false (.sl (([]).map zkf)))]))],1,26⟩ [some 1]
  ·obtain ⟨c2,hr5,h⟩:=zj7 h
   refine zkj (zhP hr5) (sA ?_)
   cases h
   exact zkc ⟨[(2,(.pb 0 0)),(3,(B true))],[(0,some (true,.box [(I c2.Id),(I c1.1),(.lf false (.sl (c2.fTe.fBr.map zkf)))]))],1,26⟩ [some 1]
theorem zjw {a0:zkb} {r:(zlF×Bool)} (h:zfo a0=some r):Fn Tryz.prog 50 [(.ag [(I a0.Id),(I a0.fVe),(.lf true (.sl (a0.fTe.fBr.map zkf)))])] [] 0 (.tu [(.ag [(I r.1.fVe),(.lf false (.sl (r.1.fTe.fBr.map zkf)))]),(B r.2)]) [] 1:=by
 unfold zfo at h
 refine fc [(3,[(1,4)]),(1000,[(1,0),(2,0)]),(1001,[(1,0),(2,0),(6,0)])] Tryz.func50 ?_
 simp only [Tryz.f50]
 refine sA ?_
 obtain ⟨c0,hr1,h⟩:=zj7 h
 refine zkj (zbZ hr1) (sA ?_)
 refine zki h (λ h _=>sA ?_) (λ h _=>sA ?_)
 ·cases h
  exact zkc ⟨[(2,(.pb 0 0)),(3,(B false))],[(0,some (true,.box [(I 0),(.lf false (.sl (([]).map zkf)))]))],1,14⟩ [some 1]
 ·obtain ⟨c1,hr3,h⟩:=zj7 h
  refine zkj (zfr hr3) (sA ?_)
  cases h
  refine zk6 2 (sA ?_)
  exact zkc ⟨[(2,(.pb 0 0)),(3,(B true))],[(0,some (true,.box [(I a0.fVe),(.lf false (.sl (c1.fBr.map zkf)))]))],1,14⟩ [some 1]
theorem zjH {a0:(List zkd)} {r:(List ByteArray)} (h:zfO a0=some r):Fn Tryz.prog 138 [(.lf true (.sl (a0.map zkf)))] [] 0 (.os 0 1 0 r.length r.length false) [(0,some (true,.arr false 1 (r.map eS)))] 1:=by
 unfold zfO at h
 refine fc [(1000,[(0,0)]),(1001,[(0,0),(3,0)]),(1002,[(0,0),(3,0),(16,0)]),(1004,[(0,0),(4,0)]),(1005,[(0,0),(4,0),(6,0)]),(1006,[(4,0),(6,0),(26,0),(27,0),(28,0)]),(1007,[(4,0),(6,0),(26,0),(27,0),(28,0),(29,0)]),(1008,[(4,0),(6,0),(8,0),(26,0),(27,0),(28,0)]),(1009,[(4,0),(6,0),(9,0),(26,0),(27,0),(28,0)]),(1010,[(4,0),(6,0),(26,0),(27,0),(28,0),(39,0),(40,0),(41,0)]),(1011,[(4,0),(6,0),(26,0),(27,0),(28,0),(39,0),(40,0),(41,0),(42,0)]),(1012,[(4,0),(6,0),(12,0),(26,0),(27,0),(28,0),(39,0),(40,0),(41,0)]),(1013,[(4,0),(6,0),(12,0),(26,0),(27,0),(28,0),(39,0),(40,0),(41,0),(55,0)]),(1014,[(4,0),(6,0),(26,0),(27,0),(28,0),(39,0),(40,0),(41,0)]),(1015,[(4,0),(6,0),(26,0),(27,0),(28,0),(39,0),(40,0),(41,0)]),(1016,[(4,0),(6,0),(26,0),(27,0),(28,0)]),(4013,[])] Tryz.func138 ?_
 simp only [Tryz.f138]
 refine sA ?_
 obtain ⟨c0,hr1,h⟩:=zj7 h
 refine zkj (zhd hr1) (sA ?_)
 refine zki h (λ h _=>sA ?_) (λ h _=>sA ?_)
 ·cases h
  exact zkc ⟨[(2,(.os 0 1 0 (([]:List ByteArray).length) (([]:List ByteArray).length) false))],[(0,some (true,.arr false 1 (([]:List ByteArray).map eS)))],1,62⟩ [none]
 ·obtain ⟨hp3,h⟩:=zj8 h
  have hn3:c0.toNat < a0.length:=by first|omega|(simp;omega)
  refine sA ?_
  refine zkw ?_
  obtain ⟨c1,hr4,h⟩:=zj7 h
  refine zkj (zf6 hr4) (sA ?_)
  obtain ⟨y0,hl5,h⟩:=zj7 h
  refine zky (λ g0:zfz=>⟨[(4,(.pb 0 0)),(6,(.os 1 1 0 g0.c1.length g0.c1.length false)),(26,(.lf true (.sl (a0.map zkf)))),(27,(I ((a0.length:Nat):Int))),(28,(I g0.t28))],[(0,some (true,.box [(I c1.1.fSt),(I c1.1.Next),(B c1.1.fCa),(I c1.1.Done),(.lf true (.sl (c1.1.fSi.map eS))),(.lf true (.sl (c1.1.fTi.map eS)))])),(1,some (true,.arr false 1 (g0.c1.map eS)))],2,62⟩) (zcM a0 c1) _ _ hl5 (zkg [some 1,none]) ?_
  ·intro n1 g0 z1 hs1 hk1
   unfold zcM at hs1
   try dsimp only at hs1
   refine sA ?_
   refine zki hs1 (λ hs1 _=>sA ?_) (λ hs1 _=>sA ?_)
   ·obtain ⟨hp7,hs1⟩:=zj8 hs1
    have hn7:g0.t28.toNat < a0.length:=by first|omega|(simp;omega)
    refine sA ?_
    refine zkw ?_
    obtain ⟨c2,hr8,hs1⟩:=zj7 hs1
    refine zkj (zf6 hr8) (sA ?_)
    obtain ⟨y1,hl9,hs1⟩:=zj7 hs1
    refine zky (λ g1:zfA=>⟨[(4,(.pb 0 0)),(6,(.os 1 1 0 g1.c1.length g1.c1.length false)),(26,(.lf true (.sl (a0.map zkf)))),(27,(I ((a0.length:Nat):Int))),(28,(I g0.t28)),(39,(.lf true (.sl (c2.1.fSi.map eS)))),(40,(I ((c2.1.fSi.length:Nat):Int))),(41,(I g1.t41))],[(0,some (true,.box [(I c1.1.fSt),(I c1.1.Next),(B c1.1.fCa),(I c1.1.Done),(.lf true (.sl (c1.1.fSi.map eS))),(.lf true (.sl (c1.1.fTi.map eS)))])),(1,some (true,.arr false 1 (g1.c1.map eS)))],2,62⟩) (zbH c2 c1) _ _ hl9 (zkg [some 0,some 1]) ?_
    ·intro n2 g1 z2 hs2 hk2
     unfold zbH at hs2
     try dsimp only at hs2
     refine sA ?_
     refine zki hs2 (λ hs2 _=>sA ?_) (λ hs2 _=>sA ?_)
     ·obtain ⟨hp11,hs2⟩:=zj8 hs2
      have hn11:g1.t41.toNat < c2.1.fSi.length:=by first|omega|(simp;omega)
      refine sA ?_
      refine zkw ?_
      obtain ⟨p0,hq12,hs2⟩:=zj7 hs2
      refine zkC (λ s2=>s2=⟨[(4,(.pb 0 0)),(6,(.os 1 1 0 g1.c1.length g1.c1.length false)),(12,(.lf false (.sc (.string (nth c2.1.fSi g1.t41.toNat))))),(26,(.lf true (.sl (a0.map zkf)))),(27,(I ((a0.length:Nat):Int))),(28,(I g0.t28)),(39,(.lf true (.sl (c2.1.fSi.map eS)))),(40,(I ((c2.1.fSi.length:Nat):Int))),(41,(I g1.t41)),(55,(B p0.t55))],[(0,some (true,.box [(I c1.1.fSt),(I c1.1.Next),(B c1.1.fCa),(I c1.1.Done),(.lf true (.sl (c1.1.fSi.map eS))),(.lf true (.sl (c1.1.fTi.map eS)))])),(1,some (true,.arr false 1 (g1.c1.map eS)))],2,62⟩) ?_ ?_
      ·refine sA ?_
       obtain ⟨c3,hr13,hq12⟩:=zj7 hq12
       refine zkj (zfW hr13) (sA ?_)
       refine zkt hq12 (λ hq12 _=>sA ?_) (λ hq12 _=>sA ?_)
       ·obtain ⟨c4,hr15,hq12⟩:=zj7 hq12
        refine zkj (zfW hr15) (sA ?_)
        cases hq12
        exact zkp rfl (zkg [some 0,some 1])
       ·cases hq12
        exact zkp rfl (zkg [some 0,some 1])
      ·intro s2 hJ;subst hJ
       try dsimp only at hs2
       refine sA ?_
       refine zki hs2 (λ hs2 _=>sA ?_) (λ hs2 _=>sA ?_)
       ·obtain ⟨c5,hr17,hs2⟩:=zj7 hs2
        refine zkj (zhM hr17) (sA ?_)
        cases hs2
        exact zkr hk2 (zkg [some 0,some 2])
       ·cases hs2
        exact zkr hk2 (zkg [some 0,some 1])
     ·cases hs2
      cases hk2
      try dsimp only at hs1
      refine sA ?_
      cases hs1
      exact zkr hk1 (zkg [some 0,some 1])
   ·cases hs1
    cases hk1
    try dsimp only at h
    refine sA ?_
    cases h
    exact zkc ⟨[(2,(.os 0 1 0 g0.c1.length g0.c1.length false))],[(0,some (true,.arr false 1 (g0.c1.map eS)))],1,62⟩ [some 1]
theorem zi1 {a0:zkb} {r:(zkb×Int)} (h:zef a0=some r):Fn Tryz.prog 69 [(.ag [(I a0.Id),(I a0.fVe),(.lf true (.sl (a0.fTe.fBr.map zkf)))])] [] 0 (.tu [(.ag [(I r.1.Id),(I r.1.fVe),(.lf true (.sl (r.1.fTe.fBr.map zkf)))]),(I r.2)]) [] 1:=by
 unfold zef at h
 refine fc [(1000,[(1,0),(2,0)]),(1001,[(1,0),(2,0),(4,0)]),(1002,[(1,0),(2,0),(4,0),(12,0),(13,0),(14,0)]),(1003,[(1,0),(2,0),(4,0),(12,0),(13,0),(14,0),(15,0)]),(1004,[(1,0),(2,0),(4,0),(6,0),(12,0),(13,0),(14,0)]),(1005,[(1,0),(2,0),(4,0),(7,0),(8,0),(12,0),(13,0),(14,0)]),(1006,[(1,0),(2,0),(4,0),(7,0),(12,0),(13,0),(14,0),(25,0)]),(1007,[(1,0),(2,0),(4,0),(12,0),(13,0),(14,0)]),(1008,[(1,0),(2,0),(4,0),(12,0),(13,0),(14,0)]),(1009,[(1,0),(2,0),(4,0),(12,0),(13,0),(14,0)])] Tryz.func69 ?_
 simp only [Tryz.f69]
 refine sA ?_
 obtain ⟨c0,hr1,h⟩:=zj7 h
 refine zkj (zjH hr1) (sA ?_)
 obtain ⟨y0,hl2,h⟩:=zj7 h
 refine zky (λ g0:zee=>⟨[(1,(.pb 0 0)),(2,(.pb 1 0)),(4,(I g0.t4)),(12,(.os 2 1 0 c0.length c0.length false)),(13,(I ((c0.length:Nat):Int))),(14,(I g0.t14))],[(0,some (true,.box [(I g0.b0_0),(I g0.b0_1),(.lf true (.sl (g0.b0_2.map zkf)))])),(1,some (true,.box [(I 0),(I 0),.nl])),(2,some (true,.arr false 1 (c0.map eS)))],3,32⟩) (zaH c0) _ _ hl2 (zkg [some 0,some 1,some 2]) ?_
 ·intro n1 g0 z1 hs1 hk1
  unfold zaH at hs1
  try dsimp only at hs1
  refine sA ?_
  refine zki hs1 (λ hs1 _=>sA ?_) (λ hs1 _=>sA ?_)
  ·obtain ⟨hp4,hs1⟩:=zj8 hs1
   have hn4:g0.t14.toNat < c0.length:=by first|omega|(simp;omega)
   refine sA ?_
   refine zkw ?_
   refine zpp (sA ?_)
   obtain ⟨c1,hr6,hs1⟩:=zj7 hs1
   refine zkj (zh6 hr6) (sA ?_)
   refine zki hs1 (λ hs1 _=>sA ?_) (λ hs1 _=>sA ?_)
   ·cases hs1
    exact zkr hk1 (zkg [some 0,some 1,some 2])
   ·cases hs1
    exact zkr hk1 (zkg [some 0,some 1,some 2])
  ·cases hs1
   cases hk1
   try dsimp only at h
   refine sA ?_
   cases h
   exact zkc ⟨[(2,(.pb 0 0)),(3,(I g0.t4))],[(0,some (true,.box [(I g0.b0_0),(I g0.b0_1),(.lf true (.sl (g0.b0_2.map zkf)))]))],1,32⟩ [some 1]
theorem zi2 {a0:zkn} {a1:zks} {m0:Nat} {x0:Bool} {m1:Nat} {x1:Bool} {r:(zkn×Int×(List zkb))} (h:zeh a0 a1=some r):Fn Tryz.prog 152 [(.ag [(.os 0 3 0 a0.fRe.length m0 x0),(.os 1 3 0 a0.Line.length m1 x1)]),(.ag [(I a1.Kind),(I a1.Region),(I a1.What),(.lf false (.sc (.string a1.Name))),(I a1.K)])] [(0,some (false,.arr true 3 (a0.fRe.map zkl))),(1,some (false,.arr true 3 (a0.Line.map zkz)))] 2 (.tu [(.ag [(.os 0 3 0 r.2.2.length r.2.2.length false),(.os 2 3 0 r.1.Line.length r.1.Line.length false)]),(I r.2.1)]) [(0,some (false,.arr true 3 (r.2.2.map zkl))),(1,none),(2,some (false,.arr true 3 (r.1.Line.map zkz)))] 4:=by
 unfold zeh at h
 refine fc [(11,[(1,6),(3,6),(1,8)]),(13,[(2,0),(4,0),(8,0),(8,6),(10,0),(10,6)]),(16,[(1,12),(3,12),(5,12),(7,12)]),(1000,[(2,0),(3,0),(4,0)]),(1001,[(2,0),(3,0),(4,0),(19,0)]),(1002,[(2,0),(3,0),(4,0),(19,0),(20,0)]),(1003,[(2,0),(3,0),(4,0),(19,0),(20,0)]),(1004,[(2,0),(3,0),(4,0),(20,0)]),(1005,[(2,0),(3,0),(4,0),(31,0)]),(1007,[(2,0),(3,0),(4,0),(6,0)]),(1008,[(2,0),(3,0),(4,0),(6,0),(41,0)]),(1009,[(2,0),(4,0),(6,0),(45,0)]),(1011,[(2,0),(4,0)]),(1013,[(2,0),(3,0),(4,0),(6,0)]),(1014,[(2,0),(4,0),(6,0),(76,0)]),(1016,[(2,0),(4,0),(6,0),(7,0),(8,0)]),(1017,[(2,0),(4,0),(6,0),(7,0),(91,0)]),(1019,[(2,0),(4,0)]),(1021,[(2,0),(3,0),(4,0),(103,0)]),(1023,[(2,0),(3,0),(4,0),(9,0)]),(1024,[(2,0),(3,0),(4,0),(9,0),(112,0)]),(1025,[(2,0),(3,0),(4,0),(9,0),(112,0),(113,0)]),(1026,[(2,0),(3,0),(4,0),(10,0),(11,0)]),(1027,[(2,0),(4,0),(11,0)]),(1029,[(2,0),(3,0),(4,0),(9,0),(112,0),(132,0)]),(1030,[(2,0),(3,0),(4,0),(12,0),(13,0)]),(1031,[(2,0),(3,0),(4,0),(12,0),(140,0)]),(1033,[(2,0),(4,0)]),(1035,[(2,0),(3,0),(4,0),(9,0),(112,0),(149,0)]),(1036,[(2,0),(3,0),(4,0),(9,0),(154,0)]),(1038,[(2,0),(3,0),(4,0),(14,0)]),(1039,[(2,0),(4,0)]),(1041,[(2,0),(3,0),(4,0),(9,0),(172,0)]),(1042,[(2,0),(3,0),(4,0),(9,0),(176,0)]),(1044,[(2,0),(3,0),(4,0),(16,0),(17,0)]),(1045,[(2,0),(3,0),(4,0),(16,0),(184,0)]),(1047,[(2,0),(4,0)]),(2020,[])] Tryz.func152 ?_
 simp only [Tryz.f152]
 refine sA ?_
 obtain ⟨p0,hq1,h⟩:=zj7 h
 refine zkC (λ s2=>s2=⟨[(2,(.pb 2 0)),(3,(.pb 3 0)),(4,(.pb 4 0)),(20,(B p0.t20))],[(0,some (false,.arr true 3 (a0.fRe.map zkl))),(1,some (false,.arr true 3 (a0.Line.map zkz))),(2,some (true,.box [(.os 0 3 0 a0.fRe.length m0 x0),(.os 1 3 0 a0.Line.length m1 x1)])),(3,some (true,.box [(I a1.Kind),(I a1.Region),(I a1.What),(.lf false (.sc (.string a1.Name))),(I a1.K)])),(4,some (true,.box [.nl,.nl]))],5,194⟩) ?_ ?_
 ·refine sA ?_
  refine zki hq1 (λ hq1 _=>sA ?_) (λ hq1 _=>sA ?_)
  ·cases hq1
   exact zkp rfl (zkg [some 0,some 1,some 2,some 3,some 4])
  ·refine zki hq1 (λ hq1 _=>sA ?_) (λ hq1 _=>sA ?_)
   ·cases hq1
    exact zkp rfl (zkg [some 0,some 1,some 2,some 3,some 4])
   ·cases hq1
    exact zkp rfl (zkg [some 0,some 1,some 2,some 3,some 4])
 ·intro s2 hJ;subst hJ
  try dsimp only at h
  refine sA ?_
  refine zki h (λ h _=>sA ?_) (λ h _=>sA ?_)
  ·obtain ⟨c0,hr5,h⟩:=zj7 h
   refine zkj (zab hr5) (sA ?_)
   refine zki h (λ h _=>sA ?_) (λ h _=>sA ?_)
   ·cases h
    exact zkc ⟨[(4,(.pb 3 0)),(5,(I 1))],[(0,some (false,.arr true 3 (a0.fRe.map zkl))),(1,none),(2,some (false,.arr true 3 (a0.Line.map zkz))),(3,some (true,.box [(.os 0 3 0 a0.fRe.length a0.fRe.length false),(.os 2 3 0 a0.Line.length a0.Line.length false)]))],4,194⟩ [some 0,some 1,some 1,some 4]
   ·obtain ⟨hp7,h⟩:=zj8 h
    have hn7:a1.K.toNat < a0.Line.length:=by first|omega|(simp;omega)
    refine sA ?_
    first | refine zkw ?_ | skip
    refine zpp (sA ?_)
    refine zki h (λ h _=>sA ?_) (λ h _=>sA ?_)
    ·refine zki h (λ h _=>sA ?_) (λ h _=>sA ?_)
     ·cases h
      exact zkc ⟨[(4,(.pb 3 0)),(5,(I 1))],[(0,some (false,.arr true 3 (a0.fRe.map zkl))),(1,none),(2,some (false,.arr true 3 (a0.Line.map zkz))),(3,some (true,.box [(.os 0 3 0 a0.fRe.length a0.fRe.length false),(.os 2 3 0 a0.Line.length a0.Line.length false)]))],4,194⟩ [some 0,some 1,some 1,some 4]
     ·obtain ⟨c1,hr11,h⟩:=zj7 h
      refine zkj (zgN hr11) (sA ?_)
      obtain ⟨hp12,h⟩:=zj8 h
      refine sA ?_
      first | refine zkw ?_ | skip
      try refine And.intro ⟨zmq λ _=>rfl,by (simp only [qb,qc,qM];omega)⟩ ?_
      first | refine sA ?_ | skip
      first | refine zkw ?_ | skip
      cases h
      exact zkc ⟨[(4,(.pb 3 0)),(5,(I 0))],[(0,some (false,.arr true 3 (a0.fRe.map zkl))),(1,none),(2,some (false,.arr true 3 ((a0.Line++([(⟨(nth a0.Line a1.K.toNat).To,c1⟩:zkB)])).map zkz))),(3,some (true,.box [(.os 0 3 0 a0.fRe.length a0.fRe.length false),(.os 2 3 0 ((a0.Line++([(⟨(nth a0.Line a1.K.toNat).To,c1⟩:zkB)])).length) ((a0.Line++([(⟨(nth a0.Line a1.K.toNat).To,c1⟩:zkB)])).length) false)]))],4,194⟩ [some 0,some 1,some 8,some 4]
    ·obtain ⟨hp13,h⟩:=zj8 h
     have hn13:a1.K.toNat≤a0.Line.length:=by first|omega|(simp;omega)
     try simp (disch:=first | assumption | (simp only [qL];assumption)) only [go_sem,qA,qB,qC,qD,↓reduceIte,qE,reduceCtorEq,qF,qH,qI,qJ,qK,qG,hn13]
     first | refine zkw ?_ | skip
     first | simp (disch:=first | assumption | (simp only [qL];assumption)) only [go_sem,qA,qB,qC,qD,↓reduceIte,qE,reduceCtorEq,qF,qH,qI,qJ,qK,qG,hn13] | skip
     first | refine zkw ?_ | skip
     obtain ⟨hp14,h⟩:=zj8 h
     try simp (disch:=first | assumption | (simp only [qL];assumption)) only [go_sem,qA,qB,qC,qD,↓reduceIte,qE,reduceCtorEq,qF,qH,qI,qJ,qK,qG,hn13]
     first | refine zkw ?_ | skip
     try refine And.intro ⟨zmq λ _=>rfl,by (simp only [qb,qc,qM];omega)⟩ ?_
     first | simp (disch:=first | assumption | (simp only [qL];assumption)) only [go_sem,qA,qB,qC,qD,↓reduceIte,qE,reduceCtorEq,qF,qH,qI,qJ,qK,qG,hn13] | skip
     first | refine zkw ?_ | skip
     obtain ⟨hp15,h⟩:=zj8 h
     have hn15:((wI (a1.K+1)).toNat+(a0.Line.length - (wI (a1.K+1)).toNat))≤a0.Line.length:=by first|omega|(simp;omega)
     try simp (disch:=first | assumption | (simp only [qL];assumption)) only [go_sem,qA,qB,qC,qD,↓reduceIte,qE,reduceCtorEq,qF,qH,qI,qJ,qK,qG,hn13,hn15]
     first | refine zkw ?_ | skip
     first | simp (disch:=first | assumption | (simp only [qL];assumption)) only [go_sem,qA,qB,qC,qD,↓reduceIte,qE,reduceCtorEq,qF,qH,qI,qJ,qK,qG,hn13,hn15] | skip
     first | refine zkw ?_ | skip
     obtain ⟨hp16,h⟩:=zj8 h
     try simp (disch:=first | assumption | (simp only [qL];assumption)) only [go_sem,qA,qB,qC,qD,↓reduceIte,qE,reduceCtorEq,qF,qH,qI,qJ,qK,qG,hn13,hn15]
     first | refine zkw ?_ | skip
     try refine And.intro ⟨zmq λ _=>rfl,by (simp only [qb,qc,qM];omega)⟩ ?_
     first | simp (disch:=first | assumption | (simp only [qL];assumption)) only [go_sem,qA,qB,qC,qD,↓reduceIte,qE,reduceCtorEq,qF,qH,qI,qJ,qK,qG,hn13,hn15] | skip
     first | refine zkw ?_ | skip
     refine zki h (λ h _=>?_) (λ h _=>?_)
     ·try simp (disch:=first | assumption | (simp only [qL];assumption)) only [go_sem,qA,qB,qC,qD,↓reduceIte,qE,reduceCtorEq,qF,qH,qI,qJ,qK,qG,hn13,hn15]
      cases h
      exact zkc ⟨[(4,(.pb 3 0)),(5,(I 0))],[(0,some (false,.arr true 3 (a0.fRe.map zkl))),(1,none),(2,some (false,.arr true 3 (((([])++(a0.Line.take a1.K.toNat))++((a0.Line.drop ((wI (a1.K+1)).toNat)).take (a0.Line.length - (wI (a1.K+1)).toNat))).map zkz))),(3,some (true,.box [(.os 0 3 0 a0.fRe.length a0.fRe.length false),(.os 2 3 0 (((([])++(a0.Line.take a1.K.toNat))++((a0.Line.drop ((wI (a1.K+1)).toNat)).take (a0.Line.length - (wI (a1.K+1)).toNat))).length) (((([])++(a0.Line.take a1.K.toNat))++((a0.Line.drop ((wI (a1.K+1)).toNat)).take (a0.Line.length - (wI (a1.K+1)).toNat))).length) false)]))],4,194⟩ [some 0,some 1,some 8,some 4]
     ·try simp (disch:=first | assumption | (simp only [qL];assumption)) only [go_sem,qA,qB,qC,qD,↓reduceIte,qE,reduceCtorEq,qF,qH,qI,qJ,qK,qG,hn13,hn15]
      obtain ⟨hp18,h⟩:=zj8 h
      have hn18:((nth a0.Line a1.K.toNat).To).toNat < a0.fRe.length:=by first|omega|(simp;omega)
      try simp (disch:=first | assumption | (simp only [qL];assumption)) only [go_sem,qA,qB,qC,qD,↓reduceIte,qE,reduceCtorEq,qF,qH,qI,qJ,qK,qG,hn13,hn15]
      first | refine zkw ?_ | skip
      refine zpp ?_
      try simp (disch:=first | assumption | (simp only [qL];assumption)) only [go_sem,qA,qB,qC,qD,↓reduceIte,qE,reduceCtorEq,qF,qH,qI,qJ,qK,qG,hn13,hn15]
      obtain ⟨c2,hr20,h⟩:=zj7 h
      refine zmc (ziZ hr20) (by first | rfl | (simp (disch:=first | assumption | (simp only [qL];assumption)) only [go_sem,qA,qB,qC,qD,↓reduceIte,qE,reduceCtorEq,qF,qH,qI,qJ,qK,qG,hn13,hn15];first | done | rfl) | (simp only [qM,qP,qQ,qO,qL,qN,qa,qA];rfl) | (simp (disch:=first | assumption | (simp only [qL];assumption)) only [go_sem,qA,qB,qC,qD,↓reduceIte,qE,reduceCtorEq,qF,qH,qI,qJ,qK,qG,hn13,hn15];simp only [qM,qP,qQ,qO,qL,qN,qa,qA];rfl)) (FitAll.refl _) (.inl (by first | rfl | (simp (disch:=first | assumption | (simp only [qL];assumption)) only [go_sem,qA,qB,qC,qD,↓reduceIte,qE,reduceCtorEq,qF,qH,qI,qJ,qK,qG];done))) ?_
      try simp (disch:=first | assumption | (simp only [qL];assumption)) only [go_sem,qA,qB,qC,qD,↓reduceIte,qE,reduceCtorEq,qF,qH,qI,qJ,qK,qG,hn13,hn15]
      refine zki h (λ h _=>?_) (λ h _=>?_)
      ·try simp (disch:=first | assumption | (simp only [qL];assumption)) only [go_sem,qA,qB,qC,qD,↓reduceIte,qE,reduceCtorEq,qF,qH,qI,qJ,qK,qG,hn13,hn15]
       cases h
       exact zkc ⟨[(4,(.pb 3 0)),(5,(I 2))],[(0,some (false,.arr true 3 (a0.fRe.map zkl))),(1,none),(2,some (false,.arr true 3 (((([])++(a0.Line.take a1.K.toNat))++((a0.Line.drop ((wI (a1.K+1)).toNat)).take (a0.Line.length - (wI (a1.K+1)).toNat))).map zkz))),(3,some (true,.box [(.os 0 3 0 a0.fRe.length a0.fRe.length false),(.os 2 3 0 (((([])++(a0.Line.take a1.K.toNat))++((a0.Line.drop ((wI (a1.K+1)).toNat)).take (a0.Line.length - (wI (a1.K+1)).toNat))).length) (((([])++(a0.Line.take a1.K.toNat))++((a0.Line.drop ((wI (a1.K+1)).toNat)).take (a0.Line.length - (wI (a1.K+1)).toNat))).length) false)]))],4,194⟩ [some 0,some 1,some 8,some 4]
      ·try simp (disch:=first | assumption | (simp only [qL];assumption)) only [go_sem,qA,qB,qC,qD,↓reduceIte,qE,reduceCtorEq,qF,qH,qI,qJ,qK,qG,hn13,hn15]
       obtain ⟨hp22,h⟩:=zj8 h
       have hn22:((nth a0.Line a1.K.toNat).To).toNat < a0.fRe.length:=by first|omega|(simp;omega)
       try simp (disch:=first | assumption | (simp only [qL];assumption)) only [go_sem,qA,qB,qC,qD,↓reduceIte,qE,reduceCtorEq,qF,qH,qI,qJ,qK,qG,hn13,hn15]
       first | refine zkw ?_ | skip
       refine zpp ?_
       try simp (disch:=first | assumption | (simp only [qL];assumption)) only [go_sem,qA,qB,qC,qD,↓reduceIte,qE,reduceCtorEq,qF,qH,qI,qJ,qK,qG,hn13,hn15]
       cases h
       exact zkc ⟨[(4,(.pb 3 0)),(5,(I 0))],[(0,some (false,.arr true 3 ((a0.fRe.set (((nth a0.Line a1.K.toNat).To).toNat) c2.1).map zkl))),(1,none),(2,some (false,.arr true 3 (((([])++(a0.Line.take a1.K.toNat))++((a0.Line.drop ((wI (a1.K+1)).toNat)).take (a0.Line.length - (wI (a1.K+1)).toNat))).map zkz))),(3,some (true,.box [(.os 0 3 0 ((a0.fRe.set (((nth a0.Line a1.K.toNat).To).toNat) c2.1).length) ((a0.fRe.set (((nth a0.Line a1.K.toNat).To).toNat) c2.1).length) false),(.os 2 3 0 (((([])++(a0.Line.take a1.K.toNat))++((a0.Line.drop ((wI (a1.K+1)).toNat)).take (a0.Line.length - (wI (a1.K+1)).toNat))).length) (((([])++(a0.Line.take a1.K.toNat))++((a0.Line.drop ((wI (a1.K+1)).toNat)).take (a0.Line.length - (wI (a1.K+1)).toNat))).length) false)]))],4,194⟩ [some 0,some 1,some 8,some 4]
  ·obtain ⟨c3,hr24,h⟩:=zj7 h
   refine zkj (zab hr24) (sA ?_)
   refine zki h (λ h _=>sA ?_) (λ h _=>sA ?_)
   ·cases h
    exact zkc ⟨[(4,(.pb 3 0)),(5,(I 1))],[(0,some (false,.arr true 3 (a0.fRe.map zkl))),(1,none),(2,some (false,.arr true 3 (a0.Line.map zkz))),(3,some (true,.box [(.os 0 3 0 a0.fRe.length a0.fRe.length false),(.os 2 3 0 a0.Line.length a0.Line.length false)]))],4,194⟩ [some 0,some 1,some 1,some 4]
   ·obtain ⟨hp26,h⟩:=zj8 h
    have hn26:a1.Region.toNat < a0.fRe.length:=by first|omega|(simp;omega)
    refine sA ?_
    first | refine zkw ?_ | skip
    refine zpp (sA ?_)
    refine zki h (λ h _=>sA ?_) (λ h _=>sA ?_)
    ·obtain ⟨c4,hr29,h⟩:=zj7 h
     refine zkj (zh6 hr29) (sA ?_)
     obtain ⟨hp30,h⟩:=zj8 h
     have hn30:a1.Region.toNat < a0.fRe.length:=by first|omega|(simp;omega)
     refine sA ?_
     first | refine zkw ?_ | skip
     refine zpp (sA ?_)
     cases h
     exact zkc ⟨[(4,(.pb 3 0)),(5,(I c4.2))],[(0,some (false,.arr true 3 ((a0.fRe.set a1.Region.toNat c4.1).map zkl))),(1,none),(2,some (false,.arr true 3 (a0.Line.map zkz))),(3,some (true,.box [(.os 0 3 0 ((a0.fRe.set a1.Region.toNat c4.1).length) ((a0.fRe.set a1.Region.toNat c4.1).length) false),(.os 2 3 0 a0.Line.length a0.Line.length false)]))],4,194⟩ [some 0,some 1,some 1,some 4]
    ·refine zki h (λ h _=>sA ?_) (λ h _=>sA ?_)
     ·obtain ⟨c5,hr33,h⟩:=zj7 h
      refine zkj (zjv hr33) (sA ?_)
      refine zki h (λ h _=>sA ?_) (λ h _=>sA ?_)
      ·cases h
       exact zkc ⟨[(4,(.pb 3 0)),(5,(I 1))],[(0,some (false,.arr true 3 (a0.fRe.map zkl))),(1,none),(2,some (false,.arr true 3 (a0.Line.map zkz))),(3,some (true,.box [(.os 0 3 0 a0.fRe.length a0.fRe.length false),(.os 2 3 0 a0.Line.length a0.Line.length false)]))],4,194⟩ [some 0,some 1,some 1,some 4]
      ·obtain ⟨hp35,h⟩:=zj8 h
       have hn35:a1.Region.toNat < a0.fRe.length:=by first|omega|(simp;omega)
       refine sA ?_
       first | refine zkw ?_ | skip
       refine zpp (sA ?_)
       cases h
       exact zkc ⟨[(4,(.pb 3 0)),(5,(I 0))],[(0,some (false,.arr true 3 ((a0.fRe.set a1.Region.toNat c5.1).map zkl))),(1,none),(2,some (false,.arr true 3 (a0.Line.map zkz))),(3,some (true,.box [(.os 0 3 0 ((a0.fRe.set a1.Region.toNat c5.1).length) ((a0.fRe.set a1.Region.toNat c5.1).length) false),(.os 2 3 0 a0.Line.length a0.Line.length false)]))],4,194⟩ [some 0,some 1,some 1,some 4]
     ·refine zki h (λ h _=>sA ?_) (λ h _=>sA ?_)
      ·refine zki h (λ h _=>sA ?_) (λ h _=>sA ?_)
       ·cases h
        exact zkc ⟨[(4,(.pb 3 0)),(5,(I 1))],[(0,some (false,.arr true 3 (a0.fRe.map zkl))),(1,none),(2,some (false,.arr true 3 (a0.Line.map zkz))),(3,some (true,.box [(.os 0 3 0 a0.fRe.length a0.fRe.length false),(.os 2 3 0 a0.Line.length a0.Line.length false)]))],4,194⟩ [some 0,some 1,some 1,some 4]
       ·obtain ⟨c6,hr39,h⟩:=zj7 h
        refine zkj (zjw hr39) (sA ?_)
        obtain ⟨hp40,h⟩:=zj8 h
        refine sA ?_
        first | refine zkw ?_ | skip
        try refine And.intro ⟨zmq λ _=>rfl,by (simp only [qb,qc,qM];omega)⟩ ?_
        first | refine sA ?_ | skip
        first | refine zkw ?_ | skip
        cases h
        exact zkc ⟨[(4,(.pb 3 0)),(5,(I 0))],[(0,some (false,.arr true 3 (a0.fRe.map zkl))),(1,none),(2,some (false,.arr true 3 ((a0.Line++([(⟨(wI (1 - a1.Region)),c6.1⟩:zkB)])).map zkz))),(3,some (true,.box [(.os 0 3 0 a0.fRe.length a0.fRe.length false),(.os 2 3 0 ((a0.Line++([(⟨(wI (1 - a1.Region)),c6.1⟩:zkB)])).length) ((a0.Line++([(⟨(wI (1 - a1.Region)),c6.1⟩:zkB)])).length) false)]))],4,194⟩ [some 0,some 1,some 9,some 4]
      ·refine zki h (λ h _=>sA ?_) (λ h _=>sA ?_)
       ·obtain ⟨c7,hr42,h⟩:=zj7 h
        refine zkj (zhA hr42) (sA ?_)
        refine zki h (λ h _=>sA ?_) (λ h _=>sA ?_)
        ·cases h
         exact zkc ⟨[(4,(.pb 3 0)),(5,(I 1))],[(0,some (false,.arr true 3 (a0.fRe.map zkl))),(1,none),(2,some (false,.arr true 3 (a0.Line.map zkz))),(3,some (true,.box [(.os 0 3 0 a0.fRe.length a0.fRe.length false),(.os 2 3 0 a0.Line.length a0.Line.length false)]))],4,194⟩ [some 0,some 1,some 1,some 4]
        ·obtain ⟨c8,hr44,h⟩:=zj7 h
         refine zkj (zi1 hr44) (sA ?_)
         refine zki h (λ h _=>sA ?_) (λ h _=>sA ?_)
         ·cases h
          exact zkc ⟨[(4,(.pb 3 0)),(5,(I 1))],[(0,some (false,.arr true 3 (a0.fRe.map zkl))),(1,none),(2,some (false,.arr true 3 (a0.Line.map zkz))),(3,some (true,.box [(.os 0 3 0 a0.fRe.length a0.fRe.length false),(.os 2 3 0 a0.Line.length a0.Line.length false)]))],4,194⟩ [some 0,some 1,some 1,some 4]
         ·obtain ⟨hp46,h⟩:=zj8 h
          have hn46:a1.Region.toNat < a0.fRe.length:=by first|omega|(simp;omega)
          refine sA ?_
          first | refine zkw ?_ | skip
          refine zpp (sA ?_)
          cases h
          exact zkc ⟨[(4,(.pb 3 0)),(5,(I 0))],[(0,some (false,.arr true 3 ((a0.fRe.set a1.Region.toNat c8.1).map zkl))),(1,none),(2,some (false,.arr true 3 (a0.Line.map zkz))),(3,some (true,.box [(.os 0 3 0 ((a0.fRe.set a1.Region.toNat c8.1).length) ((a0.fRe.set a1.Region.toNat c8.1).length) false),(.os 2 3 0 a0.Line.length a0.Line.length false)]))],4,194⟩ [some 0,some 1,some 1,some 4]
       ·cases h
        exact zkc ⟨[(4,(.pb 3 0)),(5,(I 1))],[(0,some (false,.arr true 3 (a0.fRe.map zkl))),(1,none),(2,some (false,.arr true 3 (a0.Line.map zkz))),(3,some (true,.box [(.os 0 3 0 a0.fRe.length a0.fRe.length false),(.os 2 3 0 a0.Line.length a0.Line.length false)]))],4,194⟩ [some 0,some 1,some 1,some 4]
theorem zi3 {r:zkn} (h:zfF=some r):Fn Tryz.prog 81 [] [] 0 (.ag [(.lf false (.sl (r.fRe.map zkl))),.nl]) [] 1:=by
 unfold zfF at h
 refine fc [] Tryz.func81 ?_
 simp only [Tryz.f81]
 refine sA ?_
 cases h
 refine zk6 1 (sA ?_)
 exact zkc ⟨[(0,(.pb 0 0))],[(0,some (true,.box [(.lf false (.sl (([(⟨0,0,(⟨[]⟩:zkh)⟩:zkb),(⟨1,0,(⟨[]⟩:zkh)⟩:zkb)]).map zkl))),.nl]))],1,5⟩ [some 0]
theorem ziD {a0:zkn} {a1:zks} {r:(zkn×Int)} (h:zdy a0 a1=some r):Fn Tryz.prog 82 [(.ag [(.lf true (.sl (a0.fRe.map zkl))),(.lf true (.sl (a0.Line.map zkz)))]),(.ag [(I a1.Kind),(I a1.Region),(I a1.What),(.lf false (.sc (.string a1.Name))),(I a1.K)])] [] 0 (.tu [(.ag [(.lf true (.sl (r.1.fRe.map zkl))),(.lf true (.sl (r.1.Line.map zkz)))]),(I r.2)]) [] 1:=by
 unfold zdy at h
 refine fc [(3,[(2,1),(0,7),(2,7)]),(1000,[(2,0),(3,0),(4,0)]),(1001,[(2,0),(3,0),(4,0),(10,0)]),(1003,[(2,0),(3,0),(4,0),(6,0),(7,0)]),(1004,[(2,0),(4,0),(6,0),(7,0),(33,0)]),(4004,[])] Tryz.func82 ?_
 simp only [Tryz.f82]
 refine sA ?_
 obtain ⟨c0,hr1,h⟩:=zj7 h
 refine zkj (zhz hr1) (sA ?_)
 refine zki h (λ h _=>sA ?_) (λ h _=>sA ?_)
 ·cases h
  exact zkc ⟨[(4,(.pb 0 0)),(5,(I 1))],[(0,some (true,.box [(.lf true (.sl (([]).map zkl))),(.lf true (.sl (([]).map zkz)))]))],1,39⟩ [some 2]
 ·obtain ⟨c1,hr3,h⟩:=zj7 h
  refine zkj (zik hr3) (sA ?_)
  obtain ⟨c2,hr4,h⟩:=zj7 h
  refine zlj [3,4] (zi2 hr4) (sA ?_)
  obtain ⟨hp5,h⟩:=zj8 h
  try rw [← hp5]
  refine sA ?_
  obtain ⟨p0,hq6,h⟩:=zj7 h
  refine zkC (λ s2=>s2=⟨[(2,(.pb 0 0)),(4,(.pb 1 0)),(6,(.pb 2 0)),(7,(I c2.2.1)),(33,(B p0.t33))],[(0,some (true,.box [(.lf true (.sl (a0.fRe.map zkl))),(.lf true (.sl (a0.Line.map zkz)))])),(1,some (true,.box [.nl,.nl])),(2,some (true,.box [(.os 3 3 0 c2.2.2.length c2.2.2.length false),(.os 4 3 0 c2.1.Line.length c2.1.Line.length false)])),(3,some (true,.arr true 3 (c2.2.2.map zkl))),(4,some (true,.arr true 3 (c2.1.Line.map zkz)))],5,39⟩) ?_ ?_
  ·refine sA ?_
   refine zkt hq6 (λ hq6 _=>sA ?_) (λ hq6 _=>sA ?_)
   ·refine zkt hq6 (λ hq6 _=>sA ?_) (λ hq6 _=>sA ?_)
    ·cases hq6
     exact zkp rfl (zkg [some 0,some 2,some 8,some 3,some 6])
    ·refine zkt hq6 (λ hq6 _=>sA ?_) (λ hq6 _=>sA ?_)
     ·cases hq6
      exact zkp rfl (zkg [some 0,some 2,some 8,some 3,some 6])
     ·cases hq6
      exact zkp rfl (zkg [some 0,some 2,some 8,some 3,some 6])
   ·refine zkt hq6 (λ hq6 _=>sA ?_) (λ hq6 _=>sA ?_)
    ·cases hq6
     exact zkp rfl (zkg [some 0,some 2,some 8,some 3,some 6])
    ·cases hq6
     exact zkp rfl (zkg [some 0,some 2,some 8,some 3,some 6])
  ·intro s2 hJ;subst hJ
   try dsimp only at h
   refine sA ?_
   refine zki h (λ h _=>sA ?_) (λ h _=>sA ?_)
   ·obtain ⟨c3,hr12,h⟩:=zj7 h
    refine zkj (zik hr12) (sA ?_)
    cases h
    refine zk6 5 ?_
    refine zk6 6 (sA ?_)
    exact zkc ⟨[(4,(.pb 0 0)),(5,(I c2.2.1))],[(0,some (true,.box [(.lf true (.sl (c3.fRe.map zkl))),(.lf true (.sl (c3.Line.map zkz)))]))],1,39⟩ [some 1]
   ·cases h
    refine zk6 3 ?_
    refine zk6 4 (sA ?_)
    exact zkc ⟨[(4,(.pb 0 0)),(5,(I c2.2.1))],[(0,some (true,.box [(.lf true (.sl (c2.2.2.map zkl))),(.lf true (.sl (c2.1.Line.map zkz)))]))],1,39⟩ [some 1]
theorem zjf {a0:(List zks)} {r:(zkn×(List Int)×Bool)} (h:zeZ a0=some r):Fn Tryz.prog 26 [(.lf true (.sl (a0.map zlu)))] [] 0 (.tu [(.ag [(.lf true (.sl (r.1.fRe.map zkl))),(.lf true (.sl (r.1.Line.map zkz)))]),(.os 0 1 0 r.2.1.length r.2.1.length false),(B r.2.2)]) [(0,some (true,.arr false 1 (r.2.1.map eI)))] 2:=by
 unfold zeZ at h
 refine fc [(1000,[(0,0),(2,0)]),(1001,[(0,0),(2,0),(13,0)]),(1003,[(0,0),(2,0),(5,0)]),(1004,[(0,0),(2,0),(5,0),(6,0)]),(1005,[(2,0),(5,0),(6,0),(16,0),(17,0),(18,0)]),(1006,[(2,0),(5,0),(6,0),(16,0),(17,0),(18,0),(19,0)]),(1007,[(2,0),(5,0),(6,0),(8,0),(16,0),(17,0),(18,0)]),(1008,[(2,0),(5,0),(6,0),(9,0),(10,0),(16,0),(17,0),(18,0)]),(1009,[(2,0),(5,0),(6,0),(10,0),(16,0),(17,0),(18,0)]),(1010,[(2,0),(5,0),(6,0),(16,0),(17,0),(18,0)]),(1011,[(2,0),(5,0),(6,0),(16,0),(17,0),(18,0)])] Tryz.func26 ?_
 simp only [Tryz.f26]
 refine sA ?_
 refine zki h (λ h _=>sA ?_) (λ h _=>sA ?_)
 ·cases h
  exact zkc ⟨[(2,(.pb 1 0)),(3,(.os 0 1 0 (([]:List Int).length) (([]:List Int).length) false)),(4,(B false))],[(0,some (true,.arr false 1 (([]:List Int).map eI))),(1,some (true,.box [(.lf true (.sl (([]).map zkl))),(.lf true (.sl (([]).map zkz)))]))],2,36⟩ [none,some 0]
 ·obtain ⟨c0,hr2,h⟩:=zj7 h
  refine zkj (zi3 hr2) (sA ?_)
  obtain ⟨y0,hl3,h⟩:=zj7 h
  refine zky (λ g0:zeD=>⟨[(2,(.pb 0 0)),(5,(.pb 1 0)),(6,(.os 2 1 0 g0.c2.length g0.c2.length false)),(16,(.lf true (.sl (a0.map zlu)))),(17,(I ((a0.length:Nat):Int))),(18,(I g0.t18))],[(0,some (true,.box [.nl,.nl])),(1,some (true,.box [(.lf true (.sl (g0.b1_0.map zkl))),(.lf true (.sl (g0.b1_1.map zkz)))])),(2,some (true,.arr false 1 (g0.c2.map eI)))],3,36⟩) (zbW a0) _ _ hl3 (zkg [some 0,some 2,none]) ?_
  ·intro n1 g0 z1 hs1 hk1
   unfold zbW at hs1
   try dsimp only at hs1
   refine sA ?_
   refine zki hs1 (λ hs1 _=>sA ?_) (λ hs1 _=>sA ?_)
   ·obtain ⟨hp5,hs1⟩:=zj8 hs1
    have hn5:g0.t18.toNat < a0.length:=by first|omega|(simp;omega)
    refine sA ?_
    refine zkw ?_
    obtain ⟨c1,hr6,hs1⟩:=zj7 hs1
    refine zkj (ziD hr6) (sA ?_)
    obtain ⟨hp7,hs1⟩:=zj8 hs1
    refine sA ?_
    refine zkw ?_
    cases hs1
    exact zkr hk1 (zkg [some 0,some 1,some 7])
   ·cases hs1
    cases hk1
    try dsimp only at h
    refine sA ?_
    cases h
    exact zkc ⟨[(2,(.pb 1 0)),(3,(.os 0 1 0 g0.c2.length g0.c2.length false)),(4,(B true))],[(0,some (true,.arr false 1 (g0.c2.map eI))),(1,some (true,.box [(.lf true (.sl (g0.b1_0.map zkl))),(.lf true (.sl (g0.b1_1.map zkz)))]))],2,36⟩ [some 2,some 0]
theorem zhV {a0:(List Int)} {r:(List zks)} (h:zaV a0=some r):Fn Tryz.prog 24 [(.lf true (.sl (a0.map eU8)))] [] 0 (.lf false (.sl (r.map zlu))) [] 0:=by
 unfold zaV at h
 refine fc [(1000,[(0,0)]),(1001,[(3,0)])] Tryz.func24 ?_
 simp only [Tryz.f24]
 refine sA ?_
 obtain ⟨c0,hr1,h⟩:=zj7 h
 refine zlj [0] (zhe hr1) (sA ?_)
 cases h
 refine zk6 1 (sA ?_)
 exact zkc ⟨[(2,(.lf false (.sl (c0.1.map zlu))))],[],0,9⟩ []
theorem zjx {a0:(List Int)} {a1:(List Int)} {r:Bool} (h:zfm a0 a1=some r):Fn Tryz.prog 27 [(.lf true (.sl (a0.map eI))),(.lf true (.sl (a1.map eI)))] [] 0 (B r) [] 0:=by
 unfold zfm at h
 refine fc [(1000,[(0,0),(1,0)]),(1001,[(0,0),(1,0),(10,0)]),(1003,[(0,0),(1,0),(12,0),(13,0)]),(1004,[(0,0),(1,0),(12,0),(13,0),(14,0)]),(1005,[(0,0),(1,0),(5,0),(12,0),(13,0)]),(1006,[(0,0),(1,0),(12,0),(13,0),(24,0)]),(1008,[(0,0),(1,0),(12,0),(13,0)])] Tryz.func27 ?_
 simp only [Tryz.f27]
 refine sA ?_
 refine zki h (λ h _=>sA ?_) (λ h _=>sA ?_)
 ·have he:=oi h
  subst he
  exact zkc ⟨[(4,(B false))],[],0,26⟩ []
 ·obtain ⟨y0,hl2,h⟩:=zj7 h
  refine zky (λ g0:zfb=>⟨[(0,(.lf true (.sl (a0.map eI)))),(1,(.lf true (.sl (a1.map eI)))),(12,(I ((a0.length:Nat):Int))),(13,(I g0.t13))],[],0,26⟩) (zcg a0 a1) _ _ hl2 (zkg []) ?_
  ·intro n1 g0 z1 hs1 hk1
   unfold zcg at hs1
   try dsimp only at hs1
   refine sA ?_
   refine zki hs1 (λ hs1 _=>sA ?_) (λ hs1 _=>sA ?_)
   ·obtain ⟨hp4,hs1⟩:=zj8 hs1
    have hn4:g0.t13.toNat < a0.length:=by first|omega|(simp;omega)
    refine sA ?_
    refine zkw ?_
    obtain ⟨hp5,hs1⟩:=zj8 hs1
    have hn5:g0.t13.toNat < a1.length:=by first|omega|(simp;omega)
    refine sA ?_
    refine zkw ?_
    refine zki hs1 (λ hs1 _=>sA ?_) (λ hs1 _=>sA ?_)
    ·cases hs1
     cases hk1
     try dsimp only at h
     refine sA ?_
     have he:=oi h
     subst he
     exact zkc ⟨[(4,(B false))],[],0,26⟩ []
    ·cases hs1
     exact zkr hk1 (zkg [])
   ·cases hs1
    cases hk1
    try dsimp only at h
    refine sA ?_
    have he:=oi h
    subst he
    exact zkc ⟨[(4,(B true))],[],0,26⟩ []
theorem zi4 {a0:(List zka)} {a1:(List zka)} {r:Bool} (h:zec a0 a1=some r):Fn Tryz.prog 132 [(.lf true (.sl (a0.map zko))),(.lf true (.sl (a1.map zko)))] [] 0 (B r) [] 0:=by
 unfold zec at h
 refine fc [(1000,[(0,0),(1,0)]),(1001,[(0,0),(1,0),(10,0)]),(1003,[(0,0),(1,0),(12,0),(13,0)]),(1004,[(0,0),(1,0),(12,0),(13,0),(14,0)]),(1005,[(0,0),(1,0),(5,0),(12,0),(13,0)]),(1006,[(0,0),(1,0),(12,0),(13,0),(24,0)]),(1008,[(0,0),(1,0),(12,0),(13,0)])] Tryz.func132 ?_
 simp only [Tryz.f132]
 refine sA ?_
 refine zki h (λ h _=>sA ?_) (λ h _=>sA ?_)
 ·have he:=oi h
  subst he
  exact zkc ⟨[(4,(B false))],[],0,26⟩ []
 ·obtain ⟨y0,hl2,h⟩:=zj7 h
  refine zky (λ g0:zeb=>⟨[(0,(.lf true (.sl (a0.map zko)))),(1,(.lf true (.sl (a1.map zko)))),(12,(I ((a0.length:Nat):Int))),(13,(I g0.t13))],[],0,26⟩) (zbx a0 a1) _ _ hl2 (zkg []) ?_
  ·intro n1 g0 z1 hs1 hk1
   unfold zbx at hs1
   try dsimp only at hs1
   refine sA ?_
   refine zki hs1 (λ hs1 _=>sA ?_) (λ hs1 _=>sA ?_)
   ·obtain ⟨hp4,hs1⟩:=zj8 hs1
    have hn4:g0.t13.toNat < a0.length:=by first|omega|(simp;omega)
    refine sA ?_
    refine zkw ?_
    obtain ⟨hp5,hs1⟩:=zj8 hs1
    have hn5:g0.t13.toNat < a1.length:=by first|omega|(simp;omega)
    refine sA ?_
    refine zkw ?_
    first | refine And.intro ⟨by kernel_rfl,by kernel_rfl,by kernel_rfl⟩ ?_ | skip
    refine sA ?_
    refine zki hs1 (λ hs1 _=>sA ?_) (λ hs1 _=>sA ?_)
    ·cases hs1
     cases hk1
     try dsimp only at h
     refine sA ?_
     have he:=oi h
     subst he
     exact zkc ⟨[(4,(B false))],[],0,26⟩ []
    ·cases hs1
     exact zkr hk1 (zkg [])
   ·cases hs1
    cases hk1
    try dsimp only at h
    refine sA ?_
    have he:=oi h
    subst he
    exact zkc ⟨[(4,(B true))],[],0,26⟩ []
theorem zgO {a0:zkh} {a1:zkh} {r:Bool} (h:zbV a0 a1=some r):Fn Tryz.prog 58 [(.ag [(.lf true (.sl (a0.fBr.map zkf)))]),(.ag [(.lf true (.sl (a1.fBr.map zkf)))])] [] 0 (B r) [] 0:=by
 unfold zbV at h
 refine fc [(1000,[(2,0),(3,0)]),(1001,[(2,0),(3,0),(12,0)]),(1003,[(2,0),(3,0),(15,0),(16,0)]),(1004,[(2,0),(3,0),(15,0),(16,0),(17,0)]),(1005,[(2,0),(3,0),(5,0),(15,0),(16,0)]),(1006,[(2,0),(3,0),(15,0),(16,0),(32,0)]),(1008,[(2,0),(3,0),(15,0),(16,0)])] Tryz.func58 ?_
 simp only [Tryz.f58]
 refine sA ?_
 refine zki h (λ h _=>sA ?_) (λ h _=>sA ?_)
 ·have he:=oi h
  subst he
  exact zkc ⟨[(4,(B false))],[],0,34⟩ []
 ·obtain ⟨y0,hl2,h⟩:=zj7 h
  refine zky (λ g0:zc5=>⟨[(2,(.pb 0 0)),(3,(.pb 1 0)),(15,(I ((a0.fBr.length:Nat):Int))),(16,(I g0.t16))],[(0,some (true,.box [(.lf true (.sl (a0.fBr.map zkf)))])),(1,some (true,.box [(.lf true (.sl (a1.fBr.map zkf)))]))],2,34⟩) (zaU a0 a1) _ _ hl2 (zkg [some 0,some 1]) ?_
  ·intro n1 g0 z1 hs1 hk1
   unfold zaU at hs1
   try dsimp only at hs1
   refine sA ?_
   refine zki hs1 (λ hs1 _=>sA ?_) (λ hs1 _=>sA ?_)
   ·obtain ⟨hp4,hs1⟩:=zj8 hs1
    have hn4:g0.t16.toNat < a0.fBr.length:=by first|omega|(simp;omega)
    refine sA ?_
    refine zkw ?_
    obtain ⟨hp5,hs1⟩:=zj8 hs1
    have hn5:g0.t16.toNat < a1.fBr.length:=by first|omega|(simp;omega)
    refine sA ?_
    refine zkw ?_
    obtain ⟨c0,hr6,hs1⟩:=zj7 hs1
    refine zkj (zi4 hr6) (sA ?_)
    refine zki hs1 (λ hs1 _=>sA ?_) (λ hs1 _=>sA ?_)
    ·cases hs1
     cases hk1
     try dsimp only at h
     refine sA ?_
     have he:=oi h
     subst he
     exact zkc ⟨[(4,(B false))],[],0,34⟩ []
    ·cases hs1
     exact zkr hk1 (zkg [some 0,some 1])
   ·cases hs1
    cases hk1
    try dsimp only at h
    refine sA ?_
    have he:=oi h
    subst he
    exact zkc ⟨[(4,(B true))],[],0,34⟩ []
theorem ziE {a0:zkb} {a1:zkb} {r:Bool} (h:zdx a0 a1=some r):Fn Tryz.prog 11 [(.ag [(I a0.Id),(I a0.fVe),(.lf true (.sl (a0.fTe.fBr.map zkf)))]),(.ag [(I a1.Id),(I a1.fVe),(.lf true (.sl (a1.fTe.fBr.map zkf)))])] [] 0 (B r) [] 0:=by
 unfold zdx at h
 refine fc [] Tryz.func11 ?_
 simp only [Tryz.f11]
 refine sA ?_
 refine zkt h (λ h _=>sA ?_) (λ h _=>sA ?_)
 ·refine zkt h (λ h _=>sA ?_) (λ h _=>sA ?_)
  ·obtain ⟨c0,hr3,h⟩:=zj7 h
   refine zkj (zgO hr3) (sA ?_)
   have he:=oi h
   subst he
   exact zkc ⟨[(4,(B c0))],[],0,24⟩ []
  ·have he:=oi h
   subst he
   exact zkc ⟨[(4,(B false))],[],0,24⟩ []
 ·have he:=oi h
  subst he
  exact zkc ⟨[(4,(B false))],[],0,24⟩ []
theorem zi5 {a0:zkn} {a1:zkn} {r:Bool} (h:zbO a0 a1=some r):Fn Tryz.prog 28 [(.ag [(.lf true (.sl (a0.fRe.map zkl))),(.lf true (.sl (a0.Line.map zkz)))]),(.ag [(.lf true (.sl (a1.fRe.map zkl))),(.lf true (.sl (a1.Line.map zkz)))])] [] 0 (B r) [] 0:=by
 unfold zbO at h
 refine fc [(1000,[(2,0),(3,0)]),(1001,[(2,0),(3,0),(22,0)]),(1003,[(2,0),(3,0),(25,0),(26,0)]),(1004,[(2,0),(3,0),(25,0),(26,0),(27,0)]),(1005,[(2,0),(3,0),(5,0),(25,0),(26,0)]),(1006,[(2,0),(3,0),(25,0),(26,0),(40,0)]),(1008,[(2,0),(3,0),(25,0),(26,0)]),(1009,[(2,0),(3,0),(44,0),(45,0)]),(1010,[(2,0),(3,0),(44,0),(45,0),(46,0)]),(1011,[(2,0),(3,0),(6,0),(44,0),(45,0)]),(1012,[(2,0),(3,0),(44,0),(45,0),(95,0)]),(1014,[(2,0),(3,0),(44,0),(45,0)]),(4001,[]),(4012,[])] Tryz.func28 ?_
 simp only [Tryz.f28]
 refine sA ?_
 obtain ⟨p0,hq1,h⟩:=zj7 h
 refine zkC (λ s2=>s2=⟨[(2,(.pb 0 0)),(3,(.pb 1 0)),(22,(B p0.t22))],[(0,some (true,.box [(.lf true (.sl (a0.fRe.map zkl))),(.lf true (.sl (a0.Line.map zkz)))])),(1,some (true,.box [(.lf true (.sl (a1.fRe.map zkl))),(.lf true (.sl (a1.Line.map zkz)))]))],2,97⟩) ?_ ?_
 ·refine sA ?_
  refine zkt hq1 (λ hq1 _=>sA ?_) (λ hq1 _=>sA ?_)
  ·cases hq1
   exact zkp rfl (zkg [some 0,some 1])
  ·cases hq1
   exact zkp rfl (zkg [some 0,some 1])
 ·intro s2 hJ;subst hJ
  try dsimp only at h
  refine sA ?_
  refine zki h (λ h _=>sA ?_) (λ h _=>sA ?_)
  ·have he:=oi h
   subst he
   exact zkc ⟨[(4,(B false))],[],0,97⟩ []
  ·obtain ⟨y0,hl4,h⟩:=zj7 h
   refine zky (λ g0:zei=>⟨[(2,(.pb 0 0)),(3,(.pb 1 0)),(25,(I ((a0.fRe.length:Nat):Int))),(26,(I g0.t26))],[(0,some (true,.box [(.lf true (.sl (a0.fRe.map zkl))),(.lf true (.sl (a0.Line.map zkz)))])),(1,some (true,.box [(.lf true (.sl (a1.fRe.map zkl))),(.lf true (.sl (a1.Line.map zkz)))]))],2,97⟩) (zaj a0 a1) _ _ hl4 (zkg [some 0,some 1]) ?_
   ·intro n1 g0 z1 hs1 hk1
    unfold zaj at hs1
    try dsimp only at hs1
    refine sA ?_
    refine zki hs1 (λ hs1 _=>sA ?_) (λ hs1 _=>sA ?_)
    ·obtain ⟨hp6,hs1⟩:=zj8 hs1
     have hn6:g0.t26.toNat < a0.fRe.length:=by first|omega|(simp;omega)
     refine sA ?_
     refine zkw ?_
     obtain ⟨hp7,hs1⟩:=zj8 hs1
     have hn7:g0.t26.toNat < a1.fRe.length:=by first|omega|(simp;omega)
     refine sA ?_
     refine zkw ?_
     obtain ⟨c0,hr8,hs1⟩:=zj7 hs1
     refine zkj (ziE hr8) (sA ?_)
     refine zki hs1 (λ hs1 _=>sA ?_) (λ hs1 _=>sA ?_)
     ·cases hs1
      cases hk1
      try dsimp only at h
      refine sA ?_
      have he:=oi h
      subst he
      exact zkc ⟨[(4,(B false))],[],0,97⟩ []
     ·cases hs1
      exact zkr hk1 (zkg [some 0,some 1])
    ·cases hs1
     cases hk1
     try dsimp only at h
     refine sA ?_
     obtain ⟨y1,hl10,h⟩:=zj7 h
     refine zky (λ g1:zej=>⟨[(2,(.pb 0 0)),(3,(.pb 1 0)),(44,(I ((a0.Line.length:Nat):Int))),(45,(I g1.t45))],[(0,some (true,.box [(.lf true (.sl (a0.fRe.map zkl))),(.lf true (.sl (a0.Line.map zkz)))])),(1,some (true,.box [(.lf true (.sl (a1.fRe.map zkl))),(.lf true (.sl (a1.Line.map zkz)))]))],2,97⟩) (_) _ _ hl10 (zkg [some 0,some 1]) ?_
     ·intro n3 g1 z3 hs3 hk3
      unfold zaJ at hs3
      try dsimp only at hs3
      refine sA ?_
      refine zki hs3 (λ hs3 _=>sA ?_) (λ hs3 _=>sA ?_)
      ·obtain ⟨p1,hq12,hs3⟩:=zj7 hs3
       refine zkC (λ s2=>s2=⟨[(2,(.pb 0 0)),(3,(.pb 1 0)),(44,(I ((a0.Line.length:Nat):Int))),(45,(I g1.t45)),(95,(B p1.t95))],[(0,some (true,.box [(.lf true (.sl (a0.fRe.map zkl))),(.lf true (.sl (a0.Line.map zkz)))])),(1,some (true,.box [(.lf true (.sl (a1.fRe.map zkl))),(.lf true (.sl (a1.Line.map zkz)))]))],2,97⟩) ?_ ?_
       ·refine sA ?_
        obtain ⟨hp13,hq12⟩:=zj8 hq12
        have hn13:g1.t45.toNat < a0.Line.length:=by first|omega|(simp;omega)
        refine sA ?_
        refine zkw ?_
        obtain ⟨hp14,hq12⟩:=zj8 hq12
        have hn14:g1.t45.toNat < a1.Line.length:=by first|omega|(simp;omega)
        refine sA ?_
        refine zkw ?_
        refine zkt hq12 (λ hq12 _=>sA ?_) (λ hq12 _=>sA ?_)
        ·cases hq12
         exact zkp rfl (zkg [some 0,some 1])
        ·obtain ⟨hp16,hq12⟩:=zj8 hq12
         have hn16:g1.t45.toNat < a0.Line.length:=by first|omega|(simp;omega)
         refine sA ?_
         refine zkw ?_
         obtain ⟨hp17,hq12⟩:=zj8 hq12
         have hn17:g1.t45.toNat < a1.Line.length:=by first|omega|(simp;omega)
         refine sA ?_
         refine zkw ?_
         refine zkt hq12 (λ hq12 _=>sA ?_) (λ hq12 _=>sA ?_)
         ·cases hq12
          exact zkp rfl (zkg [some 0,some 1])
         ·obtain ⟨hp19,hq12⟩:=zj8 hq12
          have hn19:g1.t45.toNat < a0.Line.length:=by first|omega|(simp;omega)
          refine sA ?_
          refine zkw ?_
          obtain ⟨hp20,hq12⟩:=zj8 hq12
          have hn20:g1.t45.toNat < a1.Line.length:=by first|omega|(simp;omega)
          refine sA ?_
          refine zkw ?_
          obtain ⟨c1,hr21,hq12⟩:=zj7 hq12
          refine zkj (zgO hr21) (sA ?_)
          cases hq12
          exact zkp rfl (zkg [some 0,some 1])
       ·intro s2 hJ;subst hJ
        try dsimp only at hs3
        refine sA ?_
        refine zki hs3 (λ hs3 _=>sA ?_) (λ hs3 _=>sA ?_)
        ·cases hs3
         cases hk3
         try dsimp only at h
         refine sA ?_
         have he:=oi h
         subst he
         exact zkc ⟨[(4,(B false))],[],0,97⟩ []
        ·cases hs3
         exact zkr hk3 (zkg [some 0,some 1])
      ·cases hs3
       cases hk3
       try dsimp only at h
       refine sA ?_
       have he:=oi h
       subst he
       exact zkc ⟨[(4,(B true))],[],0,97⟩ []
theorem zhW {a0:(List zkv)} {r:Int} (h:zfQ a0=some r):Fn Tryz.prog 153 [(.lf true (.sl (a0.map zkT)))] [] 0 (I r) [] 0:=by
 unfold zfQ at h
 refine fc [(1000,[(0,0)]),(1001,[(0,0),(5,0)])] Tryz.func153 ?_
 simp only [Tryz.f153]
 refine sA ?_
 refine zki h (λ h _=>sA ?_) (λ h _=>sA ?_)
 ·have he:=oi h
  subst he
  exact zkc ⟨[(2,(I 0))],[],0,13⟩ []
 ·obtain ⟨hp2,h⟩:=zj8 h
  have hn2:(wI (((a0.length:Nat):Int) - 1)).toNat < a0.length:=by first|omega|(simp;omega)
  refine sA ?_
  refine zkw ?_
  cases h
  exact zkc ⟨[(2,(I ((nth a0 ((wI (((a0.length:Nat):Int) - 1)).toNat)).Upto)))],[],0,13⟩ []
theorem zgY {a0:(List zkv)} {r:Int} (h:zcm a0=some r):Fn Tryz.prog 154 [(.lf true (.sl (a0.map zkT)))] [] 0 (I r) [] 0:=by
 unfold zcm at h
 refine fc [(1000,[(0,0)]),(1001,[(0,0),(5,0)])] Tryz.func154 ?_
 simp only [Tryz.f154]
 refine sA ?_
 refine zki h (λ h _=>sA ?_) (λ h _=>sA ?_)
 ·have he:=oi h
  subst he
  exact zkc ⟨[(2,(I 0))],[],0,13⟩ []
 ·obtain ⟨hp2,h⟩:=zj8 h
  have hn2:(wI (((a0.length:Nat):Int) - 1)).toNat < a0.length:=by first|omega|(simp;omega)
  refine sA ?_
  refine zkw ?_
  cases h
  exact zkc ⟨[(2,(I ((nth a0 ((wI (((a0.length:Nat):Int) - 1)).toNat)).fVe)))],[],0,13⟩ []
theorem zhB {a0:(List zkv)} {r:(List zkv)} (h:zbi a0=some r):Fn Tryz.prog 155 [(.lf true (.sl (a0.map zkT)))] [] 0 (.os 0 2 0 r.length r.length false) [(0,some (true,.arr false 2 (r.map zkT)))] 1:=by
 unfold zbi at h
 obtain ⟨hp,h⟩:=zj8 h
 have he:=oi h;subst he
 refine fc [] Tryz.func155 ?_
 simp only [Tryz.f155]
 simp (disch:=assumption) only [go_sem,qA,qB,qC,qD,↓reduceIte,qE,reduceCtorEq,qF,qH,qI,qJ,qK,qG]
 intro b hb
 refine zoc (b=true) (by simp) (λ hc=>?_) (λ hc=>?_)
 ·have h0:a0=[]:=by simpa using hb (by simpa using hc)
  subst h0
  try simp (disch:=assumption) only [go_sem,qA,qB,qC,qD,↓reduceIte,qE,reduceCtorEq,qF,qH,qI,qJ,qK,qG]
  refine zlA ⟨[(2,(.os 0 2 0 0 0 false))],[(0,some (true,.arr false 2 (([]:List zkv).map zkT)))],1,8⟩ (zlB (m:=0) [none] rfl rfl rfl (by rfl) ?_ ?_) ?_
  all_goals ((try simp (disch:=assumption) only [go_sem,qA,qB,qC,qD,↓reduceIte,qE,reduceCtorEq,qF,qH,qI,qJ,qK,qG]);(repeat' first | done | rfl | omega | refine And.intro ?_ ?_ | (simp;done) | (simp;omega)))
 ·try simp (disch:=assumption) only [go_sem,qA,qB,qC,qD,↓reduceIte,qE,reduceCtorEq,qF,qH,qI,qJ,qK,qG]
  first | refine And.intro (by first | omega | exact ⟨by omega,λ _=>zmq λ _=>rfl⟩ | (refine ⟨?_,by omega⟩;first | exact zmq λ _=>rfl | simp)) ?_ | skip
  try simp (disch:=assumption) only [go_sem,qA,qB,qC,qD,↓reduceIte,qE,reduceCtorEq,qF,qH,qI,qJ,qK,qG]
  refine zlA ⟨[(2,(.os 0 2 0 a0.length a0.length false))],[(0,some (true,.arr false 2 (a0.map zkT)))],1,8⟩ (zlB (m:=0) [some 1] rfl rfl rfl (by rfl) ?_ ?_) ?_
  all_goals ((try simp (disch:=assumption) only [go_sem,qA,qB,qC,qD,↓reduceIte,qE,reduceCtorEq,qF,qH,qI,qJ,qK,qG]);(repeat' first | done | rfl | omega | refine And.intro ?_ ?_ | (simp;done) | (simp;omega)))
theorem zfj {a0:(List zkv)} {r:Bool} (h:zby a0=some r):Fn Tryz.prog 88 [(.lf true (.sl (a0.map zkT)))] [] 0 (B r) [] 0:=by
 unfold zby at h
 refine fc [(1000,[(0,0)]),(1001,[(0,0),(7,0)]),(1003,[(0,0),(8,0),(9,0),(10,0)]),(1004,[(0,0),(8,0),(9,0),(10,0),(11,0)]),(1005,[(0,0),(3,0),(4,0),(8,0),(9,0),(10,0)]),(1006,[(0,0),(8,0),(9,0),(10,0),(50,0)]),(1008,[(0,0),(8,0),(9,0),(10,0)]),(4006,[])] Tryz.func88 ?_
 simp only [Tryz.f88]
 refine sA ?_
 refine zki h (λ h _=>sA ?_) (λ h _=>sA ?_)
 ·have he:=oi h
  subst he
  exact zkc ⟨[(2,(B false))],[],0,52⟩ []
 ·obtain ⟨y0,hl2,h⟩:=zj7 h
  refine zky (λ g0:zeE=>⟨[(0,(.lf true (.sl (a0.map zkT)))),(8,(.lf true (.sl (a0.map zkT)))),(9,(I ((a0.length:Nat):Int))),(10,(I g0.t10))],[],0,52⟩) (zbX a0) _ _ hl2 (zkg []) ?_
  ·intro n1 g0 z1 hs1 hk1
   unfold zbX at hs1
   try dsimp only at hs1
   refine sA ?_
   refine zki hs1 (λ hs1 _=>sA ?_) (λ hs1 _=>sA ?_)
   ·obtain ⟨hp4,hs1⟩:=zj8 hs1
    have hn4:g0.t10.toNat < a0.length:=by first|omega|(simp;omega)
    refine sA ?_
    refine zkw ?_
    obtain ⟨p0,hq5,hs1⟩:=zj7 hs1
    refine zkC (λ s2=>s2=⟨[(0,(.lf true (.sl (a0.map zkT)))),(8,(.lf true (.sl (a0.map zkT)))),(9,(I ((a0.length:Nat):Int))),(10,(I g0.t10)),(50,(B p0.t50))],[],0,52⟩) ?_ ?_
    ·refine sA ?_
     obtain ⟨c0,hr6,hq5⟩:=zj7 hq5
     refine zkj (zc8 hr6) (sA ?_)
     refine zkt hq5 (λ hq5 _=>sA ?_) (λ hq5 _=>sA ?_)
     ·cases hq5
      exact zkp rfl (zkg [])
     ·obtain ⟨c1,hr8,hq5⟩:=zj7 hq5
      refine zkj (zco hr8) (sA ?_)
      refine zkt hq5 (λ hq5 _=>sA ?_) (λ hq5 _=>sA ?_)
      ·cases hq5
       exact zkp rfl (zkg [])
      ·refine zkt hq5 (λ hq5 _=>sA ?_) (λ hq5 _=>sA ?_)
       ·obtain ⟨hp11,hq5⟩:=zj8 hq5
        have hn11:(wI (g0.t10 - 1)).toNat < a0.length:=by first|omega|(simp;omega)
        refine sA ?_
        refine zkw ?_
        refine zkt hq5 (λ hq5 _=>sA ?_) (λ hq5 _=>sA ?_)
        ·cases hq5
         exact zkp rfl (zkg [])
        ·obtain ⟨hp13,hq5⟩:=zj8 hq5
         have hn13:(wI (g0.t10 - 1)).toNat < a0.length:=by first|omega|(simp;omega)
         refine sA ?_
         refine zkw ?_
         cases hq5
         exact zkp rfl (zkg [])
       ·cases hq5
        exact zkp rfl (zkg [])
    ·intro s2 hJ;subst hJ
     try dsimp only at hs1
     refine sA ?_
     refine zki hs1 (λ hs1 _=>sA ?_) (λ hs1 _=>sA ?_)
     ·cases hs1
      cases hk1
      try dsimp only at h
      refine sA ?_
      have he:=oi h
      subst he
      exact zkc ⟨[(2,(B false))],[],0,52⟩ []
     ·cases hs1
      exact zkr hk1 (zkg [])
   ·cases hs1
    cases hk1
    try dsimp only at h
    refine sA ?_
    have he:=oi h
    subst he
    exact zkc ⟨[(2,(B true))],[],0,52⟩ []
theorem zjy {a0:(List zkv)} {a1:Int} {a2:Int} {r:((List zkv)×Bool)} (h:zfp a0 a1 a2=some r):Fn Tryz.prog 83 [(.lf true (.sl (a0.map zkT))),(I a1),(I a2)] [] 0 (.tu [(.os 0 2 0 r.1.length r.1.length false),(B r.2)]) [(0,some (true,.arr false 2 (r.1.map zkT)))] 1:=by
 unfold zfp at h
 refine fc [(1000,[(0,0),(1,0),(2,0)]),(1001,[(0,0),(1,0),(2,0),(24,0)]),(1003,[(0,0),(1,0),(2,0),(8,0)]),(1004,[(0,0),(1,0),(2,0),(8,0),(35,0)]),(1005,[(8,0)]),(1006,[(8,0)]),(4001,[]),(4004,[])] Tryz.func83 ?_
 simp only [Tryz.f83]
 simp (disch:=first | assumption | (simp only [qL];assumption)) only [go_sem,qA,qB,qC,qD,↓reduceIte,qE,reduceCtorEq,qF,qH,qI,qJ,qK,qG,qL]
 obtain ⟨p0,hq1,h⟩:=zj7 h
 refine zkC (λ s2=>s2=⟨[(0,(.lf true (.sl (a0.map zkT)))),(1,(I a1)),(2,(I a2)),(24,(B p0.t24))],[],0,52⟩) ?_ ?_
 ·try simp (disch:=first | assumption | (simp only [qL];assumption)) only [go_sem,qA,qB,qC,qD,↓reduceIte,qE,reduceCtorEq,qF,qH,qI,qJ,qK,qG,qL]
  obtain ⟨c0,hr2,hq1⟩:=zj7 hq1
  refine zmc (zhW hr2) (by first | rfl | (simp (disch:=first | assumption | (simp only [qL];assumption)) only [go_sem,qA,qB,qC,qD,↓reduceIte,qE,reduceCtorEq,qF,qH,qI,qJ,qK,qG,qL];first | done | rfl) | (simp only [qM,qP,qQ,qO,qL,qN,qa,qA];rfl) | (simp (disch:=first | assumption | (simp only [qL];assumption)) only [go_sem,qA,qB,qC,qD,↓reduceIte,qE,reduceCtorEq,qF,qH,qI,qJ,qK,qG,qL];simp only [qM,qP,qQ,qO,qL,qN,qa,qA];rfl)) (FitAll.refl _) (.inl (by first | rfl | (simp (disch:=first | assumption | (simp only [qL];assumption)) only [go_sem,qA,qB,qC,qD,↓reduceIte,qE,reduceCtorEq,qF,qH,qI,qJ,qK,qG,qL];done))) ?_
  try simp (disch:=first | assumption | (simp only [qL];assumption)) only [go_sem,qA,qB,qC,qD,↓reduceIte,qE,reduceCtorEq,qF,qH,qI,qJ,qK,qG,qL]
  refine zkt hq1 (λ hq1 _=>?_) (λ hq1 _=>?_)
  ·try simp (disch:=first | assumption | (simp only [qL];assumption)) only [go_sem,qA,qB,qC,qD,↓reduceIte,qE,reduceCtorEq,qF,qH,qI,qJ,qK,qG,qL]
   cases hq1
   refine zkp rfl ?_
   refine zlB (m:=0) [] rfl rfl rfl (by rfl) ?_ ?_
   all_goals ((try simp (disch:=first | assumption | (simp only [qL];assumption)) only [go_sem,qA,qB,qC,qD,↓reduceIte,qE,reduceCtorEq,qF,qH,qI,qJ,qK,qG,qL]);(repeat' first | done | rfl | omega | refine And.intro ?_ ?_ | (simp;done) | (simp;omega)))
  ·try simp (disch:=first | assumption | (simp only [qL];assumption)) only [go_sem,qA,qB,qC,qD,↓reduceIte,qE,reduceCtorEq,qF,qH,qI,qJ,qK,qG,qL]
   obtain ⟨c1,hr4,hq1⟩:=zj7 hq1
   refine zmc (zgY hr4) (by first | rfl | (simp (disch:=first | assumption | (simp only [qL];assumption)) only [go_sem,qA,qB,qC,qD,↓reduceIte,qE,reduceCtorEq,qF,qH,qI,qJ,qK,qG,qL];first | done | rfl) | (simp only [qM,qP,qQ,qO,qL,qN,qa,qA];rfl) | (simp (disch:=first | assumption | (simp only [qL];assumption)) only [go_sem,qA,qB,qC,qD,↓reduceIte,qE,reduceCtorEq,qF,qH,qI,qJ,qK,qG,qL];simp only [qM,qP,qQ,qO,qL,qN,qa,qA];rfl)) (FitAll.refl _) (.inl (by first | rfl | (simp (disch:=first | assumption | (simp only [qL];assumption)) only [go_sem,qA,qB,qC,qD,↓reduceIte,qE,reduceCtorEq,qF,qH,qI,qJ,qK,qG,qL];done))) ?_
   try simp (disch:=first | assumption | (simp only [qL];assumption)) only [go_sem,qA,qB,qC,qD,↓reduceIte,qE,reduceCtorEq,qF,qH,qI,qJ,qK,qG,qL]
   refine zkt hq1 (λ hq1 _=>?_) (λ hq1 _=>?_)
   ·try simp (disch:=first | assumption | (simp only [qL];assumption)) only [go_sem,qA,qB,qC,qD,↓reduceIte,qE,reduceCtorEq,qF,qH,qI,qJ,qK,qG,qL]
    cases hq1
    refine zkp rfl ?_
    refine zlB (m:=0) [] rfl rfl rfl (by rfl) ?_ ?_
    all_goals ((try simp (disch:=first | assumption | (simp only [qL];assumption)) only [go_sem,qA,qB,qC,qD,↓reduceIte,qE,reduceCtorEq,qF,qH,qI,qJ,qK,qG,qL]);(repeat' first | done | rfl | omega | refine And.intro ?_ ?_ | (simp;done) | (simp;omega)))
   ·try simp (disch:=first | assumption | (simp only [qL];assumption)) only [go_sem,qA,qB,qC,qD,↓reduceIte,qE,reduceCtorEq,qF,qH,qI,qJ,qK,qG,qL]
    obtain ⟨c2,hr6,hq1⟩:=zj7 hq1
    refine zmc (zco hr6) (by first | rfl | (simp (disch:=first | assumption | (simp only [qL];assumption)) only [go_sem,qA,qB,qC,qD,↓reduceIte,qE,reduceCtorEq,qF,qH,qI,qJ,qK,qG,qL];first | done | rfl) | (simp only [qM,qP,qQ,qO,qL,qN,qa,qA];rfl) | (simp (disch:=first | assumption | (simp only [qL];assumption)) only [go_sem,qA,qB,qC,qD,↓reduceIte,qE,reduceCtorEq,qF,qH,qI,qJ,qK,qG,qL];simp only [qM,qP,qQ,qO,qL,qN,qa,qA];rfl)) (FitAll.refl _) (.inl (by first | rfl | (simp (disch:=first | assumption | (simp only [qL];assumption)) only [go_sem,qA,qB,qC,qD,↓reduceIte,qE,reduceCtorEq,qF,qH,qI,qJ,qK,qG,qL];done))) ?_
    try simp (disch:=first | assumption | (simp only [qL];assumption)) only [go_sem,qA,qB,qC,qD,↓reduceIte,qE,reduceCtorEq,qF,qH,qI,qJ,qK,qG,qL]
    cases hq1
    refine zkp rfl ?_
    refine zlB (m:=0) [] rfl rfl rfl (by rfl) ?_ ?_
    all_goals ((try simp (disch:=first | assumption | (simp only [qL];assumption)) only [go_sem,qA,qB,qC,qD,↓reduceIte,qE,reduceCtorEq,qF,qH,qI,qJ,qK,qG,qL]);(repeat' first | done | rfl | omega | refine And.intro ?_ ?_ | (simp;done) | (simp;omega)))
 ·intro s2 hJ;subst hJ
  try dsimp only at h
  try simp (disch:=first | assumption | (simp only [qL];assumption)) only [go_sem,qA,qB,qC,qD,↓reduceIte,qE,reduceCtorEq,qF,qH,qI,qJ,qK,qG,qL]
  refine zki h (λ h _=>?_) (λ h _=>?_)
  ·try simp (disch:=first | assumption | (simp only [qL];assumption)) only [go_sem,qA,qB,qC,qD,↓reduceIte,qE,reduceCtorEq,qF,qH,qI,qJ,qK,qG,qL]
   cases h
   refine zlA ⟨[(6,(.os 0 2 0 (([]:List zkv).length) (([]:List zkv).length) false)),(7,(B false))],[(0,some (true,.arr false 2 (([]:List zkv).map zkT)))],1,52⟩ (zlB (m:=0) [none] rfl rfl rfl (by rfl) ?_ ?_) ?_
   all_goals ((try simp (disch:=first | assumption | (simp only [qL];assumption)) only [go_sem,qA,qB,qC,qD,↓reduceIte,qE,reduceCtorEq,qF,qH,qI,qJ,qK,qG,qL]);(repeat' first | done | rfl | omega | refine And.intro ?_ ?_ | (simp;done) | (simp;omega)))
  ·try simp (disch:=first | assumption | (simp only [qL];assumption)) only [go_sem,qA,qB,qC,qD,↓reduceIte,qE,reduceCtorEq,qF,qH,qI,qJ,qK,qG,qL]
   obtain ⟨c3,hr8,h⟩:=zj7 h
   refine zmc (zhB hr8) (by first | rfl | (simp (disch:=first | assumption | (simp only [qL];assumption)) only [go_sem,qA,qB,qC,qD,↓reduceIte,qE,reduceCtorEq,qF,qH,qI,qJ,qK,qG,qL];first | done | rfl) | (simp only [qM,qP,qQ,qO,qL,qN,qa,qA];rfl) | (simp (disch:=first | assumption | (simp only [qL];assumption)) only [go_sem,qA,qB,qC,qD,↓reduceIte,qE,reduceCtorEq,qF,qH,qI,qJ,qK,qG,qL];simp only [qM,qP,qQ,qO,qL,qN,qa,qA];rfl)) (FitAll.refl _) (.inl (by first | rfl | (simp (disch:=first | assumption | (simp only [qL];assumption)) only [go_sem,qA,qB,qC,qD,↓reduceIte,qE,reduceCtorEq,qF,qH,qI,qJ,qK,qG,qL];done))) ?_
   try simp (disch:=first | assumption | (simp only [qL];assumption)) only [go_sem,qA,qB,qC,qD,↓reduceIte,qE,reduceCtorEq,qF,qH,qI,qJ,qK,qG,qL]
   obtain ⟨p1,hq9,h⟩:=zj7 h
   refine zkC (λ s2=>s2=⟨[(0,(.lf true (.sl (a0.map zkT)))),(1,(I a1)),(2,(I a2)),(8,(.os 0 2 0 c3.length c3.length false)),(35,(B p1.t35))],[(0,some (true,.arr false 2 (c3.map zkT)))],1,52⟩) ?_ ?_
   ·try simp (disch:=first | assumption | (simp only [qL];assumption)) only [go_sem,qA,qB,qC,qD,↓reduceIte,qE,reduceCtorEq,qF,qH,qI,qJ,qK,qG,qL]
    refine zkt hq9 (λ hq9 _=>?_) (λ hq9 _=>?_)
    ·try simp (disch:=first | assumption | (simp only [qL];assumption)) only [go_sem,qA,qB,qC,qD,↓reduceIte,qE,reduceCtorEq,qF,qH,qI,qJ,qK,qG,qL]
     obtain ⟨c4,hr11,hq9⟩:=zj7 hq9
     refine zmc (zgY hr11) (by first | rfl | (simp (disch:=first | assumption | (simp only [qL];assumption)) only [go_sem,qA,qB,qC,qD,↓reduceIte,qE,reduceCtorEq,qF,qH,qI,qJ,qK,qG,qL];first | done | rfl) | (simp only [qM,qP,qQ,qO,qL,qN,qa,qA];rfl) | (simp (disch:=first | assumption | (simp only [qL];assumption)) only [go_sem,qA,qB,qC,qD,↓reduceIte,qE,reduceCtorEq,qF,qH,qI,qJ,qK,qG,qL];simp only [qM,qP,qQ,qO,qL,qN,qa,qA];rfl)) (FitAll.refl _) (.inl (by first | rfl | (simp (disch:=first | assumption | (simp only [qL];assumption)) only [go_sem,qA,qB,qC,qD,↓reduceIte,qE,reduceCtorEq,qF,qH,qI,qJ,qK,qG,qL];done))) ?_
     try simp (disch:=first | assumption | (simp only [qL];assumption)) only [go_sem,qA,qB,qC,qD,↓reduceIte,qE,reduceCtorEq,qF,qH,qI,qJ,qK,qG,qL]
     cases hq9
     refine zkp rfl ?_
     refine zlB (m:=0) [some 0] rfl rfl rfl (by rfl) ?_ ?_
     all_goals ((try simp (disch:=first | assumption | (simp only [qL];assumption)) only [go_sem,qA,qB,qC,qD,↓reduceIte,qE,reduceCtorEq,qF,qH,qI,qJ,qK,qG,qL]);(repeat' first | done | rfl | omega | refine And.intro ?_ ?_ | (simp;done) | (simp;omega)))
    ·try simp (disch:=first | assumption | (simp only [qL];assumption)) only [go_sem,qA,qB,qC,qD,↓reduceIte,qE,reduceCtorEq,qF,qH,qI,qJ,qK,qG,qL]
     cases hq9
     refine zkp rfl ?_
     refine zlB (m:=0) [some 0] rfl rfl rfl (by rfl) ?_ ?_
     all_goals ((try simp (disch:=first | assumption | (simp only [qL];assumption)) only [go_sem,qA,qB,qC,qD,↓reduceIte,qE,reduceCtorEq,qF,qH,qI,qJ,qK,qG,qL]);(repeat' first | done | rfl | omega | refine And.intro ?_ ?_ | (simp;done) | (simp;omega)))
   ·intro s2 hJ;subst hJ
    try dsimp only at h
    try simp (disch:=first | assumption | (simp only [qL];assumption)) only [go_sem,qA,qB,qC,qD,↓reduceIte,qE,reduceCtorEq,qF,qH,qI,qJ,qK,qG,qL]
    refine zki h (λ h _=>?_) (λ h _=>?_)
    ·try simp (disch:=first | assumption | (simp only [qL];assumption)) only [go_sem,qA,qB,qC,qD,↓reduceIte,qE,reduceCtorEq,qF,qH,qI,qJ,qK,qG,qL]
     obtain ⟨hp13,h⟩:=zj8 h
     have hn13:(wI (((a0.length:Nat):Int) - 1)).toNat < c3.length:=by first|omega|(simp;omega)
     try simp (disch:=first | assumption | (simp only [qL];assumption)) only [go_sem,qA,qB,qC,qD,↓reduceIte,qE,reduceCtorEq,qF,qH,qI,qJ,qK,qG,qL]
     refine zkw ?_
     refine zpp ?_
     try simp (disch:=first | assumption | (simp only [qL];assumption)) only [go_sem,qA,qB,qC,qD,↓reduceIte,qE,reduceCtorEq,qF,qH,qI,qJ,qK,qG,qL]
     obtain ⟨c5,hr15,h⟩:=zj7 h
     refine zmc (zfj hr15) (by first | rfl | (simp (disch:=first | assumption | (simp only [qL];assumption)) only [go_sem,qA,qB,qC,qD,↓reduceIte,qE,reduceCtorEq,qF,qH,qI,qJ,qK,qG,qL];first | done | rfl) | (simp only [qM,qP,qQ,qO,qL,qN,qa,qA];rfl) | (simp (disch:=first | assumption | (simp only [qL];assumption)) only [go_sem,qA,qB,qC,qD,↓reduceIte,qE,reduceCtorEq,qF,qH,qI,qJ,qK,qG,qL];simp only [qM,qP,qQ,qO,qL,qN,qa,qA];rfl)) (FitAll.refl _) (.inr ⟨rfl,by simp [zmw,zpr]⟩) ?_
     try simp (disch:=first | assumption | (simp only [qL];assumption)) only [go_sem,qA,qB,qC,qD,↓reduceIte,qE,reduceCtorEq,qF,qH,qI,qJ,qK,qG,qL]
     cases h
     refine zlA ⟨[(6,(.os 0 2 0 ((c3.set ((wI (((a0.length:Nat):Int) - 1)).toNat) (⟨a1,(nth c3 ((wI (((a0.length:Nat):Int) - 1)).toNat)).fVe⟩:zkv)).length) ((c3.set ((wI (((a0.length:Nat):Int) - 1)).toNat) (⟨a1,(nth c3 ((wI (((a0.length:Nat):Int) - 1)).toNat)).fVe⟩:zkv)).length) false)),(7,(B c5))],[(0,some (true,.arr false 2 ((c3.set ((wI (((a0.length:Nat):Int) - 1)).toNat) (⟨a1,(nth c3 ((wI (((a0.length:Nat):Int) - 1)).toNat)).fVe⟩:zkv)).map zkT)))],1,52⟩ (zlB (m:=0) [some 0] rfl rfl rfl (by rfl) ?_ ?_) ?_
     all_goals ((try simp (disch:=first | assumption | (simp only [qL];assumption)) only [go_sem,qA,qB,qC,qD,↓reduceIte,qE,reduceCtorEq,qF,qH,qI,qJ,qK,qG,qL]);(repeat' first | done | rfl | omega | refine And.intro ?_ ?_ | (simp;done) | (simp;omega)))
    ·try simp (disch:=first | assumption | (simp only [qL];assumption)) only [go_sem,qA,qB,qC,qD,↓reduceIte,qE,reduceCtorEq,qF,qH,qI,qJ,qK,qG,qL]
     obtain ⟨hp16,h⟩:=zj8 h
     try simp (disch:=first | assumption | (simp only [qL];assumption)) only [go_sem,qA,qB,qC,qD,↓reduceIte,qE,reduceCtorEq,qF,qH,qI,qJ,qK,qG,qL]
     refine zkw ?_
     obtain ⟨c6,hr17,h⟩:=zj7 h
     refine zmc (zfj hr17) (by first | rfl | (simp (disch:=first | assumption | (simp only [qL];assumption)) only [go_sem,qA,qB,qC,qD,↓reduceIte,qE,reduceCtorEq,qF,qH,qI,qJ,qK,qG,qL];first | done | rfl) | (simp only [qM,qP,qQ,qO,qL,qN,qa,qA];rfl) | (simp (disch:=first | assumption | (simp only [qL];assumption)) only [go_sem,qA,qB,qC,qD,↓reduceIte,qE,reduceCtorEq,qF,qH,qI,qJ,qK,qG,qL];simp only [qM,qP,qQ,qO,qL,qN,qa,qA];rfl)) (FitAll.refl _) (.inr ⟨rfl,by simp [zmw,zpr]⟩) ?_
     try simp (disch:=first | assumption | (simp only [qL];assumption)) only [go_sem,qA,qB,qC,qD,↓reduceIte,qE,reduceCtorEq,qF,qH,qI,qJ,qK,qG,qL]
     cases h
     refine zlA ⟨[(6,(.os 0 2 0 ((c3++([(⟨a1,a2⟩:zkv)])).length) ((c3++([(⟨a1,a2⟩:zkv)])).length) false)),(7,(B c6))],[(0,some (true,.arr false 2 ((c3++([(⟨a1,a2⟩:zkv)])).map zkT)))],1,52⟩ (zlB (m:=0) [some 2] rfl rfl rfl (by rfl) ?_ ?_) ?_
     all_goals ((try simp (disch:=first | assumption | (simp only [qL];assumption)) only [go_sem,qA,qB,qC,qD,↓reduceIte,qE,reduceCtorEq,qF,qH,qI,qJ,qK,qG,qL]);(repeat' first | done | rfl | omega | refine And.intro ?_ ?_ | (simp;done) | (simp;omega)))
theorem zh7 {a0:(List zka)} {r:((List zkv)×Bool)} (h:ze1 a0=some r):Fn Tryz.prog 29 [(.lf true (.sl (a0.map zko)))] [] 0 (.tu [(.os 0 2 0 r.1.length r.1.length false),(B r.2)]) [(0,some (true,.arr false 2 (r.1.map zkT)))] 1:=by
 unfold ze1 at h
 refine fc [(1000,[(0,0)]),(1001,[(0,0),(11,0)]),(1003,[(0,0),(4,0)]),(1004,[(4,0),(13,0),(14,0),(15,0)]),(1005,[(4,0),(13,0),(14,0),(15,0),(16,0)]),(1006,[(4,0),(6,0),(13,0),(14,0),(15,0)]),(1007,[(6,0),(7,0),(8,0),(13,0),(14,0),(15,0)]),(1008,[(7,0),(13,0),(14,0),(15,0),(34,0)]),(1010,[(4,0),(13,0),(14,0),(15,0)]),(1011,[(4,0),(13,0),(14,0),(15,0)]),(4008,[])] Tryz.func29 ?_
 simp only [Tryz.f29]
 refine sA ?_
 refine zki h (λ h _=>sA ?_) (λ h _=>sA ?_)
 ·cases h
  exact zkc ⟨[(2,(.os 0 2 0 (([]:List zkv).length) (([]:List zkv).length) false)),(3,(B false))],[(0,some (true,.arr false 2 (([]:List zkv).map zkT)))],1,38⟩ [none]
 ·obtain ⟨y0,hl2,h⟩:=zj7 h
  refine zky (λ g0:zfG=>⟨[(4,(.os 0 2 0 g0.c0.length g0.c0.length false)),(13,(.lf true (.sl (a0.map zko)))),(14,(I ((a0.length:Nat):Int))),(15,(I g0.t15))],[(0,some (true,.arr false 2 (g0.c0.map zkT)))],1,38⟩) (zcP a0) _ _ hl2 (zkg [some 0]) ?_
  ·intro n1 g0 z1 hs1 hk1
   unfold zcP at hs1
   try dsimp only at hs1
   refine sA ?_
   refine zki hs1 (λ hs1 _=>sA ?_) (λ hs1 _=>sA ?_)
   ·obtain ⟨hp4,hs1⟩:=zj8 hs1
    have hn4:g0.t15.toNat < a0.length:=by first|omega|(simp;omega)
    refine sA ?_
    refine zkw ?_
    obtain ⟨c0,hr5,hs1⟩:=zj7 hs1
    refine zkj (zjy hr5) (sA ?_)
    obtain ⟨p0,hq6,hs1⟩:=zj7 hs1
    refine zkC (λ s2=>s2=⟨[(7,(.os 0 2 0 c0.1.length c0.1.length false)),(13,(.lf true (.sl (a0.map zko)))),(14,(I ((a0.length:Nat):Int))),(15,(I g0.t15)),(34,(B p0.t34))],[(0,some (true,.arr false 2 (c0.1.map zkT)))],1,38⟩) ?_ ?_
    ·refine sA ?_
     refine zkt hq6 (λ hq6 _=>sA ?_) (λ hq6 _=>sA ?_)
     ·cases hq6
      exact zkp rfl (zkg [some 2])
     ·obtain ⟨c1,hr8,hq6⟩:=zj7 hq6
      refine zkj (zhs hr8) (sA ?_)
      cases hq6
      exact zkp rfl (zkg [some 2])
    ·intro s2 hJ;subst hJ
     try dsimp only at hs1
     refine sA ?_
     refine zki hs1 (λ hs1 _=>sA ?_) (λ hs1 _=>sA ?_)
     ·cases hs1
      cases hk1
      try dsimp only at h
      refine sA ?_
      cases h
      exact zkc ⟨[(2,(.os 0 2 0 (([]:List zkv).length) (([]:List zkv).length) false)),(3,(B false))],[(0,some (true,.arr false 2 (([]:List zkv).map zkT)))],1,38⟩ [none]
     ·cases hs1
      exact zkr hk1 (zkg [some 0])
   ·cases hs1
    cases hk1
    try dsimp only at h
    refine sA ?_
    cases h
    exact zkc ⟨[(2,(.os 0 2 0 g0.c0.length g0.c0.length false)),(3,(B true))],[(0,some (true,.arr false 2 (g0.c0.map zkT)))],1,38⟩ [some 0]
theorem zjg {a0:(List zkv)} {a1:Int} {a2:Int} {r:(List zkv)} (h:ze2 a0 a1 a2=some r):Fn Tryz.prog 86 [(.lf true (.sl (a0.map zkT))),(I a1),(I a2)] [] 0 (.os 0 2 0 r.length r.length false) [(0,some (true,.arr false 2 (r.map zkT)))] 1:=by
 unfold ze2 at h
 refine fc [(1000,[(0,0),(1,0),(2,0)]),(1001,[(1,0),(2,0),(7,0)]),(1002,[(1,0),(2,0),(7,0),(8,0)]),(1003,[(1,0),(2,0),(7,0),(8,0),(25,0)]),(1004,[(7,0)]),(4003,[])] Tryz.func86 ?_
 simp only [Tryz.f86]
 refine sA ?_
 obtain ⟨hp1,h⟩:=zj8 h
 refine sA ?_
 refine zkw ?_
 obtain ⟨p0,hq2,h⟩:=zj7 h
 refine zkC (λ s2=>s2=⟨[(1,(I a1)),(2,(I a2)),(7,(.os 0 2 0 a0.length a0.length false)),(8,(I (wI (((a0.length:Nat):Int) - 1)))),(25,(B p0.t25))],[(0,some (true,.arr true 2 ((([])++a0).map zkT)))],1,38⟩) ?_ ?_
 ·refine sA ?_
  refine zkt hq2 (λ hq2 _=>sA ?_) (λ hq2 _=>sA ?_)
  ·obtain ⟨hp4,hq2⟩:=zj8 hq2
   have hn4:(wI (((a0.length:Nat):Int) - 1)).toNat < a0.length:=by first|omega|(simp;omega)
   refine sA ?_
   refine zkw ?_
   refine zpp (sA ?_)
   cases hq2
   exact zkp rfl (zkg [some 1])
  ·cases hq2
   exact zkp rfl (zkg [some 1])
 ·intro s2 hJ;subst hJ
  try dsimp only at h
  refine sA ?_
  refine zki h (λ h _=>sA ?_) (λ h _=>sA ?_)
  ·obtain ⟨hp7,h⟩:=zj8 h
   have hn7:(wI (((a0.length:Nat):Int) - 1)).toNat < a0.length:=by first|omega|(simp;omega)
   refine sA ?_
   refine zkw ?_
   refine zpp (sA ?_)
   cases h
   exact zkc ⟨[(6,(.os 0 2 0 (((([])++a0).set ((wI (((a0.length:Nat):Int) - 1)).toNat) (⟨a1,(nth (([])++a0) ((wI (((a0.length:Nat):Int) - 1)).toNat)).fVe⟩:zkv)).length) (((([])++a0).set ((wI (((a0.length:Nat):Int) - 1)).toNat) (⟨a1,(nth (([])++a0) ((wI (((a0.length:Nat):Int) - 1)).toNat)).fVe⟩:zkv)).length) false))],[(0,some (true,.arr false 2 (((([])++a0).set ((wI (((a0.length:Nat):Int) - 1)).toNat) (⟨a1,(nth (([])++a0) ((wI (((a0.length:Nat):Int) - 1)).toNat)).fVe⟩:zkv)).map zkT)))],1,38⟩ [some 0]
  ·obtain ⟨hp9,h⟩:=zj8 h
   refine sA ?_
   refine zkw ?_
   cases h
   exact zkc ⟨[(6,(.os 0 2 0 (((([])++a0)++([(⟨a1,a2⟩:zkv)])).length) (((([])++a0)++([(⟨a1,a2⟩:zkv)])).length) false))],[(0,some (true,.arr false 2 (((([])++a0)++([(⟨a1,a2⟩:zkv)])).map zkT)))],1,38⟩ [some 2]
theorem zjh {a0:(List zkv)} {r:Bool} (h:ze3 a0=some r):Fn Tryz.prog 87 [(.lf true (.sl (a0.map zkT)))] [] 0 (B r) [] 0:=by
 unfold ze3 at h
 refine fc [(1000,[(0,0)]),(1001,[(0,0),(5,0),(6,0),(7,0)]),(1002,[(0,0),(5,0),(6,0),(7,0),(8,0)]),(1003,[(0,0),(3,0),(4,0),(5,0),(6,0),(7,0)]),(1004,[(0,0),(5,0),(6,0),(7,0),(47,0)]),(1006,[(0,0),(5,0),(6,0),(7,0)]),(4004,[])] Tryz.func87 ?_
 simp only [Tryz.f87]
 refine sA ?_
 obtain ⟨y0,hl1,h⟩:=zj7 h
 refine zky (λ g0:zeF=>⟨[(0,(.lf true (.sl (a0.map zkT)))),(5,(.lf true (.sl (a0.map zkT)))),(6,(I ((a0.length:Nat):Int))),(7,(I g0.t7))],[],0,52⟩) (zbY a0) _ _ hl1 (zkg []) ?_
 ·intro n1 g0 z1 hs1 hk1
  unfold zbY at hs1
  try dsimp only at hs1
  refine sA ?_
  refine zki hs1 (λ hs1 _=>sA ?_) (λ hs1 _=>sA ?_)
  ·obtain ⟨hp3,hs1⟩:=zj8 hs1
   have hn3:g0.t7.toNat < a0.length:=by first|omega|(simp;omega)
   refine sA ?_
   refine zkw ?_
   obtain ⟨p0,hq4,hs1⟩:=zj7 hs1
   refine zkC (λ s2=>s2=⟨[(0,(.lf true (.sl (a0.map zkT)))),(5,(.lf true (.sl (a0.map zkT)))),(6,(I ((a0.length:Nat):Int))),(7,(I g0.t7)),(47,(B p0.t47))],[],0,52⟩) ?_ ?_
   ·refine sA ?_
    obtain ⟨c0,hr5,hq4⟩:=zj7 hq4
    refine zkj (zab hr5) (sA ?_)
    refine zkt hq4 (λ hq4 _=>sA ?_) (λ hq4 _=>sA ?_)
    ·cases hq4
     exact zkp rfl (zkg [])
    ·obtain ⟨c1,hr7,hq4⟩:=zj7 hq4
     refine zkj (zab hr7) (sA ?_)
     refine zkt hq4 (λ hq4 _=>sA ?_) (λ hq4 _=>sA ?_)
     ·cases hq4
      exact zkp rfl (zkg [])
     ·refine zkt hq4 (λ hq4 _=>sA ?_) (λ hq4 _=>sA ?_)
      ·obtain ⟨hp10,hq4⟩:=zj8 hq4
       have hn10:(wI (g0.t7 - 1)).toNat < a0.length:=by first|omega|(simp;omega)
       refine sA ?_
       refine zkw ?_
       refine zkt hq4 (λ hq4 _=>sA ?_) (λ hq4 _=>sA ?_)
       ·cases hq4
        exact zkp rfl (zkg [])
       ·obtain ⟨hp12,hq4⟩:=zj8 hq4
        have hn12:(wI (g0.t7 - 1)).toNat < a0.length:=by first|omega|(simp;omega)
        refine sA ?_
        refine zkw ?_
        cases hq4
        exact zkp rfl (zkg [])
      ·cases hq4
       exact zkp rfl (zkg [])
   ·intro s2 hJ;subst hJ
    try dsimp only at hs1
    refine sA ?_
    refine zki hs1 (λ hs1 _=>sA ?_) (λ hs1 _=>sA ?_)
    ·cases hs1
     cases hk1
     try dsimp only at h
     refine sA ?_
     have he:=oi h
     subst he
     exact zkc ⟨[(2,(B false))],[],0,52⟩ []
    ·cases hs1
     exact zkr hk1 (zkg [])
  ·cases hs1
   cases hk1
   try dsimp only at h
   refine sA ?_
   cases h
   exact zkc ⟨[(2,(B (decide (((a0.length:Nat):Int)≤20))))],[],0,52⟩ []
theorem zjJ {a0:(List zka)} {r:((List zkv)×Bool)} (h:zfS a0=some r):Fn Tryz.prog 30 [(.lf true (.sl (a0.map zko)))] [] 0 (.tu [(.os 0 2 0 r.1.length r.1.length false),(B r.2)]) [(0,some (true,.arr false 2 (r.1.map zkT)))] 1:=by
 unfold zfS at h
 refine fc [(1000,[(0,0)]),(1001,[(0,0),(4,0)]),(1002,[(0,0),(4,0),(7,0),(8,0),(9,0)]),(1003,[(0,0),(4,0),(7,0),(8,0),(9,0),(10,0)]),(1004,[(0,0),(4,0),(5,0),(6,0),(7,0),(8,0),(9,0)]),(1005,[(0,0),(4,0),(6,0),(7,0),(8,0),(9,0),(38,0)]),(1007,[(0,0),(4,0),(7,0),(8,0),(9,0)]),(1008,[(0,0),(4,0),(7,0),(8,0),(9,0)]),(1009,[(4,0),(53,0)]),(4005,[]),(4009,[])] Tryz.func30 ?_
 simp only [Tryz.f30]
 refine sA ?_
 obtain ⟨y0,hl1,h⟩:=zj7 h
 refine zky (λ g0:zfH=>⟨[(0,(.lf true (.sl (a0.map zko)))),(4,(.os 0 2 0 g0.c0.length g0.c0.length false)),(7,(.lf true (.sl (a0.map zko)))),(8,(I ((a0.length:Nat):Int))),(9,(I g0.t9))],[(0,some (true,.arr false 2 (g0.c0.map zkT)))],1,55⟩) (zcQ a0) _ _ hl1 (zkg [none]) ?_
 ·intro n1 g0 z1 hs1 hk1
  unfold zcQ at hs1
  try dsimp only at hs1
  refine sA ?_
  refine zki hs1 (λ hs1 _=>sA ?_) (λ hs1 _=>sA ?_)
  ·obtain ⟨hp3,hs1⟩:=zj8 hs1
   have hn3:g0.t9.toNat < a0.length:=by first|omega|(simp;omega)
   refine sA ?_
   refine zkw ?_
   obtain ⟨p0,hq4,hs1⟩:=zj7 hs1
   refine zkC (λ s2=>s2=⟨[(0,(.lf true (.sl (a0.map zko)))),(4,(.os 0 2 0 g0.c0.length g0.c0.length false)),(6,(.pb 1 0)),(7,(.lf true (.sl (a0.map zko)))),(8,(I ((a0.length:Nat):Int))),(9,(I g0.t9)),(38,(B p0.t38))],[(0,some (true,.arr false 2 (g0.c0.map zkT))),(1,some (true,.box [(I ((nth a0 g0.t9.toNat).Id)),(I ((nth a0 g0.t9.toNat).fVe)),(I ((nth a0 g0.t9.toNat).Kind)),(.lf false (.sc (.string ((nth a0 g0.t9.toNat).Name))))]))],2,55⟩) ?_ ?_
   ·refine sA ?_
    obtain ⟨c0,hr5,hq4⟩:=zj7 hq4
    refine zkj (zhy hr5) (sA ?_)
    refine zkt hq4 (λ hq4 _=>sA ?_) (λ hq4 _=>sA ?_)
    ·cases hq4
     exact zkp rfl (zkg [some 0,some 1])
    ·refine zkt hq4 (λ hq4 _=>sA ?_) (λ hq4 _=>sA ?_)
     ·cases hq4
      exact zkp rfl (zkg [some 0,some 1])
     ·refine zkt hq4 (λ hq4 _=>sA ?_) (λ hq4 _=>sA ?_)
      ·obtain ⟨hp9,hq4⟩:=zj8 hq4
       have hn9:(wI (g0.t9 - 1)).toNat < a0.length:=by first|omega|(simp;omega)
       refine sA ?_
       refine zkw ?_
       cases hq4
       exact zkp rfl (zkg [some 0,some 1])
      ·cases hq4
       exact zkp rfl (zkg [some 0,some 1])
   ·intro s2 hJ;subst hJ
    try dsimp only at hs1
    refine sA ?_
    refine zki hs1 (λ hs1 _=>sA ?_) (λ hs1 _=>sA ?_)
    ·cases hs1
     cases hk1
     try dsimp only at h
     refine sA ?_
     cases h
     exact zkc ⟨[(2,(.os 0 2 0 (([]:List zkv).length) (([]:List zkv).length) false)),(3,(B false))],[(0,some (true,.arr false 2 (([]:List zkv).map zkT)))],1,55⟩ [none]
    ·obtain ⟨c1,hr11,hs1⟩:=zj7 hs1
     refine zkj (zjg hr11) (sA ?_)
     cases hs1
     exact zkr hk1 (zkg [some 2])
  ·cases hs1
   cases hk1
   try dsimp only at h
   refine sA ?_
   obtain ⟨p1,hq12,h⟩:=zj7 h
   refine zkC (λ s2=>s2=⟨[(4,(.os 0 2 0 g0.c0.length g0.c0.length false)),(53,(B p1.t53))],[(0,some (true,.arr false 2 (g0.c0.map zkT)))],1,55⟩) ?_ ?_
   ·refine sA ?_
    refine zkt hq12 (λ hq12 _=>sA ?_) (λ hq12 _=>sA ?_)
    ·cases hq12
     exact zkp rfl (zkg [some 0])
    ·obtain ⟨c2,hr14,hq12⟩:=zj7 hq12
     refine zkj (zjh hr14) (sA ?_)
     cases hq12
     exact zkp rfl (zkg [some 0])
   ·intro s2 hJ;subst hJ
    try dsimp only at h
    refine sA ?_
    refine zki h (λ h _=>sA ?_) (λ h _=>sA ?_)
    ·cases h
     exact zkc ⟨[(2,(.os 0 2 0 (([]:List zkv).length) (([]:List zkv).length) false)),(3,(B false))],[(0,some (true,.arr false 2 (([]:List zkv).map zkT)))],1,55⟩ [none]
    ·cases h
     exact zkc ⟨[(2,(.os 0 2 0 g0.c0.length g0.c0.length false)),(3,(B true))],[(0,some (true,.arr false 2 (g0.c0.map zkT)))],1,55⟩ [some 0]
theorem zh8 {a0:zkv} {a1:Int} {r:Bool} (h:zdL a0 a1=some r):Fn Tryz.prog 160 [(.ag [(I a0.Upto),(I a0.fVe)]),(.ra true [.sc (.int .i64 a1)])] [] 0 (B r) [] 0:=by
 unfold zdL at h
 refine fc [] Tryz.func160 ?_
 simp only [Tryz.f160]
 refine sA ?_
 cases h
 exact zkc ⟨[(3,(B (decide (a0.Upto ≥ a1))))],[],0,8⟩ []
theorem zdP {a0:(List zkv)} {a1:Int} {r:Int} (h:zD a0 a1=some r):Fn Tryz.prog 159 [(.lf true (.sl (a0.map zkT))),(.fn 160 [(.ra true [.sc (.int .i64 a1)])])] [] 0 (I r) [] 0:=by
 unfold zD at h
 refine fc [(1000,[(0,0),(1,0)]),(1001,[(0,0),(1,0),(7,0),(8,0)]),(1002,[(0,0),(1,0),(7,0),(8,0),(9,0)]),(1003,[(0,0),(1,0),(5,0),(7,0),(8,0)]),(1004,[(0,0),(1,0),(5,0),(7,0),(8,0),(16,0)]),(1006,[(0,0),(1,0),(7,0),(8,0)])] Tryz.func159 ?_
 simp only [Tryz.f159]
 refine sA ?_
 obtain ⟨y0,hl1,h⟩:=zj7 h
 refine zky (λ g0:zu=>⟨[(0,(.lf true (.sl (a0.map zkT)))),(1,(.fn 160 [(.ra true [.sc (.int .i64 a1)])])),(7,(I ((a0.length:Nat):Int))),(8,(I g0.t8))],[],0,19⟩) (zd a0 a1) _ _ hl1 (zkg []) ?_
 ·intro n1 g0 z1 hs1 hk1
  unfold zd at hs1
  try dsimp only at hs1
  refine sA ?_
  refine zki hs1 (λ hs1 _=>sA ?_) (λ hs1 _=>sA ?_)
  ·obtain ⟨hp3,hs1⟩:=zj8 hs1
   have hn3:g0.t8.toNat < a0.length:=by first|omega|(simp;omega)
   refine sA ?_
   refine zkw ?_
   obtain ⟨c0,hr4,hs1⟩:=zj7 hs1
   refine zkj (zh8 hr4) (sA ?_)
   refine zki hs1 (λ hs1 _=>sA ?_) (λ hs1 _=>sA ?_)
   ·cases hs1
    cases hk1
    try dsimp only at h
    refine sA ?_
    cases h
    exact zkc ⟨[(4,(I g0.t8))],[],0,19⟩ []
   ·cases hs1
    exact zkr hk1 (zkg [])
  ·cases hs1
   cases hk1
   try dsimp only at h
   refine sA ?_
   cases h
   exact zkc ⟨[(4,(I (-1)))],[],0,19⟩ []
theorem zgs {a0:(List zkv)} {a1:Int} {r:Int} (h:zcn a0 a1=some r):Fn Tryz.prog 90 [(.lf true (.sl (a0.map zkT))),(I a1)] [] 0 (I r) [] 0:=by
 unfold zcn at h
 refine fc [] Tryz.func90 ?_
 simp only [Tryz.f90]
 refine sA ?_
 obtain ⟨c0,hr1,h⟩:=zj7 h
 refine zkj (zdP hr1) (sA ?_)
 obtain ⟨hp2,h⟩:=zj8 h
 have hn2:c0.toNat < a0.length:=by first|omega|(simp;omega)
 refine sA ?_
 refine zkw ?_
 cases h
 exact zkc ⟨[(4,(I ((nth a0 c0.toNat).fVe)))],[],0,12⟩ []
theorem zjR {a0:(List zkv)} {a1:(List zkv)} {r:Int} (h:zgh a0 a1=some r):Fn Tryz.prog 89 [(.lf true (.sl (a0.map zkT))),(.lf true (.sl (a1.map zkT)))] [] 0 (I r) [] 0:=by
 unfold zgh at h
 refine fc [(1000,[(0,0),(1,0)]),(1001,[(0,0),(1,0),(5,0)]),(1002,[(0,0),(1,0),(5,0),(23,0)]),(1003,[(0,0),(1,0),(5,0)])] Tryz.func89 ?_
 simp only [Tryz.f89]
 refine sA ?_
 obtain ⟨y0,hl1,h⟩:=zj7 h
 refine zky (λ g0:zf4=>⟨[(0,(.lf true (.sl (a0.map zkT)))),(1,(.lf true (.sl (a1.map zkT)))),(5,(I g0.t5))],[],0,27⟩) (zdl a0 a1) _ _ hl1 (zkg []) ?_
 ·intro n1 g0 z1 hs1 hk1
  unfold zdl at hs1
  try dsimp only at hs1
  refine sA ?_
  obtain ⟨c0,hr2,hs1⟩:=zj7 hs1
  refine zkj (zhW hr2) (sA ?_)
  obtain ⟨c1,hr3,hs1⟩:=zj7 hs1
  refine zkj (zhW hr3) (sA ?_)
  refine zkt hs1 (λ hs1 _=>sA ?_) (λ hs1 _=>sA ?_)
  ·obtain ⟨c2,hr5,hs1⟩:=zj7 hs1
   refine zkj (zgs hr5) (sA ?_)
   obtain ⟨c3,hr6,hs1⟩:=zj7 hs1
   refine zkj (zgs hr6) (sA ?_)
   refine zki hs1 (λ hs1 _=>sA ?_) (λ hs1 _=>sA ?_)
   ·cases hs1
    exact zkr hk1 (zkg [])
   ·cases hs1
    cases hk1
    try dsimp only at h
    refine sA ?_
    cases h
    exact zkc ⟨[(4,(I g0.t5))],[],0,27⟩ []
  ·cases hs1
   cases hk1
   try dsimp only at h
   refine sA ?_
   cases h
   exact zkc ⟨[(4,(I g0.t5))],[],0,27⟩ []
theorem zjX {a0:(List zkv)} {a1:(List zkv)} {r:(zkv×Bool)} (h:zgE a0 a1=some r):Fn Tryz.prog 31 [(.lf true (.sl (a0.map zkT))),(.lf true (.sl (a1.map zkT)))] [] 0 (.tu [(.ag [(I r.1.Upto),(I r.1.fVe)]),(B r.2)]) [] 1:=by
 unfold zgE at h
 refine fc [(1000,[(0,0),(1,0),(4,0)]),(1001,[(0,0),(1,0),(4,0),(14,0)]),(1003,[(0,0),(4,0),(6,0)]),(1004,[(0,0),(4,0),(6,0),(20,0)]),(4001,[])] Tryz.func31 ?_
 simp only [Tryz.f31]
 refine sA ?_
 obtain ⟨p0,hq1,h⟩:=zj7 h
 refine zkC (λ s2=>s2=⟨[(0,(.lf true (.sl (a0.map zkT)))),(1,(.lf true (.sl (a1.map zkT)))),(4,(.pb 0 0)),(14,(B p0.t14))],[(0,some (true,.box [(I 0),(I 0)]))],1,27⟩) ?_ ?_
 ·refine sA ?_
  obtain ⟨c0,hr2,hq1⟩:=zj7 hq1
  refine zkj (zfj hr2) (sA ?_)
  refine zkt hq1 (λ hq1 _=>sA ?_) (λ hq1 _=>sA ?_)
  ·cases hq1
   exact zkp rfl (zkg [some 0])
  ·obtain ⟨c1,hr4,hq1⟩:=zj7 hq1
   refine zkj (zfj hr4) (sA ?_)
   cases hq1
   exact zkp rfl (zkg [some 0])
 ·intro s2 hJ;subst hJ
  try dsimp only at h
  refine sA ?_
  refine zki h (λ h _=>sA ?_) (λ h _=>sA ?_)
  ·cases h
   exact zkc ⟨[(4,(.pb 0 0)),(5,(B false))],[(0,some (true,.box [(I 0),(I 0)]))],1,27⟩ [some 0]
  ·obtain ⟨c2,hr6,h⟩:=zj7 h
   refine zkj (zjR hr6) (sA ?_)
   refine zki h (λ h _=>sA ?_) (λ h _=>sA ?_)
   ·cases h
    exact zkc ⟨[(4,(.pb 0 0)),(5,(B false))],[(0,some (true,.box [(I 0),(I 0)]))],1,27⟩ [some 0]
   ·obtain ⟨c3,hr8,h⟩:=zj7 h
    refine zkj (zgs hr8) (sA ?_)
    cases h
    exact zkc ⟨[(4,(.pb 0 0)),(5,(B true))],[(0,some (true,.box [(I c2),(I c3)]))],1,27⟩ [some 0]
theorem zjS {a0:(List zka)} {a1:(List zka)} {r:Int} (h:zge a0 a1=some r):Fn Tryz.prog 92 [(.lf true (.sl (a0.map zko))),(.lf true (.sl (a1.map zko)))] [] 0 (I r) [] 0:=by
 unfold zge at h
 refine fc [(1000,[(0,0),(1,0)]),(1001,[(0,0),(1,0),(5,0)]),(1002,[(0,0),(1,0),(5,0),(23,0)]),(1003,[(0,0),(1,0),(5,0)])] Tryz.func92 ?_
 simp only [Tryz.f92]
 refine sA ?_
 obtain ⟨y0,hl1,h⟩:=zj7 h
 refine zky (λ g0:zfZ=>⟨[(0,(.lf true (.sl (a0.map zko)))),(1,(.lf true (.sl (a1.map zko)))),(5,(I g0.t5))],[],0,27⟩) (zde a0 a1) _ _ hl1 (zkg []) ?_
 ·intro n1 g0 z1 hs1 hk1
  unfold zde at hs1
  try dsimp only at hs1
  refine sA ?_
  refine zkt hs1 (λ hs1 _=>sA ?_) (λ hs1 _=>sA ?_)
  ·obtain ⟨hp3,hs1⟩:=zj8 hs1
   have hn3:g0.t5.toNat < a0.length:=by first|omega|(simp;omega)
   refine sA ?_
   refine zkw ?_
   obtain ⟨hp4,hs1⟩:=zj8 hs1
   have hn4:g0.t5.toNat < a1.length:=by first|omega|(simp;omega)
   refine sA ?_
   refine zkw ?_
   first | refine And.intro ⟨by kernel_rfl,by kernel_rfl,by kernel_rfl⟩ ?_ | skip
   refine sA ?_
   refine zki hs1 (λ hs1 _=>sA ?_) (λ hs1 _=>sA ?_)
   ·cases hs1
    exact zkr hk1 (zkg [])
   ·cases hs1
    cases hk1
    try dsimp only at h
    refine sA ?_
    cases h
    exact zkc ⟨[(4,(I g0.t5))],[],0,27⟩ []
  ·cases hs1
   cases hk1
   try dsimp only at h
   refine sA ?_
   cases h
   exact zkc ⟨[(4,(I g0.t5))],[],0,27⟩ []
theorem zjT {a0:(List zka)} {a1:(List zka)} {r:(Int×Bool)} (h:zgf a0 a1=some r):Fn Tryz.prog 32 [(.lf true (.sl (a0.map zko))),(.lf true (.sl (a1.map zko)))] [] 0 (.tu [(I r.1),(B r.2)]) [] 0:=by
 unfold zgf at h
 refine fc [(1000,[(0,0),(1,0)]),(1001,[(0,0),(1,0),(23,0)]),(4001,[])] Tryz.func32 ?_
 simp only [Tryz.f32]
 refine sA ?_
 obtain ⟨p0,hq1,h⟩:=zj7 h
 refine zkC (λ s2=>s2=⟨[(0,(.lf true (.sl (a0.map zko)))),(1,(.lf true (.sl (a1.map zko)))),(23,(B p0.t23))],[],0,27⟩) ?_ ?_
 ·refine sA ?_
  refine zkt hq1 (λ hq1 _=>sA ?_) (λ hq1 _=>sA ?_)
  ·cases hq1
   exact zkp rfl (zkg [])
  ·refine zkt hq1 (λ hq1 _=>sA ?_) (λ hq1 _=>sA ?_)
   ·cases hq1
    exact zkp rfl (zkg [])
   ·obtain ⟨c0,hr4,hq1⟩:=zj7 hq1
    refine zkj (zgr hr4) (sA ?_)
    refine zkt hq1 (λ hq1 _=>sA ?_) (λ hq1 _=>sA ?_)
    ·cases hq1
     exact zkp rfl (zkg [])
    ·obtain ⟨c1,hr6,hq1⟩:=zj7 hq1
     refine zkj (zgr hr6) (sA ?_)
     cases hq1
     exact zkp rfl (zkg [])
 ·intro s2 hJ;subst hJ
  try dsimp only at h
  refine sA ?_
  refine zki h (λ h _=>sA ?_) (λ h _=>sA ?_)
  ·cases h
   exact zkc ⟨[(4,(I 0)),(5,(B false))],[],0,27⟩ []
  ·obtain ⟨c2,hr8,h⟩:=zj7 h
   refine zkj (zjS hr8) (sA ?_)
   cases h
   exact zkc ⟨[(4,(I c2)),(5,(B true))],[],0,27⟩ []
theorem zh9 {a0:zka} {a1:Int} {r:Bool} (h:zdF a0 a1=some r):Fn Tryz.prog 126 [(.ag [(I a0.Id),(I a0.fVe),(I a0.Kind),(.lf false (.sc (.string a0.Name)))]),(.ra true [.sc (.int .i64 a1)])] [] 0 (B r) [] 0:=by
 unfold zdF at h
 refine fc [] Tryz.func126 ?_
 simp only [Tryz.f126]
 refine sA ?_
 cases h
 exact zkc ⟨[(3,(B (decide (a0.fVe > a1))))],[],0,8⟩ []
theorem zdC {a0:(List zka)} {a1:Int} {r:Int} (h:zy a0 a1=some r):Fn Tryz.prog 173 [(.lf true (.sl (a0.map zko))),(.fn 126 [(.ra true [.sc (.int .i64 a1)])])] [] 0 (I r) [] 0:=by
 unfold zy at h
 refine fc [(1000,[(0,0),(1,0)]),(1001,[(0,0),(1,0),(7,0),(8,0)]),(1002,[(0,0),(1,0),(7,0),(8,0),(9,0)]),(1003,[(0,0),(1,0),(5,0),(7,0),(8,0)]),(1004,[(0,0),(1,0),(5,0),(7,0),(8,0),(16,0)]),(1006,[(0,0),(1,0),(7,0),(8,0)])] Tryz.func173 ?_
 simp only [Tryz.f173]
 refine sA ?_
 obtain ⟨y0,hl1,h⟩:=zj7 h
 refine zky (λ g0:zr=>⟨[(0,(.lf true (.sl (a0.map zko)))),(1,(.fn 126 [(.ra true [.sc (.int .i64 a1)])])),(7,(I ((a0.length:Nat):Int))),(8,(I g0.t8))],[],0,19⟩) (zb a0 a1) _ _ hl1 (zkg []) ?_
 ·intro n1 g0 z1 hs1 hk1
  unfold zb at hs1
  try dsimp only at hs1
  refine sA ?_
  refine zki hs1 (λ hs1 _=>sA ?_) (λ hs1 _=>sA ?_)
  ·obtain ⟨hp3,hs1⟩:=zj8 hs1
   have hn3:g0.t8.toNat < a0.length:=by first|omega|(simp;omega)
   refine sA ?_
   refine zkw ?_
   obtain ⟨c0,hr4,hs1⟩:=zj7 hs1
   refine zkj (zh9 hr4) (sA ?_)
   refine zki hs1 (λ hs1 _=>sA ?_) (λ hs1 _=>sA ?_)
   ·cases hs1
    cases hk1
    try dsimp only at h
    refine sA ?_
    cases h
    exact zkc ⟨[(4,(I g0.t8))],[],0,19⟩ []
   ·cases hs1
    exact zkr hk1 (zkg [])
  ·cases hs1
   cases hk1
   try dsimp only at h
   refine sA ?_
   cases h
   exact zkc ⟨[(4,(I (-1)))],[],0,19⟩ []
theorem zcW {a0:(List zka)} {a1:Int} {r:Bool} (h:zj a0 a1=some r):Fn Tryz.prog 125 [(.lf true (.sl (a0.map zko))),(.fn 126 [(.ra true [.sc (.int .i64 a1)])])] [] 0 (B r) [] 0:=by
 unfold zj at h
 refine fc [] Tryz.func125 ?_
 simp only [Tryz.f125]
 refine sA ?_
 obtain ⟨c0,hr1,h⟩:=zj7 h
 refine zkj (zdC hr1) (sA ?_)
 cases h
 exact zkc ⟨[(4,(B (decide (c0 ≥ 0))))],[],0,9⟩ []
theorem ziF {a0:zkd} {a1:Int} {r:Bool} (h:zfa a0 a1=some r):Fn Tryz.prog 124 [(.ag [(.lf true (.sl (a0.fEv.map zko)))]),(.ra true [.sc (.int .i64 a1)])] [] 0 (B r) [] 0:=by
 unfold zfa at h
 refine fc [] Tryz.func124 ?_
 simp only [Tryz.f124]
 refine sA ?_
 obtain ⟨c0,hr1,h⟩:=zj7 h
 refine zkj (zcW hr1) (sA ?_)
 have he:=oi h
 subst he
 exact zkc ⟨[(3,(B c0))],[],0,8⟩ []
theorem zdS {a0:(List zkd)} {a1:Int} {r:Int} (h:zG a0 a1=some r):Fn Tryz.prog 135 [(.lf true (.sl (a0.map zkf))),(.fn 124 [(.ra true [.sc (.int .i64 a1)])])] [] 0 (I r) [] 0:=by
 unfold zG at h
 refine fc [(1000,[(0,0),(1,0)]),(1001,[(0,0),(1,0),(7,0),(8,0)]),(1002,[(0,0),(1,0),(7,0),(8,0),(9,0)]),(1003,[(0,0),(1,0),(5,0),(7,0),(8,0)]),(1004,[(0,0),(1,0),(5,0),(7,0),(8,0),(16,0)]),(1006,[(0,0),(1,0),(7,0),(8,0)])] Tryz.func135 ?_
 simp only [Tryz.f135]
 refine sA ?_
 obtain ⟨y0,hl1,h⟩:=zj7 h
 refine zky (λ g0:zv=>⟨[(0,(.lf true (.sl (a0.map zkf)))),(1,(.fn 124 [(.ra true [.sc (.int .i64 a1)])])),(7,(I ((a0.length:Nat):Int))),(8,(I g0.t8))],[],0,19⟩) (ze a0 a1) _ _ hl1 (zkg []) ?_
 ·intro n1 g0 z1 hs1 hk1
  unfold ze at hs1
  try dsimp only at hs1
  refine sA ?_
  refine zki hs1 (λ hs1 _=>sA ?_) (λ hs1 _=>sA ?_)
  ·obtain ⟨hp3,hs1⟩:=zj8 hs1
   have hn3:g0.t8.toNat < a0.length:=by first|omega|(simp;omega)
   refine sA ?_
   refine zkw ?_
   obtain ⟨c0,hr4,hs1⟩:=zj7 hs1
   refine zkj (ziF hr4) (sA ?_)
   refine zki hs1 (λ hs1 _=>sA ?_) (λ hs1 _=>sA ?_)
   ·cases hs1
    cases hk1
    try dsimp only at h
    refine sA ?_
    cases h
    exact zkc ⟨[(4,(I g0.t8))],[],0,19⟩ []
   ·cases hs1
    exact zkr hk1 (zkg [])
  ·cases hs1
   cases hk1
   try dsimp only at h
   refine sA ?_
   cases h
   exact zkc ⟨[(4,(I (-1)))],[],0,19⟩ []
theorem zdm {a0:(List zkd)} {a1:Int} {r:Bool} (h:zm a0 a1=some r):Fn Tryz.prog 62 [(.lf true (.sl (a0.map zkf))),(.fn 124 [(.ra true [.sc (.int .i64 a1)])])] [] 0 (B r) [] 0:=by
 unfold zm at h
 refine fc [] Tryz.func62 ?_
 simp only [Tryz.f62]
 refine sA ?_
 obtain ⟨c0,hr1,h⟩:=zj7 h
 refine zkj (zdS hr1) (sA ?_)
 cases h
 exact zkc ⟨[(4,(B (decide (c0 ≥ 0))))],[],0,9⟩ []
theorem zil {a0:Int} {a1:zkh} {r:Bool} (h:zfs a0 a1=some r):Fn Tryz.prog 53 [(I a0),(.ag [(.lf true (.sl (a1.fBr.map zkf)))])] [] 0 (B r) [] 0:=by
 unfold zfs at h
 refine fc [(1000,[(2,0),(3,0)]),(1001,[(2,0),(3,0),(12,0)]),(4001,[])] Tryz.func53 ?_
 simp only [Tryz.f53]
 refine sA ?_
 obtain ⟨p0,hq1,h⟩:=zj7 h
 refine zkC (λ s2=>s2=⟨[(2,(.pb 0 0)),(3,(.pb 1 0)),(12,(B p0.t12))],[(0,some (true,.box [(I a0)])),(1,some (true,.box [(.lf true (.sl (a1.fBr.map zkf)))]))],2,18⟩) ?_ ?_
 ·refine sA ?_
  obtain ⟨c0,hr2,hq1⟩:=zj7 hq1
  refine zkj (zco hr2) (sA ?_)
  refine zkt hq1 (λ hq1 _=>sA ?_) (λ hq1 _=>sA ?_)
  ·cases hq1
   exact zkp rfl (zkg [some 0,some 1])
  ·obtain ⟨c1,hr4,hq1⟩:=zj7 hq1
   refine zkj (zfx hr4) (sA ?_)
   cases hq1
   exact zkp rfl (zkg [some 0,some 1])
 ·intro s2 hJ;subst hJ
  try dsimp only at h
  refine sA ?_
  refine zki h (λ h _=>sA ?_) (λ h _=>sA ?_)
  ·have he:=oi h
   subst he
   exact zkc ⟨[(4,(B false))],[],0,18⟩ []
  ·obtain ⟨c2,hr6,h⟩:=zj7 h
   refine zkj (zdm hr6) (sA ?_)
   cases h
   exact zkc ⟨[(4,(B (!c2)))],[],0,18⟩ []
theorem zi6 {a0:zkb} {r:Bool} (h:zcG a0=some r):Fn Tryz.prog 12 [(.ag [(I a0.Id),(I a0.fVe),(.lf true (.sl (a0.fTe.fBr.map zkf)))])] [] 0 (B r) [] 0:=by
 unfold zcG at h
 refine fc [] Tryz.func12 ?_
 simp only [Tryz.f12]
 refine sA ?_
 obtain ⟨c0,hr1,h⟩:=zj7 h
 refine zkj (zhL hr1) (sA ?_)
 refine zkt h (λ h _=>sA ?_) (λ h _=>sA ?_)
 ·obtain ⟨c1,hr3,h⟩:=zj7 h
  refine zkj (zil hr3) (sA ?_)
  have he:=oi h
  subst he
  exact zkc ⟨[(2,(B c1))],[],0,13⟩ []
 ·have he:=oi h
  subst he
  exact zkc ⟨[(2,(B false))],[],0,13⟩ []
theorem zip {a0:zkB} {r:Bool} (h:zeB a0=some r):Fn Tryz.prog 94 [(.ag [(I a0.To),(I a0.Word.fVe),(.lf true (.sl (a0.Word.fTe.fBr.map zkf)))])] [] 0 (B r) [] 0:=by
 unfold zeB at h
 refine fc [] Tryz.func94 ?_
 simp only [Tryz.f94]
 refine sA ?_
 obtain ⟨c0,hr1,h⟩:=zj7 h
 refine zkj (zhY hr1) (sA ?_)
 refine zkt h (λ h _=>sA ?_) (λ h _=>sA ?_)
 ·have he:=oi h
  subst he
  exact zkc ⟨[(2,(B true))],[],0,17⟩ []
 ·obtain ⟨c1,hr3,h⟩:=zj7 h
  refine zkj (zil hr3) (sA ?_)
  cases h
  exact zkc ⟨[(2,(B (!c1)))],[],0,17⟩ []
theorem zdT {a0:(List zkB)} {r:Int} (h:zH a0=some r):Fn Tryz.prog 162 [(.lf true (.sl (a0.map zkz))),(.fn 94 [])] [] 0 (I r) [] 0:=by
 unfold zH at h
 refine fc [(1000,[(0,0),(1,0)]),(1001,[(0,0),(1,0),(7,0),(8,0)]),(1002,[(0,0),(1,0),(7,0),(8,0),(9,0)]),(1003,[(0,0),(1,0),(5,0),(7,0),(8,0)]),(1004,[(0,0),(1,0),(5,0),(7,0),(8,0),(16,0)]),(1006,[(0,0),(1,0),(7,0),(8,0)])] Tryz.func162 ?_
 simp only [Tryz.f162]
 refine sA ?_
 obtain ⟨y0,hl1,h⟩:=zj7 h
 refine zky (λ g0:zw=>⟨[(0,(.lf true (.sl (a0.map zkz)))),(1,(.fn 94 [])),(7,(I ((a0.length:Nat):Int))),(8,(I g0.t8))],[],0,19⟩) (zf a0) _ _ hl1 (zkg []) ?_
 ·intro n1 g0 z1 hs1 hk1
  unfold zf at hs1
  try dsimp only at hs1
  refine sA ?_
  refine zki hs1 (λ hs1 _=>sA ?_) (λ hs1 _=>sA ?_)
  ·obtain ⟨hp3,hs1⟩:=zj8 hs1
   have hn3:g0.t8.toNat < a0.length:=by first|omega|(simp;omega)
   refine sA ?_
   refine zkw ?_
   obtain ⟨c0,hr4,hs1⟩:=zj7 hs1
   refine zkj (zip hr4) (sA ?_)
   refine zki hs1 (λ hs1 _=>sA ?_) (λ hs1 _=>sA ?_)
   ·cases hs1
    cases hk1
    try dsimp only at h
    refine sA ?_
    cases h
    exact zkc ⟨[(4,(I g0.t8))],[],0,19⟩ []
   ·cases hs1
    exact zkr hk1 (zkg [])
  ·cases hs1
   cases hk1
   try dsimp only at h
   refine sA ?_
   cases h
   exact zkc ⟨[(4,(I (-1)))],[],0,19⟩ []
theorem zdn {a0:(List zkB)} {r:Bool} (h:zn a0=some r):Fn Tryz.prog 93 [(.lf true (.sl (a0.map zkz))),(.fn 94 [])] [] 0 (B r) [] 0:=by
 unfold zn at h
 refine fc [] Tryz.func93 ?_
 simp only [Tryz.f93]
 refine sA ?_
 obtain ⟨c0,hr1,h⟩:=zj7 h
 refine zkj (zdT hr1) (sA ?_)
 cases h
 exact zkc ⟨[(4,(B (decide (c0 ≥ 0))))],[],0,9⟩ []
theorem zji {a0:zkn} {r:Bool} (h:zeU a0=some r):Fn Tryz.prog 33 [(.ag [(.lf true (.sl (a0.fRe.map zkl))),(.lf true (.sl (a0.Line.map zkz)))])] [] 0 (B r) [] 0:=by
 unfold zeU at h
 refine fc [(1000,[(1,0)]),(1001,[(1,0),(14,0)]),(1003,[(1,0),(16,0),(17,0),(18,0)]),(1004,[(1,0),(16,0),(17,0),(18,0),(19,0)]),(1005,[(1,0),(3,0),(4,0),(16,0),(17,0),(18,0)]),(1006,[(1,0),(16,0),(17,0),(18,0),(31,0)]),(1008,[(1,0),(16,0),(17,0),(18,0)]),(4001,[]),(4006,[])] Tryz.func33 ?_
 simp only [Tryz.f33]
 refine sA ?_
 obtain ⟨p0,hq1,h⟩:=zj7 h
 refine zkC (λ s2=>s2=⟨[(1,(.pb 0 0)),(14,(B p0.t14))],[(0,some (true,.box [(.lf true (.sl (a0.fRe.map zkl))),(.lf true (.sl (a0.Line.map zkz)))]))],1,37⟩) ?_ ?_
 ·refine sA ?_
  refine zkt hq1 (λ hq1 _=>sA ?_) (λ hq1 _=>sA ?_)
  ·cases hq1
   exact zkp rfl (zkg [some 0])
  ·cases hq1
   exact zkp rfl (zkg [some 0])
 ·intro s2 hJ;subst hJ
  try dsimp only at h
  refine sA ?_
  refine zki h (λ h _=>sA ?_) (λ h _=>sA ?_)
  ·have he:=oi h
   subst he
   exact zkc ⟨[(2,(B false))],[],0,37⟩ []
  ·obtain ⟨y0,hl4,h⟩:=zj7 h
   refine zky (λ g0:zeC=>⟨[(1,(.pb 0 0)),(16,(.lf true (.sl (a0.fRe.map zkl)))),(17,(I ((a0.fRe.length:Nat):Int))),(18,(I g0.t18))],[(0,some (true,.box [(.lf true (.sl (a0.fRe.map zkl))),(.lf true (.sl (a0.Line.map zkz)))]))],1,37⟩) (zbU a0) _ _ hl4 (zkg [some 0]) ?_
   ·intro n1 g0 z1 hs1 hk1
    unfold zbU at hs1
    try dsimp only at hs1
    refine sA ?_
    refine zki hs1 (λ hs1 _=>sA ?_) (λ hs1 _=>sA ?_)
    ·obtain ⟨hp6,hs1⟩:=zj8 hs1
     have hn6:g0.t18.toNat < a0.fRe.length:=by first|omega|(simp;omega)
     refine sA ?_
     refine zkw ?_
     obtain ⟨p1,hq7,hs1⟩:=zj7 hs1
     refine zkC (λ s2=>s2=⟨[(1,(.pb 0 0)),(16,(.lf true (.sl (a0.fRe.map zkl)))),(17,(I ((a0.fRe.length:Nat):Int))),(18,(I g0.t18)),(31,(B p1.t31))],[(0,some (true,.box [(.lf true (.sl (a0.fRe.map zkl))),(.lf true (.sl (a0.Line.map zkz)))]))],1,37⟩) ?_ ?_
     ·refine sA ?_
      refine zkt hq7 (λ hq7 _=>sA ?_) (λ hq7 _=>sA ?_)
      ·cases hq7
       exact zkp rfl (zkg [some 0])
      ·obtain ⟨c0,hr9,hq7⟩:=zj7 hq7
       refine zkj (zi6 hr9) (sA ?_)
       cases hq7
       exact zkp rfl (zkg [some 0])
     ·intro s2 hJ;subst hJ
      try dsimp only at hs1
      refine sA ?_
      refine zki hs1 (λ hs1 _=>sA ?_) (λ hs1 _=>sA ?_)
      ·cases hs1
       cases hk1
       try dsimp only at h
       refine sA ?_
       have he:=oi h
       subst he
       exact zkc ⟨[(2,(B false))],[],0,37⟩ []
      ·cases hs1
       exact zkr hk1 (zkg [some 0])
    ·cases hs1
     cases hk1
     try dsimp only at h
     refine sA ?_
     obtain ⟨c1,hr11,h⟩:=zj7 h
     refine zkj (zdn hr11) (sA ?_)
     cases h
     exact zkc ⟨[(2,(B (!c1)))],[],0,37⟩ []
end Go.TL.YteonagfnhdlfcaaGreatDoor

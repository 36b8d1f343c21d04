import Derived.Test.YteonagfnhdlfcaaGreatDoorTlTabr6zD
import Derived.Test.YteonagfnhdlfcaaGreatDoorG30EnR1
import Derived.Test.YteonagfnhdlfcaaGreatDoorTlAuto
import Derived.Test.YteonagfnhdlfcaaGreatDoorG32TlGive
import Derived.Test.YteonagfnhdlfcaaGreatDoorG33TlTrimr6zD
import Derived.Test.YteonagfnhdlfcaaGreatDoorG34TlBelow
import Derived.Test.YteonagfnhdlfcaaGreatDoorTlInsert
import Derived.Test.YteonagfnhdlfcaaGreatDoorG38TlSrLr6zD
import Derived.Test.YteonagfnhdlfcaaGreatDoorTlDelDr6zD
import Derived.Test.YteonagfnhdlfcaaGreatDoorTlSortD
import Derived.Test.YteonagfnhdlfcaaGreatDoorTlStrs
open Nat renaming reduceAdd → qA, reduceMul → qB, reduceSub → qC, reduceEqDiff → qD, reduceLT → qE, reduceLeDiff → qF, reduceBEq → qG
open Int renaming reduceToNat → qH, reduceEq → qI, reduceLE → qJ, reduceLT → qK
open List renaming length_set → qL, length_append → qM, length_replicate → qN, length_map → qO, length_cons → qP, length_nil → qQ, take_append_drop → qa, length_drop → qb, length_take → qc
set_option linter.unusedSimpArgs false
set_option linter.unusedVariables false
noncomputable section
set_option maxRecDepth 8000
set_option maxHeartbeats 0
namespace Go.TL.YteonagfnhdlfcaaGreatDoor
open Go Go.Proofs Go.TL
theorem zgM {a0:zkK} {r:(Int×zkK)} (h:zbQ a0=some r):Fn Tryz.prog 122 [(.pb 0 0)] [(0,some (false,.box [(.lf true (.sl (a0.code.map eU8))),(I a0.at_),(.lf false (.sc (.int .u64 a0.seed)))]))] 1 (I r.1) [(0,some (false,.box [(.lf true (.sl (r.2.code.map eU8))),(I r.2.at_),(.lf false (.sc (.int .u64 r.2.seed)))]))] 1:=by
 unfold zbQ at h
 refine fc [(1000,[(0,0)]),(1001,[(0,0),(3,0)]),(1002,[(0,0),(3,0),(13,0)]),(1003,[(0,0),(3,0)]),(1004,[(0,0),(3,0)]),(1005,[(0,0),(3,0)]),(1006,[(0,0),(3,0),(53,0)]),(2013,[])] Tryz.func122 ?_
 simp only [Tryz.f122]
 refine sA ?_
 obtain ⟨p0,hq1,h⟩:=zj7 h
 refine zkC (λ s2=>s2=⟨[(0,(.pb 0 0)),(3,(I p0.t3))],[(0,some (false,.box [(.lf true (.sl (a0.code.map eU8))),(I a0.at_),(.lf false (.sc (.int .u64 a0.seed)))]))],1,62⟩) ?_ ?_
 ·refine sA ?_
  refine zki hq1 (λ hq1 _=>sA ?_) (λ hq1 _=>sA ?_)
  ·obtain ⟨hp3,hq1⟩:=zj8 hq1
   have hn3:a0.at_.toNat < a0.code.length:=by first|omega|(simp;omega)
   refine sA ?_
   refine zkw ?_
   cases hq1
   exact zkp rfl (zkg [some 0])
  ·cases hq1
   exact zkp rfl (zkg [some 0])
 ·intro s2 hJ;subst hJ
  try dsimp only at h
  refine sA ?_
  refine zki h (λ h _=>sA ?_) (λ h _=>sA ?_)
  ·cases h
   exact zkc ⟨[(2,(I p0.t3))],[(0,some (false,.box [(.lf true (.sl (a0.code.map eU8))),(I (wI (a0.at_+1))),(.lf false (.sc (.int .u64 (wU ((wU ((wU (a0.seed * 6364136223846793005))+(wU p0.t3)))+1442695040888963407)))))]))],1,62⟩ [some 0]
  ·cases h
   exact zkc ⟨[(2,(I (wI (wU (zqY 64 (shR 64 (wU ((wU ((wU (a0.seed * 6364136223846793005))+(wU p0.t3)))+1442695040888963407)) 40) 255)))))],[(0,some (false,.box [(.lf true (.sl (a0.code.map eU8))),(I (wI (a0.at_+1))),(.lf false (.sc (.int .u64 (wU ((wU ((wU (a0.seed * 6364136223846793005))+(wU p0.t3)))+1442695040888963407)))))]))],1,62⟩ [some 0]
theorem zA {a0:zkK} {a1:Int} {r:(Int×zkK)} (h:zk a0 a1=some r):Fn Tryz.prog 52 [(.pb 0 0),(I a1)] [(0,some (false,.box [(.lf true (.sl (a0.code.map eU8))),(I a0.at_),(.lf false (.sc (.int .u64 a0.seed)))]))] 1 (I r.1) [(0,some (false,.box [(.lf true (.sl (r.2.code.map eU8))),(I r.2.at_),(.lf false (.sc (.int .u64 r.2.seed)))]))] 1:=by
 unfold zk at h
 refine fc [(1000,[(0,0),(1,0)]),(1001,[(0,0),(1,0),(7,0)]),(1003,[(0,0),(1,0),(5,0)]),(1004,[(0,0),(1,0),(5,0),(11,0)]),(1005,[(1,0),(5,0)])] Tryz.func52 ?_
 simp only [Tryz.f52]
 refine sA ?_
 refine zki h (λ h _=>sA ?_) (λ h _=>sA ?_)
 ·cases h
  exact zkc ⟨[(4,(I 0))],[(0,some (false,.box [(.lf true (.sl (a0.code.map eU8))),(I a0.at_),(.lf false (.sc (.int .u64 a0.seed)))]))],1,20⟩ [some 0]
 ·obtain ⟨c0,hr2,h⟩:=zj7 h
  refine zlj [0] (zgM hr2) (sA ?_)
  refine zki h (λ h _=>sA ?_) (λ h _=>sA ?_)
  ·obtain ⟨c1,hr4,h⟩:=zj7 h
   refine zlj [0] (zgM hr4) (sA ?_)
   obtain ⟨hp5,h⟩:=zj8 h
   refine sA ?_
   refine zkw ?_
   cases h
   exact zkc ⟨[(4,(I ((wI ((wI (c0.1 * 256))+c1.1)).tmod a1)))],[(0,some (false,.box [(.lf true (.sl (c1.2.code.map eU8))),(I c1.2.at_),(.lf false (.sc (.int .u64 c1.2.seed)))]))],1,20⟩ [some 0]
  ·obtain ⟨hp6,h⟩:=zj8 h
   refine sA ?_
   refine zkw ?_
   cases h
   exact zkc ⟨[(4,(I (c0.1.tmod a1)))],[(0,some (false,.box [(.lf true (.sl (c0.2.code.map eU8))),(I c0.2.at_),(.lf false (.sc (.int .u64 c0.2.seed)))]))],1,20⟩ [some 0]
theorem zfT {a0:zkK} {a1:Int} {r:(Bool×zkK)} (h:zaD a0 a1=some r):Fn Tryz.prog 51 [(.pb 0 0),(I a1)] [(0,some (false,.box [(.lf true (.sl (a0.code.map eU8))),(I a0.at_),(.lf false (.sc (.int .u64 a0.seed)))]))] 1 (B r.1) [(0,some (false,.box [(.lf true (.sl (r.2.code.map eU8))),(I r.2.at_),(.lf false (.sc (.int .u64 r.2.seed)))]))] 1:=by
 unfold zaD at h
 refine fc [] Tryz.func51 ?_
 simp only [Tryz.f51]
 refine sA ?_
 obtain ⟨c0,hr1,h⟩:=zj7 h
 refine zlj [0] (zA hr1) (sA ?_)
 cases h
 exact zkc ⟨[(4,(B (c0.1 == 0)))],[(0,some (false,.box [(.lf true (.sl (c0.2.code.map eU8))),(I c0.2.at_),(.lf false (.sc (.int .u64 c0.2.seed)))]))],1,9⟩ [some 0]
theorem zgw {a0:zkK} {a1:(List Int)} {m1:Nat} {x1:Bool} {r:(Int×zkK)} (h:za8 a0 a1=some r):Fn Tryz.prog 118 [(.pb 0 0),(.os 1 1 0 a1.length m1 x1)] [(0,some (false,.box [(.lf true (.sl (a0.code.map eU8))),(I a0.at_),(.lf false (.sc (.int .u64 a0.seed)))])),(1,some (false,.arr true 1 (a1.map eI)))] 2 (I r.1) [(0,some (false,.box [(.lf true (.sl (r.2.code.map eU8))),(I r.2.at_),(.lf false (.sc (.int .u64 r.2.seed)))])),(1,some (false,.arr false 1 (a1.map eI)))] 2:=by
 unfold za8 at h
 refine fc [] Tryz.func118 ?_
 simp only [Tryz.f118]
 refine sA ?_
 obtain ⟨c0,hr1,h⟩:=zj7 h
 refine zlj [0] (zA hr1) (sA ?_)
 obtain ⟨hp2,h⟩:=zj8 h
 have hn2:c0.1.toNat < a1.length:=by first|omega|(simp;omega)
 refine sA ?_
 refine zkw ?_
 refine zpp (sA ?_)
 cases h
 exact zkc ⟨[(4,(I (nth a1 c0.1.toNat)))],[(0,some (false,.box [(.lf true (.sl (c0.2.code.map eU8))),(I c0.2.at_),(.lf false (.sc (.int .u64 c0.2.seed)))])),(1,some (false,.arr false 1 (a1.map eI)))],2,12⟩ [some 0,some 1]
theorem zix {a0:zkK} {a1:(List ByteArray)} {m1:Nat} {x1:Bool} {r:(ByteArray×zkK)} (h:zdo a0 a1=some r):Fn Tryz.prog 171 [(.pb 0 0),(.os 1 1 0 a1.length m1 x1)] [(0,some (false,.box [(.lf true (.sl (a0.code.map eU8))),(I a0.at_),(.lf false (.sc (.int .u64 a0.seed)))])),(1,some (false,.arr true 1 (a1.map eS)))] 2 (.lf false (.sc (.string r.1))) [(0,some (false,.box [(.lf true (.sl (r.2.code.map eU8))),(I r.2.at_),(.lf false (.sc (.int .u64 r.2.seed)))])),(1,some (false,.arr false 1 (a1.map eS)))] 2:=by
 unfold zdo at h
 refine fc [] Tryz.func171 ?_
 simp only [Tryz.f171]
 refine sA ?_
 obtain ⟨c0,hr1,h⟩:=zj7 h
 refine zlj [0] (zA hr1) (sA ?_)
 obtain ⟨hp2,h⟩:=zj8 h
 have hn2:c0.1.toNat < a1.length:=by first|omega|(simp;omega)
 refine sA ?_
 refine zkw ?_
 refine zpp (sA ?_)
 cases h
 exact zkc ⟨[(4,(.lf false (.sc (.string (nth a1 c0.1.toNat)))))],[(0,some (false,.box [(.lf true (.sl (c0.2.code.map eU8))),(I c0.2.at_),(.lf false (.sc (.int .u64 c0.2.seed)))])),(1,some (false,.arr false 1 (a1.map eS)))],2,12⟩ [some 0,some 1]
theorem zhq {a0:zkK} {r:(ByteArray×zkK)} (h:zbg a0=some r):Fn Tryz.prog 120 [(.pb 0 0)] [(0,some (false,.box [(.lf true (.sl (a0.code.map eU8))),(I a0.at_),(.lf false (.sc (.int .u64 a0.seed)))]))] 1 (.lf false (.sc (.string r.1))) [(0,some (false,.box [(.lf true (.sl (r.2.code.map eU8))),(I r.2.at_),(.lf false (.sc (.int .u64 r.2.seed)))]))] 1:=by
 unfold zbg at h
 refine fc [] Tryz.func120 ?_
 simp only [Tryz.f120]
 refine sA ?_
 obtain ⟨c0,hr1,h⟩:=zj7 h
 refine zlj [0,1] (zix hr1) (sA ?_)
 cases h
 exact zkc ⟨[(2,(.lf false (.sc (.string c0.1))))],[(0,some (false,.box [(.lf true (.sl (c0.2.code.map eU8))),(I c0.2.at_),(.lf false (.sc (.int .u64 c0.2.seed)))]))],1,6⟩ [some 0]
theorem zhe {a0:zkK} {r:((List zks)×zkK)} (h:zaZ a0=some r):Fn Tryz.prog 78 [(.pb 0 0)] [(0,some (false,.box [(.lf true (.sl (a0.code.map eU8))),(I a0.at_),(.lf false (.sc (.int .u64 a0.seed)))]))] 1 (.os 1 5 0 r.1.length r.1.length false) [(0,some (false,.box [(.lf true (.sl (r.2.code.map eU8))),(I r.2.at_),(.lf false (.sc (.int .u64 r.2.seed)))])),(1,some (true,.arr false 5 (r.1.map zlu)))] 2:=by
 unfold zaZ at h
 refine fc [(1000,[(0,0)]),(1001,[(0,0),(3,0)]),(1002,[(0,0),(3,0),(4,0)]),(1003,[(0,0),(3,0),(4,0),(9,0)]),(1004,[(0,0),(3,0),(4,0)]),(1005,[(0,0),(3,0),(4,0),(14,0)]),(1006,[(0,0),(3,0),(4,0)]),(1007,[(0,0),(3,0),(4,0),(5,0)]),(1008,[(0,0),(3,0),(4,0),(5,0),(31,0)]),(1009,[(0,0),(3,0),(4,0),(5,0)]),(1010,[(0,0),(3,0),(4,0),(5,0),(34,0)]),(1011,[(0,0),(3,0),(4,0),(5,0)]),(1012,[(0,0),(3,0),(4,0)]),(2009,[]),(2031,[])] Tryz.func78 ?_
 simp only [Tryz.f78]
 refine sA ?_
 obtain ⟨c0,hr1,h⟩:=zj7 h
 refine zlj [0] (zA hr1) (sA ?_)
 obtain ⟨p0,hq2,h⟩:=zj7 h
 refine zkC (λ s2=>s2=⟨[(0,(.pb 0 0)),(3,.nl),(4,(I p0.t4))],[(0,some (false,.box [(.lf true (.sl (p0.b0_0.map eU8))),(I p0.b0_1),(.lf false (.sc (.int .u64 p0.b0_2)))]))],1,52⟩) ?_ ?_
 ·refine sA ?_
  obtain ⟨c1,hr3,hq2⟩:=zj7 hq2
  refine zlj [0] (zfT hr3) (sA ?_)
  refine zki hq2 (λ hq2 _=>sA ?_) (λ hq2 _=>sA ?_)
  ·obtain ⟨c2,hr5,hq2⟩:=zj7 hq2
   refine zlj [0] (zA hr5) (sA ?_)
   cases hq2
   exact zkp rfl (zkg [some 0])
  ·cases hq2
   exact zkp rfl (zkg [some 0])
 ·intro s2 hJ;subst hJ
  try dsimp only at h
  refine sA ?_
  obtain ⟨y0,hl6,h⟩:=zj7 h
  refine zky (λ g0:zcR=>⟨[(0,(.pb 0 0)),(3,(.os 1 5 0 g0.c1.length g0.c1.length false)),(4,(I g0.t4))],[(0,some (false,.box [(.lf true (.sl (g0.b0_0.map eU8))),(I g0.b0_1),(.lf false (.sc (.int .u64 g0.b0_2)))])),(1,some (true,.arr false 5 (g0.c1.map zlu)))],2,52⟩) (zbl) _ _ hl6 (zkg [some 0,none]) ?_
  ·intro n1 g0 z1 hs1 hk1
   unfold zbl at hs1
   try dsimp only at hs1
   refine sA ?_
   refine zki hs1 (λ hs1 _=>sA ?_) (λ hs1 _=>sA ?_)
   ·obtain ⟨c3,hr8,hs1⟩:=zj7 hs1
    refine zlj [0,2] (zgw hr8) (sA ?_)
    obtain ⟨c4,hr9,hs1⟩:=zj7 hs1
    refine zlj [0] (zA hr9) (sA ?_)
    obtain ⟨c5,hr10,hs1⟩:=zj7 hs1
    refine zlj [0,3] (zgw hr10) (sA ?_)
    obtain ⟨c6,hr11,hs1⟩:=zj7 hs1
    refine zlj [0] (zhq hr11) (sA ?_)
    obtain ⟨c7,hr12,hs1⟩:=zj7 hs1
    refine zlj [0] (zA hr12) (sA ?_)
    obtain ⟨p1,hq13,hs1⟩:=zj7 hs1
    refine zkC (λ s2=>s2=⟨[(0,(.pb 0 0)),(3,(.os 1 5 0 g0.c1.length g0.c1.length false)),(4,(I g0.t4)),(5,(.pb 2 0))],[(0,some (false,.box [(.lf true (.sl (p1.b0_0.map eU8))),(I p1.b0_1),(.lf false (.sc (.int .u64 p1.b0_2)))])),(1,some (true,.arr false 5 (g0.c1.map zlu))),(2,some (true,.box [(I c3.1),(I c4.1),(I p1.b2_2),(.lf false (.sc (.string c6.1))),(I c7.1)]))],3,52⟩) ?_ ?_
    ·refine sA ?_
     obtain ⟨c8,hr14,hq13⟩:=zj7 hq13
     refine zlj [0] (zfT hr14) (sA ?_)
     refine zki hq13 (λ hq13 _=>sA ?_) (λ hq13 _=>sA ?_)
     ·cases hq13
      exact zkp rfl (zkg [some 0,some 1,some 4])
     ·cases hq13
      exact zkp rfl (zkg [some 0,some 1,some 4])
    ·intro s2 hJ;subst hJ
     try dsimp only at hs1
     refine sA ?_
     obtain ⟨c9,hr16,hs1⟩:=zj7 hs1
     refine zlj [0] (zfT hr16) (sA ?_)
     refine zki hs1 (λ hs1 _=>sA ?_) (λ hs1 _=>sA ?_)
     ·obtain ⟨c10,hr18,hs1⟩:=zj7 hs1
      refine zlj [0] (zA hr18) (sA ?_)
      obtain ⟨c11,hr19,hs1⟩:=zj7 hs1
      refine zlj [0] (zA hr19) (sA ?_)
      obtain ⟨c12,hr20,hs1⟩:=zj7 hs1
      refine zlj [0] (zA hr20) (sA ?_)
      obtain ⟨c13,hr21,hs1⟩:=zj7 hs1
      refine zlj [0] (zA hr21) (sA ?_)
      obtain ⟨hp22,hs1⟩:=zj8 hs1
      refine sA ?_
      refine zkw ?_
      cases hs1
      exact zkr hk1 (zkg [some 0,some 4])
     ·obtain ⟨hp23,hs1⟩:=zj8 hs1
      refine sA ?_
      refine zkw ?_
      cases hs1
      exact zkr hk1 (zkg [some 0,some 4])
   ·cases hs1
    cases hk1
    try dsimp only at h
    refine sA ?_
    cases h
    exact zkc ⟨[(2,(.os 1 5 0 g0.c1.length g0.c1.length false))],[(0,some (false,.box [(.lf true (.sl (g0.b0_0.map eU8))),(I g0.b0_1),(.lf false (.sc (.int .u64 g0.b0_2)))])),(1,some (true,.arr false 5 (g0.c1.map zlu)))],2,52⟩ [some 0,some 1]
theorem zjo {r:zkn} (h:zgn=some r):Fn Tryz.prog 79 [] [] 0 (.ag [(.os 0 3 0 r.fRe.length r.fRe.length false),.nl]) [(0,some (true,.deep [.sc,.sc,.sl [.sl [.sc,.sc,.sc,.sc]]] (r.fRe.map zkl)))] 2:=by
 unfold zgn at h
 refine fc [] Tryz.func79 ?_
 simp only [Tryz.f79]
 refine sA ?_
 cases h
 exact zkc ⟨[(0,(.pb 1 0))],[(0,some (true,.deep [.sc,.sc,.sl [.sl [.sc,.sc,.sc,.sc]]] (([(⟨0,0,(⟨[]⟩:zkh)⟩:zkb),(⟨1,0,(⟨[]⟩:zkh)⟩:zkb)]).map zkl))),(1,some (true,.box [(.os 0 3 0 (([(⟨0,0,(⟨[]⟩:zkh)⟩:zkb),(⟨1,0,(⟨[]⟩:zkh)⟩:zkb)]).length) (([(⟨0,0,(⟨[]⟩:zkh)⟩:zkb),(⟨1,0,(⟨[]⟩:zkh)⟩:zkb)]).length) false),.nl]))],2,5⟩ [some 1,some 0]
theorem zc8 {a0:Int} {a1:Int} {a2:Int} {r:Bool} (h:zc9 a0 a1 a2=some r):Fn Tryz.prog 133 [(I a0),(I a1),(I a2)] [] 0 (B r) [] 0:=by
 unfold zc9 at h
 refine fc [] Tryz.func133 ?_
 simp only [Tryz.f133]
 refine sA ?_
 refine zkt h (λ h _=>sA ?_) (λ h _=>sA ?_)
 ·cases h
  exact zkc ⟨[(6,(B (decide (a0≤a2))))],[],0,15⟩ []
 ·have he:=oi h
  subst he
  exact zkc ⟨[(6,(B false))],[],0,15⟩ []
theorem zhY {a0:Int} {r:Bool} (h:zds a0=some r):Fn Tryz.prog 95 [(I a0)] [] 0 (B r) [] 0:=by
 unfold zds at h
 refine fc [] Tryz.func95 ?_
 simp only [Tryz.f95]
 refine sA ?_
 obtain ⟨c0,hr1,h⟩:=zj7 h
 refine zkj (zc8 hr1) (sA ?_)
 have he:=oi h
 subst he
 exact zkc ⟨[(2,(B c0))],[],0,5⟩ []
theorem zhZ {a0:(List zka)} {r:Int} (h:zeV a0=some r):Fn Tryz.prog 194 [(.lf true (.sl (a0.map zko)))] [] 0 (I r) [] 0:=by
 unfold zeV at h
 refine fc [] Tryz.func194 ?_
 simp only [Tryz.f194]
 refine sA ?_
 obtain ⟨hp1,h⟩:=zj8 h
 have hn1:(wI (((a0.length:Nat):Int) - 1)).toNat < a0.length:=by first|omega|(simp;omega)
 refine sA ?_
 refine zkw ?_
 cases h
 exact zkc ⟨[(2,(I ((nth a0 ((wI (((a0.length:Nat):Int) - 1)).toNat)).fVe)))],[],0,10⟩ []
theorem zhJ {a0:Int} {r:Bool} (h:zfk a0=some r):Fn Tryz.prog 230 [(I a0)] [] 0 (B r) [] 0:=by
 unfold zfk at h
 refine fc [] Tryz.func230 ?_
 simp only [Tryz.f230]
 refine sA ?_
 cases h
 exact zkc ⟨[(2,(B (a0 != a0)))],[],0,6⟩ []
theorem zeH {a0:Int} {a1:Int} {r:Int} (h:za2 a0 a1=some r):Fn Tryz.prog 193 [(I a0),(I a1)] [] 0 (I r) [] 0:=by
 unfold za2 at h
 refine fc [(1000,[(0,0),(1,0)]),(1001,[(0,0),(1,0),(5,0)]),(1002,[(0,0),(1,0),(5,0),(6,0)]),(1003,[(0,0),(1,0),(6,0),(11,0)]),(1004,[(12,0)]),(1007,[(0,0),(1,0),(13,0)]),(1009,[(0,0),(1,0),(16,0)]),(1011,[(19,0)])] Tryz.func193 ?_
 simp only [Tryz.f193]
 refine sA ?_
 obtain ⟨c0,hr1,h⟩:=zj7 h
 refine zkj (zhJ hr1) (sA ?_)
 obtain ⟨c1,hr2,h⟩:=zj7 h
 refine zkj (zhJ hr2) (sA ?_)
 refine zki h (λ h _=>sA ?_) (λ h _=>sA ?_)
 ·refine zki h (λ h _=>sA ?_) (λ h _=>sA ?_)
  ·have he:=oi h
   subst he
   exact zkc ⟨[(4,(I 0))],[],0,20⟩ []
  ·cases h
   exact zkc ⟨[(4,(I (-1)))],[],0,20⟩ []
 ·refine zki h (λ h _=>sA ?_) (λ h _=>sA ?_)
  ·have he:=oi h
   subst he
   exact zkc ⟨[(4,(I 1))],[],0,20⟩ []
  ·refine zki h (λ h _=>sA ?_) (λ h _=>sA ?_)
   ·cases h
    exact zkc ⟨[(4,(I (-1)))],[],0,20⟩ []
   ·refine zki h (λ h _=>sA ?_) (λ h _=>sA ?_)
    ·have he:=oi h
     subst he
     exact zkc ⟨[(4,(I 1))],[],0,20⟩ []
    ·have he:=oi h
     subst he
     exact zkc ⟨[(4,(I 0))],[],0,20⟩ []
theorem zek {a0:ByteArray} {r:Bool} (h:zaE a0=some r):Fn Tryz.prog 254 [(.lf false (.sc (.string a0)))] [] 0 (B r) [] 0:=by
 unfold zaE at h
 refine fc [] Tryz.func254 ?_
 simp only [Tryz.f254]
 refine sA ?_
 cases h
 exact zkc ⟨[(2,(B (!(a0.toList == a0.toList))))],[],0,6⟩ []
theorem zif {a0:ByteArray} {a1:ByteArray} {r:Int} (h:zcw a0 a1=some r):Fn Tryz.prog 223 [(.lf false (.sc (.string a0))),(.lf false (.sc (.string a1)))] [] 0 (I r) [] 0:=by
 unfold zcw at h
 refine fc [(1000,[(0,0),(1,0)]),(1001,[(0,0),(1,0),(5,0)]),(1002,[(0,0),(1,0),(5,0),(6,0)]),(1003,[(0,0),(1,0),(6,0),(11,0)]),(1004,[(12,0)]),(1007,[(0,0),(1,0),(13,0)]),(1009,[(0,0),(1,0),(16,0)]),(1011,[(19,0)])] Tryz.func223 ?_
 simp only [Tryz.f223]
 refine sA ?_
 obtain ⟨c0,hr1,h⟩:=zj7 h
 refine zkj (zek hr1) (sA ?_)
 obtain ⟨c1,hr2,h⟩:=zj7 h
 refine zkj (zek hr2) (sA ?_)
 refine zki h (λ h _=>sA ?_) (λ h _=>sA ?_)
 ·refine zki h (λ h _=>sA ?_) (λ h _=>sA ?_)
  ·have he:=oi h
   subst he
   exact zkc ⟨[(4,(I 0))],[],0,20⟩ []
  ·cases h
   exact zkc ⟨[(4,(I (-1)))],[],0,20⟩ []
 ·refine zki h (λ h _=>sA ?_) (λ h _=>sA ?_)
  ·have he:=oi h
   subst he
   exact zkc ⟨[(4,(I 1))],[],0,20⟩ []
  ·refine zki h (λ h _=>sA ?_) (λ h _=>sA ?_)
   ·cases h
    exact zkc ⟨[(4,(I (-1)))],[],0,20⟩ []
   ·refine zki h (λ h _=>sA ?_) (λ h _=>sA ?_)
    ·have he:=oi h
     subst he
     exact zkc ⟨[(4,(I 1))],[],0,20⟩ []
    ·have he:=oi h
     subst he
     exact zkc ⟨[(4,(I 0))],[],0,20⟩ []
theorem ziy {a0:(List Int)} {r:Int} (h:zfY a0=some r):Fn Tryz.prog 192 [(.lf true (.sl (a0.map eI)))] [] 0 (I r) [] 0:=by
 unfold zfY at h
 refine fc [(1000,[(0,0)]),(1001,[(0,0),(3,0)]),(1002,[(3,0),(6,0),(7,0),(8,0)]),(1003,[(3,0),(6,0),(7,0),(8,0),(9,0)]),(1004,[(3,0),(5,0),(6,0),(7,0),(8,0)]),(1005,[(3,0),(5,0),(6,0),(7,0),(8,0),(14,0)]),(1007,[(3,0),(6,0),(7,0),(8,0)])] Tryz.func192 ?_
 simp only [Tryz.f192]
 refine sA ?_
 obtain ⟨y0,hl1,h⟩:=zj7 h
 refine zky (λ g0:zgi=>⟨[(3,(I 0)),(6,(.lf true (.sl (a0.map eI)))),(7,(I ((a0.length:Nat):Int))),(8,(I g0.t8))],[],0,18⟩) (zdU a0) _ _ hl1 (zkg []) ?_
 ·intro n1 g0 z1 hs1 hk1
  unfold zdU at hs1
  try dsimp only at hs1
  refine sA ?_
  refine zki hs1 (λ hs1 _=>sA ?_) (λ hs1 _=>sA ?_)
  ·obtain ⟨hp3,hs1⟩:=zj8 hs1
   have hn3:g0.t8.toNat < a0.length:=by first|omega|(simp;omega)
   refine sA ?_
   refine zkw ?_
   refine zki hs1 (λ hs1 _=>sA ?_) (λ hs1 _=>sA ?_)
   ·cases hs1
    cases hk1
    try dsimp only at h
    refine sA ?_
    cases h
    exact zkc ⟨[(2,(I (nth a0 g0.t8.toNat)))],[],0,18⟩ []
   ·cases hs1
    exact zkr hk1 (zkg [])
  ·cases hs1
   cases hk1
   try dsimp only at h
   refine sA ?_
   have he:=oi h
   subst he
   exact zkc ⟨[(2,(I 0))],[],0,18⟩ []
theorem ziS {a0:zka} {a1:zka} {r:Int} (h:zd6 a0 a1=some r):Fn Tryz.prog 181 [(.ag [(I a0.Id),(I a0.fVe),(I a0.Kind),(.lf false (.sc (.string a0.Name)))]),(.ag [(I a1.Id),(I a1.fVe),(I a1.Kind),(.lf false (.sc (.string a1.Name)))])] [] 0 (I r) [] 0:=by
 unfold zd6 at h
 refine fc [(1,[(6,4),(8,4),(11,4),(11,9),(13,4),(13,9)])] Tryz.func181 ?_
 simp only [Tryz.f181]
 refine sA ?_
 obtain ⟨c0,hr1,h⟩:=zj7 h
 refine zkj (zeH hr1) (sA ?_)
 obtain ⟨c1,hr2,h⟩:=zj7 h
 refine zkj (zeH hr2) (sA ?_)
 obtain ⟨c2,hr3,h⟩:=zj7 h
 refine zkj (zif hr3) (sA ?_)
 obtain ⟨c3,hr4,h⟩:=zj7 h
 refine zkj (ziy hr4) (sA ?_)
 have he:=oi h
 subst he
 exact zkc ⟨[(4,(I c3))],[],0,22⟩ []
theorem zdO {a0:(List zka)} {a1:(List zka)} {r:Int} (h:zC a0 a1=some r):Fn Tryz.prog 180 [(.lf true (.sl (a0.map zko))),(.lf true (.sl (a1.map zko))),(.fn 181 [])] [] 0 (I r) [] 0:=by
 unfold zC at h
 refine fc [(1000,[(0,0),(1,0),(2,0)]),(1001,[(0,0),(1,0),(2,0),(11,0),(12,0),(13,0)]),(1002,[(0,0),(1,0),(2,0),(11,0),(12,0),(13,0),(14,0)]),(1003,[(0,0),(1,0),(2,0),(7,0),(8,0),(11,0),(12,0),(13,0)]),(1004,[(0,0),(1,0),(2,0),(7,0),(8,0),(11,0),(12,0),(13,0),(21,0)]),(1006,[(0,0),(1,0),(2,0),(8,0),(9,0),(11,0),(12,0),(13,0)]),(1007,[(0,0),(1,0),(2,0),(10,0),(11,0),(12,0),(13,0)]),(1008,[(0,0),(1,0),(2,0),(10,0),(11,0),(12,0),(13,0),(31,0)]),(1010,[(0,0),(1,0),(2,0),(11,0),(12,0),(13,0)]),(1011,[(38,0)])] Tryz.func180 ?_
 simp only [Tryz.f180]
 refine sA ?_
 obtain ⟨y0,hl1,h⟩:=zj7 h
 refine zky (λ g0:zt=>⟨[(0,(.lf true (.sl (a0.map zko)))),(1,(.lf true (.sl (a1.map zko)))),(2,(.fn 181 [])),(11,(.lf true (.sl (a0.map zko)))),(12,(I ((a0.length:Nat):Int))),(13,(I g0.t13))],[],0,39⟩) (zc a0 a1) _ _ hl1 (zkg []) ?_
 ·intro n1 g0 z1 hs1 hk1
  unfold zc at hs1
  try dsimp only at hs1
  refine sA ?_
  refine zki hs1 (λ hs1 _=>sA ?_) (λ hs1 _=>sA ?_)
  ·obtain ⟨hp3,hs1⟩:=zj8 hs1
   have hn3:g0.t13.toNat < a0.length:=by first|omega|(simp;omega)
   refine sA ?_
   refine zkw ?_
   refine zki hs1 (λ hs1 _=>sA ?_) (λ hs1 _=>sA ?_)
   ·cases hs1
    cases hk1
    try dsimp only at h
    refine sA ?_
    have he:=oi h
    subst he
    exact zkc ⟨[(6,(I 1))],[],0,39⟩ []
   ·obtain ⟨hp5,hs1⟩:=zj8 hs1
    have hn5:g0.t13.toNat < a1.length:=by first|omega|(simp;omega)
    refine sA ?_
    refine zkw ?_
    obtain ⟨c0,hr6,hs1⟩:=zj7 hs1
    refine zkj (ziS hr6) (sA ?_)
    refine zki hs1 (λ hs1 _=>sA ?_) (λ hs1 _=>sA ?_)
    ·cases hs1
     cases hk1
     try dsimp only at h
     refine sA ?_
     have he:=oi h
     subst he
     exact zkc ⟨[(6,(I c0))],[],0,39⟩ []
    ·cases hs1
     exact zkr hk1 (zkg [])
  ·cases hs1
   cases hk1
   try dsimp only at h
   refine sA ?_
   refine zki h (λ h _=>sA ?_) (λ h _=>sA ?_)
   ·cases h
    exact zkc ⟨[(6,(I (-1)))],[],0,39⟩ []
   ·have he:=oi h
    subst he
    exact zkc ⟨[(6,(I 0))],[],0,39⟩ []
theorem zfU {a0:(List zka)} {a1:(List zka)} {r:Int} (h:zbm a0 a1=some r):Fn Tryz.prog 134 [(.lf true (.sl (a0.map zko))),(.lf true (.sl (a1.map zko)))] [] 0 (I r) [] 0:=by
 unfold zbm at h
 refine fc [] Tryz.func134 ?_
 simp only [Tryz.f134]
 refine sA ?_
 obtain ⟨c0,hr1,h⟩:=zj7 h
 refine zkj (zdO hr1) (sA ?_)
 have he:=oi h
 subst he
 exact zkc ⟨[(4,(I c0))],[],0,8⟩ []
theorem ziT {a0:zkd} {a1:zkd} {r:Int} (h:zcK a0 a1=some r):Fn Tryz.prog 191 [(.ag [(.lf true (.sl (a0.fEv.map zko)))]),(.ag [(.lf true (.sl (a1.fEv.map zko)))])] [] 0 (I r) [] 0:=by
 unfold zcK at h
 refine fc [(1,[(4,2),(8,2),(8,5),(8,6),(11,2),(11,5),(11,6),(15,2),(15,5),(15,6),(15,13),(17,2),(17,5),(17,6),(17,13)])] Tryz.func191 ?_
 simp only [Tryz.f191]
 refine sA ?_
 obtain ⟨c0,hr1,h⟩:=zj7 h
 refine zkj (zhZ hr1) (sA ?_)
 obtain ⟨c1,hr2,h⟩:=zj7 h
 refine zkj (zhZ hr2) (sA ?_)
 obtain ⟨c2,hr3,h⟩:=zj7 h
 refine zkj (zeH hr3) (sA ?_)
 obtain ⟨c3,hr4,h⟩:=zj7 h
 refine zkj (zeH hr4) (sA ?_)
 obtain ⟨c4,hr5,h⟩:=zj7 h
 refine zkj (zfU hr5) (sA ?_)
 obtain ⟨c5,hr6,h⟩:=zj7 h
 refine zkj (ziy hr6) (sA ?_)
 have he:=oi h
 subst he
 exact zkc ⟨[(4,(I c5))],[],0,26⟩ []
theorem zeu {a0:(List zkd)} {r:zkd} (h:zq a0=some r):Fn Tryz.prog 190 [(.lf true (.sl (a0.map zkf))),(.fn 191 [])] [] 0 (.ag [(.lf true (.sl (r.fEv.map zko)))]) [] 1:=by
 unfold zq at h
 refine fc [(1000,[(0,0),(1,0),(4,0)]),(1001,[(0,0),(1,0),(4,0),(9,0)]),(1002,[(0,0),(1,0),(4,0)]),(1003,[(0,0),(1,0),(4,0),(5,0)]),(1004,[(0,0),(1,0),(4,0),(5,0),(6,0)]),(1005,[(0,0),(1,0),(4,0),(5,0),(6,0),(17,0)]),(1006,[(0,0),(1,0),(4,0),(5,0),(6,0)]),(1007,[(0,0),(1,0),(4,0),(5,0),(6,0),(27,0)]),(1008,[(0,0),(1,0),(4,0),(5,0),(6,0)]),(2009,[])] Tryz.func190 ?_
 simp only [Tryz.f190]
 refine sA ?_
 obtain ⟨p0,hq1,h⟩:=zj7 h
 refine zkC (λ s2=>s2=⟨[(0,(.lf true (.sl (a0.map zkf)))),(1,(.fn 191 [])),(4,(.pb 0 0))],[(0,some (true,.box [.nl]))],1,33⟩) ?_ ?_
 ·refine sA ?_
  refine zki hq1 (λ hq1 _=>?_) (λ hq1 _=>sA ?_)
  ·cases hq1
  ·cases hq1
   exact zkp rfl (zkg [some 0])
 ·intro s2 hJ;subst hJ
  try dsimp only at h
  refine sA ?_
  obtain ⟨hp3,h⟩:=zj8 h
  have hn3:0 < a0.length:=by first|omega|(simp;omega)
  refine sA ?_
  refine zkw ?_
  obtain ⟨y0,hl4,h⟩:=zj7 h
  refine zky (λ g0:zaa=>⟨[(0,(.lf true (.sl (a0.map zkf)))),(1,(.fn 191 [])),(4,(.pb 0 0)),(5,(.pb 1 0)),(6,(I g0.t6))],[(0,some (true,.box [.nl])),(1,some (true,.box [(.lf true (.sl (g0.b1_0.map zko)))]))],2,33⟩) (za a0) _ _ hl4 (zkg [some 0,some 1]) ?_
  ·intro n1 g0 z1 hs1 hk1
   unfold za at hs1
   try dsimp only at hs1
   refine sA ?_
   refine zki hs1 (λ hs1 _=>sA ?_) (λ hs1 _=>sA ?_)
   ·obtain ⟨hp6,hs1⟩:=zj8 hs1
    have hn6:g0.t6.toNat < a0.length:=by first|omega|(simp;omega)
    refine sA ?_
    refine zkw ?_
    obtain ⟨c0,hr7,hs1⟩:=zj7 hs1
    refine zkj (ziT hr7) (sA ?_)
    refine zki hs1 (λ hs1 _=>sA ?_) (λ hs1 _=>sA ?_)
    ·obtain ⟨hp9,hs1⟩:=zj8 hs1
     have hn9:g0.t6.toNat < a0.length:=by first|omega|(simp;omega)
     refine sA ?_
     refine zkw ?_
     cases hs1
     exact zkr hk1 (zkg [some 0,some 1])
    ·cases hs1
     exact zkr hk1 (zkg [some 0,some 1])
   ·cases hs1
    cases hk1
    try dsimp only at h
    refine sA ?_
    cases h
    exact zkc ⟨[(4,(.pb 0 0))],[(0,some (true,.box [(.lf true (.sl (g0.b1_0.map zko)))]))],1,33⟩ [some 0]
theorem zf5 {a0:zkh} {r:(List zka)} (h:zcy a0=some r):Fn Tryz.prog 141 [(.ag [(.lf true (.sl (a0.fBr.map zkf)))])] [] 0 (.lf true (.sl (r.map zko))) [] 0:=by
 unfold zcy at h
 refine fc [(1000,[(1,0)]),(1001,[(1,0),(6,0)])] Tryz.func141 ?_
 simp only [Tryz.f141]
 refine sA ?_
 refine zki h (λ h _=>sA ?_) (λ h _=>sA ?_)
 ·cases h
  exact zkc ⟨[(2,(.lf true (.sl (([]).map zko))))],[],0,11⟩ []
 ·obtain ⟨c0,hr2,h⟩:=zj7 h
  refine zkj (zeu hr2) (sA ?_)
  cases h
  exact zkc ⟨[(2,(.lf true (.sl (c0.fEv.map zko))))],[],0,11⟩ []
theorem zjp {r:zkq} (h:zgl=some r):Fn Tryz.prog 208 [] [] 0 (.ag [(I r.fSt),(I r.Next),(B r.fCa),(I r.Done),.nl,.nl]) [] 1:=by
 unfold zgl at h
 refine fc [] Tryz.func208 ?_
 simp only [Tryz.f208]
 refine sA ?_
 cases h
 exact zkc ⟨[(0,(.pb 0 0))],[(0,some (true,.box [(I 0),(I 1),(B false),(I 0),.nl,.nl]))],1,2⟩ [some 0]
theorem zjF {a0 a1:ByteArray} {r:ByteArray} (h:zeK a0 a1=some r):Fn Tryz.prog 207 [.lf false (.sc (.string a0)),.lf false (.sc (.string a1))] [] 0 (.lf false (.sc (.string r))) [] 0:=by
 unfold zeK at h
 obtain ⟨⟨hp1,hp2,hp3⟩,h⟩:=zj8 h
 have he:=oi h;subst he
 exact zAS (Ent.of Tryz.func207 rfl (by simp [Tryz.f207])) λ w=>zAT Go.Proofs.Tryz.lays160 (by kernel_rfl) a0 a1 w hp1 hp2 (ascii_of_all hp3)
theorem zel {a0:ByteArray} {r:Bool} (h:zbj a0=some r):Fn Tryz.prog 157 [(.lf false (.sc (.string a0)))] [] 0 (B r) [] 0:=by
 unfold zbj at h
 refine fc [] Tryz.func157 ?_
 simp only [Tryz.f157]
 refine sA ?_
 refine zkt h (λ h _=>sA ?_) (λ h _=>sA ?_)
 ·obtain ⟨c0,hr2,h⟩:=zj7 h
  refine zkj (zjF hr2) (sA ?_)
  cases h
  exact zkc ⟨[(2,(B (c0.toList == ByteArray.empty.toList)))],[],0,11⟩ []
 ·have he:=oi h
  subst he
  exact zkc ⟨[(2,(B false))],[],0,11⟩ []
theorem ziU {a0:ByteArray} {r:Bool} (h:zfy a0=some r):Fn Tryz.prog 282 [(.lf false (.sc (.string a0)))] [] 0 (B r) [] 0:=by
 unfold zfy at h
 refine fc [] Tryz.func282 ?_
 simp only [Tryz.f282]
 refine sA ?_
 obtain ⟨c0,hr1,h⟩:=zj7 h
 refine zkj (zel hr1) (sA ?_)
 cases h
 exact zkc ⟨[(2,(B (!c0)))],[],0,6⟩ []
theorem ze5 {a0:(List ByteArray)} {r:Int} (h:zV a0=some r):Fn Tryz.prog 293 [(.lf true (.sl (a0.map eS))),(.fn 282 [])] [] 0 (I r) [] 0:=by
 unfold zV at h
 refine fc [(1000,[(0,0),(1,0)]),(1001,[(0,0),(1,0),(7,0),(8,0)]),(1002,[(0,0),(1,0),(7,0),(8,0),(9,0)]),(1003,[(0,0),(1,0),(5,0),(7,0),(8,0)]),(1004,[(0,0),(1,0),(5,0),(7,0),(8,0),(16,0)]),(1006,[(0,0),(1,0),(7,0),(8,0)])] Tryz.func293 ?_
 simp only [Tryz.f293]
 refine sA ?_
 obtain ⟨y0,hl1,h⟩:=zj7 h
 refine zky (λ g0:zM=>⟨[(0,(.lf true (.sl (a0.map eS)))),(1,(.fn 282 [])),(7,(I ((a0.length:Nat):Int))),(8,(I g0.t8))],[],0,19⟩) (zi a0) _ _ hl1 (zkg []) ?_
 ·intro n1 g0 z1 hs1 hk1
  unfold zi at hs1
  try dsimp only at hs1
  refine sA ?_
  refine zki hs1 (λ hs1 _=>sA ?_) (λ hs1 _=>sA ?_)
  ·obtain ⟨hp3,hs1⟩:=zj8 hs1
   have hn3:g0.t8.toNat < a0.length:=by first|omega|(simp;omega)
   refine sA ?_
   refine zkw ?_
   obtain ⟨c0,hr4,hs1⟩:=zj7 hs1
   refine zkj (ziU hr4) (sA ?_)
   refine zki hs1 (λ hs1 _=>sA ?_) (λ hs1 _=>sA ?_)
   ·cases hs1
    cases hk1
    try dsimp only at h
    refine sA ?_
    cases h
    exact zkc ⟨[(4,(I g0.t8))],[],0,19⟩ []
   ·cases hs1
    exact zkr hk1 (zkg [])
  ·cases hs1
   cases hk1
   try dsimp only at h
   refine sA ?_
   cases h
   exact zkc ⟨[(4,(I (-1)))],[],0,19⟩ []
theorem zev {a0:(List ByteArray)} {r:Bool} (h:zN a0=some r):Fn Tryz.prog 281 [(.lf true (.sl (a0.map eS))),(.fn 282 [])] [] 0 (B r) [] 0:=by
 unfold zN at h
 refine fc [] Tryz.func281 ?_
 simp only [Tryz.f281]
 refine sA ?_
 obtain ⟨c0,hr1,h⟩:=zj7 h
 refine zkj (ze5 hr1) (sA ?_)
 cases h
 exact zkc ⟨[(4,(B (decide (c0 ≥ 0))))],[],0,9⟩ []
theorem zh0 {a0:(List ByteArray)} {a1:Int} {r:Bool} (h:zeN a0 a1=some r):Fn Tryz.prog 255 [(.lf true (.sl (a0.map eS))),(I a1)] [] 0 (B r) [] 0:=by
 unfold zeN at h
 refine fc [] Tryz.func255 ?_
 simp only [Tryz.f255]
 refine sA ?_
 refine zkt h (λ h _=>sA ?_) (λ h _=>sA ?_)
 ·obtain ⟨c0,hr2,h⟩:=zj7 h
  refine zkj (zev hr2) (sA ?_)
  cases h
  exact zkc ⟨[(4,(B (!c0)))],[],0,14⟩ []
 ·have he:=oi h
  subst he
  exact zkc ⟨[(4,(B false))],[],0,14⟩ []
theorem zh1 {a0:(List ByteArray)} {a1:ByteArray} {r:Int} (h:zdE a0 a1=some r):Fn Tryz.prog 195 [(.lf true (.sl (a0.map eS))),(.lf false (.sc (.string a1)))] [] 0 (I r) [] 0:=by
 unfold zdE at h
 refine fc [(1000,[(0,0),(1,0)]),(1001,[(0,0),(1,0),(7,0),(8,0)]),(1002,[(0,0),(1,0),(7,0),(8,0),(9,0)]),(1003,[(0,0),(1,0),(5,0),(7,0),(8,0)]),(1004,[(0,0),(1,0),(5,0),(7,0),(8,0),(16,0)]),(1006,[(0,0),(1,0),(7,0),(8,0)])] Tryz.func195 ?_
 simp only [Tryz.f195]
 refine sA ?_
 obtain ⟨y0,hl1,h⟩:=zj7 h
 refine zky (λ g0:zcq=>⟨[(0,(.lf true (.sl (a0.map eS)))),(1,(.lf false (.sc (.string a1)))),(7,(I ((a0.length:Nat):Int))),(8,(I g0.t8))],[],0,19⟩) (zan a0 a1) _ _ hl1 (zkg []) ?_
 ·intro n1 g0 z1 hs1 hk1
  unfold zan at hs1
  try dsimp only at hs1
  refine sA ?_
  refine zki hs1 (λ hs1 _=>sA ?_) (λ hs1 _=>sA ?_)
  ·obtain ⟨hp3,hs1⟩:=zj8 hs1
   have hn3:g0.t8.toNat < a0.length:=by first|omega|(simp;omega)
   refine sA ?_
   refine zkw ?_
   refine zki hs1 (λ hs1 _=>sA ?_) (λ hs1 _=>sA ?_)
   ·cases hs1
    cases hk1
    try dsimp only at h
    refine sA ?_
    cases h
    exact zkc ⟨[(4,(I g0.t8))],[],0,19⟩ []
   ·cases hs1
    exact zkr hk1 (zkg [])
  ·cases hs1
   cases hk1
   try dsimp only at h
   refine sA ?_
   cases h
   exact zkc ⟨[(4,(I (-1)))],[],0,19⟩ []
theorem zaK {a0:(List ByteArray)} {a1:ByteArray} {r:Bool} (h:zF a0 a1=some r):Fn Tryz.prog 142 [(.lf true (.sl (a0.map eS))),(.lf false (.sc (.string a1)))] [] 0 (B r) [] 0:=by
 unfold zF at h
 refine fc [] Tryz.func142 ?_
 simp only [Tryz.f142]
 refine sA ?_
 obtain ⟨c0,hr1,h⟩:=zj7 h
 refine zkj (zh1 hr1) (sA ?_)
 cases h
 exact zkc ⟨[(4,(B (decide (c0 ≥ 0))))],[],0,9⟩ []
theorem zhK {a0:(List ByteArray)} {r:Bool} (h:zdY a0=some r):Fn Tryz.prog 256 [(.lf true (.sl (a0.map eS)))] [] 0 (B r) [] 0:=by
 unfold zdY at h
 refine fc [(1000,[(0,0)]),(1001,[(0,0),(5,0),(6,0),(7,0)]),(1002,[(0,0),(5,0),(6,0),(7,0),(8,0)]),(1003,[(0,0),(3,0),(4,0),(5,0),(6,0),(7,0)]),(1004,[(0,0),(5,0),(6,0),(7,0),(16,0)]),(1006,[(0,0),(5,0),(6,0),(7,0)])] Tryz.func256 ?_
 simp only [Tryz.f256]
 refine sA ?_
 obtain ⟨y0,hl1,h⟩:=zj7 h
 refine zky (λ g0:ze9=>⟨[(0,(.lf true (.sl (a0.map eS)))),(5,(.lf true (.sl (a0.map eS)))),(6,(I ((a0.length:Nat):Int))),(7,(I g0.t7))],[],0,18⟩) (zce a0) _ _ hl1 (zkg []) ?_
 ·intro n1 g0 z1 hs1 hk1
  unfold zce at hs1
  try dsimp only at hs1
  refine sA ?_
  refine zki hs1 (λ hs1 _=>sA ?_) (λ hs1 _=>sA ?_)
  ·obtain ⟨hp3,hs1⟩:=zj8 hs1
   have hn3:g0.t7.toNat < a0.length:=by first|omega|(simp;omega)
   refine sA ?_
   refine zkw ?_
   obtain ⟨hp4,hs1⟩:=zj8 hs1
   refine sA ?_
   refine zkw ?_
   obtain ⟨c0,hr5,hs1⟩:=zj7 hs1
   refine zkj (zaK hr5) (sA ?_)
   refine zki hs1 (λ hs1 _=>sA ?_) (λ hs1 _=>sA ?_)
   ·cases hs1
    cases hk1
    try dsimp only at h
    refine sA ?_
    have he:=oi h
    subst he
    exact zkc ⟨[(2,(B false))],[],0,18⟩ []
   ·cases hs1
    exact zkr hk1 (zkg [])
  ·cases hs1
   cases hk1
   try dsimp only at h
   refine sA ?_
   have he:=oi h
   subst he
   exact zkc ⟨[(2,(B true))],[],0,18⟩ []
theorem zha {a0:ByteArray} {a1:ByteArray} {r:Bool} (h:zcD a0 a1=some r):Fn Tryz.prog 237 [(.lf false (.sc (.string a0))),(.lf false (.sc (.string a1)))] [] 0 (B r) [] 0:=by
 unfold zcD at h
 refine fc [] Tryz.func237 ?_
 simp only [Tryz.f237]
 refine sA ?_
 obtain ⟨c0,hr1,h⟩:=zj7 h
 refine zkj (zek hr1) (sA ?_)
 refine zkt h (λ h _=>sA ?_) (λ h _=>sA ?_)
 ·obtain ⟨c1,hr3,h⟩:=zj7 h
  refine zkj (zek hr3) (sA ?_)
  refine zkt h (λ h _=>sA ?_) (λ h _=>sA ?_)
  ·have he:=oi h
   subst he
   exact zkc ⟨[(4,(B true))],[],0,17⟩ []
  ·cases h
   exact zkc ⟨[(4,(B (sLt a0 a1)))],[],0,17⟩ []
 ·cases h
  exact zkc ⟨[(4,(B (sLt a0 a1)))],[],0,17⟩ []
theorem zhr {a0:(List ByteArray)} {r:Bool} (h:zbe a0=some r):Fn Tryz.prog 257 [(.lf true (.sl (a0.map eS)))] [] 0 (B r) [] 0:=by
 unfold zbe at h
 refine fc [(1000,[(0,0)]),(1001,[(0,0),(3,0)]),(1002,[(0,0),(3,0),(8,0)]),(1003,[(0,0),(3,0)]),(1004,[(0,0),(3,0),(20,0)])] Tryz.func257 ?_
 simp only [Tryz.f257]
 refine sA ?_
 obtain ⟨y0,hl1,h⟩:=zj7 h
 refine zky (λ g0:zcX=>⟨[(0,(.lf true (.sl (a0.map eS)))),(3,(I g0.t3))],[],0,21⟩) (zB a0) _ _ hl1 (zkg []) ?_
 ·intro n1 g0 z1 hs1 hk1
  unfold zB at hs1
  try dsimp only at hs1
  refine sA ?_
  refine zki hs1 (λ hs1 _=>sA ?_) (λ hs1 _=>sA ?_)
  ·obtain ⟨hp3,hs1⟩:=zj8 hs1
   have hn3:g0.t3.toNat < a0.length:=by first|omega|(simp;omega)
   refine sA ?_
   refine zkw ?_
   obtain ⟨hp4,hs1⟩:=zj8 hs1
   have hn4:(wI (g0.t3 - 1)).toNat < a0.length:=by first|omega|(simp;omega)
   refine sA ?_
   refine zkw ?_
   obtain ⟨c0,hr5,hs1⟩:=zj7 hs1
   refine zkj (zha hr5) (sA ?_)
   refine zki hs1 (λ hs1 _=>sA ?_) (λ hs1 _=>sA ?_)
   ·cases hs1
    cases hk1
    try dsimp only at h
    refine sA ?_
    have he:=oi h
    subst he
    exact zkc ⟨[(2,(B false))],[],0,21⟩ []
   ·cases hs1
    exact zkr hk1 (zkg [])
  ·cases hs1
   cases hk1
   try dsimp only at h
   refine sA ?_
   have he:=oi h
   subst he
   exact zkc ⟨[(2,(B true))],[],0,21⟩ []
theorem zfi {a0:zkq} {r:Bool} (h:zbq a0=some r):Fn Tryz.prog 224 [(.ag [(I a0.fSt),(I a0.Next),(B a0.fCa),(I a0.Done),(.lf true (.sl (a0.fSi.map eS))),(.lf true (.sl (a0.fTi.map eS)))])] [] 0 (B r) [] 0:=by
 unfold zbq at h
 refine fc [(1000,[(1,0)]),(1001,[(1,0),(18,0)]),(1003,[(1,0),(46,0)]),(1005,[(1,0),(49,0)]),(4001,[]),(4003,[])] Tryz.func224 ?_
 simp only [Tryz.f224]
 refine sA ?_
 obtain ⟨p0,hq1,h⟩:=zj7 h
 refine zkC (λ s2=>s2=⟨[(1,(.pb 0 0)),(18,(B p0.t18))],[(0,some (true,.box [(I a0.fSt),(I a0.Next),(B a0.fCa),(I a0.Done),(.lf true (.sl (a0.fSi.map eS))),(.lf true (.sl (a0.fTi.map eS)))]))],1,78⟩) ?_ ?_
 ·refine sA ?_
  obtain ⟨c0,hr2,hq1⟩:=zj7 hq1
  refine zkj (zc8 hr2) (sA ?_)
  refine zkt hq1 (λ hq1 _=>sA ?_) (λ hq1 _=>sA ?_)
  ·cases hq1
   exact zkp rfl (zkg [some 0])
  ·obtain ⟨c1,hr4,hq1⟩:=zj7 hq1
   refine zkj (zc8 hr4) (sA ?_)
   refine zkt hq1 (λ hq1 _=>sA ?_) (λ hq1 _=>sA ?_)
   ·cases hq1
    exact zkp rfl (zkg [some 0])
   ·obtain ⟨c2,hr6,hq1⟩:=zj7 hq1
    refine zkj (zc8 hr6) (sA ?_)
    cases hq1
    exact zkp rfl (zkg [some 0])
 ·intro s2 hJ;subst hJ
  try dsimp only at h
  refine sA ?_
  refine zki h (λ h _=>sA ?_) (λ h _=>sA ?_)
  ·have he:=oi h
   subst he
   exact zkc ⟨[(2,(B false))],[],0,78⟩ []
  ·obtain ⟨p1,hq8,h⟩:=zj7 h
   refine zkC (λ s2=>s2=⟨[(1,(.pb 0 0)),(46,(B p1.t46))],[(0,some (true,.box [(I a0.fSt),(I a0.Next),(B a0.fCa),(I a0.Done),(.lf true (.sl (a0.fSi.map eS))),(.lf true (.sl (a0.fTi.map eS)))]))],1,78⟩) ?_ ?_
   ·refine sA ?_
    obtain ⟨c3,hr9,hq8⟩:=zj7 hq8
    refine zkj (zh0 hr9) (sA ?_)
    refine zkt hq8 (λ hq8 _=>sA ?_) (λ hq8 _=>sA ?_)
    ·cases hq8
     exact zkp rfl (zkg [some 0])
    ·obtain ⟨c4,hr11,hq8⟩:=zj7 hq8
     refine zkj (zhK hr11) (sA ?_)
     refine zkt hq8 (λ hq8 _=>sA ?_) (λ hq8 _=>sA ?_)
     ·cases hq8
      exact zkp rfl (zkg [some 0])
     ·obtain ⟨c5,hr13,hq8⟩:=zj7 hq8
      refine zkj (zh0 hr13) (sA ?_)
      refine zkt hq8 (λ hq8 _=>sA ?_) (λ hq8 _=>sA ?_)
      ·cases hq8
       exact zkp rfl (zkg [some 0])
      ·obtain ⟨c6,hr15,hq8⟩:=zj7 hq8
       refine zkj (zhr hr15) (sA ?_)
       refine zkt hq8 (λ hq8 _=>sA ?_) (λ hq8 _=>sA ?_)
       ·cases hq8
        exact zkp rfl (zkg [some 0])
       ·obtain ⟨c7,hr17,hq8⟩:=zj7 hq8
        refine zkj (zhK hr17) (sA ?_)
        cases hq8
        exact zkp rfl (zkg [some 0])
   ·intro s2 hJ;subst hJ
    try dsimp only at h
    refine sA ?_
    refine zki h (λ h _=>sA ?_) (λ h _=>sA ?_)
    ·have he:=oi h
     subst he
     exact zkc ⟨[(2,(B false))],[],0,78⟩ []
    ·refine zki h (λ h _=>sA ?_) (λ h _=>sA ?_)
     ·cases h
      exact zkc ⟨[(2,(B (decide (a0.Next > 1))))],[],0,78⟩ []
     ·refine zkt h (λ h _=>sA ?_) (λ h _=>sA ?_)
      ·refine zkt h (λ h _=>sA ?_) (λ h _=>sA ?_)
       ·refine zkt h (λ h _=>sA ?_) (λ h _=>sA ?_)
        ·refine zkt h (λ h _=>sA ?_) (λ h _=>sA ?_)
         ·cases h
          exact zkc ⟨[(2,(B (((a0.fTi.length:Nat):Int) == 0)))],[],0,78⟩ []
         ·have he:=oi h
          subst he
          exact zkc ⟨[(2,(B false))],[],0,78⟩ []
        ·have he:=oi h
         subst he
         exact zkc ⟨[(2,(B false))],[],0,78⟩ []
       ·have he:=oi h
        subst he
        exact zkc ⟨[(2,(B false))],[],0,78⟩ []
      ·have he:=oi h
       subst he
       exact zkc ⟨[(2,(B false))],[],0,78⟩ []
theorem zco {a0:Int} {r:Bool} (h:zU a0=some r):Fn Tryz.prog 123 [(I a0)] [] 0 (B r) [] 0:=by
 unfold zU at h
 refine fc [] Tryz.func123 ?_
 simp only [Tryz.f123]
 refine sA ?_
 obtain ⟨c0,hr1,h⟩:=zj7 h
 refine zkj (zc8 hr1) (sA ?_)
 have he:=oi h
 subst he
 exact zkc ⟨[(2,(B c0))],[],0,5⟩ []
theorem zfJ {a0:Int} {r:Bool} (h:zal a0=some r):Fn Tryz.prog 156 [(I a0)] [] 0 (B r) [] 0:=by
 unfold zal at h
 refine fc [] Tryz.func156 ?_
 simp only [Tryz.f156]
 refine sA ?_
 obtain ⟨c0,hr1,h⟩:=zj7 h
 refine zkj (zc8 hr1) (sA ?_)
 have he:=oi h
 subst he
 exact zkc ⟨[(2,(B c0))],[],0,5⟩ []
theorem zhs {a0:zka} {r:Bool} (h:zdd a0=some r):Fn Tryz.prog 84 [(.ag [(I a0.Id),(I a0.fVe),(I a0.Kind),(.lf false (.sc (.string a0.Name)))])] [] 0 (B r) [] 0:=by
 unfold zdd at h
 refine fc [] Tryz.func84 ?_
 simp only [Tryz.f84]
 refine sA ?_
 obtain ⟨c0,hr1,h⟩:=zj7 h
 refine zkj (zc8 hr1) (sA ?_)
 refine zkt h (λ h _=>sA ?_) (λ h _=>sA ?_)
 ·obtain ⟨c1,hr3,h⟩:=zj7 h
  refine zkj (zco hr3) (sA ?_)
  refine zkt h (λ h _=>sA ?_) (λ h _=>sA ?_)
  ·obtain ⟨c2,hr5,h⟩:=zj7 h
   refine zkj (zfJ hr5) (sA ?_)
   refine zkt h (λ h _=>sA ?_) (λ h _=>sA ?_)
   ·obtain ⟨c3,hr7,h⟩:=zj7 h
    refine zkj (zel hr7) (sA ?_)
    have he:=oi h
    subst he
    exact zkc ⟨[(2,(B c3))],[],0,21⟩ []
   ·have he:=oi h
    subst he
    exact zkc ⟨[(2,(B false))],[],0,21⟩ []
  ·have he:=oi h
   subst he
   exact zkc ⟨[(2,(B false))],[],0,21⟩ []
 ·have he:=oi h
  subst he
  exact zkc ⟨[(2,(B false))],[],0,21⟩ []
theorem zgx {a0:(List ByteArray)} {r:(List ByteArray)} (h:za7 a0=some r):Fn Tryz.prog 258 [(.lf true (.sl (a0.map eS)))] [] 0 (.os 0 1 0 r.length r.length false) [(0,some (true,.arr false 1 (r.map eS)))] 1:=by
 unfold za7 at h
 obtain ⟨hp,h⟩:=zj8 h
 have he:=oi h;subst he
 refine fc [] Tryz.func258 ?_
 simp only [Tryz.f258]
 simp (disch:=assumption) only [go_sem,qA,qB,qC,qD,↓reduceIte,qE,reduceCtorEq,qF,qH,qI,qJ,qK,qG]
 intro b hb
 refine zoc (b=true) (by simp) (λ hc=>?_) (λ hc=>?_)
 ·have h0:a0=[]:=by simpa using hb (by simpa using hc)
  subst h0
  try simp (disch:=assumption) only [go_sem,qA,qB,qC,qD,↓reduceIte,qE,reduceCtorEq,qF,qH,qI,qJ,qK,qG]
  refine zlA ⟨[(2,(.os 0 1 0 0 0 false))],[(0,some (true,.arr false 1 (([]:List ByteArray).map eS)))],1,8⟩ (zlB (m:=0) [none] rfl rfl rfl (by rfl) ?_ ?_) ?_
  all_goals ((try simp (disch:=assumption) only [go_sem,qA,qB,qC,qD,↓reduceIte,qE,reduceCtorEq,qF,qH,qI,qJ,qK,qG]);(repeat' first | done | rfl | omega | refine And.intro ?_ ?_ | (simp;done) | (simp;omega)))
 ·try simp (disch:=assumption) only [go_sem,qA,qB,qC,qD,↓reduceIte,qE,reduceCtorEq,qF,qH,qI,qJ,qK,qG]
  first | refine And.intro (by first | omega | exact ⟨by omega,λ _=>zmq λ _=>rfl⟩ | (refine ⟨?_,by omega⟩;first | exact zmq λ _=>rfl | simp)) ?_ | skip
  try simp (disch:=assumption) only [go_sem,qA,qB,qC,qD,↓reduceIte,qE,reduceCtorEq,qF,qH,qI,qJ,qK,qG]
  refine zlA ⟨[(2,(.os 0 1 0 a0.length a0.length false))],[(0,some (true,.arr false 1 (a0.map eS)))],1,8⟩ (zlB (m:=0) [some 1] rfl rfl rfl (by rfl) ?_ ?_) ?_
  all_goals ((try simp (disch:=assumption) only [go_sem,qA,qB,qC,qD,↓reduceIte,qE,reduceCtorEq,qF,qH,qI,qJ,qK,qG]);(repeat' first | done | rfl | omega | refine And.intro ?_ ?_ | (simp;done) | (simp;omega)))
theorem zhb {a0:zkq} {r:zkq} (h:za5 a0=some r):Fn Tryz.prog 225 [(.ag [(I a0.fSt),(I a0.Next),(B a0.fCa),(I a0.Done),(.lf true (.sl (a0.fSi.map eS))),(.lf true (.sl (a0.fTi.map eS)))])] [] 0 (.ag [(I r.fSt),(I r.Next),(B r.fCa),(I r.Done),(.os 0 1 0 r.fSi.length r.fSi.length false),(.os 1 1 0 r.fTi.length r.fTi.length false)]) [(0,some (true,.arr false 1 (r.fSi.map eS))),(1,some (true,.arr false 1 (r.fTi.map eS)))] 3:=by
 unfold za5 at h
 refine fc [(1,[(4,2)]),(1000,[(1,0),(2,0)]),(1001,[(1,0),(2,0)])] Tryz.func225 ?_
 simp only [Tryz.f225]
 refine sA ?_
 obtain ⟨c0,hr1,h⟩:=zj7 h
 refine zkj (zgx hr1) (sA ?_)
 obtain ⟨c1,hr2,h⟩:=zj7 h
 refine zkj (zgx hr2) (sA ?_)
 cases h
 exact zkc ⟨[(2,(.pb 2 0))],[(0,some (true,.arr false 1 (c0.map eS))),(1,some (true,.arr false 1 (c1.map eS))),(2,some (true,.box [(I a0.fSt),(I a0.Next),(B a0.fCa),(I a0.Done),(.os 0 1 0 c0.length c0.length false),(.os 1 1 0 c1.length c1.length false)]))],3,12⟩ [some 2,some 3,some 1]
theorem zgy {a0:ByteArray} {r:Bool} (h:zb7 a0=some r):Fn Tryz.prog 294 [(.lf false (.sc (.string a0)))] [] 0 (B r) [] 0:=by
 unfold zb7 at h
 refine fc [] Tryz.func294 ?_
 simp only [Tryz.f294]
 refine sA ?_
 cases h
 exact zkc ⟨[(2,(B (!(a0.toList == a0.toList))))],[],0,6⟩ []
theorem zgT {a0:(List ByteArray)} {a1:ByteArray} {r:(Int×Bool)} (h:zam a0 a1=some r):Fn Tryz.prog 283 [(.lf true (.sl (a0.map eS))),(.lf false (.sc (.string a1)))] [] 0 (.tu [(I r.1),(B r.2)]) [] 0:=by
 unfold zam at h
 refine fc [(1000,[(0,0),(1,0)]),(1001,[(0,0),(1,0),(6,0)]),(1002,[(0,0),(1,0),(6,0),(7,0),(8,0)]),(1003,[(0,0),(1,0),(6,0),(7,0),(8,0),(15,0)]),(1004,[(0,0),(1,0),(6,0),(7,0),(8,0),(9,0)]),(1005,[(0,0),(1,0),(6,0),(7,0),(8,0),(9,0),(27,0)]),(1006,[(0,0),(1,0),(6,0),(7,0),(8,0)]),(1007,[(0,0),(1,0),(6,0),(7,0),(8,0)])] Tryz.func283 ?_
 simp only [Tryz.f283]
 refine sA ?_
 obtain ⟨y0,hl1,h⟩:=zj7 h
 refine zky (λ g0:zb2=>⟨[(0,(.lf true (.sl (a0.map eS)))),(1,(.lf false (.sc (.string a1)))),(6,(I ((a0.length:Nat):Int))),(7,(I g0.t7)),(8,(I g0.t8))],[],0,54⟩) (zx a0 a1) _ _ hl1 (zkg []) ?_
 ·intro n1 g0 z1 hs1 hk1
  unfold zx at hs1
  try dsimp only at hs1
  refine sA ?_
  refine zki hs1 (λ hs1 _=>sA ?_) (λ hs1 _=>sA ?_)
  ·obtain ⟨hp3,hs1⟩:=zj8 hs1
   have hn3:(wI (shR 64 (wU (wI (g0.t7+g0.t8))) 1)).toNat < a0.length:=by first|omega|(simp;omega)
   refine sA ?_
   refine zkw ?_
   obtain ⟨c0,hr4,hs1⟩:=zj7 hs1
   refine zkj (zha hr4) (sA ?_)
   refine zki hs1 (λ hs1 _=>sA ?_) (λ hs1 _=>sA ?_)
   ·cases hs1
    exact zkr hk1 (zkg [])
   ·cases hs1
    exact zkr hk1 (zkg [])
  ·cases hs1
   cases hk1
   try dsimp only at h
   refine sA ?_
   refine zkt h (λ h _=>sA ?_) (λ h _=>sA ?_)
   ·obtain ⟨hp7,h⟩:=zj8 h
    have hn7:g0.t7.toNat < a0.length:=by first|omega|(simp;omega)
    refine sA ?_
    refine zkw ?_
    refine zkt h (λ h _=>sA ?_) (λ h _=>sA ?_)
    ·cases h
     exact zkc ⟨[(4,(I g0.t7)),(5,(B true))],[],0,54⟩ []
    ·obtain ⟨hp9,h⟩:=zj8 h
     have hn9:g0.t7.toNat < a0.length:=by first|omega|(simp;omega)
     refine sA ?_
     refine zkw ?_
     obtain ⟨c1,hr10,h⟩:=zj7 h
     refine zkj (zgy hr10) (sA ?_)
     refine zkt h (λ h _=>sA ?_) (λ h _=>sA ?_)
     ·obtain ⟨c2,hr12,h⟩:=zj7 h
      refine zkj (zgy hr12) (sA ?_)
      cases h
      exact zkc ⟨[(4,(I g0.t7)),(5,(B c2))],[],0,54⟩ []
     ·cases h
      exact zkc ⟨[(4,(I g0.t7)),(5,(B false))],[],0,54⟩ []
   ·cases h
    exact zkc ⟨[(4,(I g0.t7)),(5,(B false))],[],0,54⟩ []
theorem zht {a0:List ByteArray} {a1 a2:Int} {m0:Nat} {x0:Bool} {r:List ByteArray} (h:zcr a0 a1 a2=some r):Fn Tryz.prog 284 [(.os 0 1 0 a0.length m0 x0),(I a1),(I a2)] [(0,some (false,.arr true 1 (a0.map eS)))] 1 (.os 1 1 0 r.length r.length false) [(0,none),(1,some (false,.arr false 1 (r.map eS)))] 2:=by
 unfold zcr at h
 obtain ⟨⟨hp1,hp2,hp3,hp4⟩,h⟩:=zj8 h
 have he:=oi h;subst he
 refine fc [] Tryz.func284 ?_
 simp only [Tryz.f284]
 simp (disch:=assumption) only [go_sem,qA,qB,qC,qD,↓reduceIte,qE,reduceCtorEq,qF,qH,qI,qJ,qK,qG]
 refine And.intro (by omega) ?_
 try simp (disch:=assumption) only [go_sem,qA,qB,qC,qD,↓reduceIte,qE,reduceCtorEq,qF,qH,qI,qJ,qK,qG]
 refine zoc (a1 == a2) (by first | rfl | simp) (λ hc=>?_) (λ hc=>?_)
 ·try simp (disch:=assumption) only [go_sem,qA,qB,qC,qD,↓reduceIte,qE,reduceCtorEq,qF,qH,qI,qJ,qK,qG]
  have he:a1=a2:=by simpa using hc
  have hr:a0.take a1.toNat++a0.drop a2.toNat=a0:=by rw [he];exact qa _ _
  rw [hr]
  refine zlA ⟨[(6,(.os 1 1 0 a0.length a0.length false))],[(0,none),(1,some (false,.arr false 1 (a0.map eS)))],2,33⟩ (zlB (m:=1) [some 0,some 0] rfl rfl rfl (by rfl) ?_ ?_) ?_
  all_goals ((try simp (disch:=assumption) only [go_sem,qA,qB,qC,qD,↓reduceIte,qE,reduceCtorEq,qF,qH,qI,qJ,qK,qG]);(repeat' first | done | rfl | omega | refine And.intro ?_ ?_ | (simp;done) | (simp;omega)))
 ·try simp (disch:=assumption) only [go_sem,qA,qB,qC,qD,↓reduceIte,qE,reduceCtorEq,qF,qH,qI,qJ,qK,qG]
  refine And.intro (by omega) (And.intro (by omega) ?_)
  have hs:a2.toNat+(a0.length - a2.toNat)≤a0.length:=by omega
  simp (disch:=assumption) only [go_sem,qA,qB,qC,qD,↓reduceIte,qE,reduceCtorEq,qF,qH,qI,qJ,qK,qG,hs]
  have hd:(a0.drop a2.toNat).length=a0.length - a2.toNat:=qb
  have ht:(a0.take a1.toNat).length=a1.toNat:=by rw [qc];omega
  have hR:(a0.take a1.toNat++a0.drop a2.toNat).length=a1.toNat+(a0.drop a2.toNat).length:=by rw [qM,ht]
  refine And.intro ⟨by omega,(by first | exact zmq λ _=>rfl | simp),by omega⟩ (And.intro ⟨by omega,by omega,by omega⟩ (And.intro (by omega) ?_))
  refine zlA ⟨[(6,(.os 1 1 0 (a0.take a1.toNat++a0.drop a2.toNat).length (a0.take a1.toNat++a0.drop a2.toNat).length false))],[(0,none),(1,some (false,.arr false 1 ((a0.take a1.toNat++a0.drop a2.toNat).map eS)))],2,33⟩ (zlB (m:=1) [some 0,some 1] rfl rfl rfl (by rfl) ?_ ?_) ?_
  all_goals ((try simp (disch:=assumption) only [go_sem,qA,qB,qC,qD,↓reduceIte,qE,reduceCtorEq,qF,qH,qI,qJ,qK,qG]);(repeat' first | done | rfl | omega | refine And.intro ?_ ?_ | (simp;done) | (simp;omega)))
theorem zhu {a0:List ByteArray} {a1:Int} {a2:List ByteArray} {m0 m2:Nat} {x0 x2:Bool} {r:List ByteArray} (h:zcs a0 a1 a2=some r):Fn Tryz.prog 285 [(.os 0 1 0 a0.length m0 x0),(I a1),(.os 1 1 0 a2.length m2 x2)] [(0,some (false,.arr true 1 (a0.map eS))),(1,some (false,.arr true 1 (a2.map eS)))] 2 (.os 2 1 0 r.length r.length false) [(0,none),(1,none),(2,some (false,.arr false 1 (r.map eS)))] 3:=by
 unfold zcs at h
 obtain ⟨⟨hp1,hp2,hp3,hp4⟩,h⟩:=zj8 h
 have he:=oi h;subst he
 obtain ⟨x,rfl⟩:=List.length_eq_one_iff.1 hp1
 rw [List.append_assoc,List.singleton_append]
 exact zx1 Go.Proofs.Tryz.lays22 (Ent.of Tryz.func285 rfl (by simp [Tryz.f285])) (λ _=>rfl) hp2 hp3 hp4
theorem zhv {a0:zkq} {a1:ByteArray} {m1:Nat} {x1:Bool} {m2:Nat} {x2:Bool} {r:(Bool×zkq)} (h:zbf a0 a1=some r):Fn Tryz.prog 259 [(.pb 0 0),(.lf false (.sc (.string a1)))] [(0,some (false,.box [(I a0.fSt),(I a0.Next),(B a0.fCa),(I a0.Done),(.os 1 1 0 a0.fSi.length m1 x1),(.os 2 1 0 a0.fTi.length m2 x2)])),(1,some (false,.arr true 1 (a0.fSi.map eS))),(2,some (false,.arr true 1 (a0.fTi.map eS)))] 3 (B r.1) [(0,some (false,.box [(I r.2.fSt),(I r.2.Next),(B r.2.fCa),(I r.2.Done),(.os 1 1 0 a0.fSi.length a0.fSi.length false),(.os 3 1 0 r.2.fTi.length r.2.fTi.length false)])),(1,some (false,.arr false 1 (a0.fSi.map eS))),(2,none),(3,some (false,.arr false 1 (r.2.fTi.map eS)))] 4:=by
 unfold zbf at h
 refine fc [(1000,[(0,0),(1,0)]),(1001,[(0,0),(1,0),(5,0),(6,0)]),(1002,[]),(1003,[(0,0),(1,0),(5,0),(27,0)]),(1004,[]),(1005,[(0,0),(1,0),(5,0),(40,0)])] Tryz.func259 ?_
 simp only [Tryz.f259]
 refine sA ?_
 obtain ⟨c0,hr1,h⟩:=zj7 h
 refine zkj (zgT hr1) (sA ?_)
 refine zki h (λ h _=>sA ?_) (λ h _=>sA ?_)
 ·obtain ⟨c1,hr3,h⟩:=zj7 h
  refine zlj [2] (zht hr3) (sA ?_)
  cases h
  exact zkc ⟨[(4,(B true))],[(0,some (false,.box [(I a0.fSt),(I a0.Next),(B a0.fCa),(I a0.Done),(.os 1 1 0 a0.fSi.length a0.fSi.length false),(.os 3 1 0 c1.length c1.length false)])),(1,some (false,.arr false 1 (a0.fSi.map eS))),(2,none),(3,some (false,.arr false 1 (c1.map eS)))],4,47⟩ [some 0,some 1,some 2,some 3]
 ·refine zki h (λ h _=>sA ?_) (λ h _=>sA ?_)
  ·cases h
   exact zkc ⟨[(4,(B false))],[(0,some (false,.box [(I a0.fSt),(I a0.Next),(B a0.fCa),(I a0.Done),(.os 1 1 0 a0.fSi.length a0.fSi.length false),(.os 3 1 0 a0.fTi.length a0.fTi.length false)])),(1,some (false,.arr false 1 (a0.fSi.map eS))),(2,none),(3,some (false,.arr false 1 (a0.fTi.map eS)))],4,47⟩ [some 0,some 1,some 2,some 2]
  ·obtain ⟨c2,hr5,h⟩:=zj7 h
   refine zlj [2,3] (zhu hr5) (sA ?_)
   cases h
   exact zkc ⟨[(4,(B true))],[(0,some (false,.box [(I a0.fSt),(I a0.Next),(B a0.fCa),(I a0.Done),(.os 1 1 0 a0.fSi.length a0.fSi.length false),(.os 3 1 0 c2.length c2.length false)])),(1,some (false,.arr false 1 (a0.fSi.map eS))),(2,none),(3,some (false,.arr false 1 (c2.map eS)))],4,47⟩ [some 0,some 1,some 2,some 4]
theorem zgF {a0:zkq} {a1:Int} {a2:ByteArray} {m1:Nat} {x1:Bool} {m2:Nat} {x2:Bool} {r:(Bool×zkq)} (h:zbr a0 a1 a2=some r):Fn Tryz.prog 226 [(.pb 0 0),(I a1),(.lf false (.sc (.string a2)))] [(0,some (false,.box [(I a0.fSt),(I a0.Next),(B a0.fCa),(I a0.Done),(.os 1 1 0 a0.fSi.length m1 x1),(.os 2 1 0 a0.fTi.length m2 x2)])),(1,some (false,.arr true 1 (a0.fSi.map eS))),(2,some (false,.arr true 1 (a0.fTi.map eS)))] 3 (B r.1) [(0,some (false,.box [(I r.2.fSt),(I r.2.Next),(B r.2.fCa),(I r.2.Done),(.os 3 1 0 r.2.fSi.length r.2.fSi.length false),(.os 4 1 0 r.2.fTi.length r.2.fTi.length false)])),(1,none),(2,none),(3,some (false,.arr false 1 (r.2.fSi.map eS))),(4,some (false,.arr false 1 (r.2.fTi.map eS)))] 5:=by
 unfold zbr at h
 refine fc [(1000,[(0,0),(1,0),(2,0)]),(1001,[(0,0),(1,0),(2,0),(32,0)]),(1003,[(0,0),(2,0),(33,0)]),(1004,[(0,0),(2,0),(33,0),(34,0)]),(1005,[(0,0)]),(1006,[(0,0),(2,0),(33,0),(39,0)]),(1007,[(0,0),(2,0),(54,0)]),(1009,[(0,0)]),(1010,[(0,0),(2,0),(33,0),(65,0)]),(1011,[(0,0)]),(1012,[(0,0),(2,0),(33,0),(74,0)]),(1013,[(0,0),(79,0)]),(1015,[(0,0),(33,0),(80,0)]),(1016,[(0,0),(85,0)]),(1018,[(0,0)]),(1019,[(0,0),(89,0)]),(1020,[(0,0)]),(1021,[]),(4001,[]),(4007,[])] Tryz.func226 ?_
 simp only [Tryz.f226]
 refine sA ?_
 obtain ⟨p0,hq1,h⟩:=zj7 h
 refine zkC (λ s2=>s2=⟨[(0,(.pb 0 0)),(1,(I a1)),(2,(.lf false (.sc (.string a2)))),(32,(B p0.t32))],[(0,some (false,.box [(I a0.fSt),(I a0.Next),(B a0.fCa),(I a0.Done),(.os 1 1 0 a0.fSi.length m1 x1),(.os 2 1 0 a0.fTi.length m2 x2)])),(1,some (false,.arr true 1 (a0.fSi.map eS))),(2,some (false,.arr true 1 (a0.fTi.map eS)))],3,104⟩) ?_ ?_
 ·refine sA ?_
  refine zkt hq1 (λ hq1 _=>sA ?_) (λ hq1 _=>sA ?_)
  ·cases hq1
   exact zkp rfl (zkg [some 0,some 1,some 2])
  ·refine zkt hq1 (λ hq1 _=>sA ?_) (λ hq1 _=>sA ?_)
   ·cases hq1
    exact zkp rfl (zkg [some 0,some 1,some 2])
   ·refine zkt hq1 (λ hq1 _=>sA ?_) (λ hq1 _=>sA ?_)
    ·cases hq1
     exact zkp rfl (zkg [some 0,some 1,some 2])
    ·cases hq1
     exact zkp rfl (zkg [some 0,some 1,some 2])
 ·intro s2 hJ;subst hJ
  try dsimp only at h
  refine sA ?_
  refine zki h (λ h _=>sA ?_) (λ h _=>sA ?_)
  ·cases h
   exact zkc ⟨[(6,(B false))],[(0,some (false,.box [(I a0.fSt),(I a0.Next),(B a0.fCa),(I a0.Done),(.os 3 1 0 a0.fSi.length a0.fSi.length false),(.os 4 1 0 a0.fTi.length a0.fTi.length false)])),(1,none),(2,none),(3,some (false,.arr false 1 (a0.fSi.map eS))),(4,some (false,.arr false 1 (a0.fTi.map eS)))],5,104⟩ [some 0,some 1,some 2,some 1,some 2]
  ·refine zki h (λ h _=>sA ?_) (λ h _=>sA ?_)
   ·cases h
    exact zkc ⟨[(6,(B true))],[(0,some (false,.box [(I 1),(I (wI (a0.Next+1))),(B a0.fCa),(I a0.Done),(.os 3 1 0 a0.fSi.length a0.fSi.length false),(.os 4 1 0 a0.fTi.length a0.fTi.length false)])),(1,none),(2,none),(3,some (false,.arr false 1 (a0.fSi.map eS))),(4,some (false,.arr false 1 (a0.fTi.map eS)))],5,104⟩ [some 0,some 1,some 2,some 1,some 2]
   ·refine zki h (λ h _=>sA ?_) (λ h _=>sA ?_)
    ·obtain ⟨p1,hq8,h⟩:=zj7 h
     refine zkC (λ s2=>s2=⟨[(0,(.pb 0 0)),(2,(.lf false (.sc (.string a2)))),(54,(B p1.t54))],[(0,some (false,.box [(I a0.fSt),(I a0.Next),(B a0.fCa),(I a0.Done),(.os 1 1 0 a0.fSi.length m1 x1),(.os 2 1 0 a0.fTi.length m2 x2)])),(1,some (false,.arr true 1 (a0.fSi.map eS))),(2,some (false,.arr true 1 (a0.fTi.map eS)))],3,104⟩) ?_ ?_
     ·refine sA ?_
      obtain ⟨c0,hr9,hq8⟩:=zj7 hq8
      refine zkj (zaK hr9) (sA ?_)
      refine zkt hq8 (λ hq8 _=>sA ?_) (λ hq8 _=>sA ?_)
      ·cases hq8
       exact zkp rfl (zkg [some 0,some 1,some 2])
      ·cases hq8
       exact zkp rfl (zkg [some 0,some 1,some 2])
     ·intro s2 hJ;subst hJ
      try dsimp only at h
      refine sA ?_
      refine zki h (λ h _=>sA ?_) (λ h _=>sA ?_)
      ·cases h
       exact zkc ⟨[(6,(B false))],[(0,some (false,.box [(I a0.fSt),(I a0.Next),(B a0.fCa),(I a0.Done),(.os 3 1 0 a0.fSi.length a0.fSi.length false),(.os 4 1 0 a0.fTi.length a0.fTi.length false)])),(1,none),(2,none),(3,some (false,.arr false 1 (a0.fSi.map eS))),(4,some (false,.arr false 1 (a0.fTi.map eS)))],5,104⟩ [some 0,some 1,some 2,some 1,some 2]
      ·obtain ⟨hp12,h⟩:=zj8 h
       refine sA ?_
       refine zkw ?_
       cases h
       exact zkc ⟨[(6,(B true))],[(0,some (false,.box [(I a0.fSt),(I (wI (a0.Next+1))),(B a0.fCa),(I a0.Done),(.os 3 1 0 ((a0.fSi++([a2])).length) ((a0.fSi++([a2])).length) false),(.os 4 1 0 a0.fTi.length a0.fTi.length false)])),(1,none),(2,none),(3,some (false,.arr false 1 ((a0.fSi++([a2])).map eS))),(4,some (false,.arr false 1 (a0.fTi.map eS)))],5,104⟩ [some 0,some 1,some 2,some 4,some 2]
    ·refine zki h (λ h _=>sA ?_) (λ h _=>sA ?_)
     ·cases h
      exact zkc ⟨[(6,(B true))],[(0,some (false,.box [(I a0.fSt),(I (wI (a0.Next+1))),(B a0.fCa),(I (wI (a0.Done+1))),(.os 3 1 0 a0.fSi.length a0.fSi.length false),(.os 4 1 0 a0.fTi.length a0.fTi.length false)])),(1,none),(2,none),(3,some (false,.arr false 1 (a0.fSi.map eS))),(4,some (false,.arr false 1 (a0.fTi.map eS)))],5,104⟩ [some 0,some 1,some 2,some 1,some 2]
     ·refine zki h (λ h _=>sA ?_) (λ h _=>sA ?_)
      ·obtain ⟨c1,hr15,h⟩:=zj7 h
       refine zlj [0,1,2] (zhv hr15) (sA ?_)
       refine zki h (λ h _=>sA ?_) (λ h _=>sA ?_)
       ·cases h
        exact zkc ⟨[(6,(B false))],[(0,some (false,.box [(I c1.2.fSt),(I c1.2.Next),(B c1.2.fCa),(I c1.2.Done),(.os 3 1 0 a0.fSi.length a0.fSi.length false),(.os 4 1 0 c1.2.fTi.length c1.2.fTi.length false)])),(1,none),(2,none),(3,some (false,.arr false 1 (a0.fSi.map eS))),(4,some (false,.arr false 1 (c1.2.fTi.map eS)))],5,104⟩ [some 0,some 1,some 2,some 1,some 3]
       ·cases h
        exact zkc ⟨[(6,(B true))],[(0,some (false,.box [(I c1.2.fSt),(I (wI (c1.2.Next+1))),(B c1.2.fCa),(I c1.2.Done),(.os 3 1 0 a0.fSi.length a0.fSi.length false),(.os 4 1 0 c1.2.fTi.length c1.2.fTi.length false)])),(1,none),(2,none),(3,some (false,.arr false 1 (a0.fSi.map eS))),(4,some (false,.arr false 1 (c1.2.fTi.map eS)))],5,104⟩ [some 0,some 1,some 2,some 1,some 3]
      ·refine zki h (λ h _=>sA ?_) (λ h _=>sA ?_)
       ·refine zki h (λ h _=>sA ?_) (λ h _=>sA ?_)
        ·cases h
         exact zkc ⟨[(6,(B false))],[(0,some (false,.box [(I a0.fSt),(I a0.Next),(B a0.fCa),(I a0.Done),(.os 3 1 0 a0.fSi.length a0.fSi.length false),(.os 4 1 0 a0.fTi.length a0.fTi.length false)])),(1,none),(2,none),(3,some (false,.arr false 1 (a0.fSi.map eS))),(4,some (false,.arr false 1 (a0.fTi.map eS)))],5,104⟩ [some 0,some 1,some 2,some 1,some 2]
        ·cases h
         exact zkc ⟨[(6,(B true))],[(0,some (false,.box [(I a0.fSt),(I (wI (a0.Next+1))),(B true),(I a0.Done),(.os 3 1 0 a0.fSi.length a0.fSi.length false),(.os 4 1 0 a0.fTi.length a0.fTi.length false)])),(1,none),(2,none),(3,some (false,.arr false 1 (a0.fSi.map eS))),(4,some (false,.arr false 1 (a0.fTi.map eS)))],5,104⟩ [some 0,some 1,some 2,some 1,some 2]
       ·refine zki h (λ h _=>sA ?_) (λ h _=>sA ?_)
        ·cases h
         exact zkc ⟨[(6,(B true))],[(0,some (false,.box [(I 2),(I (wI (a0.Next+1))),(B a0.fCa),(I a0.Done),(.os 3 1 0 a0.fSi.length a0.fSi.length false),(.os 4 1 0 (([]:List ByteArray).length) (([]:List ByteArray).length) false)])),(1,none),(2,none),(3,some (false,.arr false 1 (a0.fSi.map eS))),(4,some (false,.arr false 1 (([]:List ByteArray).map eS)))],5,104⟩ [some 0,some 1,some 2,some 1,none]
        ·cases h
         exact zkc ⟨[(6,(B true))],[(0,some (false,.box [(I a0.fSt),(I (wI (a0.Next+1))),(B a0.fCa),(I a0.Done),(.os 3 1 0 a0.fSi.length a0.fSi.length false),(.os 4 1 0 a0.fTi.length a0.fTi.length false)])),(1,none),(2,none),(3,some (false,.arr false 1 (a0.fSi.map eS))),(4,some (false,.arr false 1 (a0.fTi.map eS)))],5,104⟩ [some 0,some 1,some 2,some 1,some 2]
theorem ziV {a0:zkq} {a1:zka} {r:(zkq×Bool)} (h:zd5 a0 a1=some r):Fn Tryz.prog 209 [(.ag [(I a0.fSt),(I a0.Next),(B a0.fCa),(I a0.Done),(.lf true (.sl (a0.fSi.map eS))),(.lf true (.sl (a0.fTi.map eS)))]),(.ag [(I a1.Id),(I a1.fVe),(I a1.Kind),(.lf false (.sc (.string a1.Name)))])] [] 0 (.tu [(.ag [(I r.1.fSt),(I r.1.Next),(B r.1.fCa),(I r.1.Done),(.os 0 1 0 r.1.fSi.length r.1.fSi.length false),(.os 1 1 0 r.1.fTi.length r.1.fTi.length false)]),(B r.2)]) [(0,some (true,.arr false 1 (r.1.fSi.map eS))),(1,some (true,.arr false 1 (r.1.fTi.map eS)))] 3:=by
 unfold zd5 at h
 refine fc [(1000,[(2,0),(3,0),(4,0)]),(1001,[(2,0),(3,0),(4,0),(21,0)]),(1003,[(3,0),(4,0),(6,0)]),(1004,[(4,0),(6,0),(35,0)]),(4001,[]),(4004,[])] Tryz.func209 ?_
 simp only [Tryz.f209]
 refine sA ?_
 obtain ⟨p0,hq1,h⟩:=zj7 h
 refine zkC (λ s2=>s2=⟨[(2,(.pb 0 0)),(3,(.pb 1 0)),(4,(.pb 2 0)),(21,(B p0.t21))],[(0,some (true,.box [(I a0.fSt),(I a0.Next),(B a0.fCa),(I a0.Done),(.lf true (.sl (a0.fSi.map eS))),(.lf true (.sl (a0.fTi.map eS)))])),(1,some (true,.box [(I a1.Id),(I a1.fVe),(I a1.Kind),(.lf false (.sc (.string a1.Name)))])),(2,some (true,.box [(I 0),(I 0),(B false),(I 0),.nl,.nl]))],3,38⟩) ?_ ?_
 ·refine sA ?_
  obtain ⟨c0,hr2,hq1⟩:=zj7 hq1
  refine zkj (zfi hr2) (sA ?_)
  refine zkt hq1 (λ hq1 _=>sA ?_) (λ hq1 _=>sA ?_)
  ·cases hq1
   exact zkp rfl (zkg [some 0,some 1,some 2])
  ·obtain ⟨c1,hr4,hq1⟩:=zj7 hq1
   refine zkj (zhs hr4) (sA ?_)
   refine zkt hq1 (λ hq1 _=>sA ?_) (λ hq1 _=>sA ?_)
   ·cases hq1
    exact zkp rfl (zkg [some 0,some 1,some 2])
   ·cases hq1
    exact zkp rfl (zkg [some 0,some 1,some 2])
 ·intro s2 hJ;subst hJ
  try dsimp only at h
  refine sA ?_
  refine zki h (λ h _=>sA ?_) (λ h _=>sA ?_)
  ·cases h
   exact zkc ⟨[(4,(.pb 2 0)),(5,(B false))],[(0,some (true,.arr false 1 (([]:List ByteArray).map eS))),(1,some (true,.arr false 1 (([]:List ByteArray).map eS))),(2,some (true,.box [(I 0),(I 0),(B false),(I 0),(.os 0 1 0 (([]:List ByteArray).length) (([]:List ByteArray).length) false),(.os 1 1 0 (([]:List ByteArray).length) (([]:List ByteArray).length) false)]))],3,38⟩ [none,none,some 2]
  ·obtain ⟨c2,hr7,h⟩:=zj7 h
   refine zkj (zhb hr7) (sA ?_)
   obtain ⟨p1,hq8,h⟩:=zj7 h
   refine zkC (λ s2=>s2=⟨[(4,(.pb 0 0)),(6,(.pb 1 0)),(35,(B p1.t35))],[(0,some (true,.box [(I 0),(I 0),(B false),(I 0),.nl,.nl])),(1,some (true,.box [(I p1.b1_0),(I p1.b1_1),(B p1.b1_2),(I p1.b1_3),(.os 2 1 0 p1.c2.length p1.c2.length false),(.os 3 1 0 p1.c3.length p1.c3.length false)])),(2,some (true,.arr false 1 (p1.c2.map eS))),(3,some (true,.arr false 1 (p1.c3.map eS)))],4,38⟩) ?_ ?_
   ·refine sA ?_
    obtain ⟨c3,hr9,hq8⟩:=zj7 hq8
    refine zlj [6,3,4] (zgF hr9) (sA ?_)
    refine zkt hq8 (λ hq8 _=>sA ?_) (λ hq8 _=>sA ?_)
    ·cases hq8
     exact zkp rfl (zkg [some 2,some 6,some 7,some 8])
    ·obtain ⟨c4,hr11,hq8⟩:=zj7 hq8
     refine zkj (zfi hr11) (sA ?_)
     cases hq8
     exact zkp rfl (zkg [some 2,some 6,some 7,some 8])
   ·intro s2 hJ;subst hJ
    try dsimp only at h
    refine sA ?_
    refine zki h (λ h _=>sA ?_) (λ h _=>sA ?_)
    ·cases h
     exact zkc ⟨[(4,(.pb 2 0)),(5,(B false))],[(0,some (true,.arr false 1 (([]:List ByteArray).map eS))),(1,some (true,.arr false 1 (([]:List ByteArray).map eS))),(2,some (true,.box [(I 0),(I 0),(B false),(I 0),(.os 0 1 0 (([]:List ByteArray).length) (([]:List ByteArray).length) false),(.os 1 1 0 (([]:List ByteArray).length) (([]:List ByteArray).length) false)]))],3,38⟩ [none,none,some 0]
    ·cases h
     exact zkc ⟨[(4,(.pb 2 0)),(5,(B true))],[(0,some (true,.arr false 1 (p1.c2.map eS))),(1,some (true,.arr false 1 (p1.c3.map eS))),(2,some (true,.box [(I p1.b1_0),(I p1.b1_1),(B p1.b1_2),(I p1.b1_3),(.os 0 1 0 p1.c2.length p1.c2.length false),(.os 1 1 0 p1.c3.length p1.c3.length false)]))],3,38⟩ [some 2,some 3,some 0]
theorem zhc {a0:(List zka)} {r:(zkq×Int)} (h:zcE a0=some r):Fn Tryz.prog 161 [(.lf true (.sl (a0.map zko)))] [] 0 (.tu [(.ag [(I r.1.fSt),(I r.1.Next),(B r.1.fCa),(I r.1.Done),(.os 0 1 0 r.1.fSi.length r.1.fSi.length false),(.os 1 1 0 r.1.fTi.length r.1.fTi.length false)]),(I r.2)]) [(0,some (true,.arr false 1 (r.1.fSi.map eS))),(1,some (true,.arr false 1 (r.1.fTi.map eS)))] 3:=by
 unfold zcE at h
 refine fc [(1000,[(0,0),(2,0)]),(1001,[(0,0),(2,0),(4,0)]),(1002,[(0,0),(2,0),(4,0),(10,0),(11,0),(12,0)]),(1003,[(0,0),(2,0),(4,0),(10,0),(11,0),(12,0),(13,0)]),(1004,[(0,0),(2,0),(4,0),(5,0),(6,0),(10,0),(11,0),(12,0)]),(1005,[(0,0),(2,0),(4,0),(5,0),(7,0),(8,0),(10,0),(11,0),(12,0)]),(1006,[(0,0),(2,0),(4,0),(5,0),(7,0),(10,0),(11,0),(12,0),(24,0)]),(1008,[(0,0),(2,0),(4,0),(10,0),(11,0),(12,0)]),(1009,[(0,0),(2,0),(4,0),(10,0),(11,0),(12,0)])] Tryz.func161 ?_
 simp only [Tryz.f161]
 refine sA ?_
 obtain ⟨c0,hr1,h⟩:=zj7 h
 refine zkj (zjp hr1) (sA ?_)
 obtain ⟨y0,hl2,h⟩:=zj7 h
 refine zky (λ g0:zfM=>⟨[(0,(.lf true (.sl (a0.map zko)))),(2,(.pb 0 0)),(4,(.pb 1 0)),(10,(.lf true (.sl (a0.map zko)))),(11,(I ((a0.length:Nat):Int))),(12,(I g0.t12))],[(0,some (true,.box [(I 0),(I 0),(B false),(I 0),.nl,.nl])),(1,some (true,.box [(I g0.b1_0),(I g0.b1_1),(B g0.b1_2),(I g0.b1_3),(.os 2 1 0 g0.c2.length g0.c2.length false),(.os 3 1 0 g0.c3.length g0.c3.length false)])),(2,some (true,.arr false 1 (g0.c2.map eS))),(3,some (true,.arr false 1 (g0.c3.map eS)))],4,32⟩) (zag a0) _ _ hl2 (zkg [some 0,some 2,none,none]) ?_
 ·intro n1 g0 z1 hs1 hk1
  unfold zag at hs1
  try dsimp only at hs1
  refine sA ?_
  refine zki hs1 (λ hs1 _=>sA ?_) (λ hs1 _=>sA ?_)
  ·obtain ⟨hp4,hs1⟩:=zj8 hs1
   have hn4:g0.t12.toNat < a0.length:=by first|omega|(simp;omega)
   refine sA ?_
   refine zkw ?_
   obtain ⟨c1,hr5,hs1⟩:=zj7 hs1
   refine zkj (ziV hr5) (sA ?_)
   refine zki hs1 (λ hs1 _=>sA ?_) (λ hs1 _=>sA ?_)
   ·cases hs1
    cases hk1
    try dsimp only at h
    refine sA ?_
    cases h
    exact zkc ⟨[(2,(.pb 2 0)),(3,(I g0.t12))],[(0,some (true,.arr false 1 (g0.c2.map eS))),(1,some (true,.arr false 1 (g0.c3.map eS))),(2,some (true,.box [(I g0.b1_0),(I g0.b1_1),(B g0.b1_2),(I g0.b1_3),(.os 0 1 0 g0.c2.length g0.c2.length false),(.os 1 1 0 g0.c3.length g0.c3.length false)]))],3,32⟩ [some 2,some 3,some 0]
   ·cases hs1
    exact zkr hk1 (zkg [some 0,some 1,some 5,some 6])
  ·cases hs1
   cases hk1
   try dsimp only at h
   refine sA ?_
   cases h
   exact zkc ⟨[(2,(.pb 2 0)),(3,(I ((a0.length:Nat):Int)))],[(0,some (true,.arr false 1 (g0.c2.map eS))),(1,some (true,.arr false 1 (g0.c3.map eS))),(2,some (true,.box [(I g0.b1_0),(I g0.b1_1),(B g0.b1_2),(I g0.b1_3),(.os 0 1 0 g0.c2.length g0.c2.length false),(.os 1 1 0 g0.c3.length g0.c3.length false)]))],3,32⟩ [some 2,some 3,some 0]
theorem zgz {a0:zkb} {r:zkq} (h:zba a0=some r):Fn Tryz.prog 182 [(.ra true [.sc (.int .i64 a0.Id),.sc (.int .i64 a0.fVe),.sl (a0.fTe.fBr.map zkf)])] [] 0 (.ag [(I r.fSt),(I r.Next),(B r.fCa),(I r.Done),(.os 0 1 0 r.fSi.length r.fSi.length false),(.os 1 1 0 r.fTi.length r.fTi.length false)]) [(0,some (true,.arr false 1 (r.fSi.map eS))),(1,some (true,.arr false 1 (r.fTi.map eS)))] 3:=by
 unfold zba at h
 refine fc [(1000,[(0,0),(2,0)]),(1001,[(2,0),(3,0)])] Tryz.func182 ?_
 simp only [Tryz.f182]
 refine sA ?_
 obtain ⟨c0,hr1,h⟩:=zj7 h
 refine zkj (zf5 hr1) (sA ?_)
 obtain ⟨c1,hr2,h⟩:=zj7 h
 refine zkj (zhc hr2) (sA ?_)
 cases h
 exact zkc ⟨[(2,(.pb 2 0))],[(0,some (true,.arr false 1 (c1.1.fSi.map eS))),(1,some (true,.arr false 1 (c1.1.fTi.map eS))),(2,some (true,.box [(I c1.1.fSt),(I c1.1.Next),(B c1.1.fCa),(I c1.1.Done),(.os 0 1 0 c1.1.fSi.length c1.1.fSi.length false),(.os 1 1 0 c1.1.fTi.length c1.1.fTi.length false)]))],3,15⟩ [some 1,some 2,some 0]
theorem zh2 {a0:zkq} {a1:Int} {a2:ByteArray} {r:(Bool×Bool)} (h:zbG a0 a1 a2=some r):Fn Tryz.prog 183 [(.ag [(I a0.fSt),(I a0.Next),(B a0.fCa),(I a0.Done),(.lf true (.sl (a0.fSi.map eS))),(.lf true (.sl (a0.fTi.map eS)))]),(I a1),(.lf false (.sc (.string a2)))] [] 0 (.tu [(B r.1),(B r.2)]) [] 0:=by
 unfold zbG at h
 refine fc [(1000,[(1,0),(2,0),(3,0)]),(1001,[(1,0),(2,0),(3,0),(21,0)]),(1003,[(1,0),(2,0),(8,0)]),(4001,[])] Tryz.func183 ?_
 simp only [Tryz.f183]
 refine sA ?_
 obtain ⟨p0,hq1,h⟩:=zj7 h
 refine zkC (λ s2=>s2=⟨[(1,(I a1)),(2,(.lf false (.sc (.string a2)))),(3,(.pb 0 0)),(21,(B p0.t21))],[(0,some (true,.box [(I a0.fSt),(I a0.Next),(B a0.fCa),(I a0.Done),(.lf true (.sl (a0.fSi.map eS))),(.lf true (.sl (a0.fTi.map eS)))]))],1,31⟩) ?_ ?_
 ·refine sA ?_
  obtain ⟨c0,hr2,hq1⟩:=zj7 hq1
  refine zkj (zfi hr2) (sA ?_)
  refine zkt hq1 (λ hq1 _=>sA ?_) (λ hq1 _=>sA ?_)
  ·cases hq1
   exact zkp rfl (zkg [some 0])
  ·obtain ⟨c1,hr4,hq1⟩:=zj7 hq1
   refine zkj (zfJ hr4) (sA ?_)
   refine zkt hq1 (λ hq1 _=>sA ?_) (λ hq1 _=>sA ?_)
   ·cases hq1
    exact zkp rfl (zkg [some 0])
   ·obtain ⟨c2,hr6,hq1⟩:=zj7 hq1
    refine zkj (zel hr6) (sA ?_)
    cases hq1
    exact zkp rfl (zkg [some 0])
 ·intro s2 hJ;subst hJ
  try dsimp only at h
  refine sA ?_
  refine zki h (λ h _=>sA ?_) (λ h _=>sA ?_)
  ·cases h
   exact zkc ⟨[(6,(B false)),(7,(B false))],[],0,31⟩ []
  ·obtain ⟨c3,hr8,h⟩:=zj7 h
   refine zkj (zhb hr8) (sA ?_)
   obtain ⟨c4,hr9,h⟩:=zj7 h
   refine zlj [4,1,2] (zgF hr9) (sA ?_)
   refine zkt h (λ h _=>sA ?_) (λ h _=>sA ?_)
   ·obtain ⟨c5,hr11,h⟩:=zj7 h
    refine zkj (zfi hr11) (sA ?_)
    cases h
    exact zkc ⟨[(6,(B c5)),(7,(B true))],[],0,31⟩ []
   ·cases h
    exact zkc ⟨[(6,(B false)),(7,(B true))],[],0,31⟩ []
theorem zew {a0:zkb} {r:Bool} (h:z8 a0=some r):Fn Tryz.prog 66 [(.ra true [.sc (.int .i64 a0.Id),.sc (.int .i64 a0.fVe),.sl (a0.fTe.fBr.map zkf)])] [] 0 (B r) [] 0:=by
 unfold z8 at h
 refine fc [] Tryz.func66 ?_
 simp only [Tryz.f66]
 refine sA ?_
 cases h
 exact zkc ⟨[(2,(B ((a0.fVe.tmod 10) == a0.Id)))],[],0,13⟩ []
theorem zau {a0:(List zka)} {r:(List zka)} (h:zh a0=some r):Fn Tryz.prog 174 [(.lf true (.sl (a0.map zko)))] [] 0 (.os 0 4 0 r.length r.length false) [(0,some (true,.arr false 4 (r.map zko)))] 1:=by
 unfold zh at h
 obtain ⟨hp,h⟩:=zj8 h
 have he:=oi h;subst he
 refine fc [] Tryz.func174 ?_
 simp only [Tryz.f174]
 simp (disch:=assumption) only [go_sem,qA,qB,qC,qD,↓reduceIte,qE,reduceCtorEq,qF,qH,qI,qJ,qK,qG]
 intro b hb
 refine zoc (b=true) (by simp) (λ hc=>?_) (λ hc=>?_)
 ·have h0:a0=[]:=by simpa using hb (by simpa using hc)
  subst h0
  try simp (disch:=assumption) only [go_sem,qA,qB,qC,qD,↓reduceIte,qE,reduceCtorEq,qF,qH,qI,qJ,qK,qG]
  refine zlA ⟨[(2,(.os 0 4 0 0 0 false))],[(0,some (true,.arr false 4 (([]:List zka).map zko)))],1,8⟩ (zlB (m:=0) [none] rfl rfl rfl (by rfl) ?_ ?_) ?_
  all_goals ((try simp (disch:=assumption) only [go_sem,qA,qB,qC,qD,↓reduceIte,qE,reduceCtorEq,qF,qH,qI,qJ,qK,qG]);(repeat' first | done | rfl | omega | refine And.intro ?_ ?_ | (simp;done) | (simp;omega)))
 ·try simp (disch:=assumption) only [go_sem,qA,qB,qC,qD,↓reduceIte,qE,reduceCtorEq,qF,qH,qI,qJ,qK,qG]
  first | refine And.intro (by first | omega | exact ⟨by omega,λ _=>zmq λ _=>rfl⟩ | (refine ⟨?_,by omega⟩;first | exact zmq λ _=>rfl | simp)) ?_ | skip
  try simp (disch:=assumption) only [go_sem,qA,qB,qC,qD,↓reduceIte,qE,reduceCtorEq,qF,qH,qI,qJ,qK,qG]
  refine zlA ⟨[(2,(.os 0 4 0 a0.length a0.length false))],[(0,some (true,.arr false 4 (a0.map zko)))],1,8⟩ (zlB (m:=0) [some 1] rfl rfl rfl (by rfl) ?_ ?_) ?_
  all_goals ((try simp (disch:=assumption) only [go_sem,qA,qB,qC,qD,↓reduceIte,qE,reduceCtorEq,qF,qH,qI,qJ,qK,qG]);(repeat' first | done | rfl | omega | refine And.intro ?_ ?_ | (simp;done) | (simp;omega)))
theorem zc7 {a0:zkh} {r:zkh} (h:zah a0=some r):Fn Tryz.prog 127 [(.ag [(.lf true (.sl (a0.fBr.map zkf)))])] [] 0 (.ag [(.os 0 1 0 r.fBr.length r.fBr.length false)]) [(0,some (true,.deep [.sl [.sc,.sc,.sc,.sc]] (r.fBr.map zkf)))] 2:=by
 unfold zah at h
 refine fc [(5,[(1,4),(1,6)]),(1000,[(1,0),(2,0)]),(1001,[(1,0),(2,0),(3,0)]),(1002,[(2,0),(3,0),(8,0),(9,0),(10,0)]),(1003,[(2,0),(3,0),(8,0),(9,0),(10,0),(11,0)]),(1004,[(2,0),(3,0),(5,0),(8,0),(9,0),(10,0)]),(1005,[(2,0),(3,0),(8,0),(9,0),(10,0)]),(1006,[(2,0),(3,0),(8,0),(9,0),(10,0)])] Tryz.func127 ?_
 simp only [Tryz.f127]
 refine sA ?_
 obtain ⟨y0,hl1,h⟩:=zj7 h
 refine zky (λ g0:zcL=>⟨[(2,(.pb 0 0)),(3,(.pb 1 0)),(8,(.lf true (.sl (a0.fBr.map zkf)))),(9,(I ((a0.fBr.length:Nat):Int))),(10,(I g0.t10))],[(0,some (true,.box [.nl])),(1,some (true,.box [(.os 2 1 0 g0.c2.length g0.c2.length false)])),(2,some (true,.deep [.sl [.sc,.sc,.sc,.sc]] (g0.c2.map zkf)))],3,25⟩) (zax a0) _ _ hl1 (zkg [some 1,some 2,none]) ?_
 ·intro n1 g0 z1 hs1 hk1
  unfold zax at hs1
  try dsimp only at hs1
  refine sA ?_
  refine zki hs1 (λ hs1 _=>sA ?_) (λ hs1 _=>sA ?_)
  ·obtain ⟨hp3,hs1⟩:=zj8 hs1
   have hn3:g0.t10.toNat < a0.fBr.length:=by first|omega|(simp;omega)
   refine sA ?_
   refine zkw ?_
   obtain ⟨c0,hr4,hs1⟩:=zj7 hs1
   refine zkj (zau hr4) (sA ?_)
   obtain ⟨hp5,hs1⟩:=zj8 hs1
   refine sA ?_
   refine zkw ?_
   cases hs1
   exact zkr hk1 (zqc 6 (zkg [some 0,some 1,some 6]))
  ·cases hs1
   cases hk1
   try dsimp only at h
   refine sA ?_
   cases h
   exact zkc ⟨[(2,(.pb 1 0))],[(0,some (true,.deep [.sl [.sc,.sc,.sc,.sc]] (g0.c2.map zkf))),(1,some (true,.box [(.os 0 1 0 g0.c2.length g0.c2.length false)]))],2,25⟩ [some 2,some 0]
theorem zhf {a0:(List zka)} {a1:(List zka)} {r:Bool} (h:zb4 a0 a1=some r):Fn Tryz.prog 136 [(.lf true (.sl (a0.map zko))),(.lf true (.sl (a1.map zko)))] [] 0 (B r) [] 0:=by
 unfold zb4 at h
 refine fc [(1000,[(0,0),(1,0)]),(1001,[(0,0),(1,0),(10,0)]),(1003,[(0,0),(1,0),(12,0),(13,0)]),(1004,[(0,0),(1,0),(12,0),(13,0),(14,0)]),(1005,[(0,0),(1,0),(5,0),(12,0),(13,0)]),(1006,[(0,0),(1,0),(12,0),(13,0),(24,0)]),(1008,[(0,0),(1,0),(12,0),(13,0)])] Tryz.func136 ?_
 simp only [Tryz.f136]
 refine sA ?_
 refine zki h (λ h _=>sA ?_) (λ h _=>sA ?_)
 ·have he:=oi h
  subst he
  exact zkc ⟨[(4,(B false))],[],0,26⟩ []
 ·obtain ⟨y0,hl2,h⟩:=zj7 h
  refine zky (λ g0:zbk=>⟨[(0,(.lf true (.sl (a0.map zko)))),(1,(.lf true (.sl (a1.map zko)))),(12,(I ((a0.length:Nat):Int))),(13,(I g0.t13))],[],0,26⟩) (zZ a0 a1) _ _ hl2 (zkg []) ?_
  ·intro n1 g0 z1 hs1 hk1
   unfold zZ at hs1
   try dsimp only at hs1
   refine sA ?_
   refine zki hs1 (λ hs1 _=>sA ?_) (λ hs1 _=>sA ?_)
   ·obtain ⟨hp4,hs1⟩:=zj8 hs1
    have hn4:g0.t13.toNat < a0.length:=by first|omega|(simp;omega)
    refine sA ?_
    refine zkw ?_
    obtain ⟨hp5,hs1⟩:=zj8 hs1
    have hn5:g0.t13.toNat < a1.length:=by first|omega|(simp;omega)
    refine sA ?_
    refine zkw ?_
    first | refine And.intro ⟨by kernel_rfl,by kernel_rfl,by kernel_rfl⟩ ?_ | skip
    refine sA ?_
    refine zki hs1 (λ hs1 _=>sA ?_) (λ hs1 _=>sA ?_)
    ·cases hs1
     cases hk1
     try dsimp only at h
     refine sA ?_
     have he:=oi h
     subst he
     exact zkc ⟨[(4,(B false))],[],0,26⟩ []
    ·cases hs1
     exact zkr hk1 (zkg [])
   ·cases hs1
    cases hk1
    try dsimp only at h
    refine sA ?_
    have he:=oi h
    subst he
    exact zkc ⟨[(4,(B true))],[],0,26⟩ []
theorem zgZ {a0:(List zka)} {a1:(List zka)} {r:Bool} (h:zeq a0 a1=some r):Fn Tryz.prog 64 [(.lf true (.sl (a0.map zko))),(.lf true (.sl (a1.map zko)))] [] 0 (B r) [] 0:=by
 unfold zeq at h
 refine fc [] Tryz.func64 ?_
 simp only [Tryz.f64]
 refine sA ?_
 refine zkt h (λ h _=>sA ?_) (λ h _=>sA ?_)
 ·obtain ⟨hp2,h⟩:=zj8 h
  refine sA ?_
  refine zkw ?_
  obtain ⟨c0,hr3,h⟩:=zj7 h
  refine zkj (zhf hr3) (sA ?_)
  have he:=oi h
  subst he
  exact zkc ⟨[(4,(B c0))],[],0,18⟩ []
 ·have he:=oi h
  subst he
  exact zkc ⟨[(4,(B false))],[],0,18⟩ []
theorem ziW {a0:zkd} {a1:(List zka)} {r:Bool} (h:zfE a0 a1=some r):Fn Tryz.prog 216 [(.ag [(.lf true (.sl (a0.fEv.map zko)))]),(.ra true [.sl (a1.map zko)])] [] 0 (B r) [] 0:=by
 unfold zfE at h
 refine fc [] Tryz.func216 ?_
 simp only [Tryz.f216]
 refine sA ?_
 obtain ⟨c0,hr1,h⟩:=zj7 h
 refine zkj (zgZ hr1) (sA ?_)
 have he:=oi h
 subst he
 exact zkc ⟨[(3,(B c0))],[],0,8⟩ []
theorem zem {a0:(List zkd)} {a1:(List zka)} {r:Int} (h:zL a0 a1=some r):Fn Tryz.prog 135 [(.lf true (.sl (a0.map zkf))),(.fn 216 [(.ra true [.sl (a1.map zko)])])] [] 0 (I r) [] 0:=by
 unfold zL at h
 refine fc [(1000,[(0,0),(1,0)]),(1001,[(0,0),(1,0),(7,0),(8,0)]),(1002,[(0,0),(1,0),(7,0),(8,0),(9,0)]),(1003,[(0,0),(1,0),(5,0),(7,0),(8,0)]),(1004,[(0,0),(1,0),(5,0),(7,0),(8,0),(16,0)]),(1006,[(0,0),(1,0),(7,0),(8,0)])] Tryz.func135 ?_
 simp only [Tryz.f135]
 refine sA ?_
 obtain ⟨y0,hl1,h⟩:=zj7 h
 refine zky (λ g0:zz=>⟨[(0,(.lf true (.sl (a0.map zkf)))),(1,(.fn 216 [(.ra true [.sl (a1.map zko)])])),(7,(I ((a0.length:Nat):Int))),(8,(I g0.t8))],[],0,19⟩) (zg a0 a1) _ _ hl1 (zkg []) ?_
 ·intro n1 g0 z1 hs1 hk1
  unfold zg at hs1
  try dsimp only at hs1
  refine sA ?_
  refine zki hs1 (λ hs1 _=>sA ?_) (λ hs1 _=>sA ?_)
  ·obtain ⟨hp3,hs1⟩:=zj8 hs1
   have hn3:g0.t8.toNat < a0.length:=by first|omega|(simp;omega)
   refine sA ?_
   refine zkw ?_
   obtain ⟨c0,hr4,hs1⟩:=zj7 hs1
   refine zkj (ziW hr4) (sA ?_)
   refine zki hs1 (λ hs1 _=>sA ?_) (λ hs1 _=>sA ?_)
   ·cases hs1
    cases hk1
    try dsimp only at h
    refine sA ?_
    cases h
    exact zkc ⟨[(4,(I g0.t8))],[],0,19⟩ []
   ·cases hs1
    exact zkr hk1 (zkg [])
  ·cases hs1
   cases hk1
   try dsimp only at h
   refine sA ?_
   cases h
   exact zkc ⟨[(4,(I (-1)))],[],0,19⟩ []
theorem zdA {a0:(List zkd)} {a1:(List zka)} {r:Bool} (h:zo a0 a1=some r):Fn Tryz.prog 62 [(.lf true (.sl (a0.map zkf))),(.fn 216 [(.ra true [.sl (a1.map zko)])])] [] 0 (B r) [] 0:=by
 unfold zo at h
 refine fc [] Tryz.func62 ?_
 simp only [Tryz.f62]
 refine sA ?_
 obtain ⟨c0,hr1,h⟩:=zj7 h
 refine zkj (zem hr1) (sA ?_)
 cases h
 exact zkc ⟨[(4,(B (decide (c0 ≥ 0))))],[],0,9⟩ []
theorem ziX {a0:zkd} {a1:(List zka)} {r:Bool} (h:za6 a0 a1=some r):Fn Tryz.prog 218 [(.ag [(.lf true (.sl (a0.fEv.map zko)))]),(.ra true [.sl (a1.map zko)])] [] 0 (B r) [] 0:=by
 unfold za6 at h
 refine fc [] Tryz.func218 ?_
 simp only [Tryz.f218]
 refine sA ?_
 obtain ⟨c0,hr1,h⟩:=zj7 h
 refine zkj (zgZ hr1) (sA ?_)
 have he:=oi h
 subst he
 exact zkc ⟨[(3,(B c0))],[],0,8⟩ []
theorem zfV {a0:List zkd} {a1:List zka} {m0:Nat} {x0:Bool} {r:List zkd} (h:zP a0 a1=some r):Fn Tryz.prog 217 [(.os 0 1 0 a0.length m0 x0),(.fn 218 [(.pb 1 0)])] [(0,some (false,.deep [.sl [.sc,.sc,.sc,.sc]] (a0.map zkf))),(1,some (false,.box [(.lf true (.sl (a1.map zko)))]))] 2 (.os 0 1 0 r.length r.length false) [(0,some (false,.deep [.sl [.sc,.sc,.sc,.sc]] (r.map zkf))),(1,some (false,.box [(.lf true (.sl (a1.map zko)))]))] 2:=by
 unfold zP at h
 obtain ⟨⟨hp1,hp2⟩,h⟩:=zj8 h
 have he:=oi h;subst he
 refine zAY (E:=zkf) (X:=λ b:zkd=>.sl (b.fEv.map zko)) (λ _=>rfl) (p:=λ b=>(za6 b a1).getD false) (λ x y e=>by rw [zAX e]) (enters_of (P:=Tryz.prog) Tryz.func218 (by kernel_rfl) rfl) (λ b hb=>?_) hp1
 have hs:=List.all_eq_true.1 hp2 b hb
 obtain ⟨v,hv⟩:=Option.isSome_iff_exists.1 hs
 rw [hv]
 exact ⟨_,ziX hv⟩
theorem zjq {a0:zkd} {a1:zkd} {r:Int} (h:zgm a0 a1=some r):Fn Tryz.prog 220 [(.ag [(.lf true (.sl (a0.fEv.map zko)))]),(.ag [(.lf true (.sl (a1.fEv.map zko)))])] [] 0 (I r) [] 0:=by
 unfold zgm at h
 refine fc [] Tryz.func220 ?_
 simp only [Tryz.f220]
 refine sA ?_
 obtain ⟨c0,hr1,h⟩:=zj7 h
 refine zkj (zfU hr1) (sA ?_)
 have he:=oi h
 subst he
 exact zkc ⟨[(4,(I c0))],[],0,10⟩ []
theorem zgb {a0:List zkd} {m0:Nat} {x0:Bool} {r:List zkd} (h:zY a0=some r):Fn Tryz.prog 219 [(.os 0 1 0 a0.length m0 x0),(.fn 220 [])] [(0,some (false,.deep [.sl [.sc,.sc,.sc,.sc]] (a0.map zkf)))] 1 (.tu []) [(0,some (false,.deep [.sl [.sc,.sc,.sc,.sc]] (r.map zkf)))] 1:=by
 unfold zY at h
 obtain ⟨⟨hp1,hp2,hp3⟩,h⟩:=zj8 h
 have he:=oi h;subst he
 have e1:Ent Tryz.prog (Tryz.sortB_ren.f 6):=(Ent.of Tryz.func219 rfl (by simp [Tryz.f219]):Ent Tryz.prog 219)
 have e2:=enters_of (P:=Tryz.prog) Tryz.func220 (by kernel_rfl) rfl
 have key:=zzD (s:=.sl [.sc,.sc,.sc,.sc]) (E:=zkf) (X:=λ b:zkd=>.sl (b.fEv.map zko)) Go.Proofs.Tryz.sortB e1 Tryz.sortBAgg Tryz.sortBSize (λ _=>rfl) (cf:=λ a b=>(zk7 a.fEv b.fEv).1) zvi e2 (l:=a0) (R:=zr3 brL a0) (λ x hx y hy=>⟨_,zjq (by have h1:=List.all_eq_true.1 hp2 x hx;have h2:=List.all_eq_true.1 hp2 y hy;exact zzE (of_decide_eq_true h1) (of_decide_eq_true h2))⟩) (x0:=x0) (m0:=m0) hp1 (λ r hp hs=>zx3 hp3 hp hs)
 have e0:Tryz.sortB_ren.f 6=219:=rfl
 rw [e0] at key
 exact key
theorem zgG {a0:zkh} {a1:(List zka)} {r:zkh} (h:zct a0 a1=some r):Fn Tryz.prog 175 [(.ag [(.lf true (.sl (a0.fBr.map zkf)))]),(.lf true (.sl (a1.map zko)))] [] 0 (.ag [(.os 0 1 0 r.fBr.length r.fBr.length false)]) [(0,some (true,.deep [.sl [.sc,.sc,.sc,.sc]] (r.fBr.map zkf)))] 2:=by
 unfold zct at h
 refine fc [(5,[(1,3),(1,5)]),(1000,[(2,0),(3,0),(4,0)]),(1001,[(3,0),(4,0),(5,0)]),(1002,[(3,0),(4,0),(5,0),(11,0)]),(1004,[(3,0),(4,0),(5,0)]),(1005,[(4,0),(5,0)]),(1006,[(4,0),(5,0)]),(5006,[])] Tryz.func175 ?_
 simp only [Tryz.f175]
 refine sA ?_
 obtain ⟨c0,hr1,h⟩:=zj7 h
 refine zkj (zc7 hr1) (sA ?_)
 obtain ⟨c1,hr2,h⟩:=zj7 h
 refine zkj (zdA hr2) (sA ?_)
 refine zki h (λ h _=>sA ?_) (λ h _=>sA ?_)
 ·have he:=oi h
  subst he
  exact zkc ⟨[(4,(.pb 1 0))],[(0,some (true,.deep [.sl [.sc,.sc,.sc,.sc]] (c0.fBr.map zkf))),(1,some (true,.box [(.os 0 1 0 c0.fBr.length c0.fBr.length false)]))],2,30⟩ [some 3,some 2]
 ·obtain ⟨c2,hr4,h⟩:=zj7 h
  refine zlj [3,1] (zfV hr4) (sA ?_)
  obtain ⟨c3,hr5,h⟩:=zj7 h
  refine zkj (zau hr5) (sA ?_)
  obtain ⟨hp6,h⟩:=zj8 h
  refine sA ?_
  refine zkw ?_
  refine zt9 8 (sA ?_)
  obtain ⟨c4,hr7,h⟩:=zj7 h
  refine zlj [8] (zgb hr7) (sA ?_)
  obtain ⟨hp8,h⟩:=zj8 h
  try rw [← hp8]
  refine sA ?_
  cases h
  exact zkc ⟨[(4,(.pb 1 0))],[(0,some (true,.deep [.sl [.sc,.sc,.sc,.sc]] (c4.map zkf))),(1,some (true,.box [(.os 0 1 0 c4.length c4.length false)]))],2,30⟩ [some 8,some 2]
theorem zgH {a0:zkb} {a1:Int} {a2:ByteArray} {r:Int} (h:zS a0 a1 a2=some r):Fn Tryz.prog 137 [(.ra true [.sc (.int .i64 a0.Id),.sc (.int .i64 a0.fVe),.sl (a0.fTe.fBr.map zkf)]),(I a1),(.lf false (.sc (.string a2)))] [] 0 (I r) [] 0:=by
 unfold zS at h
 refine fc [(14,[(4,6),(8,6),(12,6),(4,16),(4,17),(16,16)]),(1000,[(0,0),(1,0),(2,0)]),(1001,[(0,0),(1,0),(2,0),(7,0)]),(1002,[(0,0),(1,0),(2,0),(7,0),(8,0)]),(1003,[(0,0),(1,0),(2,0),(7,0),(8,0),(9,0)]),(1004,[(0,0),(1,0),(2,0),(7,0),(8,0),(9,0),(25,0)]),(1006,[(0,0),(1,0),(2,0),(7,0),(8,0),(9,0),(34,0)]),(1008,[(0,0),(1,0),(2,0),(7,0),(8,0),(9,0),(38,0)]),(1010,[(0,0),(1,0),(2,0),(7,0),(8,0),(47,0)]),(1012,[(0,0),(1,0),(2,0),(7,0),(8,0),(50,0)]),(1014,[]),(4004,[]),(4008,[])] Tryz.func137 ?_
 simp only [Tryz.f137]
 refine sA ?_
 obtain ⟨c0,hr1,h⟩:=zj7 h
 refine zkj (zf5 hr1) (sA ?_)
 obtain ⟨c1,hr2,h⟩:=zj7 h
 refine zkj (zgz hr2) (sA ?_)
 obtain ⟨c2,hr3,h⟩:=zj7 h
 refine zkj (zh2 hr3) (sA ?_)
 obtain ⟨p0,hq4,h⟩:=zj7 h
 refine zkC (λ s2=>s2=⟨[(0,(.ra true [.sc (.int .i64 a0.Id),.sc (.int .i64 a0.fVe),.sl (a0.fTe.fBr.map zkf)])),(1,(I a1)),(2,(.lf false (.sc (.string a2)))),(7,(.lf true (.sl (c0.map zko)))),(8,(.pb 0 0)),(9,(B c2.1)),(25,(B p0.t25))],[(0,some (true,.box [(I c1.fSt),(I c1.Next),(B c1.fCa),(I c1.Done),(.os 1 1 0 c1.fSi.length c1.fSi.length false),(.os 2 1 0 c1.fTi.length c1.fTi.length false)])),(1,some (true,.arr false 1 (c1.fSi.map eS))),(2,some (true,.arr false 1 (c1.fTi.map eS)))],3,75⟩) ?_ ?_
 ·refine sA ?_
  obtain ⟨c3,hr5,hq4⟩:=zj7 hq4
  refine zkj (zfJ hr5) (sA ?_)
  refine zkt hq4 (λ hq4 _=>sA ?_) (λ hq4 _=>sA ?_)
  ·cases hq4
   exact zkp rfl (zkg [some 3,some 0,some 1])
  ·obtain ⟨c4,hr7,hq4⟩:=zj7 hq4
   refine zkj (zel hr7) (sA ?_)
   cases hq4
   exact zkp rfl (zkg [some 3,some 0,some 1])
 ·intro s2 hJ;subst hJ
  try dsimp only at h
  refine sA ?_
  refine zki h (λ h _=>sA ?_) (λ h _=>sA ?_)
  ·have he:=oi h
   subst he
   exact zkc ⟨[(6,(I 1))],[],0,75⟩ []
  ·obtain ⟨c5,hr9,h⟩:=zj7 h
   refine zkj (zew hr9) (sA ?_)
   refine zki h (λ h _=>sA ?_) (λ h _=>sA ?_)
   ·have he:=oi h
    subst he
    exact zkc ⟨[(6,(I 2))],[],0,75⟩ []
   ·obtain ⟨p1,hq11,h⟩:=zj7 h
    refine zkC (λ s2=>s2=⟨[(0,(.ra true [.sc (.int .i64 a0.Id),.sc (.int .i64 a0.fVe),.sl (a0.fTe.fBr.map zkf)])),(1,(I a1)),(2,(.lf false (.sc (.string a2)))),(7,(.lf true (.sl (c0.map zko)))),(8,(.pb 0 0)),(9,(B c2.1)),(38,(B p1.t38))],[(0,some (true,.box [(I c1.fSt),(I c1.Next),(B c1.fCa),(I c1.Done),(.os 1 1 0 c1.fSi.length c1.fSi.length false),(.os 2 1 0 c1.fTi.length c1.fTi.length false)])),(1,some (true,.arr false 1 (c1.fSi.map eS))),(2,some (true,.arr false 1 (c1.fTi.map eS)))],3,75⟩) ?_ ?_
    ·refine sA ?_
     refine zkt hq11 (λ hq11 _=>sA ?_) (λ hq11 _=>sA ?_)
     ·obtain ⟨c6,hr13,hq11⟩:=zj7 hq11
      refine zkj (zaK hr13) (sA ?_)
      cases hq11
      exact zkp rfl (zkg [some 0,some 1,some 2])
     ·cases hq11
      exact zkp rfl (zkg [some 0,some 1,some 2])
    ·intro s2 hJ;subst hJ
     try dsimp only at h
     refine sA ?_
     refine zki h (λ h _=>sA ?_) (λ h _=>sA ?_)
     ·have he:=oi h
      subst he
      exact zkc ⟨[(6,(I 5))],[],0,75⟩ []
     ·refine zki h (λ h _=>sA ?_) (λ h _=>sA ?_)
      ·have he:=oi h
       subst he
       exact zkc ⟨[(6,(I 3))],[],0,75⟩ []
      ·refine zki h (λ h _=>sA ?_) (λ h _=>sA ?_)
       ·have he:=oi h
        subst he
        exact zkc ⟨[(6,(I 4))],[],0,75⟩ []
       ·obtain ⟨c7,hr17,h⟩:=zj7 h
        refine zkj (zau hr17) (sA ?_)
        obtain ⟨hp18,h⟩:=zj8 h
        refine sA ?_
        refine zkw ?_
        obtain ⟨c8,hr19,h⟩:=zj7 h
        refine zkj (zgG hr19) (sA ?_)
        cases h
theorem zgJ {a0:(List zkb)} {i0:Nat} {f0:zkb} {a3:Int} {a4:ByteArray} {r:(Int×(List zkb))} (h:zai a0 i0 f0 a3 a4=some r):Fn Tryz.prog 137 [(.pe 0 3 i0 0),(I a3),(.lf false (.sc (.string a4)))] [(0,some (false,.foc [.sc,.sc,.sl [.sl [.sc,.sc,.sc,.sc]]] (a0.map zkl) i0 [(I f0.Id),(I f0.fVe),(.lf true (.sl (f0.fTe.fBr.map zkf)))]))] 1 (I r.1) [(0,some (false,.deep [.sc,.sc,.sl [.sl [.sc,.sc,.sc,.sc]]] (r.2.map zkl)))] 1:=by
 unfold zai at h
 refine fc [(14,[(4,6),(8,6),(12,6),(4,16),(4,17),(16,16)]),(1000,[(0,0),(1,0),(2,0)]),(1001,[(0,0),(1,0),(2,0),(7,0)]),(1002,[(0,0),(1,0),(2,0),(7,0),(8,0)]),(1003,[(0,0),(1,0),(2,0),(7,0),(8,0),(9,0)]),(1004,[(0,0),(1,0),(2,0),(7,0),(8,0),(9,0),(25,0)]),(1006,[(0,0),(1,0),(2,0),(7,0),(8,0),(9,0),(34,0)]),(1008,[(0,0),(1,0),(2,0),(7,0),(8,0),(9,0),(38,0)]),(1010,[(0,0),(1,0),(2,0),(7,0),(8,0),(47,0)]),(1012,[(0,0),(1,0),(2,0),(7,0),(8,0),(50,0)]),(1014,[])] Tryz.func137 ?_
 simp only [Tryz.f137]
 refine sA ?_
 obtain ⟨c0,hr1,h⟩:=zj7 h
 refine zkj (zf5 hr1) (sA ?_)
 obtain ⟨c1,hr2,h⟩:=zj7 h
 refine zkj (zgz hr2) (sA ?_)
 obtain ⟨c2,hr3,h⟩:=zj7 h
 refine zkj (zh2 hr3) (sA ?_)
 obtain ⟨c3,hr4,h⟩:=zj7 h
 refine zkj (zfJ hr4) (sA ?_)
 refine zkt h (λ h _=>?_) (λ h _=>sA ?_)
 ·cases h
 ·obtain ⟨c4,hr6,h⟩:=zj7 h
  refine zkj (zel hr6) (sA ?_)
  refine zki h (λ h _=>?_) (λ h _=>sA ?_)
  ·cases h
  ·obtain ⟨c5,hr8,h⟩:=zj7 h
   refine zkj (zew hr8) (sA ?_)
   refine zki h (λ h _=>?_) (λ h _=>sA ?_)
   ·cases h
   ·refine zkt h (λ h _=>sA ?_) (λ h _=>sA ?_)
    ·obtain ⟨c6,hr11,h⟩:=zj7 h
     refine zkj (zaK hr11) (sA ?_)
     refine zki h (λ h _=>?_) (λ h _=>sA ?_)
     ·cases h
     ·refine zki h (λ h _=>?_) (λ h _=>sA ?_)
      ·cases h
      ·refine zki h (λ h _=>?_) (λ h _=>sA ?_)
       ·cases h
       ·obtain ⟨c7,hr15,h⟩:=zj7 h
        refine zkj (zau hr15) (sA ?_)
        obtain ⟨hp16,h⟩:=zj8 h
        refine sA ?_
        refine zkw ?_
        obtain ⟨c8,hr17,h⟩:=zj7 h
        refine zkj (zgG hr17) (sA ?_)
        cases h
        refine zl8 0 (sA ?_)
        exact zkc ⟨[(6,(I 0))],[(0,some (false,.deep [.sc,.sc,.sl [.sl [.sc,.sc,.sc,.sc]]] ((a0.set i0 (⟨f0.Id,f0.fVe,c8⟩:zkb)).map zkl)))],1,75⟩ [some 0]
    ·refine zki h (λ h _=>?_) (λ h _=>sA ?_)
     ·cases h
     ·refine zki h (λ h _=>?_) (λ h _=>sA ?_)
      ·cases h
      ·obtain ⟨c9,hr20,h⟩:=zj7 h
       refine zkj (zau hr20) (sA ?_)
       obtain ⟨hp21,h⟩:=zj8 h
       refine sA ?_
       refine zkw ?_
       obtain ⟨c10,hr22,h⟩:=zj7 h
       refine zkj (zgG hr22) (sA ?_)
       cases h
       refine zl8 0 (sA ?_)
       exact zkc ⟨[(6,(I 0))],[(0,some (false,.deep [.sc,.sc,.sl [.sl [.sc,.sc,.sc,.sc]]] ((a0.set i0 (⟨f0.Id,f0.fVe,c10⟩:zkb)).map zkl)))],1,75⟩ [some 0]
theorem zhL {a0:Int} {r:Bool} (h:zdV a0=some r):Fn Tryz.prog 59 [(I a0)] [] 0 (B r) [] 0:=by
 unfold zdV at h
 refine fc [] Tryz.func59 ?_
 simp only [Tryz.f59]
 refine sA ?_
 obtain ⟨c0,hr1,h⟩:=zj7 h
 refine zkj (zc8 hr1) (sA ?_)
 have he:=oi h
 subst he
 exact zkc ⟨[(2,(B c0))],[],0,5⟩ []
theorem ziz {a0:Int} {a1:Int} {r:(Int×Bool)} (h:zdq a0 a1=some r):Fn Tryz.prog 245 [(I a0),(I a1)] [] 0 (.tu [(I r.1),(B r.2)]) [] 0:=by
 unfold zdq at h
 refine fc [(1000,[(0,0),(1,0)]),(1001,[(0,0),(1,0),(14,0)]),(1003,[(0,0),(6,0)]),(1004,[(6,0),(23,0)]),(1005,[(6,0)]),(1006,[(6,0),(28,0)]),(2023,[]),(4001,[])] Tryz.func245 ?_
 simp only [Tryz.f245]
 refine sA ?_
 obtain ⟨p0,hq1,h⟩:=zj7 h
 refine zkC (λ s2=>s2=⟨[(0,(I a0)),(1,(I a1)),(14,(B p0.t14))],[],0,30⟩) ?_ ?_
 ·refine sA ?_
  obtain ⟨c0,hr2,hq1⟩:=zj7 hq1
  refine zkj (zco hr2) (sA ?_)
  refine zkt hq1 (λ hq1 _=>sA ?_) (λ hq1 _=>sA ?_)
  ·cases hq1
   exact zkp rfl (zkg [])
  ·obtain ⟨c1,hr4,hq1⟩:=zj7 hq1
   refine zkj (zhL hr4) (sA ?_)
   cases hq1
   exact zkp rfl (zkg [])
 ·intro s2 hJ;subst hJ
  try dsimp only at h
  refine sA ?_
  refine zki h (λ h _=>sA ?_) (λ h _=>sA ?_)
  ·cases h
   exact zkc ⟨[(4,(I 0)),(5,(B false))],[],0,30⟩ []
  ·obtain ⟨p1,hq6,h⟩:=zj7 h
   refine zkC (λ s2=>s2=⟨[(6,(I p1.t6))],[],0,30⟩) ?_ ?_
   ·refine sA ?_
    refine zki hq6 (λ hq6 _=>sA ?_) (λ hq6 _=>sA ?_)
    ·cases hq6
     exact zkp rfl (zkg [])
    ·cases hq6
     exact zkp rfl (zkg [])
   ·intro s2 hJ;subst hJ
    try dsimp only at h
    refine sA ?_
    obtain ⟨c2,hr8,h⟩:=zj7 h
    refine zkj (zco hr8) (sA ?_)
    refine zki h (λ h _=>sA ?_) (λ h _=>sA ?_)
    ·cases h
     exact zkc ⟨[(4,(I 0)),(5,(B false))],[],0,30⟩ []
    ·cases h
     exact zkc ⟨[(4,(I p1.t6)),(5,(B true))],[],0,30⟩ []
theorem zh3 {a0:(List zkb)} {i0:Nat} {r:(Bool×(List zkb))} (h:zb8 a0 i0=some r):Fn Tryz.prog 204 [(.pe 0 3 i0 0)] [(0,some (false,.deep [.sc,.sc,.sl [.sl [.sc,.sc,.sc,.sc]]] (a0.map zkl)))] 1 (B r.1) [(0,some (false,.deep [.sc,.sc,.sl [.sl [.sc,.sc,.sc,.sc]]] (r.2.map zkl)))] 1:=by
 unfold zb8 at h
 refine fc [(1000,[(0,0)]),(1001,[(0,0),(3,0),(4,0)]),(1002,[(0,0),(3,0),(4,0),(17,0)]),(1003,[(4,0)]),(5003,[])] Tryz.func204 ?_
 simp only [Tryz.f204]
 refine sA ?_
 obtain ⟨hp1,h⟩:=zj8 h
 have hn1:i0 < a0.length:=by first|omega|(simp;omega)
 refine sA ?_
 refine zkw ?_
 obtain ⟨hp2,h⟩:=zj8 h
 have hn2:i0 < a0.length:=by first|omega|(simp;omega)
 refine sA ?_
 refine zkw ?_
 obtain ⟨c0,hr3,h⟩:=zj7 h
 refine zkj (ziz hr3) (sA ?_)
 refine zki h (λ h _=>sA ?_) (λ h _=>sA ?_)
 ·obtain ⟨hp5,h⟩:=zj8 h
  refine zon 0 i0 (sA ?_)
  cases h
  refine zl8 0 (sA ?_)
  exact zkc ⟨[(2,(B c0.2))],[(0,some (false,.deep [.sc,.sc,.sl [.sl [.sc,.sc,.sc,.sc]]] ((a0.set i0 (⟨(nth a0 i0).Id,c0.1,((nth a0 i0).fTe)⟩:zkb)).map zkl)))],1,23⟩ [some 0]
 ·cases h
  exact zkc ⟨[(2,(B c0.2))],[(0,some (false,.deep [.sc,.sc,.sl [.sl [.sc,.sc,.sc,.sc]]] (a0.map zkl)))],1,23⟩ [some 0]
theorem zfq {a0:Bool} {r:Int} (h:zcu a0=some r):Fn Tryz.prog 203 [(B a0)] [] 0 (I r) [] 0:=by
 unfold zcu at h
 refine fc [(1000,[(0,0)]),(1001,[(3,0)])] Tryz.func203 ?_
 simp only [Tryz.f203]
 refine sA ?_
 refine zki h (λ h _=>sA ?_) (λ h _=>sA ?_)
 ·have he:=oi h
  subst he
  exact zkc ⟨[(2,(I 0))],[],0,4⟩ []
 ·have he:=oi h
  subst he
  exact zkc ⟨[(2,(I 1))],[],0,4⟩ []
theorem zig {a0:zkb} {r:zlF} (h:zcz a0=some r):Fn Tryz.prog 72 [(.ra true [.sc (.int .i64 a0.Id),.sc (.int .i64 a0.fVe),.sl (a0.fTe.fBr.map zkf)])] [] 0 (.ag [(I r.fVe),(.os 0 1 0 r.fTe.fBr.length r.fTe.fBr.length false)]) [(0,some (true,.deep [.sl [.sc,.sc,.sc,.sc]] (r.fTe.fBr.map zkf)))] 2:=by
 unfold zcz at h
 refine fc [(1,[(3,8)])] Tryz.func72 ?_
 simp only [Tryz.f72]
 refine sA ?_
 obtain ⟨c0,hr1,h⟩:=zj7 h
 refine zkj (zc7 hr1) (sA ?_)
 cases h
 exact zkc ⟨[(2,(.pb 1 0))],[(0,some (true,.deep [.sl [.sc,.sc,.sc,.sc]] (c0.fBr.map zkf))),(1,some (true,.box [(I a0.fVe),(.os 0 1 0 c0.fBr.length c0.fBr.length false)]))],2,13⟩ [some 1,some 0]
theorem zhw {a0:zkB} {r:zkB} (h:zdk a0=some r):Fn Tryz.prog 167 [(.ag [(I a0.To),(I a0.Word.fVe),(.lf true (.sl (a0.Word.fTe.fBr.map zkf)))])] [] 0 (.ag [(I r.To),(I r.Word.fVe),(.os 0 1 0 r.Word.fTe.fBr.length r.Word.fTe.fBr.length false)]) [(0,some (true,.deep [.sl [.sc,.sc,.sc,.sc]] (r.Word.fTe.fBr.map zkf)))] 2:=by
 unfold zdk at h
 refine fc [(1000,[(1,0),(2,0)]),(1001,[(1,0),(2,0)])] Tryz.func167 ?_
 simp only [Tryz.f167]
 refine sA ?_
 obtain ⟨c0,hr1,h⟩:=zj7 h
 refine zkj (zc7 hr1) (sA ?_)
 cases h
 exact zkc ⟨[(2,(.pb 1 0))],[(0,some (true,.deep [.sl [.sc,.sc,.sc,.sc]] (c0.fBr.map zkf))),(1,some (true,.box [(I a0.To),(I a0.Word.fVe),(.os 0 1 0 c0.fBr.length c0.fBr.length false)]))],2,10⟩ [some 2,some 1]
theorem zh4 {a0:(List zka)} {r:(List ByteArray)} (h:zeW a0=some r):Fn Tryz.prog 140 [(.lf true (.sl (a0.map zko)))] [] 0 (.os 0 1 0 r.length r.length false) [(0,some (true,.arr false 1 (r.map eS)))] 1:=by
 unfold zeW at h
 refine fc [(1000,[(0,0)]),(1001,[(0,0),(3,0)]),(1002,[(3,0),(7,0),(8,0),(9,0)]),(1003,[(3,0),(7,0),(8,0),(9,0),(10,0)]),(1004,[(3,0),(5,0),(7,0),(8,0),(9,0)]),(1005,[(3,0),(5,0),(7,0),(8,0),(9,0),(15,0)]),(1006,[(3,0),(7,0),(8,0),(9,0)]),(1007,[(3,0),(7,0),(8,0),(9,0)])] Tryz.func140 ?_
 simp only [Tryz.f140]
 refine sA ?_
 obtain ⟨y0,hl1,h⟩:=zj7 h
 refine zky (λ g0:zfB=>⟨[(3,(.os 0 1 0 g0.c0.length g0.c0.length false)),(7,(.lf true (.sl (a0.map zko)))),(8,(I ((a0.length:Nat):Int))),(9,(I g0.t9))],[(0,some (true,.arr false 1 (g0.c0.map eS)))],1,23⟩) (zcN a0) _ _ hl1 (zkg [some 0]) ?_
 ·intro n1 g0 z1 hs1 hk1
  unfold zcN at hs1
  try dsimp only at hs1
  refine sA ?_
  refine zki hs1 (λ hs1 _=>sA ?_) (λ hs1 _=>sA ?_)
  ·obtain ⟨hp3,hs1⟩:=zj8 hs1
   have hn3:g0.t9.toNat < a0.length:=by first|omega|(simp;omega)
   refine sA ?_
   refine zkw ?_
   refine zki hs1 (λ hs1 _=>sA ?_) (λ hs1 _=>sA ?_)
   ·obtain ⟨hp5,hs1⟩:=zj8 hs1
    refine sA ?_
    refine zkw ?_
    cases hs1
    exact zkr hk1 (zkg [some 3])
   ·cases hs1
    exact zkr hk1 (zkg [some 0])
  ·cases hs1
   cases hk1
   try dsimp only at h
   refine sA ?_
   cases h
   exact zkc ⟨[(2,(.os 0 1 0 g0.c0.length g0.c0.length false))],[(0,some (true,.arr false 1 (g0.c0.map eS)))],1,23⟩ [some 0]
theorem zhS {a0:List ByteArray} {m0:Nat} {x0:Bool} {r:List ByteArray} (h:zc3 a0=some r):Fn Tryz.prog 143 [(.os 0 1 0 a0.length m0 x0)] [(0,some (false,.arr true 1 (a0.map eS)))] 1 (.tu []) [(0,some (false,.arr false 1 (r.map eS)))] 1:=by
 unfold zc3 at h
 obtain ⟨hp1,h⟩:=zj8 h
 have he:=oi h;subst he
 have e1:Ent Tryz.prog (Tryz.lays190_ren.f 190):=(Ent.of Tryz.func143 rfl (by simp [Tryz.f143]):Ent Tryz.prog 143)
 have key:=zzH (E:=eS) (m0:=m0) (x0:=x0) (t0:=true) (t1:=false) Go.Proofs.Tryz.lays190 e1 (λ _=>rfl) hp1
 have e0:Tryz.lays190_ren.f 190=143:=rfl
 rw [e0] at key
 exact key
theorem zhg {a0:List ByteArray} {m0:Nat} {x0:Bool} {r:List ByteArray} (h:zb5 a0=some r):Fn Tryz.prog 144 [(.os 0 1 0 a0.length m0 x0)] [(0,some (false,.arr true 1 (a0.map eS)))] 1 (.os 1 1 0 r.length r.length false) [(0,none),(1,some (false,.arr false 1 (r.map eS)))] 2:=by
 unfold zb5 at h
 obtain ⟨hp1,h⟩:=zj8 h
 have he:=oi h;subst he
 have e1:Ent Tryz.prog (Tryz.lays194_ren.f 194):=(Ent.of Tryz.func144 rfl (by simp [Tryz.f144]):Ent Tryz.prog 144)
 have key:=zzK (E:=eS) (m0:=m0) (x0:=x0) (t0:=true) Go.Proofs.Tryz.lays194 e1 (λ _=>rfl) hp1
 have e0:Tryz.lays194_ren.f 194=144:=rfl
 rw [e0] at key
 exact key
theorem ziA {a0:zkh} {r:(List ByteArray)} (h:zdt a0=some r):Fn Tryz.prog 71 [(.ag [(.lf true (.sl (a0.fBr.map zkf)))])] [] 0 (.os 0 1 0 r.length r.length false) [(0,some (true,.arr false 1 (r.map eS)))] 1:=by
 unfold zdt at h
 refine fc [(1000,[(1,0)]),(1001,[(1,0),(3,0),(4,0)]),(1002,[(3,0),(4,0),(14,0),(15,0),(16,0)]),(1003,[(3,0),(4,0),(14,0),(15,0),(16,0),(17,0)]),(1004,[(3,0),(4,0),(6,0),(14,0),(15,0),(16,0)]),(1005,[(3,0),(4,0),(14,0),(15,0),(16,0),(22,0),(23,0),(24,0)]),(1006,[(3,0),(4,0),(14,0),(15,0),(16,0),(22,0),(23,0),(24,0),(25,0)]),(1007,[(3,0),(4,0),(8,0),(14,0),(15,0),(16,0),(22,0),(23,0),(24,0)]),(1008,[(3,0),(4,0),(8,0),(14,0),(15,0),(16,0),(22,0),(23,0),(24,0),(31,0)]),(1009,[(3,0),(4,0),(14,0),(15,0),(16,0),(22,0),(23,0),(24,0)]),(1010,[(3,0),(4,0),(14,0),(15,0),(16,0),(22,0),(23,0),(24,0)]),(1011,[(3,0),(4,0),(14,0),(15,0),(16,0)]),(1012,[(4,0)])] Tryz.func71 ?_
 simp only [Tryz.f71]
 refine sA ?_
 obtain ⟨c0,hr1,h⟩:=zj7 h
 refine zkj (zf5 hr1) (sA ?_)
 obtain ⟨c1,hr2,h⟩:=zj7 h
 refine zkj (zh4 hr2) (sA ?_)
 obtain ⟨y0,hl3,h⟩:=zj7 h
 refine zky (λ g0:zdG=>⟨[(3,(.os 0 1 0 c1.length c1.length false)),(4,(.os 1 1 0 g0.c1.length g0.c1.length false)),(14,(.lf true (.sl (a0.fBr.map zkf)))),(15,(I ((a0.fBr.length:Nat):Int))),(16,(I g0.t16))],[(0,some (true,.arr false 1 (c1.map eS))),(1,some (true,.arr false 1 (g0.c1.map eS)))],2,42⟩) (zbb a0 c1) _ _ hl3 (zkg [some 1,some 2]) ?_
 ·intro n1 g0 z1 hs1 hk1
  unfold zbb at hs1
  try dsimp only at hs1
  refine sA ?_
  refine zki hs1 (λ hs1 _=>sA ?_) (λ hs1 _=>sA ?_)
  ·obtain ⟨hp5,hs1⟩:=zj8 hs1
   have hn5:g0.t16.toNat < a0.fBr.length:=by first|omega|(simp;omega)
   refine sA ?_
   refine zkw ?_
   obtain ⟨c2,hr6,hs1⟩:=zj7 hs1
   refine zkj (zh4 hr6) (sA ?_)
   obtain ⟨y1,hl7,hs1⟩:=zj7 hs1
   refine zky (λ g1:zdH=>⟨[(3,(.os 0 1 0 c1.length c1.length false)),(4,(.os 1 1 0 g1.c1.length g1.c1.length false)),(14,(.lf true (.sl (a0.fBr.map zkf)))),(15,(I ((a0.fBr.length:Nat):Int))),(16,(I g0.t16)),(22,(.os 2 1 0 c2.length c2.length false)),(23,(I ((c2.length:Nat):Int))),(24,(I g1.t24))],[(0,some (true,.arr false 1 (c1.map eS))),(1,some (true,.arr false 1 (g1.c1.map eS))),(2,some (true,.arr false 1 (c2.map eS)))],3,42⟩) (zaq c2 c1) _ _ hl7 (zkg [some 0,some 1,some 3]) ?_
   ·intro n2 g1 z2 hs2 hk2
    unfold zaq at hs2
    try dsimp only at hs2
    refine sA ?_
    refine zki hs2 (λ hs2 _=>sA ?_) (λ hs2 _=>sA ?_)
    ·obtain ⟨hp9,hs2⟩:=zj8 hs2
     have hn9:g1.t24.toNat < c2.length:=by first|omega|(simp;omega)
     refine sA ?_
     refine zkw ?_
     refine zpp (sA ?_)
     obtain ⟨c3,hr11,hs2⟩:=zj7 hs2
     refine zkj (zaK hr11) (sA ?_)
     refine zki hs2 (λ hs2 _=>sA ?_) (λ hs2 _=>sA ?_)
     ·obtain ⟨hp13,hs2⟩:=zj8 hs2
      refine sA ?_
      refine zkw ?_
      cases hs2
      exact zkr hk2 (zkg [some 0,some 4,some 2])
     ·cases hs2
      exact zkr hk2 (zkg [some 0,some 1,some 2])
    ·cases hs2
     cases hk2
     try dsimp only at hs1
     refine sA ?_
     cases hs1
     exact zkr hk1 (zkg [some 0,some 1])
  ·cases hs1
   cases hk1
   try dsimp only at h
   refine sA ?_
   obtain ⟨c4,hr14,h⟩:=zj7 h
   refine zlj [1] (zhS hr14) (sA ?_)
   obtain ⟨hp15,h⟩:=zj8 h
   try rw [← hp15]
   refine sA ?_
   obtain ⟨c5,hr16,h⟩:=zj7 h
   refine zlj [1] (zhg hr16) (sA ?_)
   have he:=oi h
   subst he
   exact zkc ⟨[(2,(.os 0 1 0 c5.length c5.length false))],[(0,some (true,.arr false 1 (c5.map eS)))],1,42⟩ [some 2]
theorem zhx {a0:(List zkb)} {i0:Nat} {r:(Int×(List zkb))} (h:zbh a0 i0=some r):Fn Tryz.prog 67 [(.pe 0 3 i0 0)] [(0,some (false,.deep [.sc,.sc,.sl [.sl [.sc,.sc,.sc,.sc]]] (a0.map zkl)))] 1 (I r.1) [(0,some (false,.deep [.sc,.sc,.sl [.sl [.sc,.sc,.sc,.sc]]] (r.2.map zkl)))] 1:=by
 unfold zbh at h
 refine fc [(1000,[(0,0)]),(1001,[(0,0),(3,0)]),(1002,[(0,0),(3,0),(10,0),(11,0),(12,0)]),(1003,[(0,0),(3,0),(10,0),(11,0),(12,0),(13,0)]),(1004,[(0,0),(3,0),(5,0),(10,0),(11,0),(12,0)]),(1005,[(0,0),(3,0),(10,0),(11,0),(12,0),(19,0)]),(1006,[(0,0),(3,0),(10,0),(11,0),(12,0)]),(1007,[(0,0),(3,0),(10,0),(11,0),(12,0)]),(5002,[]),(5005,[])] Tryz.func67 ?_
 simp only [Tryz.f67]
 refine sA ?_
 obtain ⟨hp1,h⟩:=zj8 h
 refine zon 0 i0 (sA ?_)
 obtain ⟨c0,hr2,h⟩:=zj7 h
 refine zkj (ziA hr2) (sA ?_)
 obtain ⟨y0,hl3,h⟩:=zj7 h
 refine zky (λ g0:zbz=>⟨[(0,(.pe 0 3 i0 0)),(3,(I g0.t3)),(10,(.os 1 1 0 c0.length c0.length false)),(11,(I ((c0.length:Nat):Int))),(12,(I g0.t12))],[(0,some (false,.deep [.sc,.sc,.sl [.sl [.sc,.sc,.sc,.sc]]] (g0.c0.map zkl))),(1,some (true,.arr false 1 (c0.map eS)))],2,24⟩) (zQ c0 i0) _ _ hl3 (zqc 0 (zkg [some 0,some 4])) ?_
 ·intro n1 g0 z1 hs1 hk1
  unfold zQ at hs1
  try dsimp only at hs1
  refine sA ?_
  refine zki hs1 (λ hs1 _=>sA ?_) (λ hs1 _=>sA ?_)
  ·obtain ⟨hp5,hs1⟩:=zj8 hs1
   have hn5:g0.t12.toNat < c0.length:=by first|omega|(simp;omega)
   refine sA ?_
   refine zkw ?_
   refine zpp (sA ?_)
   obtain ⟨hp7,hs1⟩:=zj8 hs1
   refine zon 0 i0 (sA ?_)
   cases hab8:zS (⟨(nth g0.c0 i0).Id,(nth g0.c0 i0).fVe,((nth g0.c0 i0).fTe)⟩:zkb) 2 (nth c0 g0.t12.toNat) with
   | some c1 =>
    rw [hab8] at hs1
    try dsimp only at hs1
    refine zkj (zgH hab8) (sA ?_)
    refine zki hs1 (λ hs1 _=>sA ?_) (λ hs1 _=>sA ?_)
    ·cases hs1
     exact zkr hk1 (zqc 0 (zkg [some 0,some 1]))
    ·cases hs1
     exact zkr hk1 (zqc 0 (zkg [some 0,some 1]))
   | none =>
    rw [hab8] at hs1
    try dsimp only at hs1
    obtain ⟨c2,hr10,hs1⟩:=zj7 hs1
    refine zzv [0] (zgJ hr10) (sA ?_)
    refine zki hs1 (λ hs1 _=>sA ?_) (λ hs1 _=>sA ?_)
    ·cases hs1
     exact zkr hk1 (zkg [some 0,some 1])
    ·cases hs1
     exact zkr hk1 (zkg [some 0,some 1])
  ·cases hs1
   cases hk1
   try dsimp only at h
   refine sA ?_
   cases h
   exact zkc ⟨[(2,(I g0.t3))],[(0,some (false,.deep [.sc,.sc,.sl [.sl [.sc,.sc,.sc,.sc]]] (g0.c0.map zkl)))],1,24⟩ [some 0]
theorem zhT {a0:zkn} {a1:zkB} {m1:Nat} {x1:Bool} {m2:Nat} {x2:Bool} {m3:Nat} {x3:Bool} {r:(Bool×zkn)} (h:zbL a0 a1=some r):Fn Tryz.prog 205 [(.pb 0 0),(.ag [(I a1.To),(I a1.Word.fVe),(.os 3 1 0 a1.Word.fTe.fBr.length m3 x3)])] [(0,some (false,.box [(.os 1 3 0 a0.fRe.length m1 x1),(.os 2 3 0 a0.Line.length m2 x2)])),(1,some (false,.deep [.sc,.sc,.sl [.sl [.sc,.sc,.sc,.sc]]] (a0.fRe.map zkl))),(2,some (false,.deep [.sc,.sc,.sl [.sl [.sc,.sc,.sc,.sc]]] (a0.Line.map zkz))),(3,some (false,.deep [.sl [.sc,.sc,.sc,.sc]] (a1.Word.fTe.fBr.map zkf)))] 4 (B r.1) [(0,some (false,.box [(.os 1 3 0 a0.fRe.length a0.fRe.length false),(.os 4 3 0 r.2.Line.length r.2.Line.length false)])),(1,some (false,.deep [.sc,.sc,.sl [.sl [.sc,.sc,.sc,.sc]]] (a0.fRe.map zkl))),(2,none),(3,some (false,.deep [.sl [.sc,.sc,.sc,.sc]] (a1.Word.fTe.fBr.map zkf))),(4,some (false,.deep [.sc,.sc,.sl [.sl [.sc,.sc,.sc,.sc]]] (r.2.Line.map zkz)))] 5:=by
 unfold zbL at h
 refine fc [(3,[(4,6),(4,7)]),(1000,[(0,0),(3,0)]),(1001,[(0,0),(3,0),(10,0)]),(1003,[])] Tryz.func205 ?_
 simp only [Tryz.f205]
 refine sA ?_
 refine zki h (λ h _=>sA ?_) (λ h _=>sA ?_)
 ·cases h
  exact zkc ⟨[(4,(B false))],[(0,some (false,.box [(.os 1 3 0 a0.fRe.length a0.fRe.length false),(.os 4 3 0 a0.Line.length a0.Line.length false)])),(1,some (false,.deep [.sc,.sc,.sl [.sl [.sc,.sc,.sc,.sc]]] (a0.fRe.map zkl))),(2,none),(3,some (false,.deep [.sl [.sc,.sc,.sc,.sc]] (a1.Word.fTe.fBr.map zkf))),(4,some (false,.deep [.sc,.sc,.sl [.sl [.sc,.sc,.sc,.sc]]] (a0.Line.map zkz)))],5,22⟩ [some 0,some 1,some 2,some 3,some 2]
 ·obtain ⟨c0,hr2,h⟩:=zj7 h
  refine zkj (zhw hr2) (sA ?_)
  obtain ⟨hp3,h⟩:=zj8 h
  refine sA ?_
  refine zkw ?_
  cases h
  refine zl8 8 (sA ?_)
  exact zkc ⟨[(4,(B true))],[(0,some (false,.box [(.os 1 3 0 a0.fRe.length a0.fRe.length false),(.os 4 3 0 ((a0.Line++[c0]).length) ((a0.Line++[c0]).length) false)])),(1,some (false,.deep [.sc,.sc,.sl [.sl [.sc,.sc,.sc,.sc]]] (a0.fRe.map zkl))),(2,none),(3,some (false,.deep [.sl [.sc,.sc,.sc,.sc]] (a1.Word.fTe.fBr.map zkf))),(4,some (false,.deep [.sc,.sc,.sl [.sl [.sc,.sc,.sc,.sc]]] ((a0.Line++[c0]).map zkz)))],5,22⟩ [some 0,some 1,some 2,some 3,some 8]
theorem zhh {a0:zkn} {a1:zks} {m1:Nat} {x1:Bool} {m2:Nat} {x2:Bool} {r:(Int×zkn×(List zkb))} (h:zaY a0 a1=some r):Fn Tryz.prog 150 [(.pb 0 0),(.ag [(I a1.Kind),(I a1.Region),(I a1.What),(.lf false (.sc (.string a1.Name))),(I a1.K)])] [(0,some (false,.box [(.os 1 3 0 a0.fRe.length m1 x1),(.os 2 3 0 a0.Line.length m2 x2)])),(1,some (false,.deep [.sc,.sc,.sl [.sl [.sc,.sc,.sc,.sc]]] (a0.fRe.map zkl))),(2,some (false,.deep [.sc,.sc,.sl [.sl [.sc,.sc,.sc,.sc]]] (a0.Line.map zkz)))] 3 (I r.1) [(0,some (false,.box [(.os 1 3 0 r.2.2.length r.2.2.length false),(.os 3 3 0 r.2.1.Line.length r.2.1.Line.length false)])),(1,some (false,.deep [.sc,.sc,.sl [.sl [.sc,.sc,.sc,.sc]]] (r.2.2.map zkl))),(2,none),(3,some (false,.deep [.sc,.sc,.sl [.sl [.sc,.sc,.sc,.sc]]] (r.2.1.Line.map zkz)))] 4:=by
 unfold zaY at h
 refine fc [(10,[(2,5)]),(1000,[(0,0),(3,0)]),(1001,[(0,0),(3,0),(9,0)]),(1003,[(0,0),(3,0),(5,0)]),(1004,[(0,0),(3,0),(5,0),(18,0)]),(1005,[(0,0),(3,0),(5,0),(18,0),(19,0)]),(1007,[(0,0),(3,0),(5,0),(18,0),(27,0)]),(1009,[(0,0),(3,0),(5,0),(32,0)]),(5006,[])] Tryz.func150 ?_
 simp only [Tryz.f150]
 refine sA ?_
 obtain ⟨c0,hr1,h⟩:=zj7 h
 refine zkj (zhY hr1) (sA ?_)
 refine zki h (λ h _=>sA ?_) (λ h _=>sA ?_)
 ·cases h
  exact zkc ⟨[(4,(I 1))],[(0,some (false,.box [(.os 1 3 0 a0.fRe.length a0.fRe.length false),(.os 3 3 0 a0.Line.length a0.Line.length false)])),(1,some (false,.deep [.sc,.sc,.sl [.sl [.sc,.sc,.sc,.sc]]] (a0.fRe.map zkl))),(2,none),(3,some (false,.deep [.sc,.sc,.sl [.sl [.sc,.sc,.sc,.sc]]] (a0.Line.map zkz)))],4,51⟩ [some 0,some 1,some 2,some 2]
 ·obtain ⟨hp3,h⟩:=zj8 h
  have hn3:a1.Region.toNat < a0.fRe.length:=by first|omega|(simp;omega)
  refine sA ?_
  refine zkw ?_
  refine zki h (λ h _=>sA ?_) (λ h _=>sA ?_)
  ·obtain ⟨hp5,h⟩:=zj8 h
   refine zon 1 a1.Region.toNat (sA ?_)
   cases hab6:zS (⟨(nth a0.fRe a1.Region.toNat).Id,(nth a0.fRe a1.Region.toNat).fVe,((nth a0.fRe a1.Region.toNat).fTe)⟩:zkb) a1.What a1.Name with
   | some c1 =>
    rw [hab6] at h
    try dsimp only at h
    refine zkj (zgH hab6) (sA ?_)
    cases h
    refine zl8 1 (sA ?_)
    exact zkc ⟨[(4,(I c1))],[(0,some (false,.box [(.os 1 3 0 ((a0.fRe.set a1.Region.toNat (⟨(nth a0.fRe a1.Region.toNat).Id,(nth a0.fRe a1.Region.toNat).fVe,((nth a0.fRe a1.Region.toNat).fTe)⟩:zkb)).length) ((a0.fRe.set a1.Region.toNat (⟨(nth a0.fRe a1.Region.toNat).Id,(nth a0.fRe a1.Region.toNat).fVe,((nth a0.fRe a1.Region.toNat).fTe)⟩:zkb)).length) false),(.os 3 3 0 a0.Line.length a0.Line.length false)])),(1,some (false,.deep [.sc,.sc,.sl [.sl [.sc,.sc,.sc,.sc]]] ((a0.fRe.set a1.Region.toNat (⟨(nth a0.fRe a1.Region.toNat).Id,(nth a0.fRe a1.Region.toNat).fVe,((nth a0.fRe a1.Region.toNat).fTe)⟩:zkb)).map zkl))),(2,none),(3,some (false,.deep [.sc,.sc,.sl [.sl [.sc,.sc,.sc,.sc]]] (a0.Line.map zkz)))],4,51⟩ [some 0,some 1,some 2,some 2]
   | none =>
    rw [hab6] at h
    try dsimp only at h
    obtain ⟨c2,hr7,h⟩:=zj7 h
    refine zzv [1] (zgJ hr7) (sA ?_)
    obtain ⟨hp8,h⟩:=zj8 h
    try rw [← hp8]
    refine sA ?_
    cases h
    exact zkc ⟨[(4,(I c2.1))],[(0,some (false,.box [(.os 1 3 0 c2.2.length c2.2.length false),(.os 3 3 0 a0.Line.length a0.Line.length false)])),(1,some (false,.deep [.sc,.sc,.sl [.sl [.sc,.sc,.sc,.sc]]] (c2.2.map zkl))),(2,none),(3,some (false,.deep [.sc,.sc,.sl [.sl [.sc,.sc,.sc,.sc]]] (a0.Line.map zkz)))],4,51⟩ [some 0,some 1,some 2,some 2]
  ·refine zki h (λ h _=>sA ?_) (λ h _=>sA ?_)
   ·obtain ⟨c3,hr10,h⟩:=zj7 h
    refine zlj [1] (zh3 hr10) (sA ?_)
    obtain ⟨hp11,h⟩:=zj8 h
    try rw [← hp11]
    refine sA ?_
    obtain ⟨c4,hr12,h⟩:=zj7 h
    refine zkj (zfq hr12) (sA ?_)
    cases h
    exact zkc ⟨[(4,(I c4))],[(0,some (false,.box [(.os 1 3 0 c3.2.length c3.2.length false),(.os 3 3 0 a0.Line.length a0.Line.length false)])),(1,some (false,.deep [.sc,.sc,.sl [.sl [.sc,.sc,.sc,.sc]]] (c3.2.map zkl))),(2,none),(3,some (false,.deep [.sc,.sc,.sl [.sl [.sc,.sc,.sc,.sc]]] (a0.Line.map zkz)))],4,51⟩ [some 0,some 1,some 2,some 2]
   ·refine zki h (λ h _=>sA ?_) (λ h _=>sA ?_)
    ·obtain ⟨c5,hr14,h⟩:=zj7 h
     refine zkj (zig hr14) (sA ?_)
     obtain ⟨c6,hr15,h⟩:=zj7 h
     refine zlj [0,1,2,4] (zhT hr15) (sA ?_)
     obtain ⟨c7,hr16,h⟩:=zj7 h
     refine zkj (zfq hr16) (sA ?_)
     cases h
     exact zkc ⟨[(4,(I c7))],[(0,some (false,.box [(.os 1 3 0 a0.fRe.length a0.fRe.length false),(.os 3 3 0 c6.2.Line.length c6.2.Line.length false)])),(1,some (false,.deep [.sc,.sc,.sl [.sl [.sc,.sc,.sc,.sc]]] (a0.fRe.map zkl))),(2,none),(3,some (false,.deep [.sc,.sc,.sl [.sl [.sc,.sc,.sc,.sc]]] (c6.2.Line.map zkz)))],4,51⟩ [some 0,some 1,some 2,some 6]
    ·obtain ⟨c8,hr17,h⟩:=zj7 h
     refine zkj (zew hr17) (sA ?_)
     refine zkt h (λ h _=>sA ?_) (λ h _=>sA ?_)
     ·obtain ⟨c9,hr19,h⟩:=zj7 h
      refine zlj [1] (zhx hr19) (sA ?_)
      obtain ⟨hp20,h⟩:=zj8 h
      try rw [← hp20]
      refine sA ?_
      obtain ⟨c10,hr21,h⟩:=zj7 h
      refine zkj (zfq hr21) (sA ?_)
      cases h
      exact zkc ⟨[(4,(I c10))],[(0,some (false,.box [(.os 1 3 0 c9.2.length c9.2.length false),(.os 3 3 0 a0.Line.length a0.Line.length false)])),(1,some (false,.deep [.sc,.sc,.sl [.sl [.sc,.sc,.sc,.sc]]] (c9.2.map zkl))),(2,none),(3,some (false,.deep [.sc,.sc,.sl [.sl [.sc,.sc,.sc,.sc]]] (a0.Line.map zkz)))],4,51⟩ [some 0,some 1,some 2,some 2]
     ·obtain ⟨c11,hr22,h⟩:=zj7 h
      refine zkj (zfq hr22) (sA ?_)
      cases h
      exact zkc ⟨[(4,(I c11))],[(0,some (false,.box [(.os 1 3 0 a0.fRe.length a0.fRe.length false),(.os 3 3 0 a0.Line.length a0.Line.length false)])),(1,some (false,.deep [.sc,.sc,.sl [.sl [.sc,.sc,.sc,.sc]]] (a0.fRe.map zkl))),(2,none),(3,some (false,.deep [.sc,.sc,.sl [.sl [.sc,.sc,.sc,.sc]]] (a0.Line.map zkz)))],4,51⟩ [some 0,some 1,some 2,some 2]
theorem zhU {a0:zkn} {i2:Nat} {f2:zkB} {a3:zkB} {m1:Nat} {x1:Bool} {m3:Nat} {x3:Bool} {m2:Nat} {x2:Bool} {r:(Bool×zkn)} (h:zbM a0 i2 f2 a3=some r):Fn Tryz.prog 205 [(.pb 0 0),(.ag [(I a3.To),(I a3.Word.fVe),(.os 3 1 0 f2.Word.fTe.fBr.length m3 x3)])] [(0,some (false,.box [(.os 1 3 0 a0.fRe.length m1 x1),(.os 2 3 0 a0.Line.length m2 x2)])),(1,some (false,.deep [.sc,.sc,.sl [.sl [.sc,.sc,.sc,.sc]]] (a0.fRe.map zkl))),(2,some (false,.foc [.sc,.sc,.sl [.sl [.sc,.sc,.sc,.sc]]] (a0.Line.map zkz) i2 [(I f2.To),(I f2.Word.fVe),(.os 3 1 0 f2.Word.fTe.fBr.length m3 x3)])),(3,some (false,.deep [.sl [.sc,.sc,.sc,.sc]] (f2.Word.fTe.fBr.map zkf)))] 4 (B r.1) [(0,some (false,.box [(.os 1 3 0 a0.fRe.length a0.fRe.length false),(.os 4 3 0 r.2.Line.length r.2.Line.length false)])),(1,some (false,.deep [.sc,.sc,.sl [.sl [.sc,.sc,.sc,.sc]]] (a0.fRe.map zkl))),(2,none),(3,none),(4,some (false,.deep [.sc,.sc,.sl [.sl [.sc,.sc,.sc,.sc]]] (r.2.Line.map zkz)))] 5:=by
 unfold zbM at h
 refine fc [(3,[(4,6),(4,7)]),(1000,[(0,0),(3,0)]),(1001,[(0,0),(3,0),(10,0)]),(1003,[])] Tryz.func205 ?_
 simp only [Tryz.f205]
 refine sA ?_
 refine zki h (λ h _=>sA ?_) (λ h _=>sA ?_)
 ·cases h
  refine zl8 2 (sA ?_)
  exact zkc ⟨[(4,(B false))],[(0,some (false,.box [(.os 1 3 0 a0.fRe.length a0.fRe.length false),(.os 4 3 0 ((a0.Line.set i2 f2).length) ((a0.Line.set i2 f2).length) false)])),(1,some (false,.deep [.sc,.sc,.sl [.sl [.sc,.sc,.sc,.sc]]] (a0.fRe.map zkl))),(2,none),(3,none),(4,some (false,.deep [.sc,.sc,.sl [.sl [.sc,.sc,.sc,.sc]]] ((a0.Line.set i2 f2).map zkz)))],5,22⟩ [some 0,some 1,some 2,some 3,some 2]
 ·obtain ⟨c0,hr2,h⟩:=zj7 h
  refine zkj (zhw hr2) (sA ?_)
  obtain ⟨hp3,h⟩:=zj8 h
  refine sA ?_
  refine zkw ?_
  cases h
  refine zl8 8 (sA ?_)
  exact zkc ⟨[(4,(B true))],[(0,some (false,.box [(.os 1 3 0 a0.fRe.length a0.fRe.length false),(.os 4 3 0 (((a0.Line.set i2 f2)++[c0]).length) (((a0.Line.set i2 f2)++[c0]).length) false)])),(1,some (false,.deep [.sc,.sc,.sl [.sl [.sc,.sc,.sc,.sc]]] (a0.fRe.map zkl))),(2,none),(3,none),(4,some (false,.deep [.sc,.sc,.sl [.sl [.sc,.sc,.sc,.sc]]] (((a0.Line.set i2 f2)++[c0]).map zkz)))],5,22⟩ [some 0,some 1,some 2,some 3,some 8]
theorem zvn:zzw Tryz.prog 206 40:=by
 intro β f1 f2 f3 a0 a1 a2 m0 x0 hp1 hp2 hp3 hp4
 refine fc [] Tryz.func206 ?_
 simp only [Tryz.f206]
 simp (disch:=assumption) only [go_sem,qA,qB,qC,qD,↓reduceIte,qE,reduceCtorEq,qF,qH,qI,qJ,qK,qG]
 refine And.intro (by omega) ?_
 try simp (disch:=assumption) only [go_sem,qA,qB,qC,qD,↓reduceIte,qE,reduceCtorEq,qF,qH,qI,qJ,qK,qG]
 refine zoc (a1 == a2) (by first | rfl | simp) (λ hc=>?_) (λ hc=>?_)
 ·try simp (disch:=assumption) only [go_sem,qA,qB,qC,qD,↓reduceIte,qE,reduceCtorEq,qF,qH,qI,qJ,qK,qG]
  have he:a1=a2:=by simpa using hc
  have hr:a0.take a1.toNat++a0.drop a2.toNat=a0:=by rw [he];exact qa _ _
  rw [hr]
  refine zlA ⟨[(6,(.os 1 3 0 a0.length a0.length false))],[(0,none),(1,some (false,.arr true 3 (a0.map (E3 f1 f2 f3))))],2,33⟩ (zlB (m:=1) [some 0,some 0] rfl rfl rfl (by rfl) ?_ ?_) ?_
  all_goals ((try simp (disch:=assumption) only [go_sem,qA,qB,qC,qD,↓reduceIte,qE,reduceCtorEq,qF,qH,qI,qJ,qK,qG]);(repeat' first | done | rfl | omega | refine And.intro ?_ ?_ | (simp;done) | (simp;omega)))
 ·try simp (disch:=assumption) only [go_sem,qA,qB,qC,qD,↓reduceIte,qE,reduceCtorEq,qF,qH,qI,qJ,qK,qG]
  refine And.intro (by omega) (And.intro (by omega) ?_)
  have hs:a2.toNat+(a0.length - a2.toNat)≤a0.length:=by omega
  simp (disch:=assumption) only [go_sem,qA,qB,qC,qD,↓reduceIte,qE,reduceCtorEq,qF,qH,qI,qJ,qK,qG,hs]
  have hd:(a0.drop a2.toNat).length=a0.length - a2.toNat:=qb
  have ht:(a0.take a1.toNat).length=a1.toNat:=by rw [qc];omega
  have hR:(a0.take a1.toNat++a0.drop a2.toNat).length=a1.toNat+(a0.drop a2.toNat).length:=by rw [qM,ht]
  refine And.intro ⟨by omega,(by first | exact zmq λ _=>rfl | simp),by omega⟩ (And.intro ⟨by omega,by omega,by omega⟩ (And.intro (by omega) ?_))
  refine zlA ⟨[(6,(.os 1 3 0 (a0.take a1.toNat++a0.drop a2.toNat).length (a0.take a1.toNat++a0.drop a2.toNat).length false))],[(0,none),(1,some (false,.arr true 3 ((a0.take a1.toNat++a0.drop a2.toNat).map (E3 f1 f2 f3))))],2,33⟩ (zlB (m:=1) [some 0,some 1] rfl rfl rfl (by rfl) ?_ ?_) ?_
  all_goals ((try simp (disch:=assumption) only [go_sem,qA,qB,qC,qD,↓reduceIte,qE,reduceCtorEq,qF,qH,qI,qJ,qK,qG]);(repeat' first | done | rfl | omega | refine And.intro ?_ ?_ | (simp;done) | (simp;omega)))
theorem zgX {a0:List zkB} {i0:Nat} {f0:zkB} {a1 a2:Int} {m0:Nat} {x0:Bool} {r:List zkB} (h:zas a0 i0 f0 a1 a2=some r):Fn Tryz.prog 206 [(.os 0 3 0 a0.length m0 x0),(I a1),(I a2)] [(0,some (false,.foc [.sc,.sc,.sl [.sl [.sc,.sc,.sc,.sc]]] (a0.map zkz) i0 [(I f0.To),(I f0.Word.fVe),(.lf true (.sl (f0.Word.fTe.fBr.map zkf)))]))] 1 (.os 1 3 0 r.length r.length false) [(0,none),(1,some (false,.deep [.sc,.sc,.sl [.sl [.sc,.sc,.sc,.sc]]] (r.map zkz)))] 2:=by
 unfold zas at h
 obtain ⟨⟨hp1,hp2,hp3,hp4⟩,h⟩:=zj8 h
 have he:=oi h;subst he
 subst hp2;subst hp3
 have key:=zAR zvn (ss:=[.sc,.sc,.sl [.sl [.sc,.sc,.sc,.sc]]]) rfl (rows:=a0.map zkz) (p:=i0) (ks:=[(I f0.To),(I f0.Word.fVe),(.lf true (.sl (f0.Word.fTe.fBr.map zkf)))]) (m0:=m0) (x0:=x0) rfl (by rw [qO];exact hp1) (by rw [qO];exact hp4)
 rw [← List.map_take,← List.map_drop,← List.map_append,qO,qO] at key
 exact key
theorem zgr {a0:(List zka)} {r:Bool} (h:zcf a0=some r):Fn Tryz.prog 91 [(.lf true (.sl (a0.map zko)))] [] 0 (B r) [] 0:=by
 unfold zcf at h
 refine fc [(1000,[(0,0)]),(1001,[(0,0),(9,0)]),(1003,[(0,0),(10,0),(11,0),(12,0)]),(1004,[(0,0),(10,0),(11,0),(12,0),(13,0)]),(1005,[(0,0),(3,0),(4,0),(10,0),(11,0),(12,0)]),(1006,[(0,0),(10,0),(11,0),(12,0),(29,0)]),(1008,[(0,0),(10,0),(11,0),(12,0)]),(1009,[(0,0),(6,0)]),(4006,[])] Tryz.func91 ?_
 simp only [Tryz.f91]
 refine sA ?_
 refine zki h (λ h _=>sA ?_) (λ h _=>sA ?_)
 ·have he:=oi h
  subst he
  exact zkc ⟨[(2,(B false))],[],0,40⟩ []
 ·obtain ⟨y0,hl2,h⟩:=zj7 h
  refine zky (λ g0:zey=>⟨[(0,(.lf true (.sl (a0.map zko)))),(10,(.lf true (.sl (a0.map zko)))),(11,(I ((a0.length:Nat):Int))),(12,(I g0.t12))],[],0,40⟩) (zbS a0) _ _ hl2 (zkg []) ?_
  ·intro n1 g0 z1 hs1 hk1
   unfold zbS at hs1
   try dsimp only at hs1
   refine sA ?_
   refine zki hs1 (λ hs1 _=>sA ?_) (λ hs1 _=>sA ?_)
   ·obtain ⟨hp4,hs1⟩:=zj8 hs1
    have hn4:g0.t12.toNat < a0.length:=by first|omega|(simp;omega)
    refine sA ?_
    refine zkw ?_
    obtain ⟨p0,hq5,hs1⟩:=zj7 hs1
    refine zkC (λ s2=>s2=⟨[(0,(.lf true (.sl (a0.map zko)))),(10,(.lf true (.sl (a0.map zko)))),(11,(I ((a0.length:Nat):Int))),(12,(I g0.t12)),(29,(B p0.t29))],[],0,40⟩) ?_ ?_
    ·refine sA ?_
     refine zkt hq5 (λ hq5 _=>sA ?_) (λ hq5 _=>sA ?_)
     ·obtain ⟨hp7,hq5⟩:=zj8 hq5
      have hn7:(wI (g0.t12 - 1)).toNat < a0.length:=by first|omega|(simp;omega)
      refine sA ?_
      refine zkw ?_
      cases hq5
      exact zkp rfl (zkg [])
     ·cases hq5
      exact zkp rfl (zkg [])
    ·intro s2 hJ;subst hJ
     try dsimp only at hs1
     refine sA ?_
     refine zki hs1 (λ hs1 _=>sA ?_) (λ hs1 _=>sA ?_)
     ·cases hs1
      cases hk1
      try dsimp only at h
      refine sA ?_
      have he:=oi h
      subst he
      exact zkc ⟨[(2,(B false))],[],0,40⟩ []
     ·cases hs1
      exact zkr hk1 (zkg [])
   ·cases hs1
    cases hk1
    try dsimp only at h
    refine sA ?_
    obtain ⟨c0,hr9,h⟩:=zj7 h
    refine zkj (zhc hr9) (sA ?_)
    cases h
    exact zkc ⟨[(2,(B (c0.2 == ((a0.length:Nat):Int))))],[],0,40⟩ []
theorem zjc {a0:(List zka)} {r:Bool} (h:zeQ a0=some r):Fn Tryz.prog 61 [(.lf true (.sl (a0.map zko)))] [] 0 (B r) [] 0:=by
 unfold zeQ at h
 refine fc [] Tryz.func61 ?_
 simp only [Tryz.f61]
 refine sA ?_
 refine zkt h (λ h _=>sA ?_) (λ h _=>sA ?_)
 ·obtain ⟨c0,hr2,h⟩:=zj7 h
  refine zkj (zgr hr2) (sA ?_)
  have he:=oi h
  subst he
  exact zkc ⟨[(2,(B c0))],[],0,10⟩ []
 ·have he:=oi h
  subst he
  exact zkc ⟨[(2,(B false))],[],0,10⟩ []
theorem zfx {a0:zkh} {r:Bool} (h:za0 a0=some r):Fn Tryz.prog 60 [(.ag [(.lf true (.sl (a0.fBr.map zkf)))])] [] 0 (B r) [] 0:=by
 unfold za0 at h
 refine fc [(1000,[(1,0)]),(1001,[(1,0),(10,0)]),(1003,[(1,0),(12,0),(13,0),(14,0)]),(1004,[(1,0),(12,0),(13,0),(14,0),(15,0)]),(1005,[(1,0),(3,0),(4,0),(12,0),(13,0),(14,0)]),(1006,[(1,0),(3,0),(4,0),(12,0),(13,0),(14,0),(22,0)]),(1008,[(1,0),(4,0),(12,0),(13,0),(14,0),(26,0),(27,0),(28,0)]),(1009,[(1,0),(4,0),(12,0),(13,0),(14,0),(26,0),(27,0),(28,0),(29,0)]),(1010,[(1,0),(4,0),(6,0),(12,0),(13,0),(14,0),(26,0),(27,0),(28,0)]),(1011,[(1,0),(4,0),(12,0),(13,0),(14,0),(26,0),(27,0),(28,0),(44,0)]),(1013,[(1,0),(4,0),(12,0),(13,0),(14,0),(26,0),(27,0),(28,0)]),(1014,[(1,0),(12,0),(13,0),(14,0)]),(4011,[])] Tryz.func60 ?_
 simp only [Tryz.f60]
 refine sA ?_
 refine zki h (λ h _=>sA ?_) (λ h _=>sA ?_)
 ·have he:=oi h
  subst he
  exact zkc ⟨[(2,(B false))],[],0,47⟩ []
 ·obtain ⟨y0,hl2,h⟩:=zj7 h
  refine zky (λ g0:zaR=>⟨[(1,(.pb 0 0)),(12,(.lf true (.sl (a0.fBr.map zkf)))),(13,(I ((a0.fBr.length:Nat):Int))),(14,(I g0.t14))],[(0,some (true,.box [(.lf true (.sl (a0.fBr.map zkf)))]))],1,47⟩) (zaT a0) _ _ hl2 (zkg [some 0]) ?_
  ·intro n1 g0 z1 hs1 hk1
   unfold zaT at hs1
   try dsimp only at hs1
   refine sA ?_
   refine zki hs1 (λ hs1 _=>sA ?_) (λ hs1 _=>sA ?_)
   ·obtain ⟨hp4,hs1⟩:=zj8 hs1
    have hn4:g0.t14.toNat < a0.fBr.length:=by first|omega|(simp;omega)
    refine sA ?_
    refine zkw ?_
    obtain ⟨c0,hr5,hs1⟩:=zj7 hs1
    refine zkj (zjc hr5) (sA ?_)
    refine zki hs1 (λ hs1 _=>sA ?_) (λ hs1 _=>sA ?_)
    ·cases hs1
     cases hk1
     try dsimp only at h
     refine sA ?_
     have he:=oi h
     subst he
     exact zkc ⟨[(2,(B false))],[],0,47⟩ []
    ·obtain ⟨hp7,hs1⟩:=zj8 hs1
     refine sA ?_
     refine zkw ?_
     obtain ⟨y1,hl8,hs1⟩:=zj7 hs1
     refine zky (λ g1:zc0=>⟨[(1,(.pb 0 0)),(4,(.pb 1 0)),(12,(.lf true (.sl (a0.fBr.map zkf)))),(13,(I ((a0.fBr.length:Nat):Int))),(14,(I g0.t14)),(26,(.lf true (.sl ((a0.fBr.take g0.t14.toNat).map zkf)))),(27,(I (((a0.fBr.take g0.t14.toNat).length:Nat):Int))),(28,(I g1.t28))],[(0,some (true,.box [(.lf true (.sl (a0.fBr.map zkf)))])),(1,some (true,.box [(.lf true (.sl (((nth a0.fBr g0.t14.toNat).fEv).map zko)))]))],2,47⟩) (zaS a0 g0) _ _ hl8 (zkg [some 0,some 1]) ?_
     ·intro n2 g1 z2 hs2 hk2
      unfold zaS at hs2
      try dsimp only at hs2
      refine sA ?_
      refine zki hs2 (λ hs2 _=>sA ?_) (λ hs2 _=>sA ?_)
      ·obtain ⟨hp10,hs2⟩:=zj8 hs2
       have hn10:g1.t28.toNat < (a0.fBr.take g0.t14.toNat).length:=by first|omega|(simp;omega)
       refine sA ?_
       refine zkw ?_
       obtain ⟨p0,hq11,hs2⟩:=zj7 hs2
       refine zkC (λ s2=>s2=⟨[(1,(.pb 0 0)),(4,(.pb 1 0)),(12,(.lf true (.sl (a0.fBr.map zkf)))),(13,(I ((a0.fBr.length:Nat):Int))),(14,(I g0.t14)),(26,(.lf true (.sl ((a0.fBr.take g0.t14.toNat).map zkf)))),(27,(I (((a0.fBr.take g0.t14.toNat).length:Nat):Int))),(28,(I g1.t28)),(44,(B p0.t44))],[(0,some (true,.box [(.lf true (.sl (a0.fBr.map zkf)))])),(1,some (true,.box [(.lf true (.sl (((nth a0.fBr g0.t14.toNat).fEv).map zko)))]))],2,47⟩) ?_ ?_
       ·refine sA ?_
        obtain ⟨c1,hr12,hq11⟩:=zj7 hq11
        refine zkj (zfU hr12) (sA ?_)
        refine zkt hq11 (λ hq11 _=>sA ?_) (λ hq11 _=>sA ?_)
        ·cases hq11
         exact zkp rfl (zkg [some 0,some 1])
        ·obtain ⟨c2,hr14,hq11⟩:=zj7 hq11
         refine zkj (zgZ hr14) (sA ?_)
         cases hq11
         exact zkp rfl (zkg [some 0,some 1])
       ·intro s2 hJ;subst hJ
        try dsimp only at hs2
        refine sA ?_
        refine zki hs2 (λ hs2 _=>sA ?_) (λ hs2 _=>sA ?_)
        ·cases hs2
         cases hk2
         try dsimp only at hs1
         refine sA ?_
         cases hs1
         cases hk1
         try dsimp only at h
         refine sA ?_
         have he:=oi h
         subst he
         exact zkc ⟨[(2,(B false))],[],0,47⟩ []
        ·cases hs2
         exact zkr hk2 (zkg [some 0,some 1])
      ·cases hs2
       cases hk2
       try dsimp only at hs1
       refine sA ?_
       cases hs1
       exact zkr hk1 (zkg [some 0])
   ·cases hs1
    cases hk1
    try dsimp only at h
    refine sA ?_
    have he:=oi h
    subst he
    exact zkc ⟨[(2,(B true))],[],0,47⟩ []
theorem zih {a0:zkh} {a1:zkh} {r:(zkh×Bool)} (h:zcB a0 a1=some r):Fn Tryz.prog 128 [(.ag [(.lf true (.sl (a0.fBr.map zkf)))]),(.ag [(.lf true (.sl (a1.fBr.map zkf)))])] [] 0 (.tu [(.ag [(.os 0 1 0 r.1.fBr.length r.1.fBr.length false)]),(B r.2)]) [(0,some (true,.deep [.sl [.sc,.sc,.sc,.sc]] (r.1.fBr.map zkf)))] 2:=by
 unfold zcB at h
 refine fc [(1000,[(2,0),(3,0),(4,0)]),(1001,[(2,0),(3,0),(4,0),(16,0)]),(1003,[(3,0),(4,0),(6,0)]),(1004,[(4,0),(6,0),(21,0),(22,0),(23,0)]),(1005,[(4,0),(6,0),(21,0),(22,0),(23,0),(24,0)]),(1006,[(4,0),(6,0),(8,0),(21,0),(22,0),(23,0)]),(1007,[(4,0),(6,0),(21,0),(22,0),(23,0)]),(1008,[(4,0),(6,0),(21,0),(22,0),(23,0)]),(1009,[(4,0),(6,0),(35,0)]),(4001,[])] Tryz.func128 ?_
 simp only [Tryz.f128]
 refine sA ?_
 obtain ⟨p0,hq1,h⟩:=zj7 h
 refine zkC (λ s2=>s2=⟨[(2,(.pb 0 0)),(3,(.pb 1 0)),(4,(.pb 2 0)),(16,(B p0.t16))],[(0,some (true,.box [(.lf true (.sl (a0.fBr.map zkf)))])),(1,some (true,.box [(.lf true (.sl (a1.fBr.map zkf)))])),(2,some (true,.box [.nl]))],3,38⟩) ?_ ?_
 ·refine sA ?_
  obtain ⟨c0,hr2,hq1⟩:=zj7 hq1
  refine zkj (zfx hr2) (sA ?_)
  refine zkt hq1 (λ hq1 _=>sA ?_) (λ hq1 _=>sA ?_)
  ·cases hq1
   exact zkp rfl (zkg [some 0,some 1,some 2])
  ·obtain ⟨c1,hr4,hq1⟩:=zj7 hq1
   refine zkj (zfx hr4) (sA ?_)
   cases hq1
   exact zkp rfl (zkg [some 0,some 1,some 2])
 ·intro s2 hJ;subst hJ
  try dsimp only at h
  refine sA ?_
  refine zki h (λ h _=>sA ?_) (λ h _=>sA ?_)
  ·cases h
   exact zkc ⟨[(4,(.pb 1 0)),(5,(B false))],[(0,some (true,.deep [.sl [.sc,.sc,.sc,.sc]] (([]:List zkd).map zkf))),(1,some (true,.box [(.os 0 1 0 (([]:List zkd).length) (([]:List zkd).length) false)]))],2,38⟩ [none,some 2]
  ·obtain ⟨c2,hr6,h⟩:=zj7 h
   refine zkj (zc7 hr6) (sA ?_)
   obtain ⟨y0,hl7,h⟩:=zj7 h
   refine zky (λ g0:zcO=>⟨[(4,(.pb 0 0)),(6,(.pb 1 0)),(21,(.lf true (.sl (a1.fBr.map zkf)))),(22,(I ((a1.fBr.length:Nat):Int))),(23,(I g0.t23))],[(0,some (true,.box [.nl])),(1,some (true,.box [(.os 2 1 0 g0.c2.length g0.c2.length false)])),(2,some (true,.deep [.sl [.sc,.sc,.sc,.sc]] (g0.c2.map zkf)))],3,38⟩) (zay a1) _ _ hl7 (zkg [some 2,some 5,some 3]) ?_
   ·intro n1 g0 z1 hs1 hk1
    unfold zay at hs1
    try dsimp only at hs1
    refine sA ?_
    refine zki hs1 (λ hs1 _=>sA ?_) (λ hs1 _=>sA ?_)
    ·obtain ⟨hp9,hs1⟩:=zj8 hs1
     have hn9:g0.t23.toNat < a1.fBr.length:=by first|omega|(simp;omega)
     refine sA ?_
     refine zkw ?_
     obtain ⟨c3,hr10,hs1⟩:=zj7 hs1
     refine zkj (zgG hr10) (sA ?_)
     cases hs1
     exact zkr hk1 (zkg [some 0,some 1,some 4])
    ·cases hs1
     cases hk1
     try dsimp only at h
     refine sA ?_
     refine zki h (λ h _=>sA ?_) (λ h _=>sA ?_)
     ·cases h
      exact zkc ⟨[(4,(.pb 1 0)),(5,(B false))],[(0,some (true,.deep [.sl [.sc,.sc,.sc,.sc]] (([]:List zkd).map zkf))),(1,some (true,.box [(.os 0 1 0 (([]:List zkd).length) (([]:List zkd).length) false)]))],2,38⟩ [none,some 0]
     ·cases h
      exact zkc ⟨[(4,(.pb 1 0)),(5,(B true))],[(0,some (true,.deep [.sl [.sc,.sc,.sc,.sc]] (g0.c2.map zkf))),(1,some (true,.box [(.os 0 1 0 g0.c2.length g0.c2.length false)]))],2,38⟩ [some 2,some 0]
theorem zhC {a0:(List zkb)} {i0:Nat} {a2:zlF} {m1:Nat} {x1:Bool} {r:(Bool×(List zkb))} (h:zaz a0 i0 a2=some r):Fn Tryz.prog 55 [(.pe 0 3 i0 0),(.ag [(I a2.fVe),(.os 1 1 0 a2.fTe.fBr.length m1 x1)])] [(0,some (false,.deep [.sc,.sc,.sl [.sl [.sc,.sc,.sc,.sc]]] (a0.map zkl))),(1,some (false,.deep [.sl [.sc,.sc,.sc,.sc]] (a2.fTe.fBr.map zkf)))] 2 (B r.1) [(0,some (false,.deep [.sc,.sc,.sl [.sl [.sc,.sc,.sc,.sc]]] (r.2.map zkl))),(1,some (false,.deep [.sl [.sc,.sc,.sc,.sc]] (a2.fTe.fBr.map zkf)))] 2:=by
 unfold zaz at h
 refine fc [(1,[(3,10),(5,10)]),(3,[(9,12)]),(1000,[(0,0),(3,0)]),(1001,[(0,0),(3,0),(5,0),(6,0)]),(1002,[(0,0),(3,0),(5,0),(6,0),(17,0)]),(1003,[(6,0)]),(5001,[])] Tryz.func55 ?_
 simp only [Tryz.f55]
 refine sA ?_
 obtain ⟨hp1,h⟩:=zj8 h
 refine zon 0 i0 (sA ?_)
 obtain ⟨c0,hr2,h⟩:=zj7 h
 refine zkj (zih hr2) (sA ?_)
 refine zki h (λ h _=>sA ?_) (λ h _=>sA ?_)
 ·cases h
  refine zl8 0 (sA ?_)
  exact zkc ⟨[(4,(B c0.2))],[(0,some (false,.deep [.sc,.sc,.sl [.sl [.sc,.sc,.sc,.sc]]] ((a0.set i0 (⟨(nth a0 i0).Id,(max ((nth a0 i0).fVe) a2.fVe),c0.1⟩:zkb)).map zkl))),(1,some (false,.deep [.sl [.sc,.sc,.sc,.sc]] (a2.fTe.fBr.map zkf)))],2,33⟩ [some 0,some 1]
 ·cases h
  refine zl8 0 (sA ?_)
  exact zkc ⟨[(4,(B c0.2))],[(0,some (false,.deep [.sc,.sc,.sl [.sl [.sc,.sc,.sc,.sc]]] ((a0.set i0 (⟨(nth a0 i0).Id,(nth a0 i0).fVe,((nth a0 i0).fTe)⟩:zkb)).map zkl))),(1,some (false,.deep [.sl [.sc,.sc,.sc,.sc]] (a2.fTe.fBr.map zkf)))],2,33⟩ [some 0,some 1]
theorem zdR {a0:zkn} {a1:zks} {m1:Nat} {x1:Bool} {m2:Nat} {x2:Bool} {r:(Int×zkn×(List zkb))} (h:zae a0 a1=some r):Fn Tryz.prog 151 [(.pb 0 0),(.ag [(I a1.Kind),(I a1.Region),(I a1.What),(.lf false (.sc (.string a1.Name))),(I a1.K)])] [(0,some (false,.box [(.os 1 3 0 a0.fRe.length m1 x1),(.os 2 3 0 a0.Line.length m2 x2)])),(1,some (false,.deep [.sc,.sc,.sl [.sl [.sc,.sc,.sc,.sc]]] (a0.fRe.map zkl))),(2,some (false,.deep [.sc,.sc,.sl [.sl [.sc,.sc,.sc,.sc]]] (a0.Line.map zkz)))] 3 (I r.1) [(0,some (false,.box [(.os 1 3 0 r.2.2.length r.2.2.length false),(.os 3 3 0 r.2.1.Line.length r.2.1.Line.length false)])),(1,some (false,.deep [.sc,.sc,.sl [.sl [.sc,.sc,.sc,.sc]]] (r.2.2.map zkl))),(2,none),(3,some (false,.deep [.sc,.sc,.sl [.sl [.sc,.sc,.sc,.sc]]] (r.2.1.Line.map zkz)))] 4:=by
 unfold zae at h
 refine fc [(3,[(3,8),(5,8),(7,8)]),(1000,[(0,0),(3,0)]),(1001,[(0,0),(3,0),(15,0)]),(1003,[(0,0),(3,0),(5,0)]),(1004,[(0,0),(3,0),(5,0),(26,0)]),(1006,[(0,0),(3,0),(5,0)]),(1007,[(59,0)]),(5003,[])] Tryz.func151 ?_
 simp only [Tryz.f151]
 refine sA ?_
 obtain ⟨c0,hr1,h⟩:=zj7 h
 refine zkj (zc8 hr1) (sA ?_)
 refine zki h (λ h _=>sA ?_) (λ h _=>sA ?_)
 ·cases h
  exact zkc ⟨[(4,(I 1))],[(0,some (false,.box [(.os 1 3 0 a0.fRe.length a0.fRe.length false),(.os 3 3 0 a0.Line.length a0.Line.length false)])),(1,some (false,.deep [.sc,.sc,.sl [.sl [.sc,.sc,.sc,.sc]]] (a0.fRe.map zkl))),(2,none),(3,some (false,.deep [.sc,.sc,.sl [.sl [.sc,.sc,.sc,.sc]]] (a0.Line.map zkz)))],4,60⟩ [some 0,some 1,some 2,some 2]
 ·obtain ⟨hp3,h⟩:=zj8 h
  refine zon 2 a1.K.toNat (sA ?_)
  obtain ⟨hp4,h⟩:=zj8 h
  have hn4:a1.K.toNat < a0.Line.length:=by first|omega|(simp;omega)
  refine sA ?_
  refine zkw ?_
  refine zki h (λ h _=>sA ?_) (λ h _=>sA ?_)
  ·obtain ⟨c1,hr6,h⟩:=zj7 h
   refine zlj [0,1,2,6] (zhU hr6) (sA ?_)
   obtain ⟨c2,hr7,h⟩:=zj7 h
   refine zkj (zfq hr7) (sA ?_)
   cases h
   exact zkc ⟨[(4,(I c2))],[(0,some (false,.box [(.os 1 3 0 a0.fRe.length a0.fRe.length false),(.os 3 3 0 c1.2.Line.length c1.2.Line.length false)])),(1,some (false,.deep [.sc,.sc,.sl [.sl [.sc,.sc,.sc,.sc]]] (a0.fRe.map zkl))),(2,none),(3,some (false,.deep [.sc,.sc,.sl [.sl [.sc,.sc,.sc,.sc]]] (c1.2.Line.map zkz)))],4,60⟩ [some 0,some 1,some 2,some 8]
  ·obtain ⟨c3,hr8,h⟩:=zj7 h
   refine zzv [2] (zgX hr8) (sA ?_)
   refine zkt h (λ h _=>sA ?_) (λ h _=>sA ?_)
   ·obtain ⟨hp10,h⟩:=zj8 h
    have hn10:((nth a0.Line a1.K.toNat).To).toNat < a0.fRe.length:=by first|omega|(simp;omega)
    refine sA ?_
    refine zkw ?_
    obtain ⟨c4,hr11,h⟩:=zj7 h
    refine zlj [1,6] (zhC hr11) (sA ?_)
    obtain ⟨hp12,h⟩:=zj8 h
    try rw [← hp12]
    refine sA ?_
    refine zki h (λ h _=>sA ?_) (λ h _=>sA ?_)
    ·cases h
     exact zkc ⟨[(4,(I 2))],[(0,some (false,.box [(.os 1 3 0 c4.2.length c4.2.length false),(.os 3 3 0 c3.length c3.length false)])),(1,some (false,.deep [.sc,.sc,.sl [.sl [.sc,.sc,.sc,.sc]]] (c4.2.map zkl))),(2,none),(3,some (false,.deep [.sc,.sc,.sl [.sl [.sc,.sc,.sc,.sc]]] (c3.map zkz)))],4,60⟩ [some 0,some 1,some 2,some 8]
    ·cases h
     exact zkc ⟨[(4,(I 0))],[(0,some (false,.box [(.os 1 3 0 c4.2.length c4.2.length false),(.os 3 3 0 c3.length c3.length false)])),(1,some (false,.deep [.sc,.sc,.sl [.sl [.sc,.sc,.sc,.sc]]] (c4.2.map zkl))),(2,none),(3,some (false,.deep [.sc,.sc,.sl [.sl [.sc,.sc,.sc,.sc]]] (c3.map zkz)))],4,60⟩ [some 0,some 1,some 2,some 8]
   ·cases h
    exact zkc ⟨[(4,(I 0))],[(0,some (false,.box [(.os 1 3 0 a0.fRe.length a0.fRe.length false),(.os 3 3 0 c3.length c3.length false)])),(1,some (false,.deep [.sc,.sc,.sl [.sl [.sc,.sc,.sc,.sc]]] (a0.fRe.map zkl))),(2,none),(3,some (false,.deep [.sc,.sc,.sl [.sl [.sc,.sc,.sc,.sc]]] (c3.map zkz)))],4,60⟩ [some 0,some 1,some 2,some 8]
theorem zh5 {a0:zkn} {a1:zks} {m1:Nat} {x1:Bool} {m2:Nat} {x2:Bool} {r:(Int×zkn×(List zkb))} (h:zb9 a0 a1=some r):Fn Tryz.prog 80 [(.pb 0 0),(.ag [(I a1.Kind),(I a1.Region),(I a1.What),(.lf false (.sc (.string a1.Name))),(I a1.K)])] [(0,some (false,.box [(.os 1 3 0 a0.fRe.length m1 x1),(.os 2 3 0 a0.Line.length m2 x2)])),(1,some (false,.deep [.sc,.sc,.sl [.sl [.sc,.sc,.sc,.sc]]] (a0.fRe.map zkl))),(2,some (false,.deep [.sc,.sc,.sl [.sl [.sc,.sc,.sc,.sc]]] (a0.Line.map zkz)))] 3 (I r.1) [(0,some (false,.box [(.os 1 3 0 r.2.2.length r.2.2.length false),(.os 3 3 0 r.2.1.Line.length r.2.1.Line.length false)])),(1,some (false,.deep [.sc,.sc,.sl [.sl [.sc,.sc,.sc,.sc]]] (r.2.2.map zkl))),(2,none),(3,some (false,.deep [.sc,.sc,.sl [.sl [.sc,.sc,.sc,.sc]]] (r.2.1.Line.map zkz)))] 4:=by
 unfold zb9 at h
 refine fc [(1000,[(0,0),(3,0)]),(1001,[(0,0),(3,0),(6,0)]),(1002,[(0,0),(3,0),(6,0),(7,0)]),(1003,[(0,0),(3,0),(6,0),(7,0)]),(1004,[(0,0),(3,0),(6,0),(7,0)]),(1005,[(0,0),(3,0),(6,0),(7,0)]),(1007,[(0,0),(3,0),(6,0),(15,0)]),(1008,[(0,0),(3,0),(6,0),(15,0)]),(1009,[(0,0),(3,0),(15,0)]),(2007,[])] Tryz.func80 ?_
 simp only [Tryz.f80]
 refine sA ?_
 obtain ⟨p0,hq1,h⟩:=zj7 h
 refine zkC (λ s2=>s2=⟨[(0,(.pb 0 0)),(3,(.pb 3 0)),(6,(I a1.Kind)),(7,(B p0.t7))],[(0,some (false,.box [(.os 1 3 0 a0.fRe.length m1 x1),(.os 2 3 0 a0.Line.length m2 x2)])),(1,some (false,.deep [.sc,.sc,.sl [.sl [.sc,.sc,.sc,.sc]]] (a0.fRe.map zkl))),(2,some (false,.deep [.sc,.sc,.sl [.sl [.sc,.sc,.sc,.sc]]] (a0.Line.map zkz))),(3,some (true,.box [(I a1.Kind),(I a1.Region),(I a1.What),(.lf false (.sc (.string a1.Name))),(I a1.K)]))],4,22⟩) ?_ ?_
 ·refine sA ?_
  refine zki hq1 (λ hq1 _=>sA ?_) (λ hq1 _=>sA ?_)
  ·cases hq1
   exact zkp rfl (zkg [some 0,some 1,some 2,some 3])
  ·refine zki hq1 (λ hq1 _=>sA ?_) (λ hq1 _=>sA ?_)
   ·cases hq1
    exact zkp rfl (zkg [some 0,some 1,some 2,some 3])
   ·refine zki hq1 (λ hq1 _=>sA ?_) (λ hq1 _=>sA ?_)
    ·cases hq1
     exact zkp rfl (zkg [some 0,some 1,some 2,some 3])
    ·cases hq1
     exact zkp rfl (zkg [some 0,some 1,some 2,some 3])
 ·intro s2 hJ;subst hJ
  try dsimp only at h
  refine sA ?_
  refine zki h (λ h _=>sA ?_) (λ h _=>sA ?_)
  ·obtain ⟨c0,hr6,h⟩:=zj7 h
   refine zlj [0,1,2] (zhh hr6) (sA ?_)
   cases h
   exact zkc ⟨[(4,(I c0.1))],[(0,some (false,.box [(.os 1 3 0 c0.2.2.length c0.2.2.length false),(.os 3 3 0 c0.2.1.Line.length c0.2.1.Line.length false)])),(1,some (false,.deep [.sc,.sc,.sl [.sl [.sc,.sc,.sc,.sc]]] (c0.2.2.map zkl))),(2,none),(3,some (false,.deep [.sc,.sc,.sl [.sl [.sc,.sc,.sc,.sc]]] (c0.2.1.Line.map zkz)))],4,22⟩ [some 0,some 1,some 2,some 4]
  ·refine zki h (λ h _=>sA ?_) (λ h _=>sA ?_)
   ·obtain ⟨c1,hr8,h⟩:=zj7 h
    refine zlj [0,1,2] (zdR hr8) (sA ?_)
    cases h
    exact zkc ⟨[(4,(I c1.1))],[(0,some (false,.box [(.os 1 3 0 c1.2.2.length c1.2.2.length false),(.os 3 3 0 c1.2.1.Line.length c1.2.1.Line.length false)])),(1,some (false,.deep [.sc,.sc,.sl [.sl [.sc,.sc,.sc,.sc]]] (c1.2.2.map zkl))),(2,none),(3,some (false,.deep [.sc,.sc,.sl [.sl [.sc,.sc,.sc,.sc]]] (c1.2.1.Line.map zkz)))],4,22⟩ [some 0,some 1,some 2,some 4]
   ·refine zki h (λ h _=>sA ?_) (λ h _=>sA ?_)
    ·obtain ⟨c2,hr10,h⟩:=zj7 h
     refine zlj [0,1,2] (zdR hr10) (sA ?_)
     cases h
     exact zkc ⟨[(4,(I c2.1))],[(0,some (false,.box [(.os 1 3 0 c2.2.2.length c2.2.2.length false),(.os 3 3 0 c2.2.1.Line.length c2.2.1.Line.length false)])),(1,some (false,.deep [.sc,.sc,.sl [.sl [.sc,.sc,.sc,.sc]]] (c2.2.2.map zkl))),(2,none),(3,some (false,.deep [.sc,.sc,.sl [.sl [.sc,.sc,.sc,.sc]]] (c2.2.1.Line.map zkz)))],4,22⟩ [some 0,some 1,some 2,some 4]
    ·refine zki h (λ h _=>sA ?_) (λ h _=>sA ?_)
     ·obtain ⟨c3,hr12,h⟩:=zj7 h
      refine zlj [0,1,2] (zdR hr12) (sA ?_)
      cases h
      exact zkc ⟨[(4,(I c3.1))],[(0,some (false,.box [(.os 1 3 0 c3.2.2.length c3.2.2.length false),(.os 3 3 0 c3.2.1.Line.length c3.2.1.Line.length false)])),(1,some (false,.deep [.sc,.sc,.sl [.sl [.sc,.sc,.sc,.sc]]] (c3.2.2.map zkl))),(2,none),(3,some (false,.deep [.sc,.sc,.sl [.sl [.sc,.sc,.sc,.sc]]] (c3.2.1.Line.map zkz)))],4,22⟩ [some 0,some 1,some 2,some 4]
     ·cases h
      exact zkc ⟨[(4,(I 1))],[(0,some (false,.box [(.os 1 3 0 a0.fRe.length a0.fRe.length false),(.os 3 3 0 a0.Line.length a0.Line.length false)])),(1,some (false,.deep [.sc,.sc,.sl [.sl [.sc,.sc,.sc,.sc]]] (a0.fRe.map zkl))),(2,none),(3,some (false,.deep [.sc,.sc,.sl [.sl [.sc,.sc,.sc,.sc]]] (a0.Line.map zkz)))],4,22⟩ [some 0,some 1,some 2,some 2]
theorem ziB {a0:(List zks)} {r:(zkn×(List Int)×Bool)} (h:zdz a0=some r):Fn Tryz.prog 25 [(.lf true (.sl (a0.map zlu)))] [] 0 (.tu [(.ag [(.lf false (.sl (r.1.fRe.map zkl))),(.lf false (.sl (r.1.Line.map zkz)))]),(.lf false (.sl (r.2.1.map eI))),(B r.2.2)]) [] 1:=by
 unfold zdz at h
 refine fc [(1000,[(0,0),(2,0)]),(1001,[(0,0),(2,0),(11,0)]),(1003,[(0,0),(2,0),(5,0),(6,0)]),(1004,[(2,0),(5,0),(6,0),(15,0),(16,0),(17,0)]),(1005,[(2,0),(5,0),(6,0),(15,0),(16,0),(17,0),(18,0)]),(1006,[(2,0),(5,0),(6,0),(8,0),(15,0),(16,0),(17,0)]),(1007,[(2,0),(5,0),(6,0),(15,0),(16,0),(17,0)]),(1008,[(2,0),(5,0),(6,0),(15,0),(16,0),(17,0)])] Tryz.func25 ?_
 simp only [Tryz.f25]
 refine sA ?_
 refine zki h (λ h _=>sA ?_) (λ h _=>sA ?_)
 ·cases h
  exact zkc ⟨[(2,(.pb 0 0)),(3,(.lf false (.sl (([]).map eI)))),(4,(B false))],[(0,some (true,.box [(.lf false (.sl (([]).map zkl))),(.lf false (.sl (([]).map zkz)))]))],1,29⟩ [some 0]
 ·obtain ⟨c0,hr2,h⟩:=zj7 h
  refine zkj (zjo hr2) (sA ?_)
  obtain ⟨y0,hl3,h⟩:=zj7 h
  refine zky (λ g0:zdJ=>⟨[(2,(.pb 0 0)),(5,(.pb 1 0)),(6,(.os 2 1 0 g0.c2.length g0.c2.length false)),(15,(.lf true (.sl (a0.map zlu)))),(16,(I ((a0.length:Nat):Int))),(17,(I g0.t17))],[(0,some (true,.box [.nl,.nl])),(1,some (true,.box [(.os 3 3 0 g0.c3.length g0.c3.length false),(.os 4 3 0 g0.c4.length g0.c4.length false)])),(2,some (true,.arr false 1 (g0.c2.map eI))),(3,some (true,.deep [.sc,.sc,.sl [.sl [.sc,.sc,.sc,.sc]]] (g0.c3.map zkl))),(4,some (true,.deep [.sc,.sc,.sl [.sl [.sc,.sc,.sc,.sc]]] (g0.c4.map zkz)))],5,29⟩) (zbc a0) _ _ hl3 (zkg [some 0,some 4,some 3,some 1,none]) ?_
  ·intro n1 g0 z1 hs1 hk1
   unfold zbc at hs1
   try dsimp only at hs1
   refine sA ?_
   refine zki hs1 (λ hs1 _=>sA ?_) (λ hs1 _=>sA ?_)
   ·obtain ⟨hp5,hs1⟩:=zj8 hs1
    have hn5:g0.t17.toNat < a0.length:=by first|omega|(simp;omega)
    refine sA ?_
    refine zkw ?_
    obtain ⟨c1,hr6,hs1⟩:=zj7 hs1
    refine zlj [1,3,4] (zh5 hr6) (sA ?_)
    obtain ⟨hp7,hs1⟩:=zj8 hs1
    refine sA ?_
    refine zkw ?_
    cases hs1
    exact zkr hk1 (zkg [some 0,some 1,some 8,some 3,some 6])
   ·cases hs1
    cases hk1
    try dsimp only at h
    refine sA ?_
    cases h
    refine zk6 3 ?_
    refine zk6 4 ?_
    refine zk6 2 (sA ?_)
    exact zkc ⟨[(2,(.pb 0 0)),(3,(.lf false (.sl (g0.c2.map eI)))),(4,(B true))],[(0,some (true,.box [(.lf false (.sl (g0.c3.map zkl))),(.lf false (.sl (g0.c4.map zkz)))]))],1,29⟩ [some 0]
theorem zab {a0:Int} {a1:Int} {a2:Int} {r:Bool} (h:z7 a0 a1 a2=some r):Fn Tryz.prog 96 [(I a0),(I a1),(I a2)] [] 0 (B r) [] 0:=by
 unfold z7 at h
 refine fc [] Tryz.func96 ?_
 simp only [Tryz.f96]
 refine sA ?_
 refine zkt h (λ h _=>sA ?_) (λ h _=>sA ?_)
 ·cases h
  exact zkc ⟨[(6,(B (decide (a0≤a2))))],[],0,15⟩ []
 ·have he:=oi h
  subst he
  exact zkc ⟨[(6,(B false))],[],0,15⟩ []
theorem zgc {a0:Int} {r:Bool} (h:zbB a0=some r):Fn Tryz.prog 129 [(I a0)] [] 0 (B r) [] 0:=by
 unfold zbB at h
 refine fc [] Tryz.func129 ?_
 simp only [Tryz.f129]
 refine sA ?_
 obtain ⟨c0,hr1,h⟩:=zj7 h
 refine zkj (zab hr1) (sA ?_)
 have he:=oi h
 subst he
 exact zkc ⟨[(2,(B c0))],[],0,5⟩ []
theorem zjr {r:zkq} (h:zgj=some r):Fn Tryz.prog 227 [] [] 0 (.ag [(I r.fSt),(I r.Next),(B r.fCa),(I r.Done),.nl,.nl]) [] 1:=by
 unfold zgj at h
 refine fc [] Tryz.func227 ?_
 simp only [Tryz.f227]
 refine sA ?_
 cases h
 exact zkc ⟨[(0,(.pb 0 0))],[(0,some (true,.box [(I 0),(I 1),(B false),(I 0),.nl,.nl]))],1,2⟩ [some 0]
theorem zg0 {a0:ByteArray} {r:Bool} (h:zen a0=some r):Fn Tryz.prog 158 [(.lf false (.sc (.string a0)))] [] 0 (B r) [] 0:=by
 unfold zen at h
 refine fc [(1000,[(0,0)]),(1001,[(0,0),(3,0)]),(1002,[(0,0),(3,0),(7,0)]),(1003,[(0,0),(3,0)]),(1004,[(0,0),(3,0),(32,0)]),(4004,[])] Tryz.func158 ?_
 simp only [Tryz.f158]
 refine sA ?_
 obtain ⟨y0,hl1,h⟩:=zj7 h
 refine zky (λ g0:zfX=>⟨[(0,(.lf false (.sc (.string a0)))),(3,(I g0.t3))],[],0,36⟩) (zda a0) _ _ hl1 (zkg []) ?_
 ·intro n1 g0 z1 hs1 hk1
  unfold zda at hs1
  try dsimp only at hs1
  refine sA ?_
  refine zki hs1 (λ hs1 _=>sA ?_) (λ hs1 _=>sA ?_)
  ·obtain ⟨p0,hq3,hs1⟩:=zj7 hs1
   refine zkC (λ s2=>s2=⟨[(0,(.lf false (.sc (.string a0)))),(3,(I g0.t3)),(32,(B p0.t32))],[],0,36⟩) ?_ ?_
   ·refine sA ?_
    obtain ⟨hp4,hq3⟩:=zj8 hq3
    refine sA ?_
    refine zkw ?_
    refine zkt hq3 (λ hq3 _=>sA ?_) (λ hq3 _=>sA ?_)
    ·obtain ⟨hp6,hq3⟩:=zj8 hq3
     refine sA ?_
     refine zkw ?_
     refine zkt hq3 (λ hq3 _=>sA ?_) (λ hq3 _=>sA ?_)
     ·cases hq3
      exact zkp rfl (zkg [])
     ·obtain ⟨hp8,hq3⟩:=zj8 hq3
      refine sA ?_
      refine zkw ?_
      refine zkt hq3 (λ hq3 _=>sA ?_) (λ hq3 _=>sA ?_)
      ·obtain ⟨hp10,hq3⟩:=zj8 hq3
       refine sA ?_
       refine zkw ?_
       cases hq3
       exact zkp rfl (zkg [])
      ·cases hq3
       exact zkp rfl (zkg [])
    ·obtain ⟨hp11,hq3⟩:=zj8 hq3
     refine sA ?_
     refine zkw ?_
     refine zkt hq3 (λ hq3 _=>sA ?_) (λ hq3 _=>sA ?_)
     ·obtain ⟨hp13,hq3⟩:=zj8 hq3
      refine sA ?_
      refine zkw ?_
      cases hq3
      exact zkp rfl (zkg [])
     ·cases hq3
      exact zkp rfl (zkg [])
   ·intro s2 hJ;subst hJ
    try dsimp only at hs1
    refine sA ?_
    refine zki hs1 (λ hs1 _=>sA ?_) (λ hs1 _=>sA ?_)
    ·cases hs1
     cases hk1
     try dsimp only at h
     refine sA ?_
     have he:=oi h
     subst he
     exact zkc ⟨[(2,(B false))],[],0,36⟩ []
    ·cases hs1
     exact zkr hk1 (zkg [])
  ·cases hs1
   cases hk1
   try dsimp only at h
   refine sA ?_
   cases h
   exact zkc ⟨[(2,(B (decide ((a0.size:Int)≤12))))],[],0,36⟩ []
theorem zhy {a0:zka} {r:Bool} (h:zdb a0=some r):Fn Tryz.prog 85 [(.ag [(I a0.Id),(I a0.fVe),(I a0.Kind),(.lf false (.sc (.string a0.Name)))])] [] 0 (B r) [] 0:=by
 unfold zdb at h
 refine fc [] Tryz.func85 ?_
 simp only [Tryz.f85]
 refine sA ?_
 obtain ⟨c0,hr1,h⟩:=zj7 h
 refine zkj (zab hr1) (sA ?_)
 refine zkt h (λ h _=>sA ?_) (λ h _=>sA ?_)
 ·obtain ⟨c1,hr3,h⟩:=zj7 h
  refine zkj (zab hr3) (sA ?_)
  refine zkt h (λ h _=>sA ?_) (λ h _=>sA ?_)
  ·obtain ⟨c2,hr5,h⟩:=zj7 h
   refine zkj (zab hr5) (sA ?_)
   refine zkt h (λ h _=>sA ?_) (λ h _=>sA ?_)
   ·obtain ⟨c3,hr7,h⟩:=zj7 h
    refine zkj (zg0 hr7) (sA ?_)
    have he:=oi h
    subst he
    exact zkc ⟨[(2,(B c3))],[],0,21⟩ []
   ·have he:=oi h
    subst he
    exact zkc ⟨[(2,(B false))],[],0,21⟩ []
  ·have he:=oi h
   subst he
   exact zkc ⟨[(2,(B false))],[],0,21⟩ []
 ·have he:=oi h
  subst he
  exact zkc ⟨[(2,(B false))],[],0,21⟩ []
theorem zjP {a0:zkq} {r:zkq} (h:zgd a0=some r):Fn Tryz.prog 228 [(.ag [(I a0.fSt),(I a0.Next),(B a0.fCa),(I a0.Done),(.lf true (.sl (a0.fSi.map eS))),(.lf true (.sl (a0.fTi.map eS)))])] [] 0 (.ag [(I r.fSt),(I r.Next),(B r.fCa),(I r.Done),(.os 0 1 0 r.fSi.length r.fSi.length false),(.os 1 1 0 r.fTi.length r.fTi.length false)]) [(0,some (true,.arr false 1 (r.fSi.map eS))),(1,some (true,.arr false 1 (r.fTi.map eS)))] 3:=by
 unfold zgd at h
 refine fc [(1000,[(1,0),(2,0)]),(1001,[(1,0),(2,0)]),(1002,[(1,0),(2,0)])] Tryz.func228 ?_
 simp only [Tryz.f228]
 refine sA ?_
 obtain ⟨hp1,h⟩:=zj8 h
 refine sA ?_
 refine zkw ?_
 obtain ⟨hp2,h⟩:=zj8 h
 refine sA ?_
 refine zkw ?_
 cases h
 exact zkc ⟨[(2,(.pb 2 0))],[(0,some (true,.arr false 1 ((([])++a0.fSi).map eS))),(1,some (true,.arr false 1 ((([])++a0.fTi).map eS))),(2,some (true,.box [(I a0.fSt),(I a0.Next),(B a0.fCa),(I a0.Done),(.os 0 1 0 ((([])++a0.fSi).length) ((([])++a0.fSi).length) false),(.os 1 1 0 ((([])++a0.fTi).length) ((([])++a0.fTi).length) false)]))],3,14⟩ [some 3,some 5,some 1]
theorem zfW {a0:(List ByteArray)} {a1:ByteArray} {r:Int} (h:zbC a0 a1=some r):Fn Tryz.prog 186 [(.lf true (.sl (a0.map eS))),(.lf false (.sc (.string a1)))] [] 0 (I r) [] 0:=by
 unfold zbC at h
 refine fc [(1000,[(0,0),(1,0)]),(1001,[(1,0),(7,0),(8,0),(9,0)]),(1002,[(1,0),(7,0),(8,0),(9,0),(10,0)]),(1003,[(1,0),(5,0),(6,0),(7,0),(8,0),(9,0)]),(1004,[(1,0),(5,0),(7,0),(8,0),(9,0),(16,0)]),(1006,[(1,0),(7,0),(8,0),(9,0)])] Tryz.func186 ?_
 simp only [Tryz.f186]
 refine sA ?_
 obtain ⟨y0,hl1,h⟩:=zj7 h
 refine zky (λ g0:zgk=>⟨[(1,(.lf false (.sc (.string a1)))),(7,(.lf true (.sl (a0.map eS)))),(8,(I ((a0.length:Nat):Int))),(9,(I g0.t9))],[],0,19⟩) (zdW a0 a1) _ _ hl1 (zkg []) ?_
 ·intro n1 g0 z1 hs1 hk1
  unfold zdW at hs1
  try dsimp only at hs1
  refine sA ?_
  refine zki hs1 (λ hs1 _=>sA ?_) (λ hs1 _=>sA ?_)
  ·obtain ⟨hp3,hs1⟩:=zj8 hs1
   have hn3:g0.t9.toNat < a0.length:=by first|omega|(simp;omega)
   refine sA ?_
   refine zkw ?_
   refine zki hs1 (λ hs1 _=>sA ?_) (λ hs1 _=>sA ?_)
   ·cases hs1
    cases hk1
    try dsimp only at h
    refine sA ?_
    cases h
    exact zkc ⟨[(4,(I g0.t9))],[],0,19⟩ []
   ·cases hs1
    exact zkr hk1 (zkg [])
  ·cases hs1
   cases hk1
   try dsimp only at h
   refine sA ?_
   cases h
   exact zkc ⟨[(4,(I (-1)))],[],0,19⟩ []
theorem zhM {a0:(List ByteArray)} {a1:ByteArray} {r:(List ByteArray)} (h:zb0 a0 a1=some r):Fn Tryz.prog 187 [(.lf true (.sl (a0.map eS))),(.lf false (.sc (.string a1)))] [] 0 (.os 0 1 0 r.length r.length false) [(0,some (true,.arr false 1 (r.map eS)))] 1:=by
 unfold zb0 at h
 refine fc [(1000,[(0,0),(1,0)]),(1001,[(0,0),(1,0),(5,0)]),(1002,[(0,0),(1,0),(5,0),(6,0)]),(1003,[(1,0),(5,0),(6,0),(13,0),(14,0),(15,0)]),(1004,[(1,0),(5,0),(6,0),(13,0),(14,0),(15,0),(16,0)]),(1005,[(1,0),(5,0),(6,0),(8,0),(13,0),(14,0),(15,0)]),(1006,[(1,0),(5,0),(6,0),(8,0),(13,0),(14,0),(15,0),(21,0)]),(1007,[(1,0),(5,0),(6,0),(8,0),(13,0),(14,0),(15,0),(28,0)]),(1008,[(1,0),(5,0),(8,0),(13,0),(14,0),(15,0)]),(1009,[(1,0),(5,0),(6,0),(8,0),(13,0),(14,0),(15,0)]),(1010,[(1,0),(5,0),(6,0),(13,0),(14,0),(15,0)]),(1011,[(1,0),(5,0),(6,0),(13,0),(14,0),(15,0)]),(1012,[(1,0),(5,0),(39,0)]),(1013,[(5,0)]),(4007,[])] Tryz.func187 ?_
 simp only [Tryz.f187]
 refine sA ?_
 obtain ⟨c0,hr1,h⟩:=zj7 h
 refine zkj (zfW hr1) (sA ?_)
 obtain ⟨y0,hl2,h⟩:=zj7 h
 refine zky (λ g0:zgo=>⟨[(1,(.lf false (.sc (.string a1)))),(5,(.os 0 1 0 g0.c0.length g0.c0.length false)),(6,(B g0.t6)),(13,(.lf true (.sl (a0.map eS)))),(14,(I ((a0.length:Nat):Int))),(15,(I g0.t15))],[(0,some (true,.arr false 1 (g0.c0.map eS)))],1,45⟩) (zX a0 a1) _ _ hl2 (zkg [none]) ?_
 ·intro n1 g0 z1 hs1 hk1
  unfold zX at hs1
  try dsimp only at hs1
  refine sA ?_
  refine zki hs1 (λ hs1 _=>sA ?_) (λ hs1 _=>sA ?_)
  ·obtain ⟨hp4,hs1⟩:=zj8 hs1
   have hn4:g0.t15.toNat < a0.length:=by first|omega|(simp;omega)
   refine sA ?_
   refine zkw ?_
   refine zki hs1 (λ hs1 _=>sA ?_) (λ hs1 _=>sA ?_)
   ·cases hs1
    exact zkr hk1 (zkg [some 0])
   ·obtain ⟨p0,hq6,hs1⟩:=zj7 hs1
    refine zkC (λ s2=>s2=⟨[(1,(.lf false (.sc (.string a1)))),(5,(.os 0 1 0 g0.c0.length g0.c0.length false)),(6,(B g0.t6)),(8,(.lf false (.sc (.string (nth a0 g0.t15.toNat))))),(13,(.lf true (.sl (a0.map eS)))),(14,(I ((a0.length:Nat):Int))),(15,(I g0.t15)),(28,(B p0.t28))],[(0,some (true,.arr false 1 (g0.c0.map eS)))],1,45⟩) ?_ ?_
    ·refine sA ?_
     refine zkt hq6 (λ hq6 _=>sA ?_) (λ hq6 _=>sA ?_)
     ·cases hq6
      exact zkp rfl (zkg [some 0])
     ·cases hq6
      exact zkp rfl (zkg [some 0])
    ·intro s2 hJ;subst hJ
     try dsimp only at hs1
     refine sA ?_
     refine zki hs1 (λ hs1 _=>sA ?_) (λ hs1 _=>sA ?_)
     ·obtain ⟨hp9,hs1⟩:=zj8 hs1
      refine sA ?_
      refine zkw ?_
      obtain ⟨hp10,hs1⟩:=zj8 hs1
      refine sA ?_
      refine zkw ?_
      cases hs1
      exact zkr hk1 (zkg [some 4])
     ·obtain ⟨hp11,hs1⟩:=zj8 hs1
      refine sA ?_
      refine zkw ?_
      cases hs1
      exact zkr hk1 (zkg [some 2])
  ·cases hs1
   cases hk1
   try dsimp only at h
   refine sA ?_
   refine zki h (λ h _=>sA ?_) (λ h _=>sA ?_)
   ·obtain ⟨hp13,h⟩:=zj8 h
    refine sA ?_
    refine zkw ?_
    cases h
    exact zkc ⟨[(4,(.os 0 1 0 ((g0.c0++([a1])).length) ((g0.c0++([a1])).length) false))],[(0,some (true,.arr false 1 ((g0.c0++([a1])).map eS)))],1,45⟩ [some 2]
   ·cases h
    exact zkc ⟨[(4,(.os 0 1 0 g0.c0.length g0.c0.length false))],[(0,some (true,.arr false 1 (g0.c0.map eS)))],1,45⟩ [some 0]
theorem zhN {a0:(List ByteArray)} {a1:Bool} {r:Bool} (h:zdX a0 a1=some r):Fn Tryz.prog 260 [(.lf true (.sl (a0.map eS))),(B a1)] [] 0 (B r) [] 0:=by
 unfold zdX at h
 refine fc [(1000,[(0,0),(1,0)]),(1001,[(0,0),(1,0),(9,0),(10,0),(11,0)]),(1002,[(0,0),(1,0),(9,0),(10,0),(11,0),(12,0)]),(1003,[(0,0),(1,0),(5,0),(6,0),(9,0),(10,0),(11,0)]),(1004,[(0,0),(1,0),(5,0),(6,0),(9,0),(10,0),(11,0),(18,0)]),(1006,[(0,0),(1,0),(5,0),(6,0),(9,0),(10,0),(11,0),(21,0),(22,0),(23,0)]),(1007,[(0,0),(1,0),(5,0),(6,0),(9,0),(10,0),(11,0),(21,0),(22,0),(23,0),(24,0)]),(1008,[(0,0),(1,0),(5,0),(6,0),(7,0),(8,0),(9,0),(10,0),(11,0),(21,0),(22,0),(23,0)]),(1009,[(0,0),(1,0),(5,0),(6,0),(9,0),(10,0),(11,0),(21,0),(22,0),(23,0),(44,0)]),(1011,[(0,0),(1,0),(5,0),(6,0),(9,0),(10,0),(11,0),(21,0),(22,0),(23,0)]),(1012,[(0,0),(1,0),(9,0),(10,0),(11,0)]),(4009,[])] Tryz.func260 ?_
 simp only [Tryz.f260]
 refine sA ?_
 obtain ⟨y0,hl1,h⟩:=zj7 h
 refine zky (λ g0:zcb=>⟨[(0,(.lf true (.sl (a0.map eS)))),(1,(B a1)),(9,(.lf true (.sl (a0.map eS)))),(10,(I ((a0.length:Nat):Int))),(11,(I g0.t11))],[],0,50⟩) (zcd a0 a1) _ _ hl1 (zkg []) ?_
 ·intro n1 g0 z1 hs1 hk1
  unfold zcd at hs1
  try dsimp only at hs1
  refine sA ?_
  refine zki hs1 (λ hs1 _=>sA ?_) (λ hs1 _=>sA ?_)
  ·obtain ⟨hp3,hs1⟩:=zj8 hs1
   have hn3:g0.t11.toNat < a0.length:=by first|omega|(simp;omega)
   refine sA ?_
   refine zkw ?_
   obtain ⟨c0,hr4,hs1⟩:=zj7 hs1
   refine zkj (zg0 hr4) (sA ?_)
   refine zki hs1 (λ hs1 _=>sA ?_) (λ hs1 _=>sA ?_)
   ·cases hs1
    cases hk1
    try dsimp only at h
    refine sA ?_
    have he:=oi h
    subst he
    exact zkc ⟨[(4,(B false))],[],0,50⟩ []
   ·obtain ⟨hp6,hs1⟩:=zj8 hs1
    refine sA ?_
    refine zkw ?_
    obtain ⟨y1,hl7,hs1⟩:=zj7 hs1
    refine zky (λ g1:ze8=>⟨[(0,(.lf true (.sl (a0.map eS)))),(1,(B a1)),(5,(I g0.t11)),(6,(.lf false (.sc (.string (nth a0 g0.t11.toNat))))),(9,(.lf true (.sl (a0.map eS)))),(10,(I ((a0.length:Nat):Int))),(11,(I g0.t11)),(21,(.lf true (.sl ((a0.take g0.t11.toNat).map eS)))),(22,(I (((a0.take g0.t11.toNat).length:Nat):Int))),(23,(I g1.t23))],[],0,50⟩) (zcc a0 g0 a1) _ _ hl7 (zkg []) ?_
    ·intro n2 g1 z2 hs2 hk2
     unfold zcc at hs2
     try dsimp only at hs2
     refine sA ?_
     refine zki hs2 (λ hs2 _=>sA ?_) (λ hs2 _=>sA ?_)
     ·obtain ⟨hp9,hs2⟩:=zj8 hs2
      have hn9:g1.t23.toNat < (a0.take g0.t11.toNat).length:=by first|omega|(simp;omega)
      refine sA ?_
      refine zkw ?_
      obtain ⟨p0,hq10,hs2⟩:=zj7 hs2
      refine zkC (λ s2=>s2=⟨[(0,(.lf true (.sl (a0.map eS)))),(1,(B a1)),(5,(I g0.t11)),(6,(.lf false (.sc (.string (nth a0 g0.t11.toNat))))),(9,(.lf true (.sl (a0.map eS)))),(10,(I ((a0.length:Nat):Int))),(11,(I g0.t11)),(21,(.lf true (.sl ((a0.take g0.t11.toNat).map eS)))),(22,(I (((a0.take g0.t11.toNat).length:Nat):Int))),(23,(I g1.t23)),(44,(B p0.t44))],[],0,50⟩) ?_ ?_
      ·refine sA ?_
       refine zkt hq10 (λ hq10 _=>sA ?_) (λ hq10 _=>sA ?_)
       ·cases hq10
        exact zkp rfl (zkg [])
       ·refine zkt hq10 (λ hq10 _=>sA ?_) (λ hq10 _=>sA ?_)
        ·refine zkt hq10 (λ hq10 _=>sA ?_) (λ hq10 _=>sA ?_)
         ·cases hq10
          exact zkp rfl (zkg [])
         ·cases hq10
          exact zkp rfl (zkg [])
        ·cases hq10
         exact zkp rfl (zkg [])
      ·intro s2 hJ;subst hJ
       try dsimp only at hs2
       refine sA ?_
       refine zki hs2 (λ hs2 _=>sA ?_) (λ hs2 _=>sA ?_)
       ·cases hs2
        cases hk2
        try dsimp only at hs1
        refine sA ?_
        cases hs1
        cases hk1
        try dsimp only at h
        refine sA ?_
        have he:=oi h
        subst he
        exact zkc ⟨[(4,(B false))],[],0,50⟩ []
       ·cases hs2
        exact zkr hk2 (zkg [])
     ·cases hs2
      cases hk2
      try dsimp only at hs1
      refine sA ?_
      cases hs1
      exact zkr hk1 (zkg [])
  ·cases hs1
   cases hk1
   try dsimp only at h
   refine sA ?_
   cases h
   exact zkc ⟨[(4,(B (decide (((a0.length:Nat):Int)≤30))))],[],0,50⟩ []
theorem zjd {a0:zkq} {r:Bool} (h:zdc a0=some r):Fn Tryz.prog 229 [(.ag [(I a0.fSt),(I a0.Next),(B a0.fCa),(I a0.Done),(.lf true (.sl (a0.fSi.map eS))),(.lf true (.sl (a0.fTi.map eS)))])] [] 0 (B r) [] 0:=by
 unfold zdc at h
 refine fc [(1000,[(1,0)]),(1001,[(1,0),(30,0)]),(1003,[(1,0),(33,0)]),(4001,[])] Tryz.func229 ?_
 simp only [Tryz.f229]
 refine sA ?_
 obtain ⟨p0,hq1,h⟩:=zj7 h
 refine zkC (λ s2=>s2=⟨[(1,(.pb 0 0)),(30,(B p0.t30))],[(0,some (true,.box [(I a0.fSt),(I a0.Next),(B a0.fCa),(I a0.Done),(.lf true (.sl (a0.fSi.map eS))),(.lf true (.sl (a0.fTi.map eS)))]))],1,62⟩) ?_ ?_
 ·refine sA ?_
  obtain ⟨c0,hr2,hq1⟩:=zj7 hq1
  refine zkj (zab hr2) (sA ?_)
  refine zkt hq1 (λ hq1 _=>sA ?_) (λ hq1 _=>sA ?_)
  ·cases hq1
   exact zkp rfl (zkg [some 0])
  ·obtain ⟨c1,hr4,hq1⟩:=zj7 hq1
   refine zkj (zab hr4) (sA ?_)
   refine zkt hq1 (λ hq1 _=>sA ?_) (λ hq1 _=>sA ?_)
   ·cases hq1
    exact zkp rfl (zkg [some 0])
   ·obtain ⟨c2,hr6,hq1⟩:=zj7 hq1
    refine zkj (zhN hr6) (sA ?_)
    refine zkt hq1 (λ hq1 _=>sA ?_) (λ hq1 _=>sA ?_)
    ·cases hq1
     exact zkp rfl (zkg [some 0])
    ·obtain ⟨c3,hr8,hq1⟩:=zj7 hq1
     refine zkj (zhN hr8) (sA ?_)
     refine zkt hq1 (λ hq1 _=>sA ?_) (λ hq1 _=>sA ?_)
     ·cases hq1
      exact zkp rfl (zkg [some 0])
     ·obtain ⟨c4,hr10,hq1⟩:=zj7 hq1
      refine zkj (zab hr10) (sA ?_)
      cases hq1
      exact zkp rfl (zkg [some 0])
 ·intro s2 hJ;subst hJ
  try dsimp only at h
  refine sA ?_
  refine zki h (λ h _=>sA ?_) (λ h _=>sA ?_)
  ·have he:=oi h
   subst he
   exact zkc ⟨[(2,(B false))],[],0,62⟩ []
  ·refine zki h (λ h _=>sA ?_) (λ h _=>sA ?_)
   ·refine zkt h (λ h _=>sA ?_) (λ h _=>sA ?_)
    ·refine zkt h (λ h _=>sA ?_) (λ h _=>sA ?_)
     ·refine zkt h (λ h _=>sA ?_) (λ h _=>sA ?_)
      ·refine zkt h (λ h _=>sA ?_) (λ h _=>sA ?_)
       ·cases h
        exact zkc ⟨[(2,(B (((a0.fTi.length:Nat):Int) == 0)))],[],0,62⟩ []
       ·have he:=oi h
        subst he
        exact zkc ⟨[(2,(B false))],[],0,62⟩ []
      ·have he:=oi h
       subst he
       exact zkc ⟨[(2,(B false))],[],0,62⟩ []
     ·have he:=oi h
      subst he
      exact zkc ⟨[(2,(B false))],[],0,62⟩ []
    ·have he:=oi h
     subst he
     exact zkc ⟨[(2,(B false))],[],0,62⟩ []
   ·cases h
    exact zkc ⟨[(2,(B (decide (a0.Next > 1))))],[],0,62⟩ []
theorem zhO {a0:zkq} {a1:zka} {r:(zkq×Bool)} (h:zb1 a0 a1=some r):Fn Tryz.prog 189 [(.ag [(I a0.fSt),(I a0.Next),(B a0.fCa),(I a0.Done),(.lf true (.sl (a0.fSi.map eS))),(.lf true (.sl (a0.fTi.map eS)))]),(.ag [(I a1.Id),(I a1.fVe),(I a1.Kind),(.lf false (.sc (.string a1.Name)))])] [] 0 (.tu [(.ag [(I r.1.fSt),(I r.1.Next),(B r.1.fCa),(I r.1.Done),(.lf true (.sl (r.1.fSi.map eS))),(.lf true (.sl (r.1.fTi.map eS)))]),(B r.2)]) [] 1:=by
 unfold zb1 at h
 refine fc [(22,[(0,2)]),(1000,[(2,0),(3,0),(4,0)]),(1001,[(2,0),(3,0),(4,0),(29,0)]),(1003,[(2,0),(3,0),(4,0)]),(1004,[(2,0),(3,0),(4,0),(34,0)]),(1005,[(2,0),(4,0)]),(1006,[(2,0),(4,0)]),(1007,[(2,0),(3,0),(4,0),(34,0),(37,0)]),(1008,[(2,0),(4,0)]),(1009,[(2,0),(3,0),(4,0),(34,0),(40,0)]),(1010,[(2,0),(3,0),(4,0),(53,0)]),(1012,[(2,0),(4,0)]),(1013,[(2,0),(3,0),(4,0),(34,0),(62,0)]),(1014,[(2,0),(4,0)]),(1015,[(2,0),(3,0),(4,0),(34,0),(68,0)]),(1016,[(2,0),(4,0)]),(1017,[(2,0),(4,0),(76,0)]),(1018,[(2,0),(4,0),(79,0)]),(1020,[(2,0),(4,0)]),(1021,[(2,0),(4,0)]),(3000,[]),(4001,[]),(4010,[])] Tryz.func189 ?_
 simp only [Tryz.f189]
 refine sA ?_
 obtain ⟨p0,hq1,h⟩:=zj7 h
 refine zkC (λ s2=>s2=⟨[(2,(.pb 0 0)),(3,(.pb 1 0)),(4,(.pb 2 0)),(29,(B p0.t29))],[(0,some (true,.box [(I a0.fSt),(I a0.Next),(B a0.fCa),(I a0.Done),(.lf true (.sl (a0.fSi.map eS))),(.lf true (.sl (a0.fTi.map eS)))])),(1,some (true,.box [(I a1.Id),(I a1.fVe),(I a1.Kind),(.lf false (.sc (.string a1.Name)))])),(2,some (true,.box [(I 0),(I 0),(B false),(I 0),.nl,.nl]))],3,89⟩) ?_ ?_
 ·refine sA ?_
  obtain ⟨c0,hr2,hq1⟩:=zj7 hq1
  refine zkj (zhy hr2) (sA ?_)
  refine zkt hq1 (λ hq1 _=>sA ?_) (λ hq1 _=>sA ?_)
  ·cases hq1
   exact zkp rfl (zkg [some 0,some 1,some 2])
  ·refine zkt hq1 (λ hq1 _=>sA ?_) (λ hq1 _=>sA ?_)
   ·cases hq1
    exact zkp rfl (zkg [some 0,some 1,some 2])
   ·refine zkt hq1 (λ hq1 _=>sA ?_) (λ hq1 _=>sA ?_)
    ·cases hq1
     exact zkp rfl (zkg [some 0,some 1,some 2])
    ·cases hq1
     exact zkp rfl (zkg [some 0,some 1,some 2])
 ·intro s2 hJ;subst hJ
  try dsimp only at h
  refine sA ?_
  refine zki h (λ h _=>sA ?_) (λ h _=>sA ?_)
  ·cases h
   exact zkc ⟨[(4,(.pb 0 0)),(5,(B false))],[(0,some (true,.box [(I a0.fSt),(I a0.Next),(B a0.fCa),(I a0.Done),(.lf true (.sl (a0.fSi.map eS))),(.lf true (.sl (a0.fTi.map eS)))]))],1,89⟩ [some 2]
  ·obtain ⟨c1,hr7,h⟩:=zj7 h
   refine zkj (zjP hr7) (sA ?_)
   obtain ⟨q8,hq8,h⟩:=zj7 h
   refine zkC (λ s2=>∃ p1:zac,q8=.inl p1∧s2=⟨[(2,(.pb 0 0)),(4,(.pb 1 0))],[(0,some (true,.box [(I p1.b0_0),(I c1.Next),(B p1.b0_2),(I p1.b0_3),(.os 2 1 0 p1.c2.length p1.c2.length false),(.os 3 1 0 p1.c3.length p1.c3.length false)])),(1,some (true,.box [(I 0),(I 0),(B false),(I 0),.nl,.nl])),(2,some (true,.arr false 1 (p1.c2.map eS))),(3,some (true,.arr false 1 (p1.c3.map eS)))],4,89⟩) ?_ ?_
   ·refine sA ?_
    refine zki hq8 (λ hq8 _=>sA ?_) (λ hq8 _=>sA ?_)
    ·cases hq8
     exact zkp ⟨_,rfl,rfl⟩ (zkg [some 0,some 2,some 3,some 4])
    ·refine zki hq8 (λ hq8 _=>sA ?_) (λ hq8 _=>sA ?_)
     ·obtain ⟨p2,hq11,hq8⟩:=zj7 hq8
      refine zkC (λ s2=>s2=⟨[(2,(.pb 0 0)),(3,(.pb 1 0)),(4,(.pb 2 0)),(53,(B p2.t53))],[(0,some (true,.box [(I c1.fSt),(I c1.Next),(B c1.fCa),(I c1.Done),(.os 3 1 0 c1.fSi.length c1.fSi.length false),(.os 4 1 0 c1.fTi.length c1.fTi.length false)])),(1,some (true,.box [(I a1.Id),(I a1.fVe),(I a1.Kind),(.lf false (.sc (.string a1.Name)))])),(2,some (true,.box [(I 0),(I 0),(B false),(I 0),.nl,.nl])),(3,some (true,.arr false 1 (c1.fSi.map eS))),(4,some (true,.arr false 1 (c1.fTi.map eS)))],5,89⟩) ?_ ?_
      ·refine sA ?_
       obtain ⟨c2,hr12,hq11⟩:=zj7 hq11
       refine zkj (zfW hr12) (sA ?_)
       refine zkt hq11 (λ hq11 _=>sA ?_) (λ hq11 _=>sA ?_)
       ·cases hq11
        exact zkp rfl (zkg [some 0,some 1,some 2,some 3,some 4])
       ·cases hq11
        exact zkp rfl (zkg [some 0,some 1,some 2,some 3,some 4])
      ·intro s2 hJ;subst hJ
       try dsimp only at hq8
       refine sA ?_
       refine zki hq8 (λ hq8 _=>sA ?_) (λ hq8 _=>sA ?_)
       ·cases hq8
        try dsimp only at h
        cases h
        refine zk6 3 ?_
        refine zk6 4 (sA ?_)
        exact zkc ⟨[(4,(.pb 0 0)),(5,(B false))],[(0,some (true,.box [(I c1.fSt),(I c1.Next),(B c1.fCa),(I c1.Done),(.lf true (.sl (c1.fSi.map eS))),(.lf true (.sl (c1.fTi.map eS)))]))],1,89⟩ [some 2]
       ·obtain ⟨hp15,hq8⟩:=zj8 hq8
        refine sA ?_
        refine zkw ?_
        cases hq8
        exact zkp ⟨_,rfl,rfl⟩ (zkg [some 0,some 2,some 6,some 4])
     ·refine zki hq8 (λ hq8 _=>sA ?_) (λ hq8 _=>sA ?_)
      ·cases hq8
       exact zkp ⟨_,rfl,rfl⟩ (zkg [some 0,some 2,some 3,some 4])
      ·refine zki hq8 (λ hq8 _=>sA ?_) (λ hq8 _=>sA ?_)
       ·obtain ⟨c3,hr18,hq8⟩:=zj7 hq8
        refine zkj (zhM hr18) (sA ?_)
        cases hq8
        exact zkp ⟨_,rfl,rfl⟩ (zkg [some 0,some 2,some 3,some 6])
       ·refine zki hq8 (λ hq8 _=>sA ?_) (λ hq8 _=>sA ?_)
        ·refine zki hq8 (λ hq8 _=>sA ?_) (λ hq8 _=>sA ?_)
         ·cases hq8
          try dsimp only at h
          cases h
          refine zk6 3 ?_
          refine zk6 4 (sA ?_)
          exact zkc ⟨[(4,(.pb 0 0)),(5,(B false))],[(0,some (true,.box [(I c1.fSt),(I c1.Next),(B c1.fCa),(I c1.Done),(.lf true (.sl (c1.fSi.map eS))),(.lf true (.sl (c1.fTi.map eS)))]))],1,89⟩ [some 2]
         ·cases hq8
          exact zkp ⟨_,rfl,rfl⟩ (zkg [some 0,some 2,some 3,some 4])
        ·cases hq8
         exact zkp ⟨_,rfl,rfl⟩ (zkg [some 0,some 2,some 3,none])
   ·intro s2 hJ;obtain ⟨p1,e,rfl⟩:=hJ;subst e
    try dsimp only at h
    refine sA ?_
    obtain ⟨c4,hr21,h⟩:=zj7 h
    refine zkj (zjd hr21) (sA ?_)
    cases h
    refine zk6 2 ?_
    refine zk6 3 (sA ?_)
    exact zkc ⟨[(4,(.pb 0 0)),(5,(B c4))],[(0,some (true,.box [(I p1.b0_0),(I (wI (c1.Next+1))),(B p1.b0_2),(I p1.b0_3),(.lf true (.sl (p1.c2.map eS))),(.lf true (.sl (p1.c3.map eS)))]))],1,89⟩ [some 1]
theorem zf6 {a0:(List zka)} {r:(zkq×Int)} (h:zcx a0=some r):Fn Tryz.prog 185 [(.lf true (.sl (a0.map zko)))] [] 0 (.tu [(.ag [(I r.1.fSt),(I r.1.Next),(B r.1.fCa),(I r.1.Done),(.lf true (.sl (r.1.fSi.map eS))),(.lf true (.sl (r.1.fTi.map eS)))]),(I r.2)]) [] 1:=by
 unfold zcx at h
 refine fc [(1000,[(0,0),(2,0)]),(1001,[(0,0),(2,0),(4,0)]),(1002,[(0,0),(2,0),(4,0),(10,0),(11,0),(12,0)]),(1003,[(0,0),(2,0),(4,0),(10,0),(11,0),(12,0),(13,0)]),(1004,[(0,0),(2,0),(4,0),(5,0),(6,0),(10,0),(11,0),(12,0)]),(1005,[(0,0),(2,0),(4,0),(5,0),(7,0),(8,0),(10,0),(11,0),(12,0)]),(1006,[(0,0),(2,0),(4,0),(5,0),(7,0),(10,0),(11,0),(12,0),(24,0)]),(1008,[(0,0),(2,0),(4,0),(10,0),(11,0),(12,0)]),(1009,[(0,0),(2,0),(4,0),(10,0),(11,0),(12,0)])] Tryz.func185 ?_
 simp only [Tryz.f185]
 refine sA ?_
 obtain ⟨c0,hr1,h⟩:=zj7 h
 refine zkj (zjr hr1) (sA ?_)
 obtain ⟨y0,hl2,h⟩:=zj7 h
 refine zky (λ g0:zgB=>⟨[(0,(.lf true (.sl (a0.map zko)))),(2,(.pb 0 0)),(4,(.pb 1 0)),(10,(.lf true (.sl (a0.map zko)))),(11,(I ((a0.length:Nat):Int))),(12,(I g0.t12))],[(0,some (true,.box [(I 0),(I 0),(B false),(I 0),.nl,.nl])),(1,some (true,.box [(I g0.b1_0),(I g0.b1_1),(B g0.b1_2),(I g0.b1_3),(.lf true (.sl (g0.b1_4.map eS))),(.lf true (.sl (g0.b1_5.map eS)))]))],2,32⟩) (za3 a0) _ _ hl2 (zkg [some 0,some 2]) ?_
 ·intro n1 g0 z1 hs1 hk1
  unfold za3 at hs1
  try dsimp only at hs1
  refine sA ?_
  refine zki hs1 (λ hs1 _=>sA ?_) (λ hs1 _=>sA ?_)
  ·obtain ⟨hp4,hs1⟩:=zj8 hs1
   have hn4:g0.t12.toNat < a0.length:=by first|omega|(simp;omega)
   refine sA ?_
   refine zkw ?_
   obtain ⟨c1,hr5,hs1⟩:=zj7 hs1
   refine zkj (zhO hr5) (sA ?_)
   refine zki hs1 (λ hs1 _=>sA ?_) (λ hs1 _=>sA ?_)
   ·cases hs1
    cases hk1
    try dsimp only at h
    refine sA ?_
    cases h
    exact zkc ⟨[(2,(.pb 0 0)),(3,(I g0.t12))],[(0,some (true,.box [(I g0.b1_0),(I g0.b1_1),(B g0.b1_2),(I g0.b1_3),(.lf true (.sl (g0.b1_4.map eS))),(.lf true (.sl (g0.b1_5.map eS)))]))],1,32⟩ [some 0]
   ·cases hs1
    exact zkr hk1 (zkg [some 0,some 1])
  ·cases hs1
   cases hk1
   try dsimp only at h
   refine sA ?_
   cases h
   exact zkc ⟨[(2,(.pb 0 0)),(3,(I ((a0.length:Nat):Int)))],[(0,some (true,.box [(I g0.b1_0),(I g0.b1_1),(B g0.b1_2),(I g0.b1_3),(.lf true (.sl (g0.b1_4.map eS))),(.lf true (.sl (g0.b1_5.map eS)))]))],1,32⟩ [some 0]
end Go.TL.YteonagfnhdlfcaaGreatDoor

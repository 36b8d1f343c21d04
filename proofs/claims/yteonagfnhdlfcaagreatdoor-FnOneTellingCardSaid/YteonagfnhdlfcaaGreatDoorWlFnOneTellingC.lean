import Derived.Test.YteonagfnhdlfcaaGreatDoorWlFnOneTellingB
open Nat renaming reduceAdd → qA, reduceMul → qB, reduceSub → qC, reduceEqDiff → qD, reduceLT → qE, reduceLeDiff → qF, reduceBEq → qG, zero_add → qa
open Int renaming reduceToNat → qH, reduceEq → qI, reduceLE → qJ, reduceLT → qK
open List renaming length_set → qL, length_append → qM, length_replicate → qN, length_map → qO, length_cons → qP, length_nil → qQ
set_option linter.unusedSimpArgs false
set_option linter.unusedVariables false
noncomputable section
set_option maxRecDepth 8000
set_option maxHeartbeats 0
namespace Go.TL.YteonagfnhdlfcaaGreatDoor
open Go Go.Proofs Go.TL
theorem ziq {a0:(List Int)} {r:Bool} (h:zeG a0=some r):Fn Tryz.prog 5 [(.lf true (.sl (a0.map eU8)))] [] 0 (B r) [] 0:=by
 unfold zeG at h
 refine fc [(1000,[(0,0)]),(1001,[(0,0),(29,0)]),(1003,[(3,0)]),(1004,[(3,0),(4,0),(5,0),(6,0)]),(1005,[(4,0),(5,0),(6,0),(7,0),(8,0),(9,0)]),(1006,[(4,0),(5,0),(6,0),(58,0)]),(1008,[(4,0),(5,0),(60,0)]),(1010,[(4,0),(10,0)]),(1011,[(4,0),(10,0),(65,0),(66,0),(67,0)]),(1012,[(4,0),(10,0),(65,0),(66,0),(67,0),(68,0)]),(1013,[(4,0),(10,0),(12,0),(65,0),(66,0),(67,0)]),(1014,[(4,0),(10,0),(65,0),(66,0),(67,0)]),(1015,[(4,0),(10,0),(65,0),(66,0),(67,0)]),(1016,[(4,0),(10,0),(77,0),(78,0),(79,0)]),(1017,[(4,0),(10,0),(77,0),(78,0),(79,0),(80,0)]),(1018,[(4,0),(10,0),(13,0),(14,0),(77,0),(78,0),(79,0)]),(1019,[(4,0),(10,0),(13,0),(14,0),(15,0),(16,0),(77,0),(78,0),(79,0)]),(1020,[(4,0),(10,0),(13,0),(14,0),(15,0),(16,0),(18,0),(77,0),(78,0),(79,0)]),(1021,[(4,0),(10,0),(13,0),(14,0),(15,0),(16,0),(77,0),(78,0),(79,0),(98,0)]),(1023,[(4,0),(10,0),(14,0),(15,0),(16,0),(77,0),(78,0),(79,0),(101,0),(102,0),(103,0)]),(1024,[(4,0),(10,0),(14,0),(15,0),(16,0),(77,0),(78,0),(79,0),(101,0),(102,0),(103,0),(104,0)]),(1025,[(4,0),(10,0),(14,0),(15,0),(16,0),(20,0),(77,0),(78,0),(79,0),(101,0),(102,0),(103,0)]),(1026,[(4,0),(10,0),(14,0),(15,0),(16,0),(20,0),(21,0),(22,0),(77,0),(78,0),(79,0),(101,0),(102,0),(103,0)]),(1027,[(4,0),(10,0),(14,0),(15,0),(16,0),(20,0),(22,0),(23,0),(24,0),(77,0),(78,0),(79,0),(101,0),(102,0),(103,0)]),(1028,[(4,0),(10,0),(14,0),(15,0),(16,0),(22,0),(23,0),(24,0),(25,0),(26,0),(77,0),(78,0),(79,0),(101,0),(102,0),(103,0)]),(1029,[(4,0),(10,0),(14,0),(15,0),(16,0),(22,0),(23,0),(24,0),(25,0),(77,0),(78,0),(79,0),(101,0),(102,0),(103,0),(128,0)]),(1031,[(4,0),(10,0),(14,0),(15,0),(16,0),(77,0),(78,0),(79,0),(101,0),(102,0),(103,0),(147,0)]),(1033,[(4,0),(10,0),(14,0),(15,0),(16,0),(77,0),(78,0),(79,0),(101,0),(102,0),(103,0)]),(1034,[(4,0),(10,0),(77,0),(78,0),(79,0)]),(4006,[]),(4031,[])] Tryz.func5 ?_
 simp only [Tryz.f5]
 refine sA ?_
 refine zki h (λ h _=>sA ?_) (λ h _=>sA ?_)
 ·have he:=oi h
  subst he
  exact zkc ⟨[(2,(B true))],[],0,156⟩ []
 ·obtain ⟨c0,hr2,h⟩:=zj7 h
  refine zkj (zhV hr2) (sA ?_)
  obtain ⟨c1,hr3,h⟩:=zj7 h
  refine zkj (ziB hr3) (sA ?_)
  obtain ⟨c2,hr4,h⟩:=zj7 h
  refine zkj (zjf hr4) (sA ?_)
  obtain ⟨p0,hq5,h⟩:=zj7 h
  refine zkC (λ s2=>s2=⟨[(4,(.pb 0 0)),(5,(.lf false (.sl (c1.2.1.map eI)))),(6,(B c1.2.2)),(58,(B p0.t58))],[(0,some (true,.box [(.lf false (.sl (c1.1.fRe.map zkl))),(.lf false (.sl (c1.1.Line.map zkz)))]))],1,156⟩) ?_ ?_
  ·refine sA ?_
   refine zkt hq5 (λ hq5 _=>sA ?_) (λ hq5 _=>sA ?_)
   ·cases hq5
    exact zkp rfl (zkg [some 1])
   ·obtain ⟨c3,hr7,hq5⟩:=zj7 hq5
    refine zkj (zjx hr7) (sA ?_)
    refine zkt hq5 (λ hq5 _=>sA ?_) (λ hq5 _=>sA ?_)
    ·cases hq5
     exact zkp rfl (zkg [some 1])
    ·obtain ⟨c4,hr9,hq5⟩:=zj7 hq5
     refine zkj (zi5 hr9) (sA ?_)
     cases hq5
     exact zkp rfl (zkg [some 1])
  ·intro s2 hJ;subst hJ
   try dsimp only at h
   refine sA ?_
   refine zki h (λ h _=>sA ?_) (λ h _=>sA ?_)
   ·have he:=oi h
    subst he
    exact zkc ⟨[(2,(B false))],[],0,156⟩ []
   ·refine zki h (λ h _=>sA ?_) (λ h _=>sA ?_)
    ·cases h
     exact zkc ⟨[(2,(B (((c1.2.1.length:Nat):Int) == 0)))],[],0,156⟩ []
    ·obtain ⟨y0,hl12,h⟩:=zj7 h
     refine zky (λ g0:zfh=>⟨[(4,(.pb 0 0)),(10,(.os 1 1 0 g0.c1.length g0.c1.length false)),(65,(.lf false (.sl (c1.1.fRe.map zkl)))),(66,(I ((c1.1.fRe.length:Nat):Int))),(67,(I g0.t67))],[(0,some (true,.box [(.lf false (.sl (c1.1.fRe.map zkl))),(.lf false (.sl (c1.1.Line.map zkz)))])),(1,some (true,.arr false 1 (g0.c1.map zkf)))],2,156⟩) (zJ c1) _ _ hl12 (zkg [some 0,none]) ?_
     ·intro n1 g0 z1 hs1 hk1
      unfold zJ at hs1
      try dsimp only at hs1
      refine sA ?_
      refine zki hs1 (λ hs1 _=>sA ?_) (λ hs1 _=>sA ?_)
      ·obtain ⟨hp14,hs1⟩:=zj8 hs1
       have hn14:g0.t67.toNat < c1.1.fRe.length:=by first|omega|(simp;omega)
       refine sA ?_
       refine zkw ?_
       obtain ⟨hp15,hs1⟩:=zj8 hs1
       refine sA ?_
       refine zkw ?_
       cases hs1
       exact zkr hk1 (zkg [some 0,some 3])
      ·cases hs1
       cases hk1
       try dsimp only at h
       refine sA ?_
       obtain ⟨y1,hl16,h⟩:=zj7 h
       refine zky (λ g1:zbP=>⟨[(4,(.pb 0 0)),(10,(.os 1 1 0 g0.c1.length g0.c1.length false)),(77,(.os 1 1 0 g0.c1.length g0.c1.length false)),(78,(I ((g0.c1.length:Nat):Int))),(79,(I g1.t79))],[(0,some (true,.box [(.lf false (.sl (c1.1.fRe.map zkl))),(.lf false (.sl (c1.1.Line.map zkz)))])),(1,some (true,.arr false 1 (g0.c1.map zkf)))],2,156⟩) (_) _ _ hl16 (zkg [some 0,some 1]) ?_
       ·intro n4 g1 z4 hs4 hk4
        unfold zaX at hs4
        try dsimp only at hs4
        refine sA ?_
        refine zki hs4 (λ hs4 _=>sA ?_) (λ hs4 _=>sA ?_)
        ·obtain ⟨hp18,hs4⟩:=zj8 hs4
         have hn18:g1.t79.toNat < g0.c1.length:=by first|omega|(simp;omega)
         refine sA ?_
         refine zkw ?_
         refine zpp (sA ?_)
         obtain ⟨c5,hr20,hs4⟩:=zj7 hs4
         refine zkj (zh7 hr20) (sA ?_)
         obtain ⟨c6,hr21,hs4⟩:=zj7 hs4
         refine zkj (zjJ hr21) (sA ?_)
         refine zki hs4 (λ hs4 _=>sA ?_) (λ hs4 _=>sA ?_)
         ·cases hs4
          cases hk4
          try dsimp only at h
          refine sA ?_
          have he:=oi h
          subst he
          exact zkc ⟨[(2,(B false))],[],0,156⟩ []
         ·obtain ⟨hp23,hs4⟩:=zj8 hs4
          have hn23:g1.t79.toNat≤g0.c1.length:=by first|omega|(simp;omega)
          refine sA ?_
          refine zkw ?_
          obtain ⟨y2,hl24,hs4⟩:=zj7 hs4
          refine zky (λ g2:zc6=>⟨[(4,(.pb 0 0)),(10,(.os 1 1 0 g0.c1.length g0.c1.length false)),(14,(.pb 2 0)),(15,(.os 3 2 0 c5.1.length c5.1.length false)),(16,(B c5.2)),(77,(.os 1 1 0 g0.c1.length g0.c1.length false)),(78,(I ((g0.c1.length:Nat):Int))),(79,(I g1.t79)),(101,(.os 1 1 0 g1.t79.toNat g0.c1.length false)),(102,(I ((g1.t79.toNat:Nat):Int))),(103,(I g2.t103))],[(0,some (true,.box [(.lf false (.sl (c1.1.fRe.map zkl))),(.lf false (.sl (c1.1.Line.map zkz)))])),(1,some (true,.arr false 1 (g0.c1.map zkf))),(2,some (true,.box [(.lf false (.sl (((nth g0.c1 g1.t79.toNat).fEv).map zko)))])),(3,some (true,.arr false 2 (c5.1.map zkT)))],4,156⟩) (_) _ _ hl24 (zkg [some 0,some 1,some 2,some 3]) ?_
          ·intro n5 g2 z5 hs5 hk5
           unfold zaW at hs5
           try dsimp only at hs5
           refine sA ?_
           refine zki hs5 (λ hs5 _=>sA ?_) (λ hs5 _=>sA ?_)
           ·obtain ⟨hp26,hs5⟩:=zj8 hs5
            have hn26:g2.t103.toNat < g1.t79.toNat:=by first|omega|(simp;omega)
            refine sA ?_
            refine zkw ?_
            obtain ⟨hp27,hs5⟩:=zj8 hs5
            have hn27:g2.t103.toNat < g0.c1.length:=by first|omega|(simp;omega)
            refine sA ?_
            refine zkw ?_
            obtain ⟨c7,hr28,hs5⟩:=zj7 hs5
            refine zmc (zh7 hr28) (by first | rfl | (simp (disch:=first | assumption | (simp only [qL];assumption)) only [go_sem,qA,qB,qC,qD,↓reduceIte,qE,reduceCtorEq,qF,qH,qI,qJ,qK,qG,hn23];first | done | rfl) | (simp only [qM,qP,qQ,qO,qL,qN,qa,qA];rfl) | (simp (disch:=first | assumption | (simp only [qL];assumption)) only [go_sem,qA,qB,qC,qD,↓reduceIte,qE,reduceCtorEq,qF,qH,qI,qJ,qK,qG,hn23];simp only [qM,qP,qQ,qO,qL,qN,qa,qA];rfl)) (FitAll.refl _) (.inl (by first | rfl | (simp (disch:=first | assumption | (simp only [qL];assumption)) only [go_sem,qA,qB,qC,qD,↓reduceIte,qE,reduceCtorEq,qF,qH,qI,qJ,qK,qG];done))) (sA ?_)
            obtain ⟨c8,hr29,hs5⟩:=zj7 hs5
            refine zmc (zjX hr29) (by first | rfl | (simp (disch:=first | assumption | (simp only [qL];assumption)) only [go_sem,qA,qB,qC,qD,↓reduceIte,qE,reduceCtorEq,qF,qH,qI,qJ,qK,qG,hn23];first | done | rfl) | (simp only [qM,qP,qQ,qO,qL,qN,qa,qA];rfl) | (simp (disch:=first | assumption | (simp only [qL];assumption)) only [go_sem,qA,qB,qC,qD,↓reduceIte,qE,reduceCtorEq,qF,qH,qI,qJ,qK,qG,hn23];simp only [qM,qP,qQ,qO,qL,qN,qa,qA];rfl)) (FitAll.refl _) (.inr ⟨rfl,by simp [zmw,zpr]⟩) (sA ?_)
            obtain ⟨c9,hr30,hs5⟩:=zj7 hs5
            refine zmc (zjT hr30) (by first | rfl | (simp (disch:=first | assumption | (simp only [qL];assumption)) only [go_sem,qA,qB,qC,qD,↓reduceIte,qE,reduceCtorEq,qF,qH,qI,qJ,qK,qG,hn23];first | done | rfl) | (simp only [qM,qP,qQ,qO,qL,qN,qa,qA];rfl) | (simp (disch:=first | assumption | (simp only [qL];assumption)) only [go_sem,qA,qB,qC,qD,↓reduceIte,qE,reduceCtorEq,qF,qH,qI,qJ,qK,qG,hn23];simp only [qM,qP,qQ,qO,qL,qN,qa,qA];rfl)) (FitAll.refl _) (.inl (by first | rfl | (simp (disch:=first | assumption | (simp only [qL];assumption)) only [go_sem,qA,qB,qC,qD,↓reduceIte,qE,reduceCtorEq,qF,qH,qI,qJ,qK,qG];done))) (sA ?_)
            refine zki hs5 (λ hs5 _=>sA ?_) (λ hs5 _=>sA ?_)
            ·cases hs5
             cases hk5
             try dsimp only at hs4
             refine sA ?_
             cases hs4
             cases hk4
             try dsimp only at h
             refine sA ?_
             have he:=oi h
             subst he
             exact zkc ⟨[(2,(B false))],[],0,156⟩ []
            ·obtain ⟨p1,hq32,hs5⟩:=zj7 hs5
             refine zkC (λ s2=>s2=⟨[(4,(.pb 0 0)),(10,(.os 1 1 0 g0.c1.length g0.c1.length false)),(14,(.pb 2 0)),(15,(.os 3 2 0 c5.1.length c5.1.length false)),(16,(B c5.2)),(77,(.os 1 1 0 g0.c1.length g0.c1.length false)),(78,(I ((g0.c1.length:Nat):Int))),(79,(I g1.t79)),(101,(.os 1 1 0 g1.t79.toNat g0.c1.length false)),(102,(I ((g1.t79.toNat:Nat):Int))),(103,(I g2.t103)),(147,(B p1.t147))],[(0,some (true,.box [(.lf false (.sl (c1.1.fRe.map zkl))),(.lf false (.sl (c1.1.Line.map zkz)))])),(1,some (true,.arr false 1 (g0.c1.map zkf))),(2,some (true,.box [(.lf false (.sl (((nth g0.c1 g1.t79.toNat).fEv).map zko)))])),(3,some (true,.arr false 2 (c5.1.map zkT)))],4,156⟩) ?_ ?_
             ·refine sA ?_
              refine zkt hq32 (λ hq32 _=>sA ?_) (λ hq32 _=>sA ?_)
              ·refine zkt hq32 (λ hq32 _=>sA ?_) (λ hq32 _=>sA ?_)
               ·refine zkt hq32 (λ hq32 _=>sA ?_) (λ hq32 _=>sA ?_)
                ·cases hq32
                 exact zkp rfl (zkg [some 0,some 1,some 2,some 3])
                ·refine zkt hq32 (λ hq32 _=>sA ?_) (λ hq32 _=>sA ?_)
                 ·cases hq32
                  exact zkp rfl (zkg [some 0,some 1,some 2,some 3])
                 ·cases hq32
                  exact zkp rfl (zkg [some 0,some 1,some 2,some 3])
               ·cases hq32
                exact zkp rfl (zkg [some 0,some 1,some 2,some 3])
              ·cases hq32
               exact zkp rfl (zkg [some 0,some 1,some 2,some 3])
             ·intro s2 hJ;subst hJ
              try dsimp only at hs5
              refine sA ?_
              refine zki hs5 (λ hs5 _=>sA ?_) (λ hs5 _=>sA ?_)
              ·cases hs5
               cases hk5
               try dsimp only at hs4
               refine sA ?_
               cases hs4
               cases hk4
               try dsimp only at h
               refine sA ?_
               have he:=oi h
               subst he
               exact zkc ⟨[(2,(B false))],[],0,156⟩ []
              ·cases hs5
               exact zkr hk5 (zkg [some 0,some 1,some 2,some 3])
           ·cases hs5
            cases hk5
            try dsimp only at hs4
            refine sA ?_
            cases hs4
            exact zkr hk4 (zkg [some 0,some 1])
        ·cases hs4
         cases hk4
         try dsimp only at h
         refine sA ?_
         obtain ⟨c10,hr38,h⟩:=zj7 h
         refine zkj (zji hr38) (sA ?_)
         refine zkt h (λ h _=>sA ?_) (λ h _=>sA ?_)
         ·obtain ⟨c11,hr40,h⟩:=zj7 h
          refine zkj (zhz hr40) (sA ?_)
          have he:=oi h
          subst he
          exact zkc ⟨[(2,(B c11))],[],0,156⟩ []
         ·have he:=oi h
          subst he
          exact zkc ⟨[(2,(B false))],[],0,156⟩ []
end Go.TL.YteonagfnhdlfcaaGreatDoor

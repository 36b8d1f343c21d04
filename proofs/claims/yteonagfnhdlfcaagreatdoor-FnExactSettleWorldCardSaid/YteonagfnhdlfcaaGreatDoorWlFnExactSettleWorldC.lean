import Derived.Test.YteonagfnhdlfcaaGreatDoorWlFnExactSettleWorldB
open Nat renaming reduceAdd → qA, reduceMul → qB, reduceSub → qC, reduceEqDiff → qD, reduceLT → qE, reduceLeDiff → qF, reduceBEq → qG, zero_add → qa
open Int renaming reduceToNat → qH, reduceEq → qI, reduceLE → qJ, reduceLT → qK
open List renaming length_set → qL, length_append → qM, length_replicate → qN, length_map → qO, length_cons → qP, length_nil → qQ, take_length → qb
set_option linter.unusedSimpArgs false
set_option linter.unusedVariables false
noncomputable section
set_option maxRecDepth 8000
set_option maxHeartbeats 0
namespace Go.TL.YteonagfnhdlfcaaGreatDoor
open Go Go.Proofs Go.TL
theorem zhJ {a0:WorldT} {r:Bool} (h:zbU a0=some r):Fn Tryz.prog 6 [(.ag [(.lf true (.sl (a0.fRe.map zlj))),(.lf true (.sl (a0.Line.map zlz)))])] [] 0 (B r) [] 0:=by
 unfold zbU at h
 refine fc [(10,[(0,2)]),(1000,[(1,0)]),(1001,[(1,0),(3,0)]),(1002,[(1,0),(3,0)]),(1003,[(1,0),(21,0)]),(1004,[(2,0)]),(1005,[(1,0),(4,0),(5,0),(6,0)]),(1006,[(1,0),(4,0),(5,0),(6,0),(7,0)]),(1007,[(1,0),(4,0),(5,0),(6,0),(7,0),(8,0),(9,0),(10,0)]),(1008,[(1,0),(4,0),(5,0),(6,0),(7,0),(8,0),(9,0),(10,0),(50,0)]),(1009,[(2,0)]),(1010,[(1,0),(4,0),(5,0),(6,0),(7,0),(8,0),(9,0),(10,0),(55,0)]),(1011,[(2,0)]),(1012,[(1,0),(4,0),(5,0),(6,0),(7,0),(8,0),(9,0),(10,0),(11,0)]),(1013,[(1,0),(4,0),(5,0),(6,0),(8,0),(9,0),(10,0),(11,0)]),(1014,[(1,0),(4,0),(5,0),(6,0),(8,0),(76,0)]),(1015,[(2,0)]),(1016,[(1,0),(4,0),(5,0),(6,0),(8,0),(12,0)]),(1017,[(1,0),(4,0),(5,0),(6,0),(8,0),(12,0)]),(1018,[(1,0),(4,0),(5,0),(6,0),(8,0),(12,0),(13,0)]),(1019,[(1,0),(4,0),(5,0),(6,0),(8,0),(12,0),(13,0)]),(1020,[(1,0),(4,0),(5,0),(6,0),(8,0),(12,0),(13,0),(84,0)]),(1021,[(2,0)]),(1022,[(1,0),(4,0),(5,0),(6,0),(8,0),(12,0),(87,0)]),(1023,[(2,0)]),(1024,[(4,0),(5,0),(6,0),(8,0),(12,0),(14,0),(15,0),(16,0)]),(1025,[(8,0),(12,0),(108,0)]),(1026,[(2,0)]),(1027,[(8,0),(12,0),(13,0)]),(1028,[(12,0),(13,0)]),(1029,[(12,0),(13,0),(113,0)]),(1030,[(2,0)]),(1031,[(116,0)]),(1032,[(2,0)]),(1033,[(2,0)]),(4008,[]),(4014,[]),(4025,[])] Tryz.func6 ?_
 simp only [Tryz.f6]
 refine sA ?_
 obtain ⟨c32,hr1,h⟩:=zk9 h
 refine zlh (zkH hr1) ?_
 refine sA ?_
 refine zle h (λ h hc2=>?_) (λ h hc2=>?_)
 ·refine sA ?_
  have he:=oi h
  subst he
  exact zld ⟨[(2,(B true))],[],0,117⟩ []
 ·refine sA ?_
  obtain ⟨c62,hr3,h⟩:=zk9 h
  refine zlh (zfg hr3) ?_
  refine sA ?_
  obtain ⟨c494,hr4,h⟩:=zk9 h
  refine zlh (ziX hr4) ?_
  refine sA ?_
  obtain ⟨c495,hr5,h⟩:=zk9 h
  refine zlh (zfg hr5) ?_
  refine sA ?_
  obtain ⟨c836,hr6,h⟩:=zk9 h
  refine zlh (zhm hr6) ?_
  refine sA ?_
  obtain ⟨p869,hq7,h⟩:=zk9 h
  refine zlS (λ s2=>s2=⟨[(1,(.pb 0 0)),(4,(.pb 1 0)),(5,(I c494.2.1)),(6,(B c494.2.2)),(7,(.pb 2 0)),(8,(.pb 3 0)),(9,(I c836.2.1)),(10,(B c836.2.2)),(50,(B p869.t50))],[(0,some (true,.box [(.lf true (.sl (a0.fRe.map zlj))),(.lf true (.sl (a0.Line.map zlz)))])),(1,some (true,.box [(.os 4 3 0 c494.1.fRe.length c494.1.fRe.length false),(.os 5 3 0 c494.1.Line.length c494.1.Line.length false)])),(2,some (true,.box [(.os 6 3 0 c495.fRe.length c495.fRe.length false),(.os 7 3 0 c495.Line.length c495.Line.length false)])),(3,some (true,.box [(.os 8 3 0 c836.1.fRe.length c836.1.fRe.length false),.nl])),(4,some (true,.arr false 3 (c494.1.fRe.map zlj))),(5,some (true,.arr false 3 (c494.1.Line.map zlz))),(6,some (true,.deep [.sc,.sc,.sl [.sl [.sc,.sc,.sc,.sc]]] (c495.fRe.map zlj))),(7,some (true,.deep [.sc,.sc,.sl [.sl [.sc,.sc,.sc,.sc]]] (c495.Line.map zlz))),(8,some (true,.deep [.sc,.sc,.sl [.sl [.sc,.sc,.sc,.sc]]] (c836.1.fRe.map zlj)))],9,117⟩) ?_ ?_
  ·refine sA ?_
   obtain ⟨c868,hr8,hq7⟩:=zk9 hq7
   refine zya (zgi hr8) ?_
   refine sA ?_
   refine zlt hq7 (λ hq7 hc9=>?_) (λ hq7 hc9=>?_)
   ·refine sA ?_
    cases hq7
    exact zlr rfl (zlg [some 0,some 7,some 11,some 14,some 4,some 5,some 8,some 9,some 12])
   ·refine sA ?_
    refine zlt hq7 (λ hq7 hc10=>?_) (λ hq7 hc10=>?_)
    ·refine sA ?_
     cases hq7
     exact zlr rfl (zlg [some 0,some 7,some 11,some 14,some 4,some 5,some 8,some 9,some 12])
    ·refine sA ?_
     cases hq7
     exact zlr rfl (zlg [some 0,some 7,some 11,some 14,some 4,some 5,some 8,some 9,some 12])
  ·intro s2 hJ;subst hJ
   try dsimp only at h
   refine sA ?_
   refine zle h (λ h hc11=>?_) (λ h hc11=>?_)
   ·refine sA ?_
    have he:=oi h
    subst he
    exact zld ⟨[(2,(B false))],[],0,117⟩ []
   ·refine sA ?_
    obtain ⟨c870,hr12,h⟩:=zk9 h
    refine zlh (zfg hr12) ?_
    refine sA ?_
    obtain ⟨c871,hr13,h⟩:=zk9 h
    refine zlh (zgi hr13) ?_
    refine sA ?_
    refine zle h (λ h hc14=>?_) (λ h hc14=>?_)
    ·refine sA ?_
     have he:=oi h
     subst he
     exact zld ⟨[(2,(B false))],[],0,117⟩ []
    ·refine sA ?_
     obtain ⟨c899,hr15,h⟩:=zk9 h
     refine znM [6,7] (zin hr15) ?_
     refine sA ?_
     obtain ⟨hp16,h⟩:=zla h
     have hl16:c495.fRe.length≤c899.2.1.length:=by omega
     have ht16:List.take (c495.fRe.length) c899.2.1=c899.2.1:=by rw [← hp16];exact qb
     try rw [← hp16]
     try simp (disch:=first | assumption | (simp only [qL];assumption)) only [go_sem,qA,qB,qC,qD,↓reduceIte,qE,reduceCtorEq,qF,qH,qI,qJ,qK,qG,hl16,ht16]
     obtain ⟨hp17,h⟩:=zla h
     have hl17:c495.Line.length≤c899.2.2.length:=by omega
     have ht17:List.take (c495.Line.length) c899.2.2=c899.2.2:=by rw [← hp17];exact qb
     try rw [← hp17]
     try simp (disch:=first | assumption | (simp only [qL];assumption)) only [go_sem,qA,qB,qC,qD,↓reduceIte,qE,reduceCtorEq,qF,qH,qI,qJ,qK,qG,hl16,ht16,hl17,ht17]
     obtain ⟨p901,hq18,h⟩:=zk9 h
     refine zlS (λ s2=>s2=⟨[(1,(.pb 0 0)),(4,(.pb 1 0)),(5,(I c494.2.1)),(6,(B c494.2.2)),(8,(.pb 2 0)),(76,(B p901.t76))],[(0,some (true,.box [(.lf true (.sl (a0.fRe.map zlj))),(.lf true (.sl (a0.Line.map zlz)))])),(1,some (true,.box [(.os 3 3 0 c494.1.fRe.length c494.1.fRe.length false),(.os 4 3 0 c494.1.Line.length c494.1.Line.length false)])),(2,some (true,.box [(.os 5 3 0 c836.1.fRe.length c836.1.fRe.length false),.nl])),(3,some (true,.arr false 3 (c494.1.fRe.map zlj))),(4,some (true,.arr false 3 (c494.1.Line.map zlz))),(5,some (true,.deep [.sc,.sc,.sl [.sl [.sc,.sc,.sc,.sc]]] (c836.1.fRe.map zlj)))],6,117⟩) ?_ ?_
     ·try simp (disch:=first | assumption | (simp only [qL];assumption)) only [go_sem,qA,qB,qC,qD,↓reduceIte,qE,reduceCtorEq,qF,qH,qI,qJ,qK,qG,hl16,ht16,hl17,ht17]
      refine zlt hq18 (λ hq18 hc19=>?_) (λ hq18 hc19=>?_)
      ·try simp (disch:=first | assumption | (simp only [qL];assumption)) only [go_sem,qA,qB,qC,qD,↓reduceIte,qE,reduceCtorEq,qF,qH,qI,qJ,qK,qG,hl16,ht16,hl17,ht17]
       cases hq18
       refine zlr rfl ?_
       refine zlB (m:=0) [some 0,some 1,some 3,some 4,some 5,some 8] rfl rfl rfl (by rfl) ?_ ?_
       all_goals ((try simp (disch:=first | assumption | (simp only [qL];assumption)) only [go_sem,qA,qB,qC,qD,↓reduceIte,qE,reduceCtorEq,qF,qH,qI,qJ,qK,qG,hl16,ht16,hl17,ht17]);(repeat' first | done | rfl | omega | refine And.intro ?_ ?_ | (simp;done) | (simp;omega)))
      ·try simp (disch:=first | assumption | (simp only [qL];assumption)) only [go_sem,qA,qB,qC,qD,↓reduceIte,qE,reduceCtorEq,qF,qH,qI,qJ,qK,qG,hl16,ht16,hl17,ht17]
       obtain ⟨c900,hr20,hq18⟩:=zk9 hq18
       refine zmS (zgi hr20) (by first | rfl | (simp (disch:=first | assumption | (simp only [qL];assumption)) only [go_sem,qA,qB,qC,qD,↓reduceIte,qE,reduceCtorEq,qF,qH,qI,qJ,qK,qG,hl16,ht16,hl17,ht17];first | done | rfl) | (simp only [qM,qP,qQ,qO,qL,qN,qa,qA];rfl) | (simp (disch:=first | assumption | (simp only [qL];assumption)) only [go_sem,qA,qB,qC,qD,↓reduceIte,qE,reduceCtorEq,qF,qH,qI,qJ,qK,qG,hl16,ht16,hl17,ht17];simp only [qM,qP,qQ,qO,qL,qN,qa,qA];rfl)) (by first | exact FitAll.refl _ | (repeat' first | exact True.intro | exact .same _ | exact .nil _ | exact rfl | refine ⟨?_,?_⟩)) (.inr ⟨rfl,by simp [zm0,zoC]⟩) ?_
       try simp (disch:=first | assumption | (simp only [qL];assumption)) only [go_sem,qA,qB,qC,qD,↓reduceIte,qE,reduceCtorEq,qF,qH,qI,qJ,qK,qG,hl16,ht16,hl17,ht17]
       refine zlt hq18 (λ hq18 hc21=>?_) (λ hq18 hc21=>?_)
       ·try simp (disch:=first | assumption | (simp only [qL];assumption)) only [go_sem,qA,qB,qC,qD,↓reduceIte,qE,reduceCtorEq,qF,qH,qI,qJ,qK,qG,hl16,ht16,hl17,ht17]
        cases hq18
        refine zlr rfl ?_
        refine zlB (m:=0) [some 0,some 1,some 3,some 4,some 5,some 8] rfl rfl rfl (by rfl) ?_ ?_
        all_goals ((try simp (disch:=first | assumption | (simp only [qL];assumption)) only [go_sem,qA,qB,qC,qD,↓reduceIte,qE,reduceCtorEq,qF,qH,qI,qJ,qK,qG,hl16,ht16,hl17,ht17]);(repeat' first | done | rfl | omega | refine And.intro ?_ ?_ | (simp;done) | (simp;omega)))
       ·try simp (disch:=first | assumption | (simp only [qL];assumption)) only [go_sem,qA,qB,qC,qD,↓reduceIte,qE,reduceCtorEq,qF,qH,qI,qJ,qK,qG,hl16,ht16,hl17,ht17]
        refine zlt hq18 (λ hq18 hc22=>?_) (λ hq18 hc22=>?_)
        ·try simp (disch:=first | assumption | (simp only [qL];assumption)) only [go_sem,qA,qB,qC,qD,↓reduceIte,qE,reduceCtorEq,qF,qH,qI,qJ,qK,qG,hl16,ht16,hl17,ht17]
         cases hq18
         refine zlr rfl ?_
         refine zlB (m:=0) [some 0,some 1,some 3,some 4,some 5,some 8] rfl rfl rfl (by rfl) ?_ ?_
         all_goals ((try simp (disch:=first | assumption | (simp only [qL];assumption)) only [go_sem,qA,qB,qC,qD,↓reduceIte,qE,reduceCtorEq,qF,qH,qI,qJ,qK,qG,hl16,ht16,hl17,ht17]);(repeat' first | done | rfl | omega | refine And.intro ?_ ?_ | (simp;done) | (simp;omega)))
        ·try simp (disch:=first | assumption | (simp only [qL];assumption)) only [go_sem,qA,qB,qC,qD,↓reduceIte,qE,reduceCtorEq,qF,qH,qI,qJ,qK,qG,hl16,ht16,hl17,ht17]
         cases hq18
         refine zlr rfl ?_
         refine zlB (m:=0) [some 0,some 1,some 3,some 4,some 5,some 8] rfl rfl rfl (by rfl) ?_ ?_
         all_goals ((try simp (disch:=first | assumption | (simp only [qL];assumption)) only [go_sem,qA,qB,qC,qD,↓reduceIte,qE,reduceCtorEq,qF,qH,qI,qJ,qK,qG,hl16,ht16,hl17,ht17]);(repeat' first | done | rfl | omega | refine And.intro ?_ ?_ | (simp;done) | (simp;omega)))
     ·intro s2 hJ;subst hJ
      try dsimp only at h
      try simp (disch:=first | assumption | (simp only [qL];assumption)) only [go_sem,qA,qB,qC,qD,↓reduceIte,qE,reduceCtorEq,qF,qH,qI,qJ,qK,qG,hl16,ht16,hl17,ht17]
      refine zle h (λ h hc23=>?_) (λ h hc23=>?_)
      ·try simp (disch:=first | assumption | (simp only [qL];assumption)) only [go_sem,qA,qB,qC,qD,↓reduceIte,qE,reduceCtorEq,qF,qH,qI,qJ,qK,qG,hl16,ht16,hl17,ht17]
       have he:=oi h
       subst he
       refine zl0 ⟨[(2,(B false))],[],0,117⟩ (zlB (m:=0) [] rfl rfl rfl (by rfl) ?_ ?_) ?_
       all_goals ((try simp (disch:=first | assumption | (simp only [qL];assumption)) only [go_sem,qA,qB,qC,qD,↓reduceIte,qE,reduceCtorEq,qF,qH,qI,qJ,qK,qG,hl16,ht16,hl17,ht17]);(repeat' first | done | rfl | omega | refine And.intro ?_ ?_ | (simp;done) | (simp;omega)))
      ·try simp (disch:=first | assumption | (simp only [qL];assumption)) only [go_sem,qA,qB,qC,qD,↓reduceIte,qE,reduceCtorEq,qF,qH,qI,qJ,qK,qG,hl16,ht16,hl17,ht17]
       obtain ⟨c907,hr24,h⟩:=zk9 h
       refine zrh (ids:=[5]) (ziz hr24) (by first | rfl | (simp (disch:=first | assumption | (simp only [qL];assumption)) only [go_sem,qA,qB,qC,qD,↓reduceIte,qE,reduceCtorEq,qF,qH,qI,qJ,qK,qG,hl16,ht16,hl17,ht17];first | done | rfl) | (simp only [qM,qP,qQ,qO,qL,qN,qa,qA];rfl) | (simp (disch:=first | assumption | (simp only [qL];assumption)) only [go_sem,qA,qB,qC,qD,↓reduceIte,qE,reduceCtorEq,qF,qH,qI,qJ,qK,qG,hl16,ht16,hl17,ht17];simp only [qM,qP,qQ,qO,qL,qN,qa,qA];rfl)) (FitAll.refl _) (by first | rfl | (simp (disch:=first | assumption | (simp only [qL];assumption)) only [go_sem,qA,qB,qC,qD,↓reduceIte,qE,reduceCtorEq,qF,qH,qI,qJ,qK,qG,hl16,ht16,hl17,ht17];first | done | rfl) | (simp only [qM,qP,qQ,qO,qL,qN,qa,qA];rfl) | (simp (disch:=first | assumption | (simp only [qL];assumption)) only [go_sem,qA,qB,qC,qD,↓reduceIte,qE,reduceCtorEq,qF,qH,qI,qJ,qK,qG,hl16,ht16,hl17,ht17];simp only [qM,qP,qQ,qO,qL,qN,qa,qA];rfl)) (by decide) (by first | rfl | (simp (disch:=first | assumption | (simp only [qL];assumption)) only [go_sem,qA,qB,qC,qD,↓reduceIte,qE,reduceCtorEq,qF,qH,qI,qJ,qK,qG,hl16,ht16,hl17,ht17];done)) (by rfl) ?_
       try simp (disch:=first | assumption | (simp only [qL];assumption)) only [go_sem,qA,qB,qC,qD,↓reduceIte,qE,reduceCtorEq,qF,qH,qI,qJ,qK,qG,hl16,ht16,hl17,ht17]
       obtain ⟨hp25,h⟩:=zla h
       have hl25:c836.1.fRe.length≤c907.2.length:=by omega
       have ht25:List.take (c836.1.fRe.length) c907.2=c907.2:=by rw [← hp25];exact qb
       try rw [← hp25]
       try simp (disch:=first | assumption | (simp only [qL];assumption)) only [go_sem,qA,qB,qC,qD,↓reduceIte,qE,reduceCtorEq,qF,qH,qI,qJ,qK,qG,hl16,ht16,hl17,ht17,hl25,ht25]
       obtain ⟨c934,hr26,h⟩:=zk9 h
       refine zmS (zhX hr26) (by first | rfl | (simp (disch:=first | assumption | (simp only [qL];assumption)) only [go_sem,qA,qB,qC,qD,↓reduceIte,qE,reduceCtorEq,qF,qH,qI,qJ,qK,qG,hl16,ht16,hl17,ht17,hl25,ht25];first | done | rfl) | (simp only [qM,qP,qQ,qO,qL,qN,qa,qA];rfl) | (simp (disch:=first | assumption | (simp only [qL];assumption)) only [go_sem,qA,qB,qC,qD,↓reduceIte,qE,reduceCtorEq,qF,qH,qI,qJ,qK,qG,hl16,ht16,hl17,ht17,hl25,ht25];simp only [qM,qP,qQ,qO,qL,qN,qa,qA];rfl)) (by first | exact FitAll.refl _ | (repeat' first | exact True.intro | exact .same _ | exact .nil _ | exact rfl | refine ⟨?_,?_⟩)) (.inr ⟨rfl,by simp [zm0,zoC]⟩) ?_
       try simp (disch:=first | assumption | (simp only [qL];assumption)) only [go_sem,qA,qB,qC,qD,↓reduceIte,qE,reduceCtorEq,qF,qH,qI,qJ,qK,qG,hl16,ht16,hl17,ht17,hl25,ht25]
       refine zle h (λ h hc27=>?_) (λ h hc27=>?_)
       ·try simp (disch:=first | assumption | (simp only [qL];assumption)) only [go_sem,qA,qB,qC,qD,↓reduceIte,qE,reduceCtorEq,qF,qH,qI,qJ,qK,qG,hl16,ht16,hl17,ht17,hl25,ht25]
        have he:=oi h
        subst he
        refine zl0 ⟨[(2,(B false))],[],0,117⟩ (zlB (m:=0) [] rfl rfl rfl (by rfl) ?_ ?_) ?_
        all_goals ((try simp (disch:=first | assumption | (simp only [qL];assumption)) only [go_sem,qA,qB,qC,qD,↓reduceIte,qE,reduceCtorEq,qF,qH,qI,qJ,qK,qG,hl16,ht16,hl17,ht17,hl25,ht25]);(repeat' first | done | rfl | omega | refine And.intro ?_ ?_ | (simp;done) | (simp;omega)))
       ·try simp (disch:=first | assumption | (simp only [qL];assumption)) only [go_sem,qA,qB,qC,qD,↓reduceIte,qE,reduceCtorEq,qF,qH,qI,qJ,qK,qG,hl16,ht16,hl17,ht17,hl25,ht25]
        refine zle h (λ h hc28=>?_) (λ h hc28=>?_)
        ·try simp (disch:=first | assumption | (simp only [qL];assumption)) only [go_sem,qA,qB,qC,qD,↓reduceIte,qE,reduceCtorEq,qF,qH,qI,qJ,qK,qG,hl16,ht16,hl17,ht17,hl25,ht25]
         have he:=oi h
         subst he
         refine zl0 ⟨[(2,(B false))],[],0,117⟩ (zlB (m:=0) [] rfl rfl rfl (by rfl) ?_ ?_) ?_
         all_goals ((try simp (disch:=first | assumption | (simp only [qL];assumption)) only [go_sem,qA,qB,qC,qD,↓reduceIte,qE,reduceCtorEq,qF,qH,qI,qJ,qK,qG,hl16,ht16,hl17,ht17,hl25,ht25]);(repeat' first | done | rfl | omega | refine And.intro ?_ ?_ | (simp;done) | (simp;omega)))
        ·try simp (disch:=first | assumption | (simp only [qL];assumption)) only [go_sem,qA,qB,qC,qD,↓reduceIte,qE,reduceCtorEq,qF,qH,qI,qJ,qK,qG,hl16,ht16,hl17,ht17,hl25,ht25]
         obtain ⟨c935,hr29,h⟩:=zk9 h
         refine zmS (zfg hr29) (by first | rfl | (simp (disch:=first | assumption | (simp only [qL];assumption)) only [go_sem,qA,qB,qC,qD,↓reduceIte,qE,reduceCtorEq,qF,qH,qI,qJ,qK,qG,hl16,ht16,hl17,ht17,hl25,ht25];first | done | rfl) | (simp only [qM,qP,qQ,qO,qL,qN,qa,qA];rfl) | (simp (disch:=first | assumption | (simp only [qL];assumption)) only [go_sem,qA,qB,qC,qD,↓reduceIte,qE,reduceCtorEq,qF,qH,qI,qJ,qK,qG,hl16,ht16,hl17,ht17,hl25,ht25];simp only [qM,qP,qQ,qO,qL,qN,qa,qA];rfl)) (FitAll.refl _) (.inl (by first | rfl | (simp (disch:=first | assumption | (simp only [qL];assumption)) only [go_sem,qA,qB,qC,qD,↓reduceIte,qE,reduceCtorEq,qF,qH,qI,qJ,qK,qG,hl16,ht16,hl17,ht17,hl25,ht25];done))) ?_
         try simp (disch:=first | assumption | (simp only [qL];assumption)) only [go_sem,qA,qB,qC,qD,↓reduceIte,qE,reduceCtorEq,qF,qH,qI,qJ,qK,qG,hl16,ht16,hl17,ht17,hl25,ht25]
         obtain ⟨c936,hr30,h⟩:=zk9 h
         refine zmS (zhm hr30) (by first | rfl | (simp (disch:=first | assumption | (simp only [qL];assumption)) only [go_sem,qA,qB,qC,qD,↓reduceIte,qE,reduceCtorEq,qF,qH,qI,qJ,qK,qG,hl16,ht16,hl17,ht17,hl25,ht25];first | done | rfl) | (simp only [qM,qP,qQ,qO,qL,qN,qa,qA];rfl) | (simp (disch:=first | assumption | (simp only [qL];assumption)) only [go_sem,qA,qB,qC,qD,↓reduceIte,qE,reduceCtorEq,qF,qH,qI,qJ,qK,qG,hl16,ht16,hl17,ht17,hl25,ht25];simp only [qM,qP,qQ,qO,qL,qN,qa,qA];rfl)) (FitAll.refl _) (.inr ⟨rfl,by simp [zm0,zoC]⟩) ?_
         try simp (disch:=first | assumption | (simp only [qL];assumption)) only [go_sem,qA,qB,qC,qD,↓reduceIte,qE,reduceCtorEq,qF,qH,qI,qJ,qK,qG,hl16,ht16,hl17,ht17,hl25,ht25]
         obtain ⟨p938,hq31,h⟩:=zk9 h
         refine zlS (λ s2=>s2=⟨[(8,(.pb 0 0)),(12,(I c907.1)),(108,(B p938.t108))],[(0,some (true,.box [(.os 1 3 0 c907.2.length c836.1.fRe.length false),.nl])),(1,some (true,.deep [.sc,.sc,.sl [.sl [.sc,.sc,.sc,.sc]]] (c907.2.map zlj)))],2,117⟩) ?_ ?_
         ·try simp (disch:=first | assumption | (simp only [qL];assumption)) only [go_sem,qA,qB,qC,qD,↓reduceIte,qE,reduceCtorEq,qF,qH,qI,qJ,qK,qG,hl16,ht16,hl17,ht17,hl25,ht25]
          obtain ⟨c937,hr32,hq31⟩:=zk9 hq31
          refine zmS (zgi hr32) (by first | rfl | (simp (disch:=first | assumption | (simp only [qL];assumption)) only [go_sem,qA,qB,qC,qD,↓reduceIte,qE,reduceCtorEq,qF,qH,qI,qJ,qK,qG,hl16,ht16,hl17,ht17,hl25,ht25];first | done | rfl) | (simp only [qM,qP,qQ,qO,qL,qN,qa,qA];rfl) | (simp (disch:=first | assumption | (simp only [qL];assumption)) only [go_sem,qA,qB,qC,qD,↓reduceIte,qE,reduceCtorEq,qF,qH,qI,qJ,qK,qG,hl16,ht16,hl17,ht17,hl25,ht25];simp only [qM,qP,qQ,qO,qL,qN,qa,qA];rfl)) (by first | exact FitAll.refl _ | (repeat' first | exact True.intro | exact .same _ | exact .nil _ | exact rfl | refine ⟨?_,?_⟩)) (.inr ⟨rfl,by simp [zm0,zoC]⟩) ?_
          try simp (disch:=first | assumption | (simp only [qL];assumption)) only [go_sem,qA,qB,qC,qD,↓reduceIte,qE,reduceCtorEq,qF,qH,qI,qJ,qK,qG,hl16,ht16,hl17,ht17,hl25,ht25]
          refine zlt hq31 (λ hq31 hc33=>?_) (λ hq31 hc33=>?_)
          ·try simp (disch:=first | assumption | (simp only [qL];assumption)) only [go_sem,qA,qB,qC,qD,↓reduceIte,qE,reduceCtorEq,qF,qH,qI,qJ,qK,qG,hl16,ht16,hl17,ht17,hl25,ht25]
           cases hq31
           refine zlr rfl ?_
           refine zlB (m:=0) [some 2,some 5] rfl rfl rfl (by rfl) ?_ ?_
           all_goals ((try simp (disch:=first | assumption | (simp only [qL];assumption)) only [go_sem,qA,qB,qC,qD,↓reduceIte,qE,reduceCtorEq,qF,qH,qI,qJ,qK,qG,hl16,ht16,hl17,ht17,hl25,ht25]);(repeat' first | done | rfl | omega | refine And.intro ?_ ?_ | (simp;done) | (simp;omega)))
          ·try simp (disch:=first | assumption | (simp only [qL];assumption)) only [go_sem,qA,qB,qC,qD,↓reduceIte,qE,reduceCtorEq,qF,qH,qI,qJ,qK,qG,hl16,ht16,hl17,ht17,hl25,ht25]
           refine zlt hq31 (λ hq31 hc34=>?_) (λ hq31 hc34=>?_)
           ·try simp (disch:=first | assumption | (simp only [qL];assumption)) only [go_sem,qA,qB,qC,qD,↓reduceIte,qE,reduceCtorEq,qF,qH,qI,qJ,qK,qG,hl16,ht16,hl17,ht17,hl25,ht25]
            cases hq31
            refine zlr rfl ?_
            refine zlB (m:=0) [some 2,some 5] rfl rfl rfl (by rfl) ?_ ?_
            all_goals ((try simp (disch:=first | assumption | (simp only [qL];assumption)) only [go_sem,qA,qB,qC,qD,↓reduceIte,qE,reduceCtorEq,qF,qH,qI,qJ,qK,qG,hl16,ht16,hl17,ht17,hl25,ht25]);(repeat' first | done | rfl | omega | refine And.intro ?_ ?_ | (simp;done) | (simp;omega)))
           ·try simp (disch:=first | assumption | (simp only [qL];assumption)) only [go_sem,qA,qB,qC,qD,↓reduceIte,qE,reduceCtorEq,qF,qH,qI,qJ,qK,qG,hl16,ht16,hl17,ht17,hl25,ht25]
            cases hq31
            refine zlr rfl ?_
            refine zlB (m:=0) [some 2,some 5] rfl rfl rfl (by rfl) ?_ ?_
            all_goals ((try simp (disch:=first | assumption | (simp only [qL];assumption)) only [go_sem,qA,qB,qC,qD,↓reduceIte,qE,reduceCtorEq,qF,qH,qI,qJ,qK,qG,hl16,ht16,hl17,ht17,hl25,ht25]);(repeat' first | done | rfl | omega | refine And.intro ?_ ?_ | (simp;done) | (simp;omega)))
         ·intro s2 hJ;subst hJ
          try dsimp only at h
          try simp (disch:=first | assumption | (simp only [qL];assumption)) only [go_sem,qA,qB,qC,qD,↓reduceIte,qE,reduceCtorEq,qF,qH,qI,qJ,qK,qG,hl16,ht16,hl17,ht17,hl25,ht25]
          refine zle h (λ h hc35=>?_) (λ h hc35=>?_)
          ·try simp (disch:=first | assumption | (simp only [qL];assumption)) only [go_sem,qA,qB,qC,qD,↓reduceIte,qE,reduceCtorEq,qF,qH,qI,qJ,qK,qG,hl16,ht16,hl17,ht17,hl25,ht25]
           have he:=oi h
           subst he
           refine zl0 ⟨[(2,(B false))],[],0,117⟩ (zlB (m:=0) [] rfl rfl rfl (by rfl) ?_ ?_) ?_
           all_goals ((try simp (disch:=first | assumption | (simp only [qL];assumption)) only [go_sem,qA,qB,qC,qD,↓reduceIte,qE,reduceCtorEq,qF,qH,qI,qJ,qK,qG,hl16,ht16,hl17,ht17,hl25,ht25]);(repeat' first | done | rfl | omega | refine And.intro ?_ ?_ | (simp;done) | (simp;omega)))
          ·try simp (disch:=first | assumption | (simp only [qL];assumption)) only [go_sem,qA,qB,qC,qD,↓reduceIte,qE,reduceCtorEq,qF,qH,qI,qJ,qK,qG,hl16,ht16,hl17,ht17,hl25,ht25]
           obtain ⟨c939,hr36,h⟩:=zk9 h
           refine zmS (zhX hr36) (by first | rfl | (simp (disch:=first | assumption | (simp only [qL];assumption)) only [go_sem,qA,qB,qC,qD,↓reduceIte,qE,reduceCtorEq,qF,qH,qI,qJ,qK,qG,hl16,ht16,hl17,ht17,hl25,ht25];first | done | rfl) | (simp only [qM,qP,qQ,qO,qL,qN,qa,qA];rfl) | (simp (disch:=first | assumption | (simp only [qL];assumption)) only [go_sem,qA,qB,qC,qD,↓reduceIte,qE,reduceCtorEq,qF,qH,qI,qJ,qK,qG,hl16,ht16,hl17,ht17,hl25,ht25];simp only [qM,qP,qQ,qO,qL,qN,qa,qA];rfl)) (by first | exact FitAll.refl _ | (repeat' first | exact True.intro | exact .same _ | exact .nil _ | exact rfl | refine ⟨?_,?_⟩)) (.inr ⟨rfl,by simp [zm0,zoC]⟩) ?_
           try simp (disch:=first | assumption | (simp only [qL];assumption)) only [go_sem,qA,qB,qC,qD,↓reduceIte,qE,reduceCtorEq,qF,qH,qI,qJ,qK,qG,hl16,ht16,hl17,ht17,hl25,ht25]
           refine zle h (λ h hc37=>?_) (λ h hc37=>?_)
           ·try simp (disch:=first | assumption | (simp only [qL];assumption)) only [go_sem,qA,qB,qC,qD,↓reduceIte,qE,reduceCtorEq,qF,qH,qI,qJ,qK,qG,hl16,ht16,hl17,ht17,hl25,ht25]
            have he:=oi h
            subst he
            refine zl0 ⟨[(2,(B false))],[],0,117⟩ (zlB (m:=0) [] rfl rfl rfl (by rfl) ?_ ?_) ?_
            all_goals ((try simp (disch:=first | assumption | (simp only [qL];assumption)) only [go_sem,qA,qB,qC,qD,↓reduceIte,qE,reduceCtorEq,qF,qH,qI,qJ,qK,qG,hl16,ht16,hl17,ht17,hl25,ht25]);(repeat' first | done | rfl | omega | refine And.intro ?_ ?_ | (simp;done) | (simp;omega)))
           ·try simp (disch:=first | assumption | (simp only [qL];assumption)) only [go_sem,qA,qB,qC,qD,↓reduceIte,qE,reduceCtorEq,qF,qH,qI,qJ,qK,qG,hl16,ht16,hl17,ht17,hl25,ht25]
            refine zle h (λ h hc38=>?_) (λ h hc38=>?_)
            ·try simp (disch:=first | assumption | (simp only [qL];assumption)) only [go_sem,qA,qB,qC,qD,↓reduceIte,qE,reduceCtorEq,qF,qH,qI,qJ,qK,qG,hl16,ht16,hl17,ht17,hl25,ht25]
             have he:=oi h
             subst he
             refine zl0 ⟨[(2,(B false))],[],0,117⟩ (zlB (m:=0) [] rfl rfl rfl (by rfl) ?_ ?_) ?_
             all_goals ((try simp (disch:=first | assumption | (simp only [qL];assumption)) only [go_sem,qA,qB,qC,qD,↓reduceIte,qE,reduceCtorEq,qF,qH,qI,qJ,qK,qG,hl16,ht16,hl17,ht17,hl25,ht25]);(repeat' first | done | rfl | omega | refine And.intro ?_ ?_ | (simp;done) | (simp;omega)))
            ·try simp (disch:=first | assumption | (simp only [qL];assumption)) only [go_sem,qA,qB,qC,qD,↓reduceIte,qE,reduceCtorEq,qF,qH,qI,qJ,qK,qG,hl16,ht16,hl17,ht17,hl25,ht25]
             have he:=oi h
             subst he
             refine zl0 ⟨[(2,(B true))],[],0,117⟩ (zlB (m:=0) [] rfl rfl rfl (by rfl) ?_ ?_) ?_
             all_goals ((try simp (disch:=first | assumption | (simp only [qL];assumption)) only [go_sem,qA,qB,qC,qD,↓reduceIte,qE,reduceCtorEq,qF,qH,qI,qJ,qK,qG,hl16,ht16,hl17,ht17,hl25,ht25]);(repeat' first | done | rfl | omega | refine And.intro ?_ ?_ | (simp;done) | (simp;omega)))
end Go.TL.YteonagfnhdlfcaaGreatDoor

import Derived.Test.YteonagfnhdlfcaaGreatDoorWlFnExactSettleWorldA
open Nat renaming reduceAdd → qA, reduceMul → qB, reduceSub → qC, reduceEqDiff → qD, reduceLT → qE, reduceLeDiff → qF, reduceBEq → qG, zero_add → qa
open Int renaming reduceToNat → qH, reduceEq → qI, reduceLE → qJ, reduceLT → qK
open List renaming length_set → qL, length_append → qM, length_replicate → qN, length_map → qO, length_cons → qP, length_nil → qQ, take_length → qb
set_option linter.unusedSimpArgs false
set_option linter.unusedVariables false
noncomputable section
set_option maxRecDepth 8000
set_option maxHeartbeats 0
namespace Go.TL.YteonagfnhdlfcaaGreatDoor
open Go Go.Proofs Go.TL
theorem zhT {a0:List ByteArray} {a1 a2:Int} {m0:Nat} {x0:Bool} {r:List ByteArray} (h:zcc a0 a1 a2=some r):Fn Tryz.prog 284 [(.os 0 1 0 a0.length m0 x0),(I a1),(I a2)] [(0,some (false,.arr true 1 (a0.map eS)))] 1 (.os 1 1 0 r.length r.length false) [(0,none),(1,some (false,.arr false 1 (r.map eS)))] 2:=by
 unfold zcc at h
 obtain ⟨⟨hp1,hp2,hp3,hp4⟩,h⟩:=zla h
 have he:=oi h;subst he
 refine fc [] Tryz.func284 ?_
 simp only [Tryz.f284]
 simp (disch:=assumption) only [go_sem,qA,qB,qC,qD,↓reduceIte,qE,reduceCtorEq,qF,qH,qI,qJ,qK,qG]
 refine And.intro (by omega) ?_
 try simp (disch:=assumption) only [go_sem,qA,qB,qC,qD,↓reduceIte,qE,reduceCtorEq,qF,qH,qI,qJ,qK,qG]
 refine zrJ (a1 == a2) (by first | rfl | simp) (λ hc=>?_) (λ hc=>?_)
 ·try simp (disch:=assumption) only [go_sem,qA,qB,qC,qD,↓reduceIte,qE,reduceCtorEq,qF,qH,qI,qJ,qK,qG]
  have he:a1=a2:=by simpa using hc
  have hr:a0.take a1.toNat++a0.drop a2.toNat=a0:=by rw [he];exact List.take_append_drop _ _
  rw [hr]
  refine zl0 ⟨[(6,(.os 1 1 0 a0.length a0.length false))],[(0,none),(1,some (false,.arr false 1 (a0.map eS)))],2,33⟩ (zlB (m:=1) [some 0,some 0] rfl rfl rfl (by rfl) ?_ ?_) ?_
  all_goals ((try simp (disch:=assumption) only [go_sem,qA,qB,qC,qD,↓reduceIte,qE,reduceCtorEq,qF,qH,qI,qJ,qK,qG]);(repeat' first | done | rfl | omega | refine And.intro ?_ ?_ | (simp;done) | (simp;omega)))
 ·try simp (disch:=assumption) only [go_sem,qA,qB,qC,qD,↓reduceIte,qE,reduceCtorEq,qF,qH,qI,qJ,qK,qG]
  refine And.intro (by omega) (And.intro (by omega) ?_)
  have hs:a2.toNat+(a0.length - a2.toNat)≤a0.length:=by omega
  simp (disch:=assumption) only [go_sem,qA,qB,qC,qD,↓reduceIte,qE,reduceCtorEq,qF,qH,qI,qJ,qK,qG,hs]
  have hd:(a0.drop a2.toNat).length=a0.length - a2.toNat:=List.length_drop
  have ht:(a0.take a1.toNat).length=a1.toNat:=by rw [List.length_take];omega
  have hR:(a0.take a1.toNat++a0.drop a2.toNat).length=a1.toNat+(a0.drop a2.toNat).length:=by rw [qM,ht]
  refine And.intro ⟨by omega,(by first | exact zpu λ _=>rfl | simp),by omega⟩ (And.intro ⟨by omega,by omega,by omega⟩ (And.intro (by omega) ?_))
  refine zl0 ⟨[(6,(.os 1 1 0 (a0.take a1.toNat++a0.drop a2.toNat).length (a0.take a1.toNat++a0.drop a2.toNat).length false))],[(0,none),(1,some (false,.arr false 1 ((a0.take a1.toNat++a0.drop a2.toNat).map eS)))],2,33⟩ (zlB (m:=1) [some 0,some 1] rfl rfl rfl (by rfl) ?_ ?_) ?_
  all_goals ((try simp (disch:=assumption) only [go_sem,qA,qB,qC,qD,↓reduceIte,qE,reduceCtorEq,qF,qH,qI,qJ,qK,qG]);(repeat' first | done | rfl | omega | refine And.intro ?_ ?_ | (simp;done) | (simp;omega)))
theorem zhU {a0:List ByteArray} {a1:Int} {a2:List ByteArray} {m0 m2:Nat} {x0 x2:Bool} {r:List ByteArray} (h:zcd a0 a1 a2=some r):Fn Tryz.prog 285 [(.os 0 1 0 a0.length m0 x0),(I a1),(.os 1 1 0 a2.length m2 x2)] [(0,some (false,.arr true 1 (a0.map eS))),(1,some (false,.arr true 1 (a2.map eS)))] 2 (.os 2 1 0 r.length r.length false) [(0,none),(1,none),(2,some (false,.arr false 1 (r.map eS)))] 3:=by
 unfold zcd at h
 obtain ⟨⟨hp1,hp2,hp3,hp4⟩,h⟩:=zla h
 have he:=oi h;subst he
 obtain ⟨x,rfl⟩:=List.length_eq_one_iff.1 hp1
 rw [List.append_assoc,List.singleton_append]
 exact zzf Go.Proofs.Tryz.lays22 (Ent.of Tryz.func285 rfl (by simp [Tryz.f285])) (λ _=>rfl) hp2 hp3 hp4
theorem zhV {a0:zlm} {a1:ByteArray} {m1:Nat} {x1:Bool} {m2:Nat} {x2:Bool} {r:(Bool×zlm)} (h:za9 a0 a1=some r):Fn Tryz.prog 259 [(.pb 0 0),(.lf false (.sc (.string a1)))] [(0,some (false,.box [(I a0.fSt),(I a0.Next),(B a0.fCa),(I a0.Done),(.os 1 1 0 a0.fSi.length m1 x1),(.os 2 1 0 a0.fTi.length m2 x2)])),(1,some (false,.arr true 1 (a0.fSi.map eS))),(2,some (false,.arr true 1 (a0.fTi.map eS)))] 3 (B r.1) [(0,some (false,.box [(I r.2.fSt),(I r.2.Next),(B r.2.fCa),(I r.2.Done),(.os 1 1 0 a0.fSi.length a0.fSi.length false),(.os 3 1 0 r.2.fTi.length r.2.fTi.length false)])),(1,some (false,.arr false 1 (a0.fSi.map eS))),(2,none),(3,some (false,.arr false 1 (r.2.fTi.map eS)))] 4:=by
 unfold za9 at h
 refine fc [(1000,[(0,0),(1,0)]),(1001,[(0,0),(1,0),(5,0),(6,0)]),(1002,[]),(1003,[(0,0),(1,0),(5,0),(27,0)]),(1004,[]),(1005,[(0,0),(1,0),(5,0),(40,0)]),(1006,[(4,0)]),(1007,[(4,0)])] Tryz.func259 ?_
 simp only [Tryz.f259]
 refine sA ?_
 obtain ⟨c574,hr1,h⟩:=zk9 h
 refine zlh (zhc hr1) ?_
 refine sA ?_
 refine zle h (λ h hc2=>?_) (λ h hc2=>?_)
 ·refine sA ?_
  obtain ⟨c575,hr3,h⟩:=zk9 h
  refine znM [2] (zhT hr3) ?_
  refine sA ?_
  have he:=oi h
  subst he
  exact zld ⟨[(4,(B true))],[(0,some (false,.box [(I a0.fSt),(I a0.Next),(B a0.fCa),(I a0.Done),(.os 1 1 0 a0.fSi.length a0.fSi.length false),(.os 3 1 0 c575.length c575.length false)])),(1,some (false,.arr false 1 (a0.fSi.map eS))),(2,none),(3,some (false,.arr false 1 (c575.map eS)))],4,47⟩ [some 0,some 1,some 2,some 3]
 ·refine sA ?_
  refine zle h (λ h hc4=>?_) (λ h hc4=>?_)
  ·refine sA ?_
   have he:=oi h
   subst he
   exact zld ⟨[(4,(B false))],[(0,some (false,.box [(I a0.fSt),(I a0.Next),(B a0.fCa),(I a0.Done),(.os 1 1 0 a0.fSi.length a0.fSi.length false),(.os 3 1 0 a0.fTi.length a0.fTi.length false)])),(1,some (false,.arr false 1 (a0.fSi.map eS))),(2,none),(3,some (false,.arr false 1 (a0.fTi.map eS)))],4,47⟩ [some 0,some 1,some 2,some 2]
  ·refine sA ?_
   obtain ⟨c576,hr5,h⟩:=zk9 h
   refine znM [2,3] (zhU hr5) ?_
   refine sA ?_
   have he:=oi h
   subst he
   exact zld ⟨[(4,(B true))],[(0,some (false,.box [(I a0.fSt),(I a0.Next),(B a0.fCa),(I a0.Done),(.os 1 1 0 a0.fSi.length a0.fSi.length false),(.os 3 1 0 c576.length c576.length false)])),(1,some (false,.arr false 1 (a0.fSi.map eS))),(2,none),(3,some (false,.arr false 1 (c576.map eS)))],4,47⟩ [some 0,some 1,some 2,some 4]
theorem zg3 {a0:zlm} {a1:Int} {a2:ByteArray} {m1:Nat} {x1:Bool} {m2:Nat} {x2:Bool} {r:(Bool×zlm)} (h:zbi a0 a1 a2=some r):Fn Tryz.prog 226 [(.pb 0 0),(I a1),(.lf false (.sc (.string a2)))] [(0,some (false,.box [(I a0.fSt),(I a0.Next),(B a0.fCa),(I a0.Done),(.os 1 1 0 a0.fSi.length m1 x1),(.os 2 1 0 a0.fTi.length m2 x2)])),(1,some (false,.arr true 1 (a0.fSi.map eS))),(2,some (false,.arr true 1 (a0.fTi.map eS)))] 3 (B r.1) [(0,some (false,.box [(I r.2.fSt),(I r.2.Next),(B r.2.fCa),(I r.2.Done),(.os 3 1 0 r.2.fSi.length r.2.fSi.length false),(.os 4 1 0 r.2.fTi.length r.2.fTi.length false)])),(1,none),(2,none),(3,some (false,.arr false 1 (r.2.fSi.map eS))),(4,some (false,.arr false 1 (r.2.fTi.map eS)))] 5:=by
 unfold zbi at h
 refine fc [(1000,[(0,0),(1,0),(2,0)]),(1001,[(0,0),(1,0),(2,0),(32,0)]),(1002,[(6,0)]),(1003,[(0,0),(2,0),(33,0)]),(1004,[(0,0),(2,0),(33,0),(34,0)]),(1005,[(0,0)]),(1006,[(0,0),(2,0),(33,0),(39,0)]),(1007,[(0,0),(2,0),(54,0)]),(1008,[(6,0)]),(1009,[(0,0)]),(1010,[(0,0),(2,0),(33,0),(65,0)]),(1011,[(0,0)]),(1012,[(0,0),(2,0),(33,0),(74,0)]),(1013,[(0,0),(79,0)]),(1014,[(6,0)]),(1015,[(0,0),(33,0),(80,0)]),(1016,[(0,0),(85,0)]),(1017,[(6,0)]),(1018,[(0,0)]),(1019,[(0,0),(89,0)]),(1020,[(0,0)]),(1021,[]),(1022,[(6,0)]),(4001,[]),(4007,[])] Tryz.func226 ?_
 simp only [Tryz.f226]
 refine sA ?_
 obtain ⟨p562,hq1,h⟩:=zk9 h
 refine zlS (λ s2=>s2=⟨[(0,(.pb 0 0)),(1,(I a1)),(2,(.lf false (.sc (.string a2)))),(32,(B p562.t32))],[(0,some (false,.box [(I a0.fSt),(I a0.Next),(B a0.fCa),(I a0.Done),(.os 1 1 0 a0.fSi.length m1 x1),(.os 2 1 0 a0.fTi.length m2 x2)])),(1,some (false,.arr true 1 (a0.fSi.map eS))),(2,some (false,.arr true 1 (a0.fTi.map eS)))],3,104⟩) ?_ ?_
 ·refine sA ?_
  refine zlt hq1 (λ hq1 hc2=>?_) (λ hq1 hc2=>?_)
  ·refine sA ?_
   cases hq1
   exact zlr rfl (zlg [some 0,some 1,some 2])
  ·refine sA ?_
   refine zlt hq1 (λ hq1 hc3=>?_) (λ hq1 hc3=>?_)
   ·refine sA ?_
    cases hq1
    exact zlr rfl (zlg [some 0,some 1,some 2])
   ·refine sA ?_
    refine zlt hq1 (λ hq1 hc4=>?_) (λ hq1 hc4=>?_)
    ·refine sA ?_
     cases hq1
     exact zlr rfl (zlg [some 0,some 1,some 2])
    ·refine sA ?_
     cases hq1
     exact zlr rfl (zlg [some 0,some 1,some 2])
 ·intro s2 hJ;subst hJ
  try dsimp only at h
  refine sA ?_
  refine zle h (λ h hc5=>?_) (λ h hc5=>?_)
  ·refine sA ?_
   have he:=oi h
   subst he
   exact zld ⟨[(6,(B false))],[(0,some (false,.box [(I a0.fSt),(I a0.Next),(B a0.fCa),(I a0.Done),(.os 3 1 0 a0.fSi.length a0.fSi.length false),(.os 4 1 0 a0.fTi.length a0.fTi.length false)])),(1,none),(2,none),(3,some (false,.arr false 1 (a0.fSi.map eS))),(4,some (false,.arr false 1 (a0.fTi.map eS)))],5,104⟩ [some 0,some 1,some 2,some 1,some 2]
  ·refine sA ?_
   refine zle h (λ h hc6=>?_) (λ h hc6=>?_)
   ·refine sA ?_
    have he:=oi h
    subst he
    exact zld ⟨[(6,(B true))],[(0,some (false,.box [(I 1),(I (wI (a0.Next+1))),(B a0.fCa),(I a0.Done),(.os 3 1 0 a0.fSi.length a0.fSi.length false),(.os 4 1 0 a0.fTi.length a0.fTi.length false)])),(1,none),(2,none),(3,some (false,.arr false 1 (a0.fSi.map eS))),(4,some (false,.arr false 1 (a0.fTi.map eS)))],5,104⟩ [some 0,some 1,some 2,some 1,some 2]
   ·refine sA ?_
    refine zle h (λ h hc7=>?_) (λ h hc7=>?_)
    ·refine sA ?_
     obtain ⟨p564,hq8,h⟩:=zk9 h
     refine zlS (λ s2=>s2=⟨[(0,(.pb 0 0)),(2,(.lf false (.sc (.string a2)))),(54,(B p564.t54))],[(0,some (false,.box [(I a0.fSt),(I a0.Next),(B a0.fCa),(I a0.Done),(.os 1 1 0 a0.fSi.length m1 x1),(.os 2 1 0 a0.fTi.length m2 x2)])),(1,some (false,.arr true 1 (a0.fSi.map eS))),(2,some (false,.arr true 1 (a0.fTi.map eS)))],3,104⟩) ?_ ?_
     ·refine sA ?_
      obtain ⟨c563,hr9,hq8⟩:=zk9 hq8
      refine zlh (zaF hr9) ?_
      refine sA ?_
      refine zlt hq8 (λ hq8 hc10=>?_) (λ hq8 hc10=>?_)
      ·refine sA ?_
       cases hq8
       exact zlr rfl (zlg [some 0,some 1,some 2])
      ·refine sA ?_
       cases hq8
       exact zlr rfl (zlg [some 0,some 1,some 2])
     ·intro s2 hJ;subst hJ
      try dsimp only at h
      refine sA ?_
      refine zle h (λ h hc11=>?_) (λ h hc11=>?_)
      ·refine sA ?_
       have he:=oi h
       subst he
       exact zld ⟨[(6,(B false))],[(0,some (false,.box [(I a0.fSt),(I a0.Next),(B a0.fCa),(I a0.Done),(.os 3 1 0 a0.fSi.length a0.fSi.length false),(.os 4 1 0 a0.fTi.length a0.fTi.length false)])),(1,none),(2,none),(3,some (false,.arr false 1 (a0.fSi.map eS))),(4,some (false,.arr false 1 (a0.fTi.map eS)))],5,104⟩ [some 0,some 1,some 2,some 1,some 2]
      ·refine sA ?_
       obtain ⟨hp12,h⟩:=zla h
       refine sA ?_
       refine zlq ?_
       have he:=oi h
       subst he
       exact zld ⟨[(6,(B true))],[(0,some (false,.box [(I a0.fSt),(I (wI (a0.Next+1))),(B a0.fCa),(I a0.Done),(.os 3 1 0 ((a0.fSi++([a2])).length) ((a0.fSi++([a2])).length) false),(.os 4 1 0 a0.fTi.length a0.fTi.length false)])),(1,none),(2,none),(3,some (false,.arr false 1 ((a0.fSi++([a2])).map eS))),(4,some (false,.arr false 1 (a0.fTi.map eS)))],5,104⟩ [some 0,some 1,some 2,some 4,some 2]
    ·refine sA ?_
     refine zle h (λ h hc13=>?_) (λ h hc13=>?_)
     ·refine sA ?_
      have he:=oi h
      subst he
      exact zld ⟨[(6,(B true))],[(0,some (false,.box [(I a0.fSt),(I (wI (a0.Next+1))),(B a0.fCa),(I (wI (a0.Done+1))),(.os 3 1 0 a0.fSi.length a0.fSi.length false),(.os 4 1 0 a0.fTi.length a0.fTi.length false)])),(1,none),(2,none),(3,some (false,.arr false 1 (a0.fSi.map eS))),(4,some (false,.arr false 1 (a0.fTi.map eS)))],5,104⟩ [some 0,some 1,some 2,some 1,some 2]
     ·refine sA ?_
      refine zle h (λ h hc14=>?_) (λ h hc14=>?_)
      ·refine sA ?_
       obtain ⟨c577,hr15,h⟩:=zk9 h
       refine znM [0,1,2] (zhV hr15) ?_
       refine sA ?_
       refine zle h (λ h hc16=>?_) (λ h hc16=>?_)
       ·refine sA ?_
        have he:=oi h
        subst he
        exact zld ⟨[(6,(B false))],[(0,some (false,.box [(I c577.2.fSt),(I c577.2.Next),(B c577.2.fCa),(I c577.2.Done),(.os 3 1 0 a0.fSi.length a0.fSi.length false),(.os 4 1 0 c577.2.fTi.length c577.2.fTi.length false)])),(1,none),(2,none),(3,some (false,.arr false 1 (a0.fSi.map eS))),(4,some (false,.arr false 1 (c577.2.fTi.map eS)))],5,104⟩ [some 0,some 1,some 2,some 1,some 3]
       ·refine sA ?_
        have he:=oi h
        subst he
        exact zld ⟨[(6,(B true))],[(0,some (false,.box [(I c577.2.fSt),(I (wI (c577.2.Next+1))),(B c577.2.fCa),(I c577.2.Done),(.os 3 1 0 a0.fSi.length a0.fSi.length false),(.os 4 1 0 c577.2.fTi.length c577.2.fTi.length false)])),(1,none),(2,none),(3,some (false,.arr false 1 (a0.fSi.map eS))),(4,some (false,.arr false 1 (c577.2.fTi.map eS)))],5,104⟩ [some 0,some 1,some 2,some 1,some 3]
      ·refine sA ?_
       refine zle h (λ h hc17=>?_) (λ h hc17=>?_)
       ·refine sA ?_
        refine zle h (λ h hc18=>?_) (λ h hc18=>?_)
        ·refine sA ?_
         have he:=oi h
         subst he
         exact zld ⟨[(6,(B false))],[(0,some (false,.box [(I a0.fSt),(I a0.Next),(B a0.fCa),(I a0.Done),(.os 3 1 0 a0.fSi.length a0.fSi.length false),(.os 4 1 0 a0.fTi.length a0.fTi.length false)])),(1,none),(2,none),(3,some (false,.arr false 1 (a0.fSi.map eS))),(4,some (false,.arr false 1 (a0.fTi.map eS)))],5,104⟩ [some 0,some 1,some 2,some 1,some 2]
        ·refine sA ?_
         have he:=oi h
         subst he
         exact zld ⟨[(6,(B true))],[(0,some (false,.box [(I a0.fSt),(I (wI (a0.Next+1))),(B true),(I a0.Done),(.os 3 1 0 a0.fSi.length a0.fSi.length false),(.os 4 1 0 a0.fTi.length a0.fTi.length false)])),(1,none),(2,none),(3,some (false,.arr false 1 (a0.fSi.map eS))),(4,some (false,.arr false 1 (a0.fTi.map eS)))],5,104⟩ [some 0,some 1,some 2,some 1,some 2]
       ·refine sA ?_
        refine zle h (λ h hc19=>?_) (λ h hc19=>?_)
        ·refine sA ?_
         have he:=oi h
         subst he
         exact zld ⟨[(6,(B true))],[(0,some (false,.box [(I 2),(I (wI (a0.Next+1))),(B a0.fCa),(I a0.Done),(.os 3 1 0 a0.fSi.length a0.fSi.length false),(.os 4 1 0 (([]:List ByteArray).length) (([]:List ByteArray).length) false)])),(1,none),(2,none),(3,some (false,.arr false 1 (a0.fSi.map eS))),(4,some (false,.arr false 1 (([]:List ByteArray).map eS)))],5,104⟩ [some 0,some 1,some 2,some 1,none]
        ·refine sA ?_
         have he:=oi h
         subst he
         exact zld ⟨[(6,(B true))],[(0,some (false,.box [(I a0.fSt),(I (wI (a0.Next+1))),(B a0.fCa),(I a0.Done),(.os 3 1 0 a0.fSi.length a0.fSi.length false),(.os 4 1 0 a0.fTi.length a0.fTi.length false)])),(1,none),(2,none),(3,some (false,.arr false 1 (a0.fSi.map eS))),(4,some (false,.arr false 1 (a0.fTi.map eS)))],5,104⟩ [some 0,some 1,some 2,some 1,some 2]
theorem zjt {a0:zlm} {a1:EventT} {r:(zlm×Bool)} (h:zdT a0 a1=some r):Fn Tryz.prog 209 [(.ag [(I a0.fSt),(I a0.Next),(B a0.fCa),(I a0.Done),(.lf true (.sl (a0.fSi.map eS))),(.lf true (.sl (a0.fTi.map eS)))]),(.ag [(I a1.Id),(I a1.fVe),(I a1.Kind),(.lf false (.sc (.string a1.Name)))])] [] 0 (.tu [(.ag [(I r.1.fSt),(I r.1.Next),(B r.1.fCa),(I r.1.Done),(.os 0 1 0 r.1.fSi.length r.1.fSi.length false),(.os 1 1 0 r.1.fTi.length r.1.fTi.length false)]),(B r.2)]) [(0,some (false,.arr false 1 (r.1.fSi.map eS))),(1,some (false,.arr false 1 (r.1.fTi.map eS)))] 3:=by
 unfold zdT at h
 refine fc [(1000,[(2,0),(3,0),(4,0)]),(1001,[(2,0),(3,0),(4,0),(21,0)]),(1002,[(4,0),(5,0)]),(1003,[(3,0),(4,0),(6,0)]),(1004,[(4,0),(6,0),(35,0)]),(1005,[(4,0),(5,0)]),(1006,[(4,0),(5,0)]),(4001,[]),(4004,[])] Tryz.func209 ?_
 simp only [Tryz.f209]
 refine sA ?_
 obtain ⟨p557,hq1,h⟩:=zk9 h
 refine zlS (λ s2=>s2=⟨[(2,(.pb 0 0)),(3,(.pb 1 0)),(4,(.pb 2 0)),(21,(B p557.t21))],[(0,some (true,.box [(I a0.fSt),(I a0.Next),(B a0.fCa),(I a0.Done),(.lf true (.sl (a0.fSi.map eS))),(.lf true (.sl (a0.fTi.map eS)))])),(1,some (true,.box [(I a1.Id),(I a1.fVe),(I a1.Kind),(.lf false (.sc (.string a1.Name)))])),(2,some (true,.box [(I 0),(I 0),(B false),(I 0),.nl,.nl]))],3,38⟩) ?_ ?_
 ·refine sA ?_
  obtain ⟨c550,hr2,hq1⟩:=zk9 hq1
  refine zlh (zfh hr2) ?_
  refine sA ?_
  refine zlt hq1 (λ hq1 hc3=>?_) (λ hq1 hc3=>?_)
  ·refine sA ?_
   cases hq1
   exact zlr rfl (zlg [some 0,some 1,some 2])
  ·refine sA ?_
   obtain ⟨c556,hr4,hq1⟩:=zk9 hq1
   refine zlh (zjW hr4) ?_
   refine sA ?_
   refine zlt hq1 (λ hq1 hc5=>?_) (λ hq1 hc5=>?_)
   ·refine sA ?_
    cases hq1
    exact zlr rfl (zlg [some 0,some 1,some 2])
   ·refine sA ?_
    cases hq1
    exact zlr rfl (zlg [some 0,some 1,some 2])
 ·intro s2 hJ;subst hJ
  try dsimp only at h
  refine sA ?_
  refine zle h (λ h hc6=>?_) (λ h hc6=>?_)
  ·refine sA ?_
   have he:=oi h
   subst he
   exact zld ⟨[(4,(.pb 2 0)),(5,(B false))],[(0,some (false,.arr false 1 (([]:List ByteArray).map eS))),(1,some (false,.arr false 1 (([]:List ByteArray).map eS))),(2,some (true,.box [(I 0),(I 0),(B false),(I 0),(.os 0 1 0 (([]:List ByteArray).length) (([]:List ByteArray).length) false),(.os 1 1 0 (([]:List ByteArray).length) (([]:List ByteArray).length) false)]))],3,38⟩ [none,none,some 2]
  ·refine sA ?_
   obtain ⟨c560,hr7,h⟩:=zk9 h
   refine zlh (zhD hr7) ?_
   refine sA ?_
   obtain ⟨p580,hq8,h⟩:=zk9 h
   refine zlS (λ s2=>s2=⟨[(4,(.pb 0 0)),(6,(.pb 1 0)),(35,(B p580.t35))],[(0,some (true,.box [(I 0),(I 0),(B false),(I 0),.nl,.nl])),(1,some (true,.box [(I p580.b1_0),(I p580.b1_1),(B p580.b1_2),(I p580.b1_3),(.os 2 1 0 p580.c2.length p580.c2.length false),(.os 3 1 0 p580.c3.length p580.c3.length false)])),(2,some (false,.arr false 1 (p580.c2.map eS))),(3,some (false,.arr false 1 (p580.c3.map eS)))],4,38⟩) ?_ ?_
   ·refine sA ?_
    obtain ⟨c578,hr9,hq8⟩:=zk9 hq8
    refine znM [6,3,4] (zg3 hr9) ?_
    refine sA ?_
    refine zlt hq8 (λ hq8 hc10=>?_) (λ hq8 hc10=>?_)
    ·refine sA ?_
     cases hq8
     exact zlr rfl (zlg [some 2,some 6,some 7,some 8])
    ·refine sA ?_
     obtain ⟨c579,hr11,hq8⟩:=zk9 hq8
     refine zlh (zfh hr11) ?_
     refine sA ?_
     cases hq8
     exact zlr rfl (zlg [some 2,some 6,some 7,some 8])
   ·intro s2 hJ;subst hJ
    try dsimp only at h
    refine sA ?_
    refine zle h (λ h hc12=>?_) (λ h hc12=>?_)
    ·refine sA ?_
     have he:=oi h
     subst he
     exact zld ⟨[(4,(.pb 2 0)),(5,(B false))],[(0,some (false,.arr false 1 (([]:List ByteArray).map eS))),(1,some (false,.arr false 1 (([]:List ByteArray).map eS))),(2,some (true,.box [(I 0),(I 0),(B false),(I 0),(.os 0 1 0 (([]:List ByteArray).length) (([]:List ByteArray).length) false),(.os 1 1 0 (([]:List ByteArray).length) (([]:List ByteArray).length) false)]))],3,38⟩ [none,none,some 0]
    ·refine sA ?_
     have he:=oi h
     subst he
     exact zld ⟨[(4,(.pb 2 0)),(5,(B true))],[(0,some (false,.arr false 1 (p580.c2.map eS))),(1,some (false,.arr false 1 (p580.c3.map eS))),(2,some (true,.box [(I p580.b1_0),(I p580.b1_1),(B p580.b1_2),(I p580.b1_3),(.os 0 1 0 p580.c2.length p580.c2.length false),(.os 1 1 0 p580.c3.length p580.c3.length false)]))],3,38⟩ [some 2,some 3,some 0]
theorem zhE {a0:(List EventT)} {r:(zlm×Int)} (h:zcs a0=some r):Fn Tryz.prog 161 [(.lf true (.sl (a0.map zlk)))] [] 0 (.tu [(.ag [(I r.1.fSt),(I r.1.Next),(B r.1.fCa),(I r.1.Done),(.os 0 1 0 r.1.fSi.length r.1.fSi.length false),(.os 1 1 0 r.1.fTi.length r.1.fTi.length false)]),(I r.2)]) [(0,some (false,.arr false 1 (r.1.fSi.map eS))),(1,some (false,.arr false 1 (r.1.fTi.map eS)))] 3:=by
 unfold zcs at h
 refine fc [(1000,[(0,0),(2,0)]),(1001,[(0,0),(2,0),(4,0)]),(1002,[(0,0),(2,0),(4,0),(10,0),(11,0),(12,0)]),(1003,[(0,0),(2,0),(4,0),(10,0),(11,0),(12,0),(13,0)]),(1004,[(0,0),(2,0),(4,0),(5,0),(6,0),(10,0),(11,0),(12,0)]),(1005,[(0,0),(2,0),(4,0),(5,0),(7,0),(8,0),(10,0),(11,0),(12,0)]),(1006,[(0,0),(2,0),(4,0),(5,0),(7,0),(10,0),(11,0),(12,0),(24,0)]),(1007,[(2,0),(3,0)]),(1008,[(0,0),(2,0),(4,0),(10,0),(11,0),(12,0)]),(1009,[(0,0),(2,0),(4,0),(10,0),(11,0),(12,0)]),(1010,[(2,0),(3,0)])] Tryz.func161 ?_
 simp only [Tryz.f161]
 refine sA ?_
 obtain ⟨c509,hr1,h⟩:=zk9 h
 refine zlh (zkq hr1) ?_
 refine sA ?_
 obtain ⟨y583,hl2,h⟩:=zk9 h
 refine zlo (λ g510:zfV=>⟨[(0,(.lf true (.sl (a0.map zlk)))),(2,(.pb 0 0)),(4,(.pb 1 0)),(10,(.lf true (.sl (a0.map zlk)))),(11,(I ((a0.length:Nat):Int))),(12,(I g510.t12))],[(0,some (true,.box [(I 0),(I 0),(B false),(I 0),.nl,.nl])),(1,some (true,.box [(I g510.b1_0),(I g510.b1_1),(B g510.b1_2),(I g510.b1_3),(.os 2 1 0 g510.c2.length g510.c2.length false),(.os 3 1 0 g510.c3.length g510.c3.length false)])),(2,some (false,.arr false 1 (g510.c2.map eS))),(3,some (false,.arr false 1 (g510.c3.map eS)))],4,32⟩) (zae a0) _ _ hl2 (zlg [some 0,some 2,none,none]) ?_
 ·intro n1 g510 z1 hs1 hk1
  unfold zae at hs1
  try dsimp only at hs1
  refine sA ?_
  refine zle hs1 (λ hs1 hc3=>?_) (λ hs1 hc3=>?_)
  ·refine sA ?_
   obtain ⟨hp4,hs1⟩:=zla hs1
   have hn4:g510.t12.toNat < a0.length:=by first|omega|(simp;omega)
   refine sA ?_
   refine zlq ?_
   obtain ⟨c582,hr5,hs1⟩:=zk9 hs1
   refine zlh (zjt hr5) ?_
   refine sA ?_
   refine zle hs1 (λ hs1 hc6=>?_) (λ hs1 hc6=>?_)
   ·refine sA ?_
    cases hs1
    cases hk1
    try dsimp only at h
    refine sA ?_
    have he:=oi h
    subst he
    exact zld ⟨[(2,(.pb 2 0)),(3,(I g510.t12))],[(0,some (false,.arr false 1 (g510.c2.map eS))),(1,some (false,.arr false 1 (g510.c3.map eS))),(2,some (true,.box [(I g510.b1_0),(I g510.b1_1),(B g510.b1_2),(I g510.b1_3),(.os 0 1 0 g510.c2.length g510.c2.length false),(.os 1 1 0 g510.c3.length g510.c3.length false)]))],3,32⟩ [some 2,some 3,some 0]
   ·refine sA ?_
    cases hs1
    exact zll hk1 (zlg [some 0,some 1,some 5,some 6])
  ·refine sA ?_
   cases hs1
   cases hk1
   try dsimp only at h
   refine sA ?_
   have he:=oi h
   subst he
   exact zld ⟨[(2,(.pb 2 0)),(3,(I ((a0.length:Nat):Int)))],[(0,some (false,.arr false 1 (g510.c2.map eS))),(1,some (false,.arr false 1 (g510.c3.map eS))),(2,some (true,.box [(I g510.b1_0),(I g510.b1_1),(B g510.b1_2),(I g510.b1_3),(.os 0 1 0 g510.c2.length g510.c2.length false),(.os 1 1 0 g510.c3.length g510.c3.length false)]))],3,32⟩ [some 2,some 3,some 0]
theorem zjX {a0:(List EventT)} {r:Bool} (h:zeD a0=some r):Fn Tryz.prog 91 [(.lf true (.sl (a0.map zlk)))] [] 0 (B r) [] 0:=by
 unfold zeD at h
 refine fc [(1000,[(0,0)]),(1001,[(0,0),(9,0)]),(1002,[(2,0)]),(1003,[(0,0),(10,0),(11,0),(12,0)]),(1004,[(0,0),(10,0),(11,0),(12,0),(13,0)]),(1005,[(0,0),(3,0),(4,0),(10,0),(11,0),(12,0)]),(1006,[(0,0),(10,0),(11,0),(12,0),(29,0)]),(1007,[(2,0)]),(1008,[(0,0),(10,0),(11,0),(12,0)]),(1009,[(0,0),(6,0)]),(1010,[(2,0)]),(4006,[])] Tryz.func91 ?_
 simp only [Tryz.f91]
 refine sA ?_
 refine zle h (λ h hc1=>?_) (λ h hc1=>?_)
 ·refine sA ?_
  have he:=oi h
  subst he
  exact zld ⟨[(2,(B false))],[],0,40⟩ []
 ·refine sA ?_
  obtain ⟨y506,hl2,h⟩:=zk9 h
  refine zlo (λ g503:zeh=>⟨[(0,(.lf true (.sl (a0.map zlk)))),(10,(.lf true (.sl (a0.map zlk)))),(11,(I ((a0.length:Nat):Int))),(12,(I g503.t12))],[],0,40⟩) (zbG a0) _ _ hl2 (zlg []) ?_
  ·intro n1 g503 z1 hs1 hk1
   unfold zbG at hs1
   try dsimp only at hs1
   refine sA ?_
   refine zle hs1 (λ hs1 hc3=>?_) (λ hs1 hc3=>?_)
   ·refine sA ?_
    obtain ⟨hp4,hs1⟩:=zla hs1
    have hn4:g503.t12.toNat < a0.length:=by first|omega|(simp;omega)
    refine sA ?_
    refine zlq ?_
    obtain ⟨p505,hq5,hs1⟩:=zk9 hs1
    refine zlS (λ s2=>s2=⟨[(0,(.lf true (.sl (a0.map zlk)))),(10,(.lf true (.sl (a0.map zlk)))),(11,(I ((a0.length:Nat):Int))),(12,(I g503.t12)),(29,(B p505.t29))],[],0,40⟩) ?_ ?_
    ·refine sA ?_
     refine zlt hq5 (λ hq5 hc6=>?_) (λ hq5 hc6=>?_)
     ·refine sA ?_
      obtain ⟨hp7,hq5⟩:=zla hq5
      have hn7:(wI (g503.t12 - 1)).toNat < a0.length:=by first|omega|(simp;omega)
      refine sA ?_
      refine zlq ?_
      cases hq5
      exact zlr rfl (zlg [])
     ·refine sA ?_
      cases hq5
      exact zlr rfl (zlg [])
    ·intro s2 hJ;subst hJ
     try dsimp only at hs1
     refine sA ?_
     refine zle hs1 (λ hs1 hc8=>?_) (λ hs1 hc8=>?_)
     ·refine sA ?_
      cases hs1
      cases hk1
      try dsimp only at h
      refine sA ?_
      have he:=oi h
      subst he
      exact zld ⟨[(2,(B false))],[],0,40⟩ []
     ·refine sA ?_
      cases hs1
      exact zll hk1 (zlg [])
   ·refine sA ?_
    cases hs1
    cases hk1
    try dsimp only at h
    refine sA ?_
    obtain ⟨c587,hr9,h⟩:=zk9 h
    refine zlh (zhE hr9) ?_
    refine sA ?_
    have he:=oi h
    subst he
    exact zld ⟨[(2,(B (c587.2 == ((a0.length:Nat):Int))))],[],0,40⟩ []
theorem zjY {a0:(List EventT)} {r:Bool} (h:zeE a0=some r):Fn Tryz.prog 61 [(.lf true (.sl (a0.map zlk)))] [] 0 (B r) [] 0:=by
 unfold zeE at h
 refine fc [] Tryz.func61 ?_
 simp only [Tryz.f61]
 refine sA ?_
 refine zlt h (λ h hc1=>?_) (λ h hc1=>?_)
 ·refine sA ?_
  obtain ⟨c588,hr2,h⟩:=zk9 h
  refine zlh (zjX hr2) ?_
  refine sA ?_
  have he:=oi h
  subst he
  exact zld ⟨[(2,(B c588))],[],0,10⟩ []
 ·refine sA ?_
  have he:=oi h
  subst he
  exact zld ⟨[(2,(B false))],[],0,10⟩ []
theorem zh9 {a0:Int} {r:Bool} (h:zfi a0=some r):Fn Tryz.prog 230 [(I a0)] [] 0 (B r) [] 0:=by
 unfold zfi at h
 refine fc [] Tryz.func230 ?_
 simp only [Tryz.f230]
 refine sA ?_
 have he:=oi h
 subst he
 exact zld ⟨[(2,(B (a0 != a0)))],[],0,6⟩ []
theorem zet {a0:Int} {a1:Int} {r:Int} (h:zaU a0 a1=some r):Fn Tryz.prog 193 [(I a0),(I a1)] [] 0 (I r) [] 0:=by
 unfold zaU at h
 refine fc [(1000,[(0,0),(1,0)]),(1001,[(0,0),(1,0),(5,0)]),(1002,[(0,0),(1,0),(5,0),(6,0)]),(1003,[(0,0),(1,0),(6,0),(11,0)]),(1004,[(12,0)]),(1005,[(4,0)]),(1006,[(4,0)]),(1007,[(0,0),(1,0),(13,0)]),(1008,[(4,0)]),(1009,[(0,0),(1,0),(16,0)]),(1010,[(4,0)]),(1011,[(19,0)]),(1012,[(4,0)]),(1013,[(4,0)])] Tryz.func193 ?_
 simp only [Tryz.f193]
 refine sA ?_
 obtain ⟨c592,hr1,h⟩:=zk9 h
 refine zlh (zh9 hr1) ?_
 refine sA ?_
 obtain ⟨c593,hr2,h⟩:=zk9 h
 refine zlh (zh9 hr2) ?_
 refine sA ?_
 refine zle h (λ h hc3=>?_) (λ h hc3=>?_)
 ·refine sA ?_
  refine zle h (λ h hc4=>?_) (λ h hc4=>?_)
  ·refine sA ?_
   have he:=oi h
   subst he
   exact zld ⟨[(4,(I 0))],[],0,20⟩ []
  ·refine sA ?_
   have he:=oi h
   subst he
   exact zld ⟨[(4,(I (-1)))],[],0,20⟩ []
 ·refine sA ?_
  refine zle h (λ h hc5=>?_) (λ h hc5=>?_)
  ·refine sA ?_
   have he:=oi h
   subst he
   exact zld ⟨[(4,(I 1))],[],0,20⟩ []
  ·refine sA ?_
   refine zle h (λ h hc6=>?_) (λ h hc6=>?_)
   ·refine sA ?_
    have he:=oi h
    subst he
    exact zld ⟨[(4,(I (-1)))],[],0,20⟩ []
   ·refine sA ?_
    refine zle h (λ h hc7=>?_) (λ h hc7=>?_)
    ·refine sA ?_
     have he:=oi h
     subst he
     exact zld ⟨[(4,(I 1))],[],0,20⟩ []
    ·refine sA ?_
     have he:=oi h
     subst he
     exact zld ⟨[(4,(I 0))],[],0,20⟩ []
theorem ziv {a0:ByteArray} {a1:ByteArray} {r:Int} (h:zch a0 a1=some r):Fn Tryz.prog 223 [(.lf false (.sc (.string a0))),(.lf false (.sc (.string a1)))] [] 0 (I r) [] 0:=by
 unfold zch at h
 refine fc [(1000,[(0,0),(1,0)]),(1001,[(0,0),(1,0),(5,0)]),(1002,[(0,0),(1,0),(5,0),(6,0)]),(1003,[(0,0),(1,0),(6,0),(11,0)]),(1004,[(12,0)]),(1005,[(4,0)]),(1006,[(4,0)]),(1007,[(0,0),(1,0),(13,0)]),(1008,[(4,0)]),(1009,[(0,0),(1,0),(16,0)]),(1010,[(4,0)]),(1011,[(19,0)]),(1012,[(4,0)]),(1013,[(4,0)])] Tryz.func223 ?_
 simp only [Tryz.f223]
 refine sA ?_
 obtain ⟨c596,hr1,h⟩:=zk9 h
 refine zlh (zd8 hr1) ?_
 refine sA ?_
 obtain ⟨c597,hr2,h⟩:=zk9 h
 refine zlh (zd8 hr2) ?_
 refine sA ?_
 refine zle h (λ h hc3=>?_) (λ h hc3=>?_)
 ·refine sA ?_
  refine zle h (λ h hc4=>?_) (λ h hc4=>?_)
  ·refine sA ?_
   have he:=oi h
   subst he
   exact zld ⟨[(4,(I 0))],[],0,20⟩ []
  ·refine sA ?_
   have he:=oi h
   subst he
   exact zld ⟨[(4,(I (-1)))],[],0,20⟩ []
 ·refine sA ?_
  refine zle h (λ h hc5=>?_) (λ h hc5=>?_)
  ·refine sA ?_
   have he:=oi h
   subst he
   exact zld ⟨[(4,(I 1))],[],0,20⟩ []
  ·refine sA ?_
   refine zle h (λ h hc6=>?_) (λ h hc6=>?_)
   ·refine sA ?_
    have he:=oi h
    subst he
    exact zld ⟨[(4,(I (-1)))],[],0,20⟩ []
   ·refine sA ?_
    refine zle h (λ h hc7=>?_) (λ h hc7=>?_)
    ·refine sA ?_
     have he:=oi h
     subst he
     exact zld ⟨[(4,(I 1))],[],0,20⟩ []
    ·refine sA ?_
     have he:=oi h
     subst he
     exact zld ⟨[(4,(I 0))],[],0,20⟩ []
theorem ziY {a0:(List Int)} {r:Int} (h:zga a0=some r):Fn Tryz.prog 192 [(.lf true (.sl (a0.map eI)))] [] 0 (I r) [] 0:=by
 unfold zga at h
 refine fc [(1000,[(0,0)]),(1001,[(0,0),(3,0)]),(1002,[(3,0),(6,0),(7,0),(8,0)]),(1003,[(3,0),(6,0),(7,0),(8,0),(9,0)]),(1004,[(3,0),(5,0),(6,0),(7,0),(8,0)]),(1005,[(3,0),(5,0),(6,0),(7,0),(8,0),(14,0)]),(1006,[(2,0)]),(1007,[(3,0),(6,0),(7,0),(8,0)]),(1008,[(2,0)])] Tryz.func192 ?_
 simp only [Tryz.f192]
 refine sA ?_
 obtain ⟨y600,hl1,h⟩:=zk9 h
 refine zlo (λ g599:zgy=>⟨[(3,(I 0)),(6,(.lf true (.sl (a0.map eI)))),(7,(I ((a0.length:Nat):Int))),(8,(I g599.t8))],[],0,18⟩) (zdL a0) _ _ hl1 (zlg []) ?_
 ·intro n1 g599 z1 hs1 hk1
  unfold zdL at hs1
  try dsimp only at hs1
  refine sA ?_
  refine zle hs1 (λ hs1 hc2=>?_) (λ hs1 hc2=>?_)
  ·refine sA ?_
   obtain ⟨hp3,hs1⟩:=zla hs1
   have hn3:g599.t8.toNat < a0.length:=by first|omega|(simp;omega)
   refine sA ?_
   refine zlq ?_
   refine zle hs1 (λ hs1 hc4=>?_) (λ hs1 hc4=>?_)
   ·refine sA ?_
    cases hs1
    cases hk1
    try dsimp only at h
    refine sA ?_
    have he:=oi h
    subst he
    exact zld ⟨[(2,(I (nth a0 g599.t8.toNat)))],[],0,18⟩ []
   ·refine sA ?_
    cases hs1
    exact zll hk1 (zlg [])
  ·refine sA ?_
   cases hs1
   cases hk1
   try dsimp only at h
   refine sA ?_
   have he:=oi h
   subst he
   exact zld ⟨[(2,(I 0))],[],0,18⟩ []
theorem zju {a0:EventT} {a1:EventT} {r:Int} (h:zdU a0 a1=some r):Fn Tryz.prog 181 [(.ag [(I a0.Id),(I a0.fVe),(I a0.Kind),(.lf false (.sc (.string a0.Name)))]),(.ag [(I a1.Id),(I a1.fVe),(I a1.Kind),(.lf false (.sc (.string a1.Name)))])] [] 0 (I r) [] 0:=by
 unfold zdU at h
 refine fc [(1,[(6,4),(8,4),(11,4),(11,9),(13,4),(13,9)])] Tryz.func181 ?_
 simp only [Tryz.f181]
 refine sA ?_
 obtain ⟨c594,hr1,h⟩:=zk9 h
 refine zlh (zet hr1) ?_
 refine sA ?_
 obtain ⟨c595,hr2,h⟩:=zk9 h
 refine zlh (zet hr2) ?_
 refine sA ?_
 obtain ⟨c598,hr3,h⟩:=zk9 h
 refine zlh (ziv hr3) ?_
 refine sA ?_
 obtain ⟨c603,hr4,h⟩:=zk9 h
 refine zlh (ziY hr4) ?_
 refine sA ?_
 have he:=oi h
 subst he
 exact zld ⟨[(4,(I c603))],[],0,22⟩ []
theorem zdF {a0:(List EventT)} {a1:(List EventT)} {r:Int} (h:zD a0 a1=some r):Fn Tryz.prog 180 [(.lf true (.sl (a0.map zlk))),(.lf true (.sl (a1.map zlk))),(.fn 181 [])] [] 0 (I r) [] 0:=by
 unfold zD at h
 refine fc [(1000,[(0,0),(1,0),(2,0)]),(1001,[(0,0),(1,0),(2,0),(11,0),(12,0),(13,0)]),(1002,[(0,0),(1,0),(2,0),(11,0),(12,0),(13,0),(14,0)]),(1003,[(0,0),(1,0),(2,0),(7,0),(8,0),(11,0),(12,0),(13,0)]),(1004,[(0,0),(1,0),(2,0),(7,0),(8,0),(11,0),(12,0),(13,0),(21,0)]),(1005,[(6,0)]),(1006,[(0,0),(1,0),(2,0),(8,0),(9,0),(11,0),(12,0),(13,0)]),(1007,[(0,0),(1,0),(2,0),(10,0),(11,0),(12,0),(13,0)]),(1008,[(0,0),(1,0),(2,0),(10,0),(11,0),(12,0),(13,0),(31,0)]),(1009,[(6,0)]),(1010,[(0,0),(1,0),(2,0),(11,0),(12,0),(13,0)]),(1011,[(38,0)]),(1012,[(6,0)]),(1013,[(6,0)])] Tryz.func180 ?_
 simp only [Tryz.f180]
 refine sA ?_
 obtain ⟨y606,hl1,h⟩:=zk9 h
 refine zlo (λ g591:zv=>⟨[(0,(.lf true (.sl (a0.map zlk)))),(1,(.lf true (.sl (a1.map zlk)))),(2,(.fn 181 [])),(11,(.lf true (.sl (a0.map zlk)))),(12,(I ((a0.length:Nat):Int))),(13,(I g591.t13))],[],0,39⟩) (zd a0 a1) _ _ hl1 (zlg []) ?_
 ·intro n1 g591 z1 hs1 hk1
  unfold zd at hs1
  try dsimp only at hs1
  refine sA ?_
  refine zle hs1 (λ hs1 hc2=>?_) (λ hs1 hc2=>?_)
  ·refine sA ?_
   obtain ⟨hp3,hs1⟩:=zla hs1
   have hn3:g591.t13.toNat < a0.length:=by first|omega|(simp;omega)
   refine sA ?_
   refine zlq ?_
   refine zle hs1 (λ hs1 hc4=>?_) (λ hs1 hc4=>?_)
   ·refine sA ?_
    cases hs1
    cases hk1
    try dsimp only at h
    refine sA ?_
    have he:=oi h
    subst he
    exact zld ⟨[(6,(I 1))],[],0,39⟩ []
   ·refine sA ?_
    obtain ⟨hp5,hs1⟩:=zla hs1
    have hn5:g591.t13.toNat < a1.length:=by first|omega|(simp;omega)
    refine sA ?_
    refine zlq ?_
    obtain ⟨c605,hr6,hs1⟩:=zk9 hs1
    refine zlh (zju hr6) ?_
    refine sA ?_
    refine zle hs1 (λ hs1 hc7=>?_) (λ hs1 hc7=>?_)
    ·refine sA ?_
     cases hs1
     cases hk1
     try dsimp only at h
     refine sA ?_
     have he:=oi h
     subst he
     exact zld ⟨[(6,(I c605))],[],0,39⟩ []
    ·refine sA ?_
     cases hs1
     exact zll hk1 (zlg [])
  ·refine sA ?_
   cases hs1
   cases hk1
   try dsimp only at h
   refine sA ?_
   refine zle h (λ h hc8=>?_) (λ h hc8=>?_)
   ·refine sA ?_
    have he:=oi h
    subst he
    exact zld ⟨[(6,(I (-1)))],[],0,39⟩ []
   ·refine sA ?_
    have he:=oi h
    subst he
    exact zld ⟨[(6,(I 0))],[],0,39⟩ []
theorem zf7 {a0:(List EventT)} {a1:(List EventT)} {r:Int} (h:zbd a0 a1=some r):Fn Tryz.prog 134 [(.lf true (.sl (a0.map zlk))),(.lf true (.sl (a1.map zlk)))] [] 0 (I r) [] 0:=by
 unfold zbd at h
 refine fc [] Tryz.func134 ?_
 simp only [Tryz.f134]
 refine sA ?_
 obtain ⟨c609,hr1,h⟩:=zk9 h
 refine zlh (zdF hr1) ?_
 refine sA ?_
 have he:=oi h
 subst he
 exact zld ⟨[(4,(I c609))],[],0,8⟩ []
theorem zfR {a0:(List EventT)} {a1:(List EventT)} {r:Bool} (h:zV a0 a1=some r):Fn Tryz.prog 136 [(.lf true (.sl (a0.map zlk))),(.lf true (.sl (a1.map zlk)))] [] 0 (B r) [] 0:=by
 unfold zV at h
 refine fc [(1000,[(0,0),(1,0)]),(1001,[(0,0),(1,0),(10,0)]),(1002,[(4,0)]),(1003,[(0,0),(1,0),(12,0),(13,0)]),(1004,[(0,0),(1,0),(12,0),(13,0),(14,0)]),(1005,[(0,0),(1,0),(5,0),(12,0),(13,0)]),(1006,[(0,0),(1,0),(12,0),(13,0),(24,0)]),(1007,[(4,0)]),(1008,[(0,0),(1,0),(12,0),(13,0)]),(1009,[(4,0)])] Tryz.func136 ?_
 simp only [Tryz.f136]
 refine sA ?_
 refine zle h (λ h hc1=>?_) (λ h hc1=>?_)
 ·refine sA ?_
  have he:=oi h
  subst he
  exact zld ⟨[(4,(B false))],[],0,26⟩ []
 ·refine sA ?_
  obtain ⟨y612,hl2,h⟩:=zk9 h
  refine zlo (λ g611:zak=>⟨[(0,(.lf true (.sl (a0.map zlk)))),(1,(.lf true (.sl (a1.map zlk)))),(12,(I ((a0.length:Nat):Int))),(13,(I g611.t13))],[],0,26⟩) (zo a0 a1) _ _ hl2 (zlg []) ?_
  ·intro n1 g611 z1 hs1 hk1
   unfold zo at hs1
   try dsimp only at hs1
   refine sA ?_
   refine zle hs1 (λ hs1 hc3=>?_) (λ hs1 hc3=>?_)
   ·refine sA ?_
    obtain ⟨hp4,hs1⟩:=zla hs1
    have hn4:g611.t13.toNat < a0.length:=by first|omega|(simp;omega)
    refine sA ?_
    refine zlq ?_
    obtain ⟨hp5,hs1⟩:=zla hs1
    have hn5:g611.t13.toNat < a1.length:=by first|omega|(simp;omega)
    refine sA ?_
    refine zlq ?_
    first | refine And.intro ⟨by kernel_rfl,by kernel_rfl,by kernel_rfl⟩ ?_ | skip
    refine sA ?_
    refine zle hs1 (λ hs1 hc7=>?_) (λ hs1 hc7=>?_)
    ·refine sA ?_
     cases hs1
     cases hk1
     try dsimp only at h
     refine sA ?_
     have he:=oi h
     subst he
     exact zld ⟨[(4,(B false))],[],0,26⟩ []
    ·refine sA ?_
     cases hs1
     exact zll hk1 (zlg [])
   ·refine sA ?_
    cases hs1
    cases hk1
    try dsimp only at h
    refine sA ?_
    have he:=oi h
    subst he
    exact zld ⟨[(4,(B true))],[],0,26⟩ []
theorem zhs {a0:(List EventT)} {a1:(List EventT)} {r:Bool} (h:zeb a0 a1=some r):Fn Tryz.prog 64 [(.lf true (.sl (a0.map zlk))),(.lf true (.sl (a1.map zlk)))] [] 0 (B r) [] 0:=by
 unfold zeb at h
 refine fc [] Tryz.func64 ?_
 simp only [Tryz.f64]
 refine sA ?_
 refine zlt h (λ h hc1=>?_) (λ h hc1=>?_)
 ·refine sA ?_
  obtain ⟨hp2,h⟩:=zla h
  refine sA ?_
  refine zlq ?_
  obtain ⟨c615,hr3,h⟩:=zk9 h
  refine zlh (zfR hr3) ?_
  refine sA ?_
  have he:=oi h
  subst he
  exact zld ⟨[(4,(B c615))],[],0,18⟩ []
 ·refine sA ?_
  have he:=oi h
  subst he
  exact zld ⟨[(4,(B false))],[],0,18⟩ []
theorem zfD {a0:TellingsT} {r:Bool} (h:zaS a0=some r):Fn Tryz.prog 60 [(.ag [(.lf true (.sl (a0.fBr.map zlc)))])] [] 0 (B r) [] 0:=by
 unfold zaS at h
 refine fc [(1000,[(1,0)]),(1001,[(1,0),(10,0)]),(1002,[(2,0)]),(1003,[(1,0),(12,0),(13,0),(14,0)]),(1004,[(1,0),(12,0),(13,0),(14,0),(15,0)]),(1005,[(1,0),(3,0),(4,0),(12,0),(13,0),(14,0)]),(1006,[(1,0),(3,0),(4,0),(12,0),(13,0),(14,0),(22,0)]),(1007,[(2,0)]),(1008,[(1,0),(4,0),(12,0),(13,0),(14,0),(26,0),(27,0),(28,0)]),(1009,[(1,0),(4,0),(12,0),(13,0),(14,0),(26,0),(27,0),(28,0),(29,0)]),(1010,[(1,0),(4,0),(6,0),(12,0),(13,0),(14,0),(26,0),(27,0),(28,0)]),(1011,[(1,0),(4,0),(12,0),(13,0),(14,0),(26,0),(27,0),(28,0),(44,0)]),(1012,[(2,0)]),(1013,[(1,0),(4,0),(12,0),(13,0),(14,0),(26,0),(27,0),(28,0)]),(1014,[(1,0),(12,0),(13,0),(14,0)]),(1015,[(2,0)]),(4011,[])] Tryz.func60 ?_
 simp only [Tryz.f60]
 refine sA ?_
 refine zle h (λ h hc1=>?_) (λ h hc1=>?_)
 ·refine sA ?_
  have he:=oi h
  subst he
  exact zld ⟨[(2,(B false))],[],0,47⟩ []
 ·refine sA ?_
  obtain ⟨y635,hl2,h⟩:=zk9 h
  refine zlo (λ g502:zaO=>⟨[(1,(.pb 0 0)),(12,(.lf true (.sl (a0.fBr.map zlc)))),(13,(I ((a0.fBr.length:Nat):Int))),(14,(I g502.t14))],[(0,some (true,.box [(.lf true (.sl (a0.fBr.map zlc)))]))],1,47⟩) (zaQ a0) _ _ hl2 (zlg [some 0]) ?_
  ·intro n1 g502 z1 hs1 hk1
   unfold zaQ at hs1
   try dsimp only at hs1
   refine sA ?_
   refine zle hs1 (λ hs1 hc3=>?_) (λ hs1 hc3=>?_)
   ·refine sA ?_
    obtain ⟨hp4,hs1⟩:=zla hs1
    have hn4:g502.t14.toNat < a0.fBr.length:=by first|omega|(simp;omega)
    refine sA ?_
    refine zlq ?_
    obtain ⟨c624,hr5,hs1⟩:=zk9 hs1
    refine zlh (zjY hr5) ?_
    refine sA ?_
    refine zle hs1 (λ hs1 hc6=>?_) (λ hs1 hc6=>?_)
    ·refine sA ?_
     cases hs1
     cases hk1
     try dsimp only at h
     refine sA ?_
     have he:=oi h
     subst he
     exact zld ⟨[(2,(B false))],[],0,47⟩ []
    ·refine sA ?_
     obtain ⟨hp7,hs1⟩:=zla hs1
     refine sA ?_
     refine zlq ?_
     obtain ⟨y632,hl8,hs1⟩:=zk9 hs1
     refine zlo (λ g625:zcZ=>⟨[(1,(.pb 0 0)),(4,(.pb 1 0)),(12,(.lf true (.sl (a0.fBr.map zlc)))),(13,(I ((a0.fBr.length:Nat):Int))),(14,(I g502.t14)),(26,(.lf true (.sl ((a0.fBr.take g502.t14.toNat).map zlc)))),(27,(I (((a0.fBr.take g502.t14.toNat).length:Nat):Int))),(28,(I g625.t28))],[(0,some (true,.box [(.lf true (.sl (a0.fBr.map zlc)))])),(1,some (true,.box [(.lf true (.sl (((nth a0.fBr g502.t14.toNat).fEv).map zlk)))]))],2,47⟩) (zaP a0 g502) _ _ hl8 (zlg [some 0,some 1]) ?_
     ·intro n2 g625 z2 hs2 hk2
      unfold zaP at hs2
      try dsimp only at hs2
      refine sA ?_
      refine zle hs2 (λ hs2 hc9=>?_) (λ hs2 hc9=>?_)
      ·refine sA ?_
       obtain ⟨hp10,hs2⟩:=zla hs2
       have hn10:g625.t28.toNat < (a0.fBr.take g502.t14.toNat).length:=by first|omega|(simp;omega)
       refine sA ?_
       refine zlq ?_
       obtain ⟨p631,hq11,hs2⟩:=zk9 hs2
       refine zlS (λ s2=>s2=⟨[(1,(.pb 0 0)),(4,(.pb 1 0)),(12,(.lf true (.sl (a0.fBr.map zlc)))),(13,(I ((a0.fBr.length:Nat):Int))),(14,(I g502.t14)),(26,(.lf true (.sl ((a0.fBr.take g502.t14.toNat).map zlc)))),(27,(I (((a0.fBr.take g502.t14.toNat).length:Nat):Int))),(28,(I g625.t28)),(44,(B p631.t44))],[(0,some (true,.box [(.lf true (.sl (a0.fBr.map zlc)))])),(1,some (true,.box [(.lf true (.sl (((nth a0.fBr g502.t14.toNat).fEv).map zlk)))]))],2,47⟩) ?_ ?_
       ·refine sA ?_
        obtain ⟨c629,hr12,hq11⟩:=zk9 hq11
        refine zlh (zf7 hr12) ?_
        refine sA ?_
        refine zlt hq11 (λ hq11 hc13=>?_) (λ hq11 hc13=>?_)
        ·refine sA ?_
         cases hq11
         exact zlr rfl (zlg [some 0,some 1])
        ·refine sA ?_
         obtain ⟨c630,hr14,hq11⟩:=zk9 hq11
         refine zlh (zhs hr14) ?_
         refine sA ?_
         cases hq11
         exact zlr rfl (zlg [some 0,some 1])
       ·intro s2 hJ;subst hJ
        try dsimp only at hs2
        refine sA ?_
        refine zle hs2 (λ hs2 hc15=>?_) (λ hs2 hc15=>?_)
        ·refine sA ?_
         cases hs2
         cases hk2
         try dsimp only at hs1
         refine sA ?_
         cases hs1
         cases hk1
         try dsimp only at h
         refine sA ?_
         have he:=oi h
         subst he
         exact zld ⟨[(2,(B false))],[],0,47⟩ []
        ·refine sA ?_
         cases hs2
         exact zll hk2 (zlg [some 0,some 1])
      ·refine sA ?_
       cases hs2
       cases hk2
       try dsimp only at hs1
       refine sA ?_
       cases hs1
       exact zll hk1 (zlg [some 0])
   ·refine sA ?_
    cases hs1
    cases hk1
    try dsimp only at h
    refine sA ?_
    have he:=oi h
    subst he
    exact zld ⟨[(2,(B true))],[],0,47⟩ []
theorem zij {a0:EventT} {a1:Int} {r:Bool} (h:zdv a0 a1=some r):Fn Tryz.prog 126 [(.ag [(I a0.Id),(I a0.fVe),(I a0.Kind),(.lf false (.sc (.string a0.Name)))]),(.ra true [.sc (.int .i64 a1)])] [] 0 (B r) [] 0:=by
 unfold zdv at h
 refine fc [] Tryz.func126 ?_
 simp only [Tryz.f126]
 refine sA ?_
 have he:=oi h
 subst he
 exact zld ⟨[(3,(B (decide (a0.fVe > a1))))],[],0,8⟩ []
theorem zdr {a0:(List EventT)} {a1:Int} {r:Int} (h:zA a0 a1=some r):Fn Tryz.prog 173 [(.lf true (.sl (a0.map zlk))),(.fn 126 [(.ra true [.sc (.int .i64 a1)])])] [] 0 (I r) [] 0:=by
 unfold zA at h
 refine fc [(1000,[(0,0),(1,0)]),(1001,[(0,0),(1,0),(7,0),(8,0)]),(1002,[(0,0),(1,0),(7,0),(8,0),(9,0)]),(1003,[(0,0),(1,0),(5,0),(7,0),(8,0)]),(1004,[(0,0),(1,0),(5,0),(7,0),(8,0),(16,0)]),(1005,[(4,0)]),(1006,[(0,0),(1,0),(7,0),(8,0)]),(1007,[(4,0)])] Tryz.func173 ?_
 simp only [Tryz.f173]
 refine sA ?_
 obtain ⟨y644,hl1,h⟩:=zk9 h
 refine zlo (λ g641:zt=>⟨[(0,(.lf true (.sl (a0.map zlk)))),(1,(.fn 126 [(.ra true [.sc (.int .i64 a1)])])),(7,(I ((a0.length:Nat):Int))),(8,(I g641.t8))],[],0,19⟩) (zc a0 a1) _ _ hl1 (zlg []) ?_
 ·intro n1 g641 z1 hs1 hk1
  unfold zc at hs1
  try dsimp only at hs1
  refine sA ?_
  refine zle hs1 (λ hs1 hc2=>?_) (λ hs1 hc2=>?_)
  ·refine sA ?_
   obtain ⟨hp3,hs1⟩:=zla hs1
   have hn3:g641.t8.toNat < a0.length:=by first|omega|(simp;omega)
   refine sA ?_
   refine zlq ?_
   obtain ⟨c643,hr4,hs1⟩:=zk9 hs1
   refine zlh (zij hr4) ?_
   refine sA ?_
   refine zle hs1 (λ hs1 hc5=>?_) (λ hs1 hc5=>?_)
   ·refine sA ?_
    cases hs1
    cases hk1
    try dsimp only at h
    refine sA ?_
    have he:=oi h
    subst he
    exact zld ⟨[(4,(I g641.t8))],[],0,19⟩ []
   ·refine sA ?_
    cases hs1
    exact zll hk1 (zlg [])
  ·refine sA ?_
   cases hs1
   cases hk1
   try dsimp only at h
   refine sA ?_
   have he:=oi h
   subst he
   exact zld ⟨[(4,(I (-1)))],[],0,19⟩ []
theorem zcT {a0:(List EventT)} {a1:Int} {r:Bool} (h:zj a0 a1=some r):Fn Tryz.prog 125 [(.lf true (.sl (a0.map zlk))),(.fn 126 [(.ra true [.sc (.int .i64 a1)])])] [] 0 (B r) [] 0:=by
 unfold zj at h
 refine fc [] Tryz.func125 ?_
 simp only [Tryz.f125]
 refine sA ?_
 obtain ⟨c647,hr1,h⟩:=zk9 h
 refine zlh (zdr hr1) ?_
 refine sA ?_
 have he:=oi h
 subst he
 exact zld ⟨[(4,(B (decide (c647 ≥ 0))))],[],0,9⟩ []
theorem ziZ {a0:BranchT} {a1:Int} {r:Bool} (h:zfa a0 a1=some r):Fn Tryz.prog 124 [(.ag [(.lf true (.sl (a0.fEv.map zlk)))]),(.ra true [.sc (.int .i64 a1)])] [] 0 (B r) [] 0:=by
 unfold zfa at h
 refine fc [] Tryz.func124 ?_
 simp only [Tryz.f124]
 refine sA ?_
 obtain ⟨c648,hr1,h⟩:=zk9 h
 refine zlh (zcT hr1) ?_
 refine sA ?_
 have he:=oi h
 subst he
 exact zld ⟨[(3,(B c648))],[],0,8⟩ []
theorem zdJ {a0:(List BranchT)} {a1:Int} {r:Int} (h:zG a0 a1=some r):Fn Tryz.prog 135 [(.lf true (.sl (a0.map zlc))),(.fn 124 [(.ra true [.sc (.int .i64 a1)])])] [] 0 (I r) [] 0:=by
 unfold zG at h
 refine fc [(1000,[(0,0),(1,0)]),(1001,[(0,0),(1,0),(7,0),(8,0)]),(1002,[(0,0),(1,0),(7,0),(8,0),(9,0)]),(1003,[(0,0),(1,0),(5,0),(7,0),(8,0)]),(1004,[(0,0),(1,0),(5,0),(7,0),(8,0),(16,0)]),(1005,[(4,0)]),(1006,[(0,0),(1,0),(7,0),(8,0)]),(1007,[(4,0)])] Tryz.func135 ?_
 simp only [Tryz.f135]
 refine sA ?_
 obtain ⟨y651,hl1,h⟩:=zk9 h
 refine zlo (λ g640:zx=>⟨[(0,(.lf true (.sl (a0.map zlc)))),(1,(.fn 124 [(.ra true [.sc (.int .i64 a1)])])),(7,(I ((a0.length:Nat):Int))),(8,(I g640.t8))],[],0,19⟩) (ze a0 a1) _ _ hl1 (zlg []) ?_
 ·intro n1 g640 z1 hs1 hk1
  unfold ze at hs1
  try dsimp only at hs1
  refine sA ?_
  refine zle hs1 (λ hs1 hc2=>?_) (λ hs1 hc2=>?_)
  ·refine sA ?_
   obtain ⟨hp3,hs1⟩:=zla hs1
   have hn3:g640.t8.toNat < a0.length:=by first|omega|(simp;omega)
   refine sA ?_
   refine zlq ?_
   obtain ⟨c650,hr4,hs1⟩:=zk9 hs1
   refine zlh (ziZ hr4) ?_
   refine sA ?_
   refine zle hs1 (λ hs1 hc5=>?_) (λ hs1 hc5=>?_)
   ·refine sA ?_
    cases hs1
    cases hk1
    try dsimp only at h
    refine sA ?_
    have he:=oi h
    subst he
    exact zld ⟨[(4,(I g640.t8))],[],0,19⟩ []
   ·refine sA ?_
    cases hs1
    exact zll hk1 (zlg [])
  ·refine sA ?_
   cases hs1
   cases hk1
   try dsimp only at h
   refine sA ?_
   have he:=oi h
   subst he
   exact zld ⟨[(4,(I (-1)))],[],0,19⟩ []
theorem zdf {a0:(List BranchT)} {a1:Int} {r:Bool} (h:zk a0 a1=some r):Fn Tryz.prog 62 [(.lf true (.sl (a0.map zlc))),(.fn 124 [(.ra true [.sc (.int .i64 a1)])])] [] 0 (B r) [] 0:=by
 unfold zk at h
 refine fc [] Tryz.func62 ?_
 simp only [Tryz.f62]
 refine sA ?_
 obtain ⟨c654,hr1,h⟩:=zk9 h
 refine zlh (zdJ hr1) ?_
 refine sA ?_
 have he:=oi h
 subst he
 exact zld ⟨[(4,(B (decide (c654 ≥ 0))))],[],0,9⟩ []
theorem ziB {a0:Int} {a1:TellingsT} {r:Bool} (h:zfv a0 a1=some r):Fn Tryz.prog 53 [(I a0),(.ag [(.lf true (.sl (a1.fBr.map zlc)))])] [] 0 (B r) [] 0:=by
 unfold zfv at h
 refine fc [(1000,[(2,0),(3,0)]),(1001,[(2,0),(3,0),(12,0)]),(1002,[(4,0)]),(1003,[(4,0)]),(4001,[])] Tryz.func53 ?_
 simp only [Tryz.f53]
 refine sA ?_
 obtain ⟨p639,hq1,h⟩:=zk9 h
 refine zlS (λ s2=>s2=⟨[(2,(.pb 0 0)),(3,(.pb 1 0)),(12,(B p639.t12))],[(0,some (true,.box [(I a0)])),(1,some (true,.box [(.lf true (.sl (a1.fBr.map zlc)))]))],2,18⟩) ?_ ?_
 ·refine sA ?_
  obtain ⟨c501,hr2,hq1⟩:=zk9 hq1
  refine zlh (zhR hr2) ?_
  refine sA ?_
  refine zlt hq1 (λ hq1 hc3=>?_) (λ hq1 hc3=>?_)
  ·refine sA ?_
   cases hq1
   exact zlr rfl (zlg [some 0,some 1])
  ·refine sA ?_
   obtain ⟨c638,hr4,hq1⟩:=zk9 hq1
   refine zlh (zfD hr4) ?_
   refine sA ?_
   cases hq1
   exact zlr rfl (zlg [some 0,some 1])
 ·intro s2 hJ;subst hJ
  try dsimp only at h
  refine sA ?_
  refine zle h (λ h hc5=>?_) (λ h hc5=>?_)
  ·refine sA ?_
   have he:=oi h
   subst he
   exact zld ⟨[(4,(B false))],[],0,18⟩ []
  ·refine sA ?_
   obtain ⟨c655,hr6,h⟩:=zk9 h
   refine zlh (zdf hr6) ?_
   refine sA ?_
   have he:=oi h
   subst he
   exact zld ⟨[(4,(B (!c655)))],[],0,18⟩ []
theorem zjv {a0:RegionT} {r:Bool} (h:zcx a0=some r):Fn Tryz.prog 12 [(.ag [(I a0.Id),(I a0.fVe),(.lf true (.sl (a0.fTe.fBr.map zlc)))])] [] 0 (B r) [] 0:=by
 unfold zcx at h
 refine fc [] Tryz.func12 ?_
 simp only [Tryz.f12]
 refine sA ?_
 obtain ⟨c499,hr1,h⟩:=zk9 h
 refine zlh (zkp hr1) ?_
 refine sA ?_
 refine zlt h (λ h hc2=>?_) (λ h hc2=>?_)
 ·refine sA ?_
  obtain ⟨c656,hr3,h⟩:=zk9 h
  refine zlh (ziB hr3) ?_
  refine sA ?_
  have he:=oi h
  subst he
  exact zld ⟨[(2,(B c656))],[],0,13⟩ []
 ·refine sA ?_
  have he:=oi h
  subst he
  exact zld ⟨[(2,(B false))],[],0,13⟩ []
theorem zkO {a0:Int} {r:Bool} (h:zgY a0=some r):Fn Tryz.prog 95 [(I a0)] [] 0 (B r) [] 0:=by
 unfold zgY at h
 refine fc [] Tryz.func95 ?_
 simp only [Tryz.f95]
 refine sA ?_
 obtain ⟨c665,hr1,h⟩:=zk9 h
 refine zlh (ze2 hr1) ?_
 refine sA ?_
 have he:=oi h
 subst he
 exact zld ⟨[(2,(B c665))],[],0,5⟩ []
theorem ziG {a0:SaidT} {r:Bool} (h:zeo a0=some r):Fn Tryz.prog 94 [(.ag [(I a0.To),(I a0.Word.fVe),(.lf true (.sl (a0.Word.fTe.fBr.map zlc)))])] [] 0 (B r) [] 0:=by
 unfold zeo at h
 refine fc [] Tryz.func94 ?_
 simp only [Tryz.f94]
 refine sA ?_
 obtain ⟨c666,hr1,h⟩:=zk9 h
 refine zlh (zkO hr1) ?_
 refine sA ?_
 refine zlt h (λ h hc2=>?_) (λ h hc2=>?_)
 ·refine sA ?_
  have he:=oi h
  subst he
  exact zld ⟨[(2,(B true))],[],0,17⟩ []
 ·refine sA ?_
  obtain ⟨c667,hr3,h⟩:=zk9 h
  refine zlh (ziB hr3) ?_
  refine sA ?_
  have he:=oi h
  subst he
  exact zld ⟨[(2,(B (!c667)))],[],0,17⟩ []
theorem zdK {a0:(List SaidT)} {r:Int} (h:zH a0=some r):Fn Tryz.prog 162 [(.lf true (.sl (a0.map zlz))),(.fn 94 [])] [] 0 (I r) [] 0:=by
 unfold zH at h
 refine fc [(1000,[(0,0),(1,0)]),(1001,[(0,0),(1,0),(7,0),(8,0)]),(1002,[(0,0),(1,0),(7,0),(8,0),(9,0)]),(1003,[(0,0),(1,0),(5,0),(7,0),(8,0)]),(1004,[(0,0),(1,0),(5,0),(7,0),(8,0),(16,0)]),(1005,[(4,0)]),(1006,[(0,0),(1,0),(7,0),(8,0)]),(1007,[(4,0)])] Tryz.func162 ?_
 simp only [Tryz.f162]
 refine sA ?_
 obtain ⟨y670,hl1,h⟩:=zk9 h
 refine zlo (λ g664:zy=>⟨[(0,(.lf true (.sl (a0.map zlz)))),(1,(.fn 94 [])),(7,(I ((a0.length:Nat):Int))),(8,(I g664.t8))],[],0,19⟩) (zf a0) _ _ hl1 (zlg []) ?_
 ·intro n1 g664 z1 hs1 hk1
  unfold zf at hs1
  try dsimp only at hs1
  refine sA ?_
  refine zle hs1 (λ hs1 hc2=>?_) (λ hs1 hc2=>?_)
  ·refine sA ?_
   obtain ⟨hp3,hs1⟩:=zla hs1
   have hn3:g664.t8.toNat < a0.length:=by first|omega|(simp;omega)
   refine sA ?_
   refine zlq ?_
   obtain ⟨c669,hr4,hs1⟩:=zk9 hs1
   refine zlh (ziG hr4) ?_
   refine sA ?_
   refine zle hs1 (λ hs1 hc5=>?_) (λ hs1 hc5=>?_)
   ·refine sA ?_
    cases hs1
    cases hk1
    try dsimp only at h
    refine sA ?_
    have he:=oi h
    subst he
    exact zld ⟨[(4,(I g664.t8))],[],0,19⟩ []
   ·refine sA ?_
    cases hs1
    exact zll hk1 (zlg [])
  ·refine sA ?_
   cases hs1
   cases hk1
   try dsimp only at h
   refine sA ?_
   have he:=oi h
   subst he
   exact zld ⟨[(4,(I (-1)))],[],0,19⟩ []
theorem zdg {a0:(List SaidT)} {r:Bool} (h:zm a0=some r):Fn Tryz.prog 93 [(.lf true (.sl (a0.map zlz))),(.fn 94 [])] [] 0 (B r) [] 0:=by
 unfold zm at h
 refine fc [] Tryz.func93 ?_
 simp only [Tryz.f93]
 refine sA ?_
 obtain ⟨c673,hr1,h⟩:=zk9 h
 refine zlh (zdK hr1) ?_
 refine sA ?_
 have he:=oi h
 subst he
 exact zld ⟨[(4,(B (decide (c673 ≥ 0))))],[],0,9⟩ []
theorem zjZ {a0:WorldT} {r:Bool} (h:zeO a0=some r):Fn Tryz.prog 33 [(.ag [(.lf true (.sl (a0.fRe.map zlj))),(.lf true (.sl (a0.Line.map zlz)))])] [] 0 (B r) [] 0:=by
 unfold zeO at h
 refine fc [(1000,[(1,0)]),(1001,[(1,0),(14,0)]),(1002,[(2,0)]),(1003,[(1,0),(16,0),(17,0),(18,0)]),(1004,[(1,0),(16,0),(17,0),(18,0),(19,0)]),(1005,[(1,0),(3,0),(4,0),(16,0),(17,0),(18,0)]),(1006,[(1,0),(16,0),(17,0),(18,0),(31,0)]),(1007,[(2,0)]),(1008,[(1,0),(16,0),(17,0),(18,0)]),(1009,[(2,0)]),(4001,[]),(4006,[])] Tryz.func33 ?_
 simp only [Tryz.f33]
 refine sA ?_
 obtain ⟨p496,hq1,h⟩:=zk9 h
 refine zlS (λ s2=>s2=⟨[(1,(.pb 0 0)),(14,(B p496.t14))],[(0,some (true,.box [(.lf true (.sl (a0.fRe.map zlj))),(.lf true (.sl (a0.Line.map zlz)))]))],1,37⟩) ?_ ?_
 ·refine sA ?_
  refine zlt hq1 (λ hq1 hc2=>?_) (λ hq1 hc2=>?_)
  ·refine sA ?_
   cases hq1
   exact zlr rfl (zlg [some 0])
  ·refine sA ?_
   cases hq1
   exact zlr rfl (zlg [some 0])
 ·intro s2 hJ;subst hJ
  try dsimp only at h
  refine sA ?_
  refine zle h (λ h hc3=>?_) (λ h hc3=>?_)
  ·refine sA ?_
   have he:=oi h
   subst he
   exact zld ⟨[(2,(B false))],[],0,37⟩ []
  ·refine sA ?_
   obtain ⟨y661,hl4,h⟩:=zk9 h
   refine zlo (λ g497:zep=>⟨[(1,(.pb 0 0)),(16,(.lf true (.sl (a0.fRe.map zlj)))),(17,(I ((a0.fRe.length:Nat):Int))),(18,(I g497.t18))],[(0,some (true,.box [(.lf true (.sl (a0.fRe.map zlj))),(.lf true (.sl (a0.Line.map zlz)))]))],1,37⟩) (zbN a0) _ _ hl4 (zlg [some 0]) ?_
   ·intro n1 g497 z1 hs1 hk1
    unfold zbN at hs1
    try dsimp only at hs1
    refine sA ?_
    refine zle hs1 (λ hs1 hc5=>?_) (λ hs1 hc5=>?_)
    ·refine sA ?_
     obtain ⟨hp6,hs1⟩:=zla hs1
     have hn6:g497.t18.toNat < a0.fRe.length:=by first|omega|(simp;omega)
     refine sA ?_
     refine zlq ?_
     obtain ⟨p660,hq7,hs1⟩:=zk9 hs1
     refine zlS (λ s2=>s2=⟨[(1,(.pb 0 0)),(16,(.lf true (.sl (a0.fRe.map zlj)))),(17,(I ((a0.fRe.length:Nat):Int))),(18,(I g497.t18)),(31,(B p660.t31))],[(0,some (true,.box [(.lf true (.sl (a0.fRe.map zlj))),(.lf true (.sl (a0.Line.map zlz)))]))],1,37⟩) ?_ ?_
     ·refine sA ?_
      refine zlt hq7 (λ hq7 hc8=>?_) (λ hq7 hc8=>?_)
      ·refine sA ?_
       cases hq7
       exact zlr rfl (zlg [some 0])
      ·refine sA ?_
       obtain ⟨c659,hr9,hq7⟩:=zk9 hq7
       refine zlh (zjv hr9) ?_
       refine sA ?_
       cases hq7
       exact zlr rfl (zlg [some 0])
     ·intro s2 hJ;subst hJ
      try dsimp only at hs1
      refine sA ?_
      refine zle hs1 (λ hs1 hc10=>?_) (λ hs1 hc10=>?_)
      ·refine sA ?_
       cases hs1
       cases hk1
       try dsimp only at h
       refine sA ?_
       have he:=oi h
       subst he
       exact zld ⟨[(2,(B false))],[],0,37⟩ []
      ·refine sA ?_
       cases hs1
       exact zll hk1 (zlg [some 0])
    ·refine sA ?_
     cases hs1
     cases hk1
     try dsimp only at h
     refine sA ?_
     obtain ⟨c675,hr11,h⟩:=zk9 h
     refine zlh (zdg hr11) ?_
     refine sA ?_
     have he:=oi h
     subst he
     exact zld ⟨[(2,(B (!c675)))],[],0,37⟩ []
theorem zat {a0:(List EventT)} {r:(List EventT)} (h:zh a0=some r):Fn Tryz.prog 174 [(.lf true (.sl (a0.map zlk)))] [] 0 (.os 0 4 0 r.length r.length false) [(0,some (true,.arr false 4 (r.map zlk)))] 1:=by
 unfold zh at h
 obtain ⟨hp,h⟩:=zla h
 have he:=oi h;subst he
 refine fc [] Tryz.func174 ?_
 simp only [Tryz.f174]
 simp (disch:=assumption) only [go_sem,qA,qB,qC,qD,↓reduceIte,qE,reduceCtorEq,qF,qH,qI,qJ,qK,qG]
 intro b hb
 refine zrJ (b=true) (by simp) (λ hc=>?_) (λ hc=>?_)
 ·have h0:a0=[]:=by simpa using hb (by simpa using hc)
  subst h0
  try simp (disch:=assumption) only [go_sem,qA,qB,qC,qD,↓reduceIte,qE,reduceCtorEq,qF,qH,qI,qJ,qK,qG]
  refine zl0 ⟨[(2,(.os 0 4 0 0 0 false))],[(0,some (true,.arr false 4 (([]:List EventT).map zlk)))],1,8⟩ (zlB (m:=0) [none] rfl rfl rfl (by rfl) ?_ ?_) ?_
  all_goals ((try simp (disch:=assumption) only [go_sem,qA,qB,qC,qD,↓reduceIte,qE,reduceCtorEq,qF,qH,qI,qJ,qK,qG]);(repeat' first | done | rfl | omega | refine And.intro ?_ ?_ | (simp;done) | (simp;omega)))
 ·try simp (disch:=assumption) only [go_sem,qA,qB,qC,qD,↓reduceIte,qE,reduceCtorEq,qF,qH,qI,qJ,qK,qG]
  first | refine And.intro (by first | omega | exact ⟨by omega,λ _=>zpu λ _=>rfl⟩ | (refine ⟨?_,by omega⟩;first | exact zpu λ _=>rfl | simp)) ?_ | skip
  try simp (disch:=assumption) only [go_sem,qA,qB,qC,qD,↓reduceIte,qE,reduceCtorEq,qF,qH,qI,qJ,qK,qG]
  refine zl0 ⟨[(2,(.os 0 4 0 a0.length a0.length false))],[(0,some (true,.arr false 4 (a0.map zlk)))],1,8⟩ (zlB (m:=0) [some 1] rfl rfl rfl (by rfl) ?_ ?_) ?_
  all_goals ((try simp (disch:=assumption) only [go_sem,qA,qB,qC,qD,↓reduceIte,qE,reduceCtorEq,qF,qH,qI,qJ,qK,qG]);(repeat' first | done | rfl | omega | refine And.intro ?_ ?_ | (simp;done) | (simp;omega)))
theorem zbE {a0:TellingsT} {r:TellingsT} (h:zY a0=some r):Fn Tryz.prog 127 [(.ag [(.lf true (.sl (a0.fBr.map zlc)))])] [] 0 (.ag [(.os 0 1 0 r.fBr.length r.fBr.length false)]) [(0,some (true,.deep [.sl [.sc,.sc,.sc,.sc]] (r.fBr.map zlc)))] 2:=by
 unfold zY at h
 refine fc [(5,[(1,4),(1,6)]),(1000,[(1,0),(2,0)]),(1001,[(1,0),(2,0),(3,0)]),(1002,[(2,0),(3,0),(8,0),(9,0),(10,0)]),(1003,[(2,0),(3,0),(8,0),(9,0),(10,0),(11,0)]),(1004,[(2,0),(3,0),(5,0),(8,0),(9,0),(10,0)]),(1005,[(2,0),(3,0),(8,0),(9,0),(10,0)]),(1006,[(2,0),(3,0),(8,0),(9,0),(10,0)]),(1007,[(2,0)])] Tryz.func127 ?_
 simp only [Tryz.f127]
 refine sA ?_
 obtain ⟨y681,hl1,h⟩:=zk9 h
 refine zlo (λ g678:zcE=>⟨[(2,(.pb 0 0)),(3,(.pb 1 0)),(8,(.lf true (.sl (a0.fBr.map zlc)))),(9,(I ((a0.fBr.length:Nat):Int))),(10,(I g678.t10))],[(0,some (true,.box [.nl])),(1,some (true,.box [(.os 2 1 0 g678.c2.length g678.c2.length false)])),(2,some (true,.deep [.sl [.sc,.sc,.sc,.sc]] (g678.c2.map zlc)))],3,25⟩) (zaw a0) _ _ hl1 (zlg [some 1,some 2,none]) ?_
 ·intro n1 g678 z1 hs1 hk1
  unfold zaw at hs1
  try dsimp only at hs1
  refine sA ?_
  refine zle hs1 (λ hs1 hc2=>?_) (λ hs1 hc2=>?_)
  ·refine sA ?_
   obtain ⟨hp3,hs1⟩:=zla hs1
   have hn3:g678.t10.toNat < a0.fBr.length:=by first|omega|(simp;omega)
   refine sA ?_
   refine zlq ?_
   obtain ⟨c680,hr4,hs1⟩:=zk9 hs1
   refine zlh (zat hr4) ?_
   refine sA ?_
   obtain ⟨hp5,hs1⟩:=zla hs1
   refine sA ?_
   refine zlq ?_
   cases hs1
   exact zll hk1 (zn7 6 (zlg [some 0,some 1,some 6]))
  ·refine sA ?_
   cases hs1
   cases hk1
   try dsimp only at h
   refine sA ?_
   have he:=oi h
   subst he
   exact zld ⟨[(2,(.pb 1 0))],[(0,some (true,.deep [.sl [.sc,.sc,.sc,.sc]] (g678.c2.map zlc))),(1,some (true,.box [(.os 0 1 0 g678.c2.length g678.c2.length false)]))],2,25⟩ [some 2,some 0]
theorem zi0 {a0:RegionT} {r:RegionT} (h:zfb a0=some r):Fn Tryz.prog 54 [(.ag [(I a0.Id),(I a0.fVe),(.lf true (.sl (a0.fTe.fBr.map zlc)))])] [] 0 (.ag [(I r.Id),(I r.fVe),(.os 0 1 0 r.fTe.fBr.length r.fTe.fBr.length false)]) [(0,some (true,.deep [.sl [.sc,.sc,.sc,.sc]] (r.fTe.fBr.map zlc)))] 2:=by
 unfold zfb at h
 refine fc [(1000,[(1,0),(2,0)]),(1001,[(1,0),(2,0)]),(1002,[(2,0)])] Tryz.func54 ?_
 simp only [Tryz.f54]
 refine sA ?_
 obtain ⟨c682,hr1,h⟩:=zk9 h
 refine zlh (zbE hr1) ?_
 refine sA ?_
 have he:=oi h
 subst he
 exact zld ⟨[(2,(.pb 1 0))],[(0,some (true,.deep [.sl [.sc,.sc,.sc,.sc]] (c682.fBr.map zlc))),(1,some (true,.box [(I a0.Id),(I a0.fVe),(.os 0 1 0 c682.fBr.length c682.fBr.length false)]))],2,8⟩ [some 2,some 1]
theorem zj0 {a0:SaidT} {r:SaidT} (h:zgf a0=some r):Fn Tryz.prog 167 [(.ag [(I a0.To),(I a0.Word.fVe),(.lf true (.sl (a0.Word.fTe.fBr.map zlc)))])] [] 0 (.ag [(I r.To),(I r.Word.fVe),(.os 0 1 0 r.Word.fTe.fBr.length r.Word.fTe.fBr.length false)]) [(0,some (true,.deep [.sl [.sc,.sc,.sc,.sc]] (r.Word.fTe.fBr.map zlc)))] 2:=by
 unfold zgf at h
 refine fc [(1000,[(1,0),(2,0)]),(1001,[(1,0),(2,0)]),(1002,[(2,0)])] Tryz.func167 ?_
 simp only [Tryz.f167]
 refine sA ?_
 obtain ⟨c687,hr1,h⟩:=zk9 h
 refine zlh (zbE hr1) ?_
 refine sA ?_
 have he:=oi h
 subst he
 exact zld ⟨[(2,(.pb 1 0))],[(0,some (true,.deep [.sl [.sc,.sc,.sc,.sc]] (c687.fBr.map zlc))),(1,some (true,.box [(I a0.To),(I a0.Word.fVe),(.os 0 1 0 c687.fBr.length c687.fBr.length false)]))],2,10⟩ [some 2,some 1]
theorem zhF {a0:WorldT} {r:WorldT} (h:zcJ a0=some r):Fn Tryz.prog 103 [(.ag [(.lf true (.sl (a0.fRe.map zlj))),(.lf true (.sl (a0.Line.map zlz)))])] [] 0 (.ag [(.os 0 3 0 r.fRe.length r.fRe.length false),(.os 1 3 0 r.Line.length r.Line.length false)]) [(0,some (true,.deep [.sc,.sc,.sl [.sl [.sc,.sc,.sc,.sc]]] (r.fRe.map zlj))),(1,some (true,.deep [.sc,.sc,.sl [.sl [.sc,.sc,.sc,.sc]]] (r.Line.map zlz)))] 3:=by
 unfold zcJ at h
 refine fc [(5,[(1,3),(1,4)]),(10,[(1,3),(1,4)]),(1000,[(1,0),(2,0)]),(1001,[(1,0),(2,0),(3,0)]),(1002,[(1,0),(2,0),(3,0),(10,0),(11,0),(12,0)]),(1003,[(1,0),(2,0),(3,0),(10,0),(11,0),(12,0),(13,0)]),(1004,[(1,0),(2,0),(3,0),(5,0),(10,0),(11,0),(12,0)]),(1005,[(1,0),(2,0),(3,0),(10,0),(11,0),(12,0)]),(1006,[(1,0),(2,0),(3,0),(10,0),(11,0),(12,0)]),(1007,[(2,0),(3,0),(25,0),(26,0),(27,0)]),(1008,[(2,0),(3,0),(25,0),(26,0),(27,0),(28,0)]),(1009,[(2,0),(3,0),(7,0),(25,0),(26,0),(27,0)]),(1010,[(2,0),(3,0),(25,0),(26,0),(27,0)]),(1011,[(2,0),(3,0),(25,0),(26,0),(27,0)]),(1012,[(2,0)])] Tryz.func103 ?_
 simp only [Tryz.f103]
 refine sA ?_
 obtain ⟨y685,hl1,h⟩:=zk9 h
 refine zlo (λ g677:zd5=>⟨[(1,(.pb 0 0)),(2,(.pb 1 0)),(3,(.pb 2 0)),(10,(.lf true (.sl (a0.fRe.map zlj)))),(11,(I ((a0.fRe.length:Nat):Int))),(12,(I g677.t12))],[(0,some (true,.box [(.lf true (.sl (a0.fRe.map zlj))),(.lf true (.sl (a0.Line.map zlz)))])),(1,some (true,.box [.nl,.nl])),(2,some (true,.box [(.os 3 3 0 g677.c3.length g677.c3.length false),.nl])),(3,some (true,.deep [.sc,.sc,.sl [.sl [.sc,.sc,.sc,.sc]]] (g677.c3.map zlj)))],4,40⟩) (zaE a0) _ _ hl1 (zlg [some 0,some 1,some 2,none]) ?_
 ·intro n1 g677 z1 hs1 hk1
  unfold zaE at hs1
  try dsimp only at hs1
  refine sA ?_
  refine zle hs1 (λ hs1 hc2=>?_) (λ hs1 hc2=>?_)
  ·refine sA ?_
   obtain ⟨hp3,hs1⟩:=zla hs1
   have hn3:g677.t12.toNat < a0.fRe.length:=by first|omega|(simp;omega)
   refine sA ?_
   refine zlq ?_
   obtain ⟨c684,hr4,hs1⟩:=zk9 hs1
   refine zlh (zi0 hr4) ?_
   refine sA ?_
   obtain ⟨hp5,hs1⟩:=zla hs1
   refine sA ?_
   refine zlq ?_
   cases hs1
   exact zll hk1 (zn7 8 (zlg [some 0,some 1,some 2,some 8]))
  ·refine sA ?_
   cases hs1
   cases hk1
   try dsimp only at h
   refine sA ?_
   obtain ⟨y694,hl6,h⟩:=zk9 h
   refine zlo (λ g691:zd6=>⟨[(2,(.pb 0 0)),(3,(.pb 1 0)),(25,(.lf true (.sl (a0.Line.map zlz)))),(26,(I ((a0.Line.length:Nat):Int))),(27,(I g691.t27))],[(0,some (true,.box [.nl,.nl])),(1,some (true,.box [(.os 2 3 0 g677.c3.length g677.c3.length false),(.os 3 3 0 g691.c3.length g691.c3.length false)])),(2,some (true,.deep [.sc,.sc,.sl [.sl [.sc,.sc,.sc,.sc]]] (g677.c3.map zlj))),(3,some (true,.deep [.sc,.sc,.sl [.sl [.sc,.sc,.sc,.sc]]] (g691.c3.map zlz)))],4,40⟩) (_) _ _ hl6 (zlg [some 1,some 2,some 3,none]) ?_
   ·intro n3 g691 z3 hs3 hk3
    unfold zbp at hs3
    try dsimp only at hs3
    refine sA ?_
    refine zle hs3 (λ hs3 hc7=>?_) (λ hs3 hc7=>?_)
    ·refine sA ?_
     obtain ⟨hp8,hs3⟩:=zla hs3
     have hn8:g691.t27.toNat < a0.Line.length:=by first|omega|(simp;omega)
     refine sA ?_
     refine zlq ?_
     obtain ⟨c693,hr9,hs3⟩:=zk9 hs3
     refine zlh (zj0 hr9) ?_
     refine sA ?_
     obtain ⟨hp10,hs3⟩:=zla hs3
     refine sA ?_
     refine zlq ?_
     cases hs3
     exact zll hk3 (zn7 8 (zlg [some 0,some 1,some 2,some 8]))
    ·refine sA ?_
     cases hs3
     cases hk3
     try dsimp only at h
     refine sA ?_
     have he:=oi h
     subst he
     exact zld ⟨[(2,(.pb 2 0))],[(0,some (true,.deep [.sc,.sc,.sl [.sl [.sc,.sc,.sc,.sc]]] (g677.c3.map zlj))),(1,some (true,.deep [.sc,.sc,.sl [.sl [.sc,.sc,.sc,.sc]]] (g691.c3.map zlz))),(2,some (true,.box [(.os 0 3 0 g677.c3.length g677.c3.length false),(.os 1 3 0 g691.c3.length g691.c3.length false)]))],3,40⟩ [some 2,some 3,some 0]
theorem zg4 {a0:RegionT} {r:WordT} (h:zaf a0=some r):Fn Tryz.prog 72 [(.ra true [.sc (.int .i64 a0.Id),.sc (.int .i64 a0.fVe),.sl (a0.fTe.fBr.map zlc)])] [] 0 (.ag [(I r.fVe),(.os 0 1 0 r.fTe.fBr.length r.fTe.fBr.length false)]) [(0,some (true,.deep [.sl [.sc,.sc,.sc,.sc]] (r.fTe.fBr.map zlc)))] 2:=by
 unfold zaf at h
 refine fc [(1,[(3,8)])] Tryz.func72 ?_
 simp only [Tryz.f72]
 refine sA ?_
 obtain ⟨c698,hr1,h⟩:=zk9 h
 refine zlh (zbE hr1) ?_
 refine sA ?_
 have he:=oi h
 subst he
 exact zld ⟨[(2,(.pb 1 0))],[(0,some (true,.deep [.sl [.sc,.sc,.sc,.sc]] (c698.fBr.map zlc))),(1,some (true,.box [(I a0.fVe),(.os 0 1 0 c698.fBr.length c698.fBr.length false)]))],2,13⟩ [some 1,some 0]
theorem zjw {a0:BranchT} {a1:(List EventT)} {r:Bool} (h:zfP a0 a1=some r):Fn Tryz.prog 216 [(.ag [(.lf true (.sl (a0.fEv.map zlk)))]),(.ra true [.sl (a1.map zlk)])] [] 0 (B r) [] 0:=by
 unfold zfP at h
 refine fc [] Tryz.func216 ?_
 simp only [Tryz.f216]
 refine sA ?_
 obtain ⟨c707,hr1,h⟩:=zk9 h
 refine zlh (zhs hr1) ?_
 refine sA ?_
 have he:=oi h
 subst he
 exact zld ⟨[(3,(B c707))],[],0,8⟩ []
theorem zd9 {a0:(List BranchT)} {a1:(List EventT)} {r:Int} (h:zK a0 a1=some r):Fn Tryz.prog 135 [(.lf true (.sl (a0.map zlc))),(.fn 216 [(.ra true [.sl (a1.map zlk)])])] [] 0 (I r) [] 0:=by
 unfold zK at h
 refine fc [(1000,[(0,0),(1,0)]),(1001,[(0,0),(1,0),(7,0),(8,0)]),(1002,[(0,0),(1,0),(7,0),(8,0),(9,0)]),(1003,[(0,0),(1,0),(5,0),(7,0),(8,0)]),(1004,[(0,0),(1,0),(5,0),(7,0),(8,0),(16,0)]),(1005,[(4,0)]),(1006,[(0,0),(1,0),(7,0),(8,0)]),(1007,[(4,0)])] Tryz.func135 ?_
 simp only [Tryz.f135]
 refine sA ?_
 obtain ⟨y710,hl1,h⟩:=zk9 h
 refine zlo (λ g706:zB=>⟨[(0,(.lf true (.sl (a0.map zlc)))),(1,(.fn 216 [(.ra true [.sl (a1.map zlk)])])),(7,(I ((a0.length:Nat):Int))),(8,(I g706.t8))],[],0,19⟩) (zg a0 a1) _ _ hl1 (zlg []) ?_
 ·intro n1 g706 z1 hs1 hk1
  unfold zg at hs1
  try dsimp only at hs1
  refine sA ?_
  refine zle hs1 (λ hs1 hc2=>?_) (λ hs1 hc2=>?_)
  ·refine sA ?_
   obtain ⟨hp3,hs1⟩:=zla hs1
   have hn3:g706.t8.toNat < a0.length:=by first|omega|(simp;omega)
   refine sA ?_
   refine zlq ?_
   obtain ⟨c709,hr4,hs1⟩:=zk9 hs1
   refine zlh (zjw hr4) ?_
   refine sA ?_
   refine zle hs1 (λ hs1 hc5=>?_) (λ hs1 hc5=>?_)
   ·refine sA ?_
    cases hs1
    cases hk1
    try dsimp only at h
    refine sA ?_
    have he:=oi h
    subst he
    exact zld ⟨[(4,(I g706.t8))],[],0,19⟩ []
   ·refine sA ?_
    cases hs1
    exact zll hk1 (zlg [])
  ·refine sA ?_
   cases hs1
   cases hk1
   try dsimp only at h
   refine sA ?_
   have he:=oi h
   subst he
   exact zld ⟨[(4,(I (-1)))],[],0,19⟩ []
theorem zds {a0:(List BranchT)} {a1:(List EventT)} {r:Bool} (h:zn a0 a1=some r):Fn Tryz.prog 62 [(.lf true (.sl (a0.map zlc))),(.fn 216 [(.ra true [.sl (a1.map zlk)])])] [] 0 (B r) [] 0:=by
 unfold zn at h
 refine fc [] Tryz.func62 ?_
 simp only [Tryz.f62]
 refine sA ?_
 obtain ⟨c713,hr1,h⟩:=zk9 h
 refine zlh (zd9 hr1) ?_
 refine sA ?_
 have he:=oi h
 subst he
 exact zld ⟨[(4,(B (decide (c713 ≥ 0))))],[],0,9⟩ []
theorem zjx {a0:BranchT} {a1:(List EventT)} {r:Bool} (h:zaX a0 a1=some r):Fn Tryz.prog 218 [(.ag [(.lf true (.sl (a0.fEv.map zlk)))]),(.ra true [.sl (a1.map zlk)])] [] 0 (B r) [] 0:=by
 unfold zaX at h
 refine fc [] Tryz.func218 ?_
 simp only [Tryz.f218]
 refine sA ?_
 obtain ⟨c715,hr1,h⟩:=zk9 h
 refine zlh (zhs hr1) ?_
 refine sA ?_
 have he:=oi h
 subst he
 exact zld ⟨[(3,(B c715))],[],0,8⟩ []
theorem zf8 {a0:List BranchT} {a1:List EventT} {m0:Nat} {x0:Bool} {r:List BranchT} (h:zO a0 a1=some r):Fn Tryz.prog 217 [(.os 0 1 0 a0.length m0 x0),(.fn 218 [(.pb 1 0)])] [(0,some (false,.deep [.sl [.sc,.sc,.sc,.sc]] (a0.map zlc))),(1,some (false,.box [(.lf true (.sl (a1.map zlk)))]))] 2 (.os 0 1 0 r.length r.length false) [(0,some (false,.deep [.sl [.sc,.sc,.sc,.sc]] (r.map zlc))),(1,some (false,.box [(.lf true (.sl (a1.map zlk)))]))] 2:=by
 unfold zO at h
 obtain ⟨⟨hp1,hp2⟩,h⟩:=zla h
 have he:=oi h;subst he
 refine zBN (E:=zlc) (X:=λ b:BranchT=>.sl (b.fEv.map zlk)) (λ _=>rfl) (p:=λ b=>(zaX b a1).getD false) (λ x y e=>by rw [zBM e]) (enters_of (P:=Tryz.prog) Tryz.func218 (by kernel_rfl) rfl) (λ b hb=>?_) hp1
 have hs:=List.all_eq_true.1 hp2 b hb
 obtain ⟨v,hv⟩:=Option.isSome_iff_exists.1 hs
 rw [hv]
 exact ⟨_,zjx hv⟩
theorem zkr {a0:BranchT} {a1:BranchT} {r:Int} (h:zgD a0 a1=some r):Fn Tryz.prog 220 [(.ag [(.lf true (.sl (a0.fEv.map zlk)))]),(.ag [(.lf true (.sl (a1.fEv.map zlk)))])] [] 0 (I r) [] 0:=by
 unfold zgD at h
 refine fc [] Tryz.func220 ?_
 simp only [Tryz.f220]
 refine sA ?_
 obtain ⟨c722,hr1,h⟩:=zk9 h
 refine zlh (zf7 hr1) ?_
 refine sA ?_
 have he:=oi h
 subst he
 exact zld ⟨[(4,(I c722))],[],0,10⟩ []
theorem zgo {a0:List BranchT} {m0:Nat} {x0:Bool} {r:List BranchT} (h:zS a0=some r):Fn Tryz.prog 219 [(.os 0 1 0 a0.length m0 x0),(.fn 220 [])] [(0,some (false,.deep [.sl [.sc,.sc,.sc,.sc]] (a0.map zlc)))] 1 (.tu []) [(0,some (false,.deep [.sl [.sc,.sc,.sc,.sc]] (r.map zlc)))] 1:=by
 unfold zS at h
 obtain ⟨⟨hp1,hp2,hp3⟩,h⟩:=zla h
 have he:=oi h;subst he
 have e1:Ent Tryz.prog (Tryz.sortB_ren.f 6):=(Ent.of Tryz.func219 rfl (by simp [Tryz.f219]):Ent Tryz.prog 219)
 have e2:=enters_of (P:=Tryz.prog) Tryz.func220 (by kernel_rfl) rfl
 have key:=zAD (s:=.sl [.sc,.sc,.sc,.sc]) (E:=zlc) (X:=λ b:BranchT=>.sl (b.fEv.map zlk)) Go.Proofs.Tryz.sortB e1 Tryz.sortBAgg Tryz.sortBSize (λ _=>rfl) (cf:=λ a b=>(zmo a.fEv b.fEv).1) zww e2 (l:=a0) (R:=zth brL a0) (λ x hx y hy=>⟨_,zkr (by have h1:=List.all_eq_true.1 hp2 x hx;have h2:=List.all_eq_true.1 hp2 y hy;exact zAE (of_decide_eq_true h1) (of_decide_eq_true h2))⟩) (x0:=x0) (m0:=m0) hp1 (λ r hp hs=>zzh hp3 hp hs)
 have e0:Tryz.sortB_ren.f 6=219:=rfl
 rw [e0] at key
 exact key
theorem zg5 {a0:TellingsT} {a1:(List EventT)} {r:TellingsT} (h:zcg a0 a1=some r):Fn Tryz.prog 175 [(.ag [(.lf true (.sl (a0.fBr.map zlc)))]),(.lf true (.sl (a1.map zlk)))] [] 0 (.ag [(.os 0 1 0 r.fBr.length r.fBr.length false)]) [(0,some (true,.deep [.sl [.sc,.sc,.sc,.sc]] (r.fBr.map zlc)))] 2:=by
 unfold zcg at h
 refine fc [(5,[(1,3),(1,5)]),(1000,[(2,0),(3,0),(4,0)]),(1001,[(3,0),(4,0),(5,0)]),(1002,[(3,0),(4,0),(5,0),(11,0)]),(1003,[(4,0)]),(1004,[(3,0),(4,0),(5,0)]),(1005,[(4,0),(5,0)]),(1006,[(4,0),(5,0)]),(1007,[(4,0)]),(5006,[])] Tryz.func175 ?_
 simp only [Tryz.f175]
 refine sA ?_
 obtain ⟨c718,hr1,h⟩:=zk9 h
 refine zlh (zbE hr1) ?_
 refine sA ?_
 obtain ⟨c719,hr2,h⟩:=zk9 h
 refine zlh (zds hr2) ?_
 refine sA ?_
 refine zle h (λ h hc3=>?_) (λ h hc3=>?_)
 ·refine sA ?_
  have he:=oi h
  subst he
  exact zld ⟨[(4,(.pb 1 0))],[(0,some (true,.deep [.sl [.sc,.sc,.sc,.sc]] (c718.fBr.map zlc))),(1,some (true,.box [(.os 0 1 0 c718.fBr.length c718.fBr.length false)]))],2,30⟩ [some 3,some 2]
 ·refine sA ?_
  obtain ⟨c720,hr4,h⟩:=zk9 h
  refine znM [3,1] (zf8 hr4) ?_
  refine sA ?_
  obtain ⟨c721,hr5,h⟩:=zk9 h
  refine zlh (zat hr5) ?_
  refine sA ?_
  obtain ⟨hp6,h⟩:=zla h
  refine sA ?_
  refine zlq ?_
  refine zvm 8 ?_
  refine sA ?_
  obtain ⟨c723,hr7,h⟩:=zk9 h
  refine znM [8] (zgo hr7) ?_
  refine sA ?_
  obtain ⟨hp8,h⟩:=zla h
  have hl8:(c720.length+1)≤c723.length:=by omega
  have ht8:List.take ((c720.length+1)) c723=c723:=by rw [← hp8];exact qb
  try rw [← hp8]
  try simp (disch:=first | assumption | (simp only [qL];assumption)) only [go_sem,qA,qB,qC,qD,↓reduceIte,qE,reduceCtorEq,qF,qH,qI,qJ,qK,qG,hl8,ht8]
  have he:=oi h
  subst he
  refine zl0 ⟨[(4,(.pb 1 0))],[(0,some (true,.deep [.sl [.sc,.sc,.sc,.sc]] (c723.map zlc))),(1,some (true,.box [(.os 0 1 0 c723.length c723.length false)]))],2,30⟩ (zlB (m:=0) [some 8,some 2] rfl rfl rfl (by rfl) ?_ ?_) ?_
  all_goals ((try simp (disch:=first | assumption | (simp only [qL];assumption)) only [go_sem,qA,qB,qC,qD,↓reduceIte,qE,reduceCtorEq,qF,qH,qI,qJ,qK,qG,hl8,ht8]);(repeat' first | done | rfl | omega | refine And.intro ?_ ?_ | (simp;done) | (simp;omega)))
theorem ziw {a0:TellingsT} {a1:TellingsT} {r:(TellingsT×Bool)} (h:zco a0 a1=some r):Fn Tryz.prog 128 [(.ag [(.lf true (.sl (a0.fBr.map zlc)))]),(.ag [(.lf true (.sl (a1.fBr.map zlc)))])] [] 0 (.tu [(.ag [(.os 0 1 0 r.1.fBr.length r.1.fBr.length false)]),(B r.2)]) [(0,some (true,.deep [.sl [.sc,.sc,.sc,.sc]] (r.1.fBr.map zlc)))] 2:=by
 unfold zco at h
 refine fc [(1000,[(2,0),(3,0),(4,0)]),(1001,[(2,0),(3,0),(4,0),(16,0)]),(1002,[(4,0),(5,0)]),(1003,[(3,0),(4,0),(6,0)]),(1004,[(4,0),(6,0),(21,0),(22,0),(23,0)]),(1005,[(4,0),(6,0),(21,0),(22,0),(23,0),(24,0)]),(1006,[(4,0),(6,0),(8,0),(21,0),(22,0),(23,0)]),(1007,[(4,0),(6,0),(21,0),(22,0),(23,0)]),(1008,[(4,0),(6,0),(21,0),(22,0),(23,0)]),(1009,[(4,0),(6,0),(35,0)]),(1010,[(4,0),(5,0)]),(1011,[(4,0),(5,0)]),(4001,[])] Tryz.func128 ?_
 simp only [Tryz.f128]
 refine sA ?_
 obtain ⟨p702,hq1,h⟩:=zk9 h
 refine zlS (λ s2=>s2=⟨[(2,(.pb 0 0)),(3,(.pb 1 0)),(4,(.pb 2 0)),(16,(B p702.t16))],[(0,some (true,.box [(.lf true (.sl (a0.fBr.map zlc)))])),(1,some (true,.box [(.lf true (.sl (a1.fBr.map zlc)))])),(2,some (true,.box [.nl]))],3,38⟩) ?_ ?_
 ·refine sA ?_
  obtain ⟨c700,hr2,hq1⟩:=zk9 hq1
  refine zlh (zfD hr2) ?_
  refine sA ?_
  refine zlt hq1 (λ hq1 hc3=>?_) (λ hq1 hc3=>?_)
  ·refine sA ?_
   cases hq1
   exact zlr rfl (zlg [some 0,some 1,some 2])
  ·refine sA ?_
   obtain ⟨c701,hr4,hq1⟩:=zk9 hq1
   refine zlh (zfD hr4) ?_
   refine sA ?_
   cases hq1
   exact zlr rfl (zlg [some 0,some 1,some 2])
 ·intro s2 hJ;subst hJ
  try dsimp only at h
  refine sA ?_
  refine zle h (λ h hc5=>?_) (λ h hc5=>?_)
  ·refine sA ?_
   have he:=oi h
   subst he
   exact zld ⟨[(4,(.pb 1 0)),(5,(B false))],[(0,some (true,.deep [.sl [.sc,.sc,.sc,.sc]] (([]:List BranchT).map zlc))),(1,some (true,.box [(.os 0 1 0 (([]:List BranchT).length) (([]:List BranchT).length) false)]))],2,38⟩ [none,some 2]
  ·refine sA ?_
   obtain ⟨c703,hr6,h⟩:=zk9 h
   refine zlh (zbE hr6) ?_
   refine sA ?_
   obtain ⟨y726,hl7,h⟩:=zk9 h
   refine zlo (λ g704:zcH=>⟨[(4,(.pb 0 0)),(6,(.pb 1 0)),(21,(.lf true (.sl (a1.fBr.map zlc)))),(22,(I ((a1.fBr.length:Nat):Int))),(23,(I g704.t23))],[(0,some (true,.box [.nl])),(1,some (true,.box [(.os 2 1 0 g704.c2.length g704.c2.length false)])),(2,some (true,.deep [.sl [.sc,.sc,.sc,.sc]] (g704.c2.map zlc)))],3,38⟩) (zax a1) _ _ hl7 (zlg [some 2,some 5,some 3]) ?_
   ·intro n1 g704 z1 hs1 hk1
    unfold zax at hs1
    try dsimp only at hs1
    refine sA ?_
    refine zle hs1 (λ hs1 hc8=>?_) (λ hs1 hc8=>?_)
    ·refine sA ?_
     obtain ⟨hp9,hs1⟩:=zla hs1
     have hn9:g704.t23.toNat < a1.fBr.length:=by first|omega|(simp;omega)
     refine sA ?_
     refine zlq ?_
     obtain ⟨c725,hr10,hs1⟩:=zk9 hs1
     refine zlh (zg5 hr10) ?_
     refine sA ?_
     cases hs1
     exact zll hk1 (zlg [some 0,some 1,some 4])
    ·refine sA ?_
     cases hs1
     cases hk1
     try dsimp only at h
     refine sA ?_
     refine zle h (λ h hc11=>?_) (λ h hc11=>?_)
     ·refine sA ?_
      have he:=oi h
      subst he
      exact zld ⟨[(4,(.pb 1 0)),(5,(B false))],[(0,some (true,.deep [.sl [.sc,.sc,.sc,.sc]] (([]:List BranchT).map zlc))),(1,some (true,.box [(.os 0 1 0 (([]:List BranchT).length) (([]:List BranchT).length) false)]))],2,38⟩ [none,some 0]
     ·refine sA ?_
      have he:=oi h
      subst he
      exact zld ⟨[(4,(.pb 1 0)),(5,(B true))],[(0,some (true,.deep [.sl [.sc,.sc,.sc,.sc]] (g704.c2.map zlc))),(1,some (true,.box [(.os 0 1 0 g704.c2.length g704.c2.length false)]))],2,38⟩ [some 2,some 0]
theorem zgl {a0:(List RegionT)} {i0:Nat} {a2:WordT} {m1:Nat} {x1:Bool} {r:(Bool×(List RegionT))} (h:zU a0 i0 a2=some r):Fn Tryz.prog 55 [(.pe 0 3 i0 0),(.ag [(I a2.fVe),(.os 1 1 0 a2.fTe.fBr.length m1 x1)])] [(0,some (false,.deep [.sc,.sc,.sl [.sl [.sc,.sc,.sc,.sc]]] (a0.map zlj))),(1,some (false,.deep [.sl [.sc,.sc,.sc,.sc]] (a2.fTe.fBr.map zlc)))] 2 (B r.1) [(0,some (false,.deep [.sc,.sc,.sl [.sl [.sc,.sc,.sc,.sc]]] (r.2.map zlj))),(1,some (false,.deep [.sl [.sc,.sc,.sc,.sc]] (a2.fTe.fBr.map zlc)))] 2:=by
 unfold zU at h
 refine fc [(1,[(3,10),(5,10)]),(3,[(9,12)]),(1000,[(0,0),(3,0)]),(1001,[(0,0),(3,0),(5,0),(6,0)]),(1002,[(0,0),(3,0),(5,0),(6,0),(17,0)]),(1003,[(6,0)]),(1004,[(4,0)]),(5001,[])] Tryz.func55 ?_
 simp only [Tryz.f55]
 refine sA ?_
 obtain ⟨hp1,h⟩:=zla h
 refine zpl 0 i0 ?_
 refine sA ?_
 obtain ⟨c730,hr2,h⟩:=zk9 h
 refine zlh (ziw hr2) ?_
 refine sA ?_
 refine zle h (λ h hc3=>?_) (λ h hc3=>?_)
 ·refine sA ?_
  have he:=oi h
  subst he
  refine zom 0 ?_
  refine sA ?_
  exact zld ⟨[(4,(B c730.2))],[(0,some (false,.deep [.sc,.sc,.sl [.sl [.sc,.sc,.sc,.sc]]] ((a0.set i0 (⟨(nth a0 i0).Id,(max ((nth a0 i0).fVe) a2.fVe),c730.1⟩:RegionT)).map zlj))),(1,some (false,.deep [.sl [.sc,.sc,.sc,.sc]] (a2.fTe.fBr.map zlc)))],2,33⟩ [some 0,some 1]
 ·refine sA ?_
  have he:=oi h
  subst he
  refine zom 0 ?_
  refine sA ?_
  exact zld ⟨[(4,(B c730.2))],[(0,some (false,.deep [.sc,.sc,.sl [.sl [.sc,.sc,.sc,.sc]]] ((a0.set i0 (⟨(nth a0 i0).Id,(nth a0 i0).fVe,((nth a0 i0).fTe)⟩:RegionT)).map zlj))),(1,some (false,.deep [.sl [.sc,.sc,.sc,.sc]] (a2.fTe.fBr.map zlc)))],2,33⟩ [some 0,some 1]
theorem zee {a0:RegionT} {r:Bool} (h:zW a0=some r):Fn Tryz.prog 66 [(.ra true [.sc (.int .i64 a0.Id),.sc (.int .i64 a0.fVe),.sl (a0.fTe.fBr.map zlc)])] [] 0 (B r) [] 0:=by
 unfold zW at h
 refine fc [] Tryz.func66 ?_
 simp only [Tryz.f66]
 refine sA ?_
 have he:=oi h
 subst he
 exact zld ⟨[(2,(B ((a0.fVe.tmod 10) == a0.Id)))],[],0,13⟩ []
theorem zik {a0:(List EventT)} {r:Int} (h:zeR a0=some r):Fn Tryz.prog 194 [(.lf true (.sl (a0.map zlk)))] [] 0 (I r) [] 0:=by
 unfold zeR at h
 refine fc [] Tryz.func194 ?_
 simp only [Tryz.f194]
 refine sA ?_
 obtain ⟨hp1,h⟩:=zla h
 have hn1:(wI (((a0.length:Nat):Int) - 1)).toNat < a0.length:=by first|omega|(simp;omega)
 refine sA ?_
 refine zlq ?_
 have he:=oi h
 subst he
 exact zld ⟨[(2,(I ((nth a0 ((wI (((a0.length:Nat):Int) - 1)).toNat)).fVe)))],[],0,10⟩ []
theorem zjy {a0:BranchT} {a1:BranchT} {r:Int} (h:zcD a0 a1=some r):Fn Tryz.prog 191 [(.ag [(.lf true (.sl (a0.fEv.map zlk)))]),(.ag [(.lf true (.sl (a1.fEv.map zlk)))])] [] 0 (I r) [] 0:=by
 unfold zcD at h
 refine fc [(1,[(4,2),(8,2),(8,5),(8,6),(11,2),(11,5),(11,6),(15,2),(15,5),(15,6),(15,13),(17,2),(17,5),(17,6),(17,13)])] Tryz.func191 ?_
 simp only [Tryz.f191]
 refine sA ?_
 obtain ⟨c739,hr1,h⟩:=zk9 h
 refine zlh (zik hr1) ?_
 refine sA ?_
 obtain ⟨c740,hr2,h⟩:=zk9 h
 refine zlh (zik hr2) ?_
 refine sA ?_
 obtain ⟨c741,hr3,h⟩:=zk9 h
 refine zlh (zet hr3) ?_
 refine sA ?_
 obtain ⟨c742,hr4,h⟩:=zk9 h
 refine zlh (zet hr4) ?_
 refine sA ?_
 obtain ⟨c743,hr5,h⟩:=zk9 h
 refine zlh (zf7 hr5) ?_
 refine sA ?_
 obtain ⟨c744,hr6,h⟩:=zk9 h
 refine zlh (ziY hr6) ?_
 refine sA ?_
 have he:=oi h
 subst he
 exact zld ⟨[(4,(I c744))],[],0,26⟩ []
theorem zef {a0:(List BranchT)} {r:BranchT} (h:zr a0=some r):Fn Tryz.prog 190 [(.lf true (.sl (a0.map zlc))),(.fn 191 [])] [] 0 (.ag [(.lf true (.sl (r.fEv.map zlk)))]) [] 1:=by
 unfold zr at h
 refine fc [(1000,[(0,0),(1,0),(4,0)]),(1001,[(0,0),(1,0),(4,0),(9,0)]),(1002,[(0,0),(1,0),(4,0)]),(1003,[(0,0),(1,0),(4,0),(5,0)]),(1004,[(0,0),(1,0),(4,0),(5,0),(6,0)]),(1005,[(0,0),(1,0),(4,0),(5,0),(6,0),(17,0)]),(1006,[(0,0),(1,0),(4,0),(5,0),(6,0)]),(1007,[(0,0),(1,0),(4,0),(5,0),(6,0),(27,0)]),(1008,[(0,0),(1,0),(4,0),(5,0),(6,0)]),(1009,[(4,0)]),(2009,[])] Tryz.func190 ?_
 simp only [Tryz.f190]
 refine sA ?_
 obtain ⟨p737,hq1,h⟩:=zk9 h
 refine zlS (λ s2=>s2=⟨[(0,(.lf true (.sl (a0.map zlc)))),(1,(.fn 191 [])),(4,(.pb 0 0))],[(0,some (true,.box [.nl]))],1,33⟩) ?_ ?_
 ·refine sA ?_
  refine zle hq1 (λ hq1 hc2=>?_) (λ hq1 hc2=>?_)
  ·cases hq1
  ·refine sA ?_
   cases hq1
   exact zlr rfl (zlg [some 0])
 ·intro s2 hJ;subst hJ
  try dsimp only at h
  refine sA ?_
  obtain ⟨hp3,h⟩:=zla h
  have hn3:0 < a0.length:=by first|omega|(simp;omega)
  refine sA ?_
  refine zlq ?_
  obtain ⟨y747,hl4,h⟩:=zk9 h
  refine zlo (λ g738:zX=>⟨[(0,(.lf true (.sl (a0.map zlc)))),(1,(.fn 191 [])),(4,(.pb 0 0)),(5,(.pb 1 0)),(6,(I g738.t6))],[(0,some (true,.box [.nl])),(1,some (true,.box [(.lf true (.sl (g738.b1_0.map zlk)))]))],2,33⟩) (zb a0) _ _ hl4 (zlg [some 0,some 1]) ?_
  ·intro n1 g738 z1 hs1 hk1
   unfold zb at hs1
   try dsimp only at hs1
   refine sA ?_
   refine zle hs1 (λ hs1 hc5=>?_) (λ hs1 hc5=>?_)
   ·refine sA ?_
    obtain ⟨hp6,hs1⟩:=zla hs1
    have hn6:g738.t6.toNat < a0.length:=by first|omega|(simp;omega)
    refine sA ?_
    refine zlq ?_
    obtain ⟨c746,hr7,hs1⟩:=zk9 hs1
    refine zlh (zjy hr7) ?_
    refine sA ?_
    refine zle hs1 (λ hs1 hc8=>?_) (λ hs1 hc8=>?_)
    ·refine sA ?_
     obtain ⟨hp9,hs1⟩:=zla hs1
     have hn9:g738.t6.toNat < a0.length:=by first|omega|(simp;omega)
     refine sA ?_
     refine zlq ?_
     cases hs1
     exact zll hk1 (zlg [some 0,some 1])
    ·refine sA ?_
     cases hs1
     exact zll hk1 (zlg [some 0,some 1])
   ·refine sA ?_
    cases hs1
    cases hk1
    try dsimp only at h
    refine sA ?_
    have he:=oi h
    subst he
    exact zld ⟨[(4,(.pb 0 0))],[(0,some (true,.box [(.lf true (.sl (g738.b1_0.map zlk)))]))],1,33⟩ [some 0]
theorem zgh {a0:TellingsT} {r:(List EventT)} (h:zck a0=some r):Fn Tryz.prog 141 [(.ag [(.lf true (.sl (a0.fBr.map zlc)))])] [] 0 (.lf true (.sl (r.map zlk))) [] 0:=by
 unfold zck at h
 refine fc [(1000,[(1,0)]),(1001,[(1,0),(6,0)]),(1002,[(2,0)]),(1003,[(2,0)])] Tryz.func141 ?_
 simp only [Tryz.f141]
 refine sA ?_
 refine zle h (λ h hc1=>?_) (λ h hc1=>?_)
 ·refine sA ?_
  have he:=oi h
  subst he
  exact zld ⟨[(2,(.lf true (.sl (([]).map zlk))))],[],0,11⟩ []
 ·refine sA ?_
  obtain ⟨c748,hr2,h⟩:=zk9 h
  refine zlh (zef hr2) ?_
  refine sA ?_
  have he:=oi h
  subst he
  exact zld ⟨[(2,(.lf true (.sl (c748.fEv.map zlk))))],[],0,11⟩ []
theorem zil {a0:(List EventT)} {r:(List ByteArray)} (h:zeS a0=some r):Fn Tryz.prog 140 [(.lf true (.sl (a0.map zlk)))] [] 0 (.os 0 1 0 r.length r.length false) [(0,some (true,.arr false 1 (r.map eS)))] 1:=by
 unfold zeS at h
 refine fc [(1000,[(0,0)]),(1001,[(0,0),(3,0)]),(1002,[(3,0),(7,0),(8,0),(9,0)]),(1003,[(3,0),(7,0),(8,0),(9,0),(10,0)]),(1004,[(3,0),(5,0),(7,0),(8,0),(9,0)]),(1005,[(3,0),(5,0),(7,0),(8,0),(9,0),(15,0)]),(1006,[(3,0),(7,0),(8,0),(9,0)]),(1007,[(3,0),(7,0),(8,0),(9,0)]),(1008,[(2,0)])] Tryz.func140 ?_
 simp only [Tryz.f140]
 refine sA ?_
 obtain ⟨y751,hl1,h⟩:=zk9 h
 refine zlo (λ g750:zfM=>⟨[(3,(.os 0 1 0 g750.c0.length g750.c0.length false)),(7,(.lf true (.sl (a0.map zlk)))),(8,(I ((a0.length:Nat):Int))),(9,(I g750.t9))],[(0,some (true,.arr false 1 (g750.c0.map eS)))],1,23⟩) (zcG a0) _ _ hl1 (zlg [some 0]) ?_
 ·intro n1 g750 z1 hs1 hk1
  unfold zcG at hs1
  try dsimp only at hs1
  refine sA ?_
  refine zle hs1 (λ hs1 hc2=>?_) (λ hs1 hc2=>?_)
  ·refine sA ?_
   obtain ⟨hp3,hs1⟩:=zla hs1
   have hn3:g750.t9.toNat < a0.length:=by first|omega|(simp;omega)
   refine sA ?_
   refine zlq ?_
   refine zle hs1 (λ hs1 hc4=>?_) (λ hs1 hc4=>?_)
   ·refine sA ?_
    obtain ⟨hp5,hs1⟩:=zla hs1
    refine sA ?_
    refine zlq ?_
    cases hs1
    exact zll hk1 (zlg [some 3])
   ·refine sA ?_
    cases hs1
    exact zll hk1 (zlg [some 0])
  ·refine sA ?_
   cases hs1
   cases hk1
   try dsimp only at h
   refine sA ?_
   have he:=oi h
   subst he
   exact zld ⟨[(2,(.os 0 1 0 g750.c0.length g750.c0.length false))],[(0,some (true,.arr false 1 (g750.c0.map eS)))],1,23⟩ [some 0]
theorem zic {a0:List ByteArray} {m0:Nat} {x0:Bool} {r:List ByteArray} (h:zc4 a0=some r):Fn Tryz.prog 143 [(.os 0 1 0 a0.length m0 x0)] [(0,some (false,.arr true 1 (a0.map eS)))] 1 (.tu []) [(0,some (false,.arr false 1 (r.map eS)))] 1:=by
 unfold zc4 at h
 obtain ⟨hp1,h⟩:=zla h
 have he:=oi h;subst he
 have e1:Ent Tryz.prog (Tryz.lays190_ren.f 190):=(Ent.of Tryz.func143 rfl (by simp [Tryz.f143]):Ent Tryz.prog 143)
 have key:=zAH (E:=eS) (m0:=m0) (x0:=x0) (t0:=true) (t1:=false) Go.Proofs.Tryz.lays190 e1 (λ _=>rfl) hp1
 have e0:Tryz.lays190_ren.f 190=143:=rfl
 rw [e0] at key
 exact key
theorem zhH {a0:List ByteArray} {m0:Nat} {x0:Bool} {r:List ByteArray} (h:zbT a0=some r):Fn Tryz.prog 144 [(.os 0 1 0 a0.length m0 x0)] [(0,some (false,.arr true 1 (a0.map eS)))] 1 (.os 1 1 0 r.length r.length false) [(0,none),(1,some (false,.arr false 1 (r.map eS)))] 2:=by
 unfold zbT at h
 obtain ⟨hp1,h⟩:=zla h
 have he:=oi h;subst he
 have e1:Ent Tryz.prog (Tryz.lays194_ren.f 194):=(Ent.of Tryz.func144 rfl (by simp [Tryz.f144]):Ent Tryz.prog 144)
 have key:=zAK (E:=eS) (m0:=m0) (x0:=x0) (t0:=true) Go.Proofs.Tryz.lays194 e1 (λ _=>rfl) hp1
 have e0:Tryz.lays194_ren.f 194=144:=rfl
 rw [e0] at key
 exact key
theorem zi1 {a0:TellingsT} {r:(List ByteArray)} (h:zdj a0=some r):Fn Tryz.prog 71 [(.ag [(.lf true (.sl (a0.fBr.map zlc)))])] [] 0 (.os 0 1 0 r.length r.length false) [(0,some (false,.arr false 1 (r.map eS)))] 1:=by
 unfold zdj at h
 refine fc [(1000,[(1,0)]),(1001,[(1,0),(3,0),(4,0)]),(1002,[(3,0),(4,0),(14,0),(15,0),(16,0)]),(1003,[(3,0),(4,0),(14,0),(15,0),(16,0),(17,0)]),(1004,[(3,0),(4,0),(6,0),(14,0),(15,0),(16,0)]),(1005,[(3,0),(4,0),(14,0),(15,0),(16,0),(22,0),(23,0),(24,0)]),(1006,[(3,0),(4,0),(14,0),(15,0),(16,0),(22,0),(23,0),(24,0),(25,0)]),(1007,[(3,0),(4,0),(8,0),(14,0),(15,0),(16,0),(22,0),(23,0),(24,0)]),(1008,[(3,0),(4,0),(8,0),(14,0),(15,0),(16,0),(22,0),(23,0),(24,0),(31,0)]),(1009,[(3,0),(4,0),(14,0),(15,0),(16,0),(22,0),(23,0),(24,0)]),(1010,[(3,0),(4,0),(14,0),(15,0),(16,0),(22,0),(23,0),(24,0)]),(1011,[(3,0),(4,0),(14,0),(15,0),(16,0)]),(1012,[(4,0)]),(1013,[(2,0)])] Tryz.func71 ?_
 simp only [Tryz.f71]
 refine sA ?_
 obtain ⟨c749,hr1,h⟩:=zk9 h
 refine zlh (zgh hr1) ?_
 refine sA ?_
 obtain ⟨c752,hr2,h⟩:=zk9 h
 refine zlh (zil hr2) ?_
 refine sA ?_
 obtain ⟨y764,hl3,h⟩:=zk9 h
 refine zlo (λ g753:zdz=>⟨[(3,(.os 0 1 0 c752.length c752.length false)),(4,(.os 1 1 0 g753.c1.length g753.c1.length false)),(14,(.lf true (.sl (a0.fBr.map zlc)))),(15,(I ((a0.fBr.length:Nat):Int))),(16,(I g753.t16))],[(0,some (true,.arr false 1 (c752.map eS))),(1,some (true,.arr false 1 (g753.c1.map eS)))],2,42⟩) (za5 a0 c752) _ _ hl3 (zlg [some 1,some 2]) ?_
 ·intro n1 g753 z1 hs1 hk1
  unfold za5 at hs1
  try dsimp only at hs1
  refine sA ?_
  refine zle hs1 (λ hs1 hc4=>?_) (λ hs1 hc4=>?_)
  ·refine sA ?_
   obtain ⟨hp5,hs1⟩:=zla hs1
   have hn5:g753.t16.toNat < a0.fBr.length:=by first|omega|(simp;omega)
   refine sA ?_
   refine zlq ?_
   obtain ⟨c759,hr6,hs1⟩:=zk9 hs1
   refine zlh (zil hr6) ?_
   refine sA ?_
   obtain ⟨y763,hl7,hs1⟩:=zk9 hs1
   refine zlo (λ g760:zdA=>⟨[(3,(.os 0 1 0 c752.length c752.length false)),(4,(.os 1 1 0 g760.c1.length g760.c1.length false)),(14,(.lf true (.sl (a0.fBr.map zlc)))),(15,(I ((a0.fBr.length:Nat):Int))),(16,(I g753.t16)),(22,(.os 2 1 0 c759.length c759.length false)),(23,(I ((c759.length:Nat):Int))),(24,(I g760.t24))],[(0,some (true,.arr false 1 (c752.map eS))),(1,some (true,.arr false 1 (g760.c1.map eS))),(2,some (true,.arr false 1 (c759.map eS)))],3,42⟩) (zaq c759 c752) _ _ hl7 (zlg [some 0,some 1,some 3]) ?_
   ·intro n2 g760 z2 hs2 hk2
    unfold zaq at hs2
    try dsimp only at hs2
    refine sA ?_
    refine zle hs2 (λ hs2 hc8=>?_) (λ hs2 hc8=>?_)
    ·refine sA ?_
     obtain ⟨hp9,hs2⟩:=zla hs2
     have hn9:g760.t24.toNat < c759.length:=by first|omega|(simp;omega)
     refine sA ?_
     refine zlq ?_
     refine zo1 ?_
     refine sA ?_
     obtain ⟨c762,hr11,hs2⟩:=zk9 hs2
     refine zlh (zaF hr11) ?_
     refine sA ?_
     refine zle hs2 (λ hs2 hc12=>?_) (λ hs2 hc12=>?_)
     ·refine sA ?_
      obtain ⟨hp13,hs2⟩:=zla hs2
      refine sA ?_
      refine zlq ?_
      cases hs2
      exact zll hk2 (zlg [some 0,some 4,some 2])
     ·refine sA ?_
      cases hs2
      exact zll hk2 (zlg [some 0,some 1,some 2])
    ·refine sA ?_
     cases hs2
     cases hk2
     try dsimp only at hs1
     refine sA ?_
     cases hs1
     exact zll hk1 (zlg [some 0,some 1])
  ·refine sA ?_
   cases hs1
   cases hk1
   try dsimp only at h
   refine sA ?_
   obtain ⟨c767,hr14,h⟩:=zk9 h
   refine znM [1] (zic hr14) ?_
   refine sA ?_
   obtain ⟨hp15,h⟩:=zla h
   have hl15:g753.c1.length≤c767.length:=by omega
   have ht15:List.take (g753.c1.length) c767=c767:=by rw [← hp15];exact qb
   try rw [← hp15]
   try simp (disch:=first | assumption | (simp only [qL];assumption)) only [go_sem,qA,qB,qC,qD,↓reduceIte,qE,reduceCtorEq,qF,qH,qI,qJ,qK,qG,hl15,ht15]
   obtain ⟨c768,hr16,h⟩:=zk9 h
   refine zrh (ids:=[1]) (zhH hr16) (by first | rfl | (simp (disch:=first | assumption | (simp only [qL];assumption)) only [go_sem,qA,qB,qC,qD,↓reduceIte,qE,reduceCtorEq,qF,qH,qI,qJ,qK,qG,hl15,ht15];first | done | rfl) | (simp only [qM,qP,qQ,qO,qL,qN,qa,qA];rfl) | (simp (disch:=first | assumption | (simp only [qL];assumption)) only [go_sem,qA,qB,qC,qD,↓reduceIte,qE,reduceCtorEq,qF,qH,qI,qJ,qK,qG,hl15,ht15];simp only [qM,qP,qQ,qO,qL,qN,qa,qA];rfl)) (FitAll.refl _) (by first | rfl | (simp (disch:=first | assumption | (simp only [qL];assumption)) only [go_sem,qA,qB,qC,qD,↓reduceIte,qE,reduceCtorEq,qF,qH,qI,qJ,qK,qG,hl15,ht15];first | done | rfl) | (simp only [qM,qP,qQ,qO,qL,qN,qa,qA];rfl) | (simp (disch:=first | assumption | (simp only [qL];assumption)) only [go_sem,qA,qB,qC,qD,↓reduceIte,qE,reduceCtorEq,qF,qH,qI,qJ,qK,qG,hl15,ht15];simp only [qM,qP,qQ,qO,qL,qN,qa,qA];rfl)) (by decide) (by first | rfl | (simp (disch:=first | assumption | (simp only [qL];assumption)) only [go_sem,qA,qB,qC,qD,↓reduceIte,qE,reduceCtorEq,qF,qH,qI,qJ,qK,qG,hl15,ht15];done)) (by rfl) ?_
   try simp (disch:=first | assumption | (simp only [qL];assumption)) only [go_sem,qA,qB,qC,qD,↓reduceIte,qE,reduceCtorEq,qF,qH,qI,qJ,qK,qG,hl15,ht15]
   have he:=oi h
   subst he
   refine zl0 ⟨[(2,(.os 0 1 0 c768.length c768.length false))],[(0,some (false,.arr false 1 (c768.map eS)))],1,42⟩ (zlB (m:=0) [some 2] rfl rfl rfl (by rfl) ?_ ?_) ?_
   all_goals ((try simp (disch:=first | assumption | (simp only [qL];assumption)) only [go_sem,qA,qB,qC,qD,↓reduceIte,qE,reduceCtorEq,qF,qH,qI,qJ,qK,qG,hl15,ht15]);(repeat' first | done | rfl | omega | refine And.intro ?_ ?_ | (simp;done) | (simp;omega)))
theorem zgS {a0:RegionT} {r:zlm} (h:za2 a0=some r):Fn Tryz.prog 182 [(.ra true [.sc (.int .i64 a0.Id),.sc (.int .i64 a0.fVe),.sl (a0.fTe.fBr.map zlc)])] [] 0 (.ag [(I r.fSt),(I r.Next),(B r.fCa),(I r.Done),(.os 0 1 0 r.fSi.length r.fSi.length false),(.os 1 1 0 r.fTi.length r.fTi.length false)]) [(0,some (false,.arr false 1 (r.fSi.map eS))),(1,some (false,.arr false 1 (r.fTi.map eS)))] 3:=by
 unfold za2 at h
 refine fc [(1000,[(0,0),(2,0)]),(1001,[(2,0),(3,0)]),(1002,[(2,0)])] Tryz.func182 ?_
 simp only [Tryz.f182]
 refine sA ?_
 obtain ⟨c772,hr1,h⟩:=zk9 h
 refine zlh (zgh hr1) ?_
 refine sA ?_
 obtain ⟨c773,hr2,h⟩:=zk9 h
 refine zlh (zhE hr2) ?_
 refine sA ?_
 have he:=oi h
 subst he
 exact zld ⟨[(2,(.pb 2 0))],[(0,some (false,.arr false 1 (c773.1.fSi.map eS))),(1,some (false,.arr false 1 (c773.1.fTi.map eS))),(2,some (true,.box [(I c773.1.fSt),(I c773.1.Next),(B c773.1.fCa),(I c773.1.Done),(.os 0 1 0 c773.1.fSi.length c773.1.fSi.length false),(.os 1 1 0 c773.1.fTi.length c773.1.fTi.length false)]))],3,15⟩ [some 1,some 2,some 0]
theorem zim {a0:zlm} {a1:Int} {a2:ByteArray} {r:(Bool×Bool)} (h:zbA a0 a1 a2=some r):Fn Tryz.prog 183 [(.ag [(I a0.fSt),(I a0.Next),(B a0.fCa),(I a0.Done),(.lf true (.sl (a0.fSi.map eS))),(.lf true (.sl (a0.fTi.map eS)))]),(I a1),(.lf false (.sc (.string a2)))] [] 0 (.tu [(B r.1),(B r.2)]) [] 0:=by
 unfold zbA at h
 refine fc [(1000,[(1,0),(2,0),(3,0)]),(1001,[(1,0),(2,0),(3,0),(21,0)]),(1002,[(6,0),(7,0)]),(1003,[(1,0),(2,0),(8,0)]),(1004,[(6,0),(7,0)]),(4001,[])] Tryz.func183 ?_
 simp only [Tryz.f183]
 refine sA ?_
 obtain ⟨p778,hq1,h⟩:=zk9 h
 refine zlS (λ s2=>s2=⟨[(1,(I a1)),(2,(.lf false (.sc (.string a2)))),(3,(.pb 0 0)),(21,(B p778.t21))],[(0,some (true,.box [(I a0.fSt),(I a0.Next),(B a0.fCa),(I a0.Done),(.lf true (.sl (a0.fSi.map eS))),(.lf true (.sl (a0.fTi.map eS)))]))],1,31⟩) ?_ ?_
 ·refine sA ?_
  obtain ⟨c775,hr2,hq1⟩:=zk9 hq1
  refine zlh (zfh hr2) ?_
  refine sA ?_
  refine zlt hq1 (λ hq1 hc3=>?_) (λ hq1 hc3=>?_)
  ·refine sA ?_
   cases hq1
   exact zlr rfl (zlg [some 0])
  ·refine sA ?_
   obtain ⟨c776,hr4,hq1⟩:=zk9 hq1
   refine zlh (zfQ hr4) ?_
   refine sA ?_
   refine zlt hq1 (λ hq1 hc5=>?_) (λ hq1 hc5=>?_)
   ·refine sA ?_
    cases hq1
    exact zlr rfl (zlg [some 0])
   ·refine sA ?_
    obtain ⟨c777,hr6,hq1⟩:=zk9 hq1
    refine zlh (zd7 hr6) ?_
    refine sA ?_
    cases hq1
    exact zlr rfl (zlg [some 0])
 ·intro s2 hJ;subst hJ
  try dsimp only at h
  refine sA ?_
  refine zle h (λ h hc7=>?_) (λ h hc7=>?_)
  ·refine sA ?_
   have he:=oi h
   subst he
   exact zld ⟨[(6,(B false)),(7,(B false))],[],0,31⟩ []
  ·refine sA ?_
   obtain ⟨c779,hr8,h⟩:=zk9 h
   refine zlh (zhD hr8) ?_
   refine sA ?_
   obtain ⟨c780,hr9,h⟩:=zk9 h
   refine znM [4,1,2] (zg3 hr9) ?_
   refine sA ?_
   refine zlt h (λ h hc10=>?_) (λ h hc10=>?_)
   ·refine sA ?_
    obtain ⟨c781,hr11,h⟩:=zk9 h
    refine zlh (zfh hr11) ?_
    refine sA ?_
    have he:=oi h
    subst he
    exact zld ⟨[(6,(B c781)),(7,(B true))],[],0,31⟩ []
   ·refine sA ?_
    have he:=oi h
    subst he
    exact zld ⟨[(6,(B false)),(7,(B true))],[],0,31⟩ []
theorem zix {a0:RegionT} {a1:Int} {a2:ByteArray} {r:Int} (h:zaD a0 a1 a2=some r):Fn Tryz.prog 137 [(.ra true [.sc (.int .i64 a0.Id),.sc (.int .i64 a0.fVe),.sl (a0.fTe.fBr.map zlc)]),(I a1),(.lf false (.sc (.string a2)))] [] 0 (I r) [] 0:=by
 unfold zaD at h
 refine fc [(14,[(4,6),(8,6),(12,6),(4,16),(4,17),(16,16)]),(1000,[(0,0),(1,0),(2,0)]),(1001,[(0,0),(1,0),(2,0),(7,0)]),(1002,[(0,0),(1,0),(2,0),(7,0),(8,0)]),(1003,[(0,0),(1,0),(2,0),(7,0),(8,0),(9,0)]),(1004,[(0,0),(1,0),(2,0),(7,0),(8,0),(9,0),(25,0)]),(1005,[(6,0)]),(1006,[(0,0),(1,0),(2,0),(7,0),(8,0),(9,0),(34,0)]),(1007,[(6,0)]),(1008,[(0,0),(1,0),(2,0),(7,0),(8,0),(9,0),(38,0)]),(1009,[(6,0)]),(1010,[(0,0),(1,0),(2,0),(7,0),(8,0),(47,0)]),(1011,[(6,0)]),(1012,[(0,0),(1,0),(2,0),(7,0),(8,0),(50,0)]),(1013,[(6,0)]),(1014,[]),(1015,[(6,0)]),(4004,[]),(4008,[])] Tryz.func137 ?_
 simp only [Tryz.f137]
 refine sA ?_
 obtain ⟨c771,hr1,h⟩:=zk9 h
 refine zlh (zgh hr1) ?_
 refine sA ?_
 obtain ⟨c774,hr2,h⟩:=zk9 h
 refine zlh (zgS hr2) ?_
 refine sA ?_
 obtain ⟨c782,hr3,h⟩:=zk9 h
 refine zlh (zim hr3) ?_
 refine sA ?_
 obtain ⟨p785,hq4,h⟩:=zk9 h
 refine zlS (λ s2=>s2=⟨[(0,(.ra true [.sc (.int .i64 a0.Id),.sc (.int .i64 a0.fVe),.sl (a0.fTe.fBr.map zlc)])),(1,(I a1)),(2,(.lf false (.sc (.string a2)))),(7,(.lf true (.sl (c771.map zlk)))),(8,(.pb 0 0)),(9,(B c782.1)),(25,(B p785.t25))],[(0,some (true,.box [(I c774.fSt),(I c774.Next),(B c774.fCa),(I c774.Done),(.os 1 1 0 c774.fSi.length c774.fSi.length false),(.os 2 1 0 c774.fTi.length c774.fTi.length false)])),(1,some (false,.arr false 1 (c774.fSi.map eS))),(2,some (false,.arr false 1 (c774.fTi.map eS)))],3,75⟩) ?_ ?_
 ·refine sA ?_
  obtain ⟨c783,hr5,hq4⟩:=zk9 hq4
  refine zlh (zfQ hr5) ?_
  refine sA ?_
  refine zlt hq4 (λ hq4 hc6=>?_) (λ hq4 hc6=>?_)
  ·refine sA ?_
   cases hq4
   exact zlr rfl (zlg [some 3,some 0,some 1])
  ·refine sA ?_
   obtain ⟨c784,hr7,hq4⟩:=zk9 hq4
   refine zlh (zd7 hr7) ?_
   refine sA ?_
   cases hq4
   exact zlr rfl (zlg [some 3,some 0,some 1])
 ·intro s2 hJ;subst hJ
  try dsimp only at h
  refine sA ?_
  refine zle h (λ h hc8=>?_) (λ h hc8=>?_)
  ·refine sA ?_
   have he:=oi h
   subst he
   exact zld ⟨[(6,(I 1))],[],0,75⟩ []
  ·refine sA ?_
   obtain ⟨c786,hr9,h⟩:=zk9 h
   refine zlh (zee hr9) ?_
   refine sA ?_
   refine zle h (λ h hc10=>?_) (λ h hc10=>?_)
   ·refine sA ?_
    have he:=oi h
    subst he
    exact zld ⟨[(6,(I 2))],[],0,75⟩ []
   ·refine sA ?_
    obtain ⟨p788,hq11,h⟩:=zk9 h
    refine zlS (λ s2=>s2=⟨[(0,(.ra true [.sc (.int .i64 a0.Id),.sc (.int .i64 a0.fVe),.sl (a0.fTe.fBr.map zlc)])),(1,(I a1)),(2,(.lf false (.sc (.string a2)))),(7,(.lf true (.sl (c771.map zlk)))),(8,(.pb 0 0)),(9,(B c782.1)),(38,(B p788.t38))],[(0,some (true,.box [(I c774.fSt),(I c774.Next),(B c774.fCa),(I c774.Done),(.os 1 1 0 c774.fSi.length c774.fSi.length false),(.os 2 1 0 c774.fTi.length c774.fTi.length false)])),(1,some (false,.arr false 1 (c774.fSi.map eS))),(2,some (false,.arr false 1 (c774.fTi.map eS)))],3,75⟩) ?_ ?_
    ·refine sA ?_
     refine zlt hq11 (λ hq11 hc12=>?_) (λ hq11 hc12=>?_)
     ·refine sA ?_
      obtain ⟨c787,hr13,hq11⟩:=zk9 hq11
      refine zlh (zaF hr13) ?_
      refine sA ?_
      cases hq11
      exact zlr rfl (zlg [some 0,some 1,some 2])
     ·refine sA ?_
      cases hq11
      exact zlr rfl (zlg [some 0,some 1,some 2])
    ·intro s2 hJ;subst hJ
     try dsimp only at h
     refine sA ?_
     refine zle h (λ h hc14=>?_) (λ h hc14=>?_)
     ·refine sA ?_
      have he:=oi h
      subst he
      exact zld ⟨[(6,(I 5))],[],0,75⟩ []
     ·refine sA ?_
      refine zle h (λ h hc15=>?_) (λ h hc15=>?_)
      ·refine sA ?_
       have he:=oi h
       subst he
       exact zld ⟨[(6,(I 3))],[],0,75⟩ []
      ·refine sA ?_
       refine zle h (λ h hc16=>?_) (λ h hc16=>?_)
       ·refine sA ?_
        have he:=oi h
        subst he
        exact zld ⟨[(6,(I 4))],[],0,75⟩ []
       ·refine sA ?_
        obtain ⟨c789,hr17,h⟩:=zk9 h
        refine zlh (zat hr17) ?_
        refine sA ?_
        obtain ⟨hp18,h⟩:=zla h
        refine sA ?_
        refine zlq ?_
        obtain ⟨c790,hr19,h⟩:=zk9 h
        refine zlh (zg5 hr19) ?_
        refine sA ?_
        cases h
theorem ziy {a0:(List RegionT)} {i0:Nat} {f0:RegionT} {a3:Int} {a4:ByteArray} {r:(Int×(List RegionT))} (h:zbq a0 i0 f0 a3 a4=some r):Fn Tryz.prog 137 [(.pe 0 3 i0 0),(I a3),(.lf false (.sc (.string a4)))] [(0,some (false,.foc [.sc,.sc,.sl [.sl [.sc,.sc,.sc,.sc]]] (a0.map zlj) i0 [(I f0.Id),(I f0.fVe),(.lf true (.sl (f0.fTe.fBr.map zlc)))]))] 1 (I r.1) [(0,some (false,.deep [.sc,.sc,.sl [.sl [.sc,.sc,.sc,.sc]]] (r.2.map zlj)))] 1:=by
 unfold zbq at h
 refine fc [(14,[(4,6),(8,6),(12,6),(4,16),(4,17),(16,16)]),(1000,[(0,0),(1,0),(2,0)]),(1001,[(0,0),(1,0),(2,0),(7,0)]),(1002,[(0,0),(1,0),(2,0),(7,0),(8,0)]),(1003,[(0,0),(1,0),(2,0),(7,0),(8,0),(9,0)]),(1004,[(0,0),(1,0),(2,0),(7,0),(8,0),(9,0),(25,0)]),(1005,[(6,0)]),(1006,[(0,0),(1,0),(2,0),(7,0),(8,0),(9,0),(34,0)]),(1007,[(6,0)]),(1008,[(0,0),(1,0),(2,0),(7,0),(8,0),(9,0),(38,0)]),(1009,[(6,0)]),(1010,[(0,0),(1,0),(2,0),(7,0),(8,0),(47,0)]),(1011,[(6,0)]),(1012,[(0,0),(1,0),(2,0),(7,0),(8,0),(50,0)]),(1013,[(6,0)]),(1014,[]),(1015,[(6,0)])] Tryz.func137 ?_
 simp only [Tryz.f137]
 refine sA ?_
 obtain ⟨c795,hr1,h⟩:=zk9 h
 refine zlh (zgh hr1) ?_
 refine sA ?_
 obtain ⟨c796,hr2,h⟩:=zk9 h
 refine zlh (zgS hr2) ?_
 refine sA ?_
 obtain ⟨c797,hr3,h⟩:=zk9 h
 refine zlh (zim hr3) ?_
 refine sA ?_
 obtain ⟨c798,hr4,h⟩:=zk9 h
 refine zlh (zfQ hr4) ?_
 refine sA ?_
 refine zlt h (λ h hc5=>?_) (λ h hc5=>?_)
 ·cases h
 ·refine sA ?_
  obtain ⟨c799,hr6,h⟩:=zk9 h
  refine zlh (zd7 hr6) ?_
  refine sA ?_
  refine zle h (λ h hc7=>?_) (λ h hc7=>?_)
  ·cases h
  ·refine sA ?_
   obtain ⟨c800,hr8,h⟩:=zk9 h
   refine zlh (zee hr8) ?_
   refine sA ?_
   refine zle h (λ h hc9=>?_) (λ h hc9=>?_)
   ·cases h
   ·refine sA ?_
    refine zlt h (λ h hc10=>?_) (λ h hc10=>?_)
    ·refine sA ?_
     obtain ⟨c801,hr11,h⟩:=zk9 h
     refine zlh (zaF hr11) ?_
     refine sA ?_
     refine zle h (λ h hc12=>?_) (λ h hc12=>?_)
     ·cases h
     ·refine sA ?_
      refine zle h (λ h hc13=>?_) (λ h hc13=>?_)
      ·cases h
      ·refine sA ?_
       refine zle h (λ h hc14=>?_) (λ h hc14=>?_)
       ·cases h
       ·refine sA ?_
        obtain ⟨c802,hr15,h⟩:=zk9 h
        refine zlh (zat hr15) ?_
        refine sA ?_
        obtain ⟨hp16,h⟩:=zla h
        refine sA ?_
        refine zlq ?_
        obtain ⟨c803,hr17,h⟩:=zk9 h
        refine zlh (zg5 hr17) ?_
        refine sA ?_
        have he:=oi h
        subst he
        refine zom 0 ?_
        refine sA ?_
        exact zld ⟨[(6,(I 0))],[(0,some (false,.deep [.sc,.sc,.sl [.sl [.sc,.sc,.sc,.sc]]] ((a0.set i0 (⟨f0.Id,f0.fVe,c803⟩:RegionT)).map zlj)))],1,75⟩ [some 0]
    ·refine sA ?_
     refine zle h (λ h hc18=>?_) (λ h hc18=>?_)
     ·cases h
     ·refine sA ?_
      refine zle h (λ h hc19=>?_) (λ h hc19=>?_)
      ·cases h
      ·refine sA ?_
       obtain ⟨c804,hr20,h⟩:=zk9 h
       refine zlh (zat hr20) ?_
       refine sA ?_
       obtain ⟨hp21,h⟩:=zla h
       refine sA ?_
       refine zlq ?_
       obtain ⟨c805,hr22,h⟩:=zk9 h
       refine zlh (zg5 hr22) ?_
       refine sA ?_
       have he:=oi h
       subst he
       refine zom 0 ?_
       refine sA ?_
       exact zld ⟨[(6,(I 0))],[(0,some (false,.deep [.sc,.sc,.sl [.sl [.sc,.sc,.sc,.sc]]] ((a0.set i0 (⟨f0.Id,f0.fVe,c805⟩:RegionT)).map zlj)))],1,75⟩ [some 0]
theorem zhW {a0:(List RegionT)} {i0:Nat} {r:(Int×(List RegionT))} (h:zba a0 i0=some r):Fn Tryz.prog 67 [(.pe 0 3 i0 0)] [(0,some (false,.deep [.sc,.sc,.sl [.sl [.sc,.sc,.sc,.sc]]] (a0.map zlj)))] 1 (I r.1) [(0,some (false,.deep [.sc,.sc,.sl [.sl [.sc,.sc,.sc,.sc]]] (r.2.map zlj)))] 1:=by
 unfold zba at h
 refine fc [(1000,[(0,0)]),(1001,[(0,0),(3,0)]),(1002,[(0,0),(3,0),(10,0),(11,0),(12,0)]),(1003,[(0,0),(3,0),(10,0),(11,0),(12,0),(13,0)]),(1004,[(0,0),(3,0),(5,0),(10,0),(11,0),(12,0)]),(1005,[(0,0),(3,0),(10,0),(11,0),(12,0),(19,0)]),(1006,[(0,0),(3,0),(10,0),(11,0),(12,0)]),(1007,[(0,0),(3,0),(10,0),(11,0),(12,0)]),(1008,[(2,0)]),(5002,[]),(5005,[])] Tryz.func67 ?_
 simp only [Tryz.f67]
 refine sA ?_
 obtain ⟨hp1,h⟩:=zla h
 refine zpl 0 i0 ?_
 refine sA ?_
 obtain ⟨c793,hr2,h⟩:=zk9 h
 refine zlh (zi1 hr2) ?_
 refine sA ?_
 obtain ⟨y810,hl3,h⟩:=zk9 h
 refine zlo (λ g794:zbs=>⟨[(0,(.pe 0 3 i0 0)),(3,(I g794.t3)),(10,(.os 1 1 0 c793.length c793.length false)),(11,(I ((c793.length:Nat):Int))),(12,(I g794.t12))],[(0,some (false,.deep [.sc,.sc,.sl [.sl [.sc,.sc,.sc,.sc]]] (g794.c0.map zlj))),(1,some (false,.arr false 1 (c793.map eS)))],2,24⟩) (zP c793 i0) _ _ hl3 (zn7 0 (zlg [some 0,some 4])) ?_
 ·intro n1 g794 z1 hs1 hk1
  unfold zP at hs1
  try dsimp only at hs1
  refine sA ?_
  refine zle hs1 (λ hs1 hc4=>?_) (λ hs1 hc4=>?_)
  ·refine sA ?_
   obtain ⟨hp5,hs1⟩:=zla hs1
   have hn5:g794.t12.toNat < c793.length:=by first|omega|(simp;omega)
   refine sA ?_
   refine zlq ?_
   refine zo1 ?_
   refine sA ?_
   obtain ⟨hp7,hs1⟩:=zla hs1
   refine zpl 0 i0 ?_
   refine sA ?_
   cases hab8:zaD (⟨(nth g794.c0 i0).Id,(nth g794.c0 i0).fVe,((nth g794.c0 i0).fTe)⟩:RegionT) 2 (nth c793 g794.t12.toNat) with
   | some c808 =>
    rw [hab8] at hs1
    try dsimp only at hs1
    refine zlh (zix hab8) ?_
    refine sA ?_
    refine zle hs1 (λ hs1 hc9=>?_) (λ hs1 hc9=>?_)
    ·refine sA ?_
     cases hs1
     exact zll hk1 (zn7 0 (zlg [some 0,some 1]))
    ·refine sA ?_
     cases hs1
     exact zll hk1 (zn7 0 (zlg [some 0,some 1]))
   | none =>
    rw [hab8] at hs1
    try dsimp only at hs1
    obtain ⟨c809,hr10,hs1⟩:=zk9 hs1
    refine zDl [0] (ziy hr10) ?_
    refine sA ?_
    refine zle hs1 (λ hs1 hc11=>?_) (λ hs1 hc11=>?_)
    ·refine sA ?_
     cases hs1
     exact zll hk1 (zlg [some 0,some 1])
    ·refine sA ?_
     cases hs1
     exact zll hk1 (zlg [some 0,some 1])
  ·refine sA ?_
   cases hs1
   cases hk1
   try dsimp only at h
   refine sA ?_
   have he:=oi h
   subst he
   exact zld ⟨[(2,(I g794.t3))],[(0,some (false,.deep [.sc,.sc,.sl [.sl [.sc,.sc,.sc,.sc]]] (g794.c0.map zlj)))],1,24⟩ [some 0]
theorem zhY {a0:WorldT} {m1:Nat} {x1:Bool} {r:(Bool×WorldT×(List RegionT))} (h:zbr a0=some r):Fn Tryz.prog 104 [(.pb 0 0)] [(0,some (false,.box [(.os 1 3 0 a0.fRe.length m1 x1),.nl])),(1,some (false,.deep [.sc,.sc,.sl [.sl [.sc,.sc,.sc,.sc]]] (a0.fRe.map zlj)))] 2 (B r.1) [(0,some (false,.box [(.os 1 3 0 r.2.2.length r.2.2.length false),.nl])),(1,some (false,.deep [.sc,.sc,.sl [.sl [.sc,.sc,.sc,.sc]]] (r.2.2.map zlj)))] 2:=by
 unfold zbr at h
 refine fc [(1000,[(0,0)]),(1001,[(0,0),(3,0),(4,0)]),(1002,[(0,0),(28,0)]),(1003,[(2,0)]),(1004,[(0,0),(33,0),(34,0)]),(1005,[(0,0),(33,0),(34,0),(35,0)]),(1006,[(0,0),(5,0),(33,0),(34,0)]),(1007,[(0,0),(6,0),(33,0),(34,0)]),(1008,[(0,0),(6,0),(33,0),(34,0),(44,0)]),(1009,[(0,0),(33,0),(34,0)]),(1010,[(0,0),(33,0),(34,0)]),(1011,[(2,0)]),(4002,[])] Tryz.func104 ?_
 simp only [Tryz.f104]
 refine sA ?_
 obtain ⟨hp1,h⟩:=zla h
 have hn1:0 < a0.fRe.length:=by first|omega|(simp;omega)
 refine sA ?_
 refine zlq ?_
 obtain ⟨hp2,h⟩:=zla h
 have hn2:1 < a0.fRe.length:=by first|omega|(simp;omega)
 refine sA ?_
 refine zlq ?_
 obtain ⟨p734,hq3,h⟩:=zk9 h
 refine zlS (λ s2=>s2=⟨[(0,(.pb 0 0)),(28,(B p734.t28))],[(0,some (false,.box [(.os 1 3 0 p734.c1.length p734.c1.length false),.nl])),(1,some (false,.deep [.sc,.sc,.sl [.sl [.sc,.sc,.sc,.sc]]] (p734.c1.map zlj)))],2,48⟩) ?_ ?_
 ·refine sA ?_
  obtain ⟨c729,hr4,hq3⟩:=zk9 hq3
  refine zlh (zg4 hr4) ?_
  refine sA ?_
  obtain ⟨c731,hr5,hq3⟩:=zk9 hq3
  refine znM [1,2] (zgl hr5) ?_
  refine sA ?_
  obtain ⟨hp6,hq3⟩:=zla hq3
  have hl6:a0.fRe.length≤c731.2.length:=by omega
  have ht6:List.take (a0.fRe.length) c731.2=c731.2:=by rw [← hp6];exact qb
  try rw [← hp6]
  try simp (disch:=first | assumption | (simp only [qL];assumption)) only [go_sem,qA,qB,qC,qD,↓reduceIte,qE,reduceCtorEq,qF,qH,qI,qJ,qK,qG,hl6,ht6]
  refine zlt hq3 (λ hq3 hc7=>?_) (λ hq3 hc7=>?_)
  ·try simp (disch:=first | assumption | (simp only [qL];assumption)) only [go_sem,qA,qB,qC,qD,↓reduceIte,qE,reduceCtorEq,qF,qH,qI,qJ,qK,qG,hl6,ht6]
   cases hq3
   refine zlr rfl ?_
   refine zlB (m:=2) [some 0,some 1] rfl rfl rfl (by rfl) ?_ ?_
   all_goals ((try simp (disch:=first | assumption | (simp only [qL];assumption)) only [go_sem,qA,qB,qC,qD,↓reduceIte,qE,reduceCtorEq,qF,qH,qI,qJ,qK,qG,hl6,ht6]);(repeat' first | done | rfl | omega | refine And.intro ?_ ?_ | (simp;done) | (simp;omega)))
  ·try simp (disch:=first | assumption | (simp only [qL];assumption)) only [go_sem,qA,qB,qC,qD,↓reduceIte,qE,reduceCtorEq,qF,qH,qI,qJ,qK,qG,hl6,ht6]
   obtain ⟨c732,hr8,hq3⟩:=zk9 hq3
   have hw8:1 < c731.2.length:=by omega
   refine zmS (zg4 hr8) (by first | rfl | (simp (disch:=first | assumption | (simp only [qL];assumption)) only [go_sem,qA,qB,qC,qD,↓reduceIte,qE,reduceCtorEq,qF,qH,qI,qJ,qK,qG,hl6,ht6];first | done | rfl) | (simp only [qM,qP,qQ,qO,qL,qN,qa,qA];rfl) | (simp (disch:=first | assumption | (simp only [qL];assumption)) only [go_sem,qA,qB,qC,qD,↓reduceIte,qE,reduceCtorEq,qF,qH,qI,qJ,qK,qG,hl6,ht6];simp only [qM,qP,qQ,qO,qL,qN,qa,qA];rfl)) (FitAll.refl _) (.inr ⟨rfl,by simp [zm0,zoC]⟩) ?_
   try simp (disch:=first | assumption | (simp only [qL];assumption)) only [go_sem,qA,qB,qC,qD,↓reduceIte,qE,reduceCtorEq,qF,qH,qI,qJ,qK,qG,hl6,ht6]
   obtain ⟨c733,hr9,hq3⟩:=zk9 hq3
   refine zrh (ids:=[1,4]) (zgl hr9) (by first | rfl | (simp (disch:=first | assumption | (simp only [qL];assumption)) only [go_sem,qA,qB,qC,qD,↓reduceIte,qE,reduceCtorEq,qF,qH,qI,qJ,qK,qG,hl6,ht6];first | done | rfl) | (simp only [qM,qP,qQ,qO,qL,qN,qa,qA];rfl) | (simp (disch:=first | assumption | (simp only [qL];assumption)) only [go_sem,qA,qB,qC,qD,↓reduceIte,qE,reduceCtorEq,qF,qH,qI,qJ,qK,qG,hl6,ht6];simp only [qM,qP,qQ,qO,qL,qN,qa,qA];rfl)) (FitAll.refl _) (by first | rfl | (simp (disch:=first | assumption | (simp only [qL];assumption)) only [go_sem,qA,qB,qC,qD,↓reduceIte,qE,reduceCtorEq,qF,qH,qI,qJ,qK,qG,hl6,ht6];first | done | rfl) | (simp only [qM,qP,qQ,qO,qL,qN,qa,qA];rfl) | (simp (disch:=first | assumption | (simp only [qL];assumption)) only [go_sem,qA,qB,qC,qD,↓reduceIte,qE,reduceCtorEq,qF,qH,qI,qJ,qK,qG,hl6,ht6];simp only [qM,qP,qQ,qO,qL,qN,qa,qA];rfl)) (by decide) (by first | rfl | (simp (disch:=first | assumption | (simp only [qL];assumption)) only [go_sem,qA,qB,qC,qD,↓reduceIte,qE,reduceCtorEq,qF,qH,qI,qJ,qK,qG,hl6,ht6];done)) (by rfl) ?_
   try simp (disch:=first | assumption | (simp only [qL];assumption)) only [go_sem,qA,qB,qC,qD,↓reduceIte,qE,reduceCtorEq,qF,qH,qI,qJ,qK,qG,hl6,ht6]
   obtain ⟨hp10,hq3⟩:=zla hq3
   have hl10:c731.2.length≤c733.2.length:=by omega
   have ht10:List.take (c731.2.length) c733.2=c733.2:=by rw [← hp10];exact qb
   try rw [← hp10]
   try simp (disch:=first | assumption | (simp only [qL];assumption)) only [go_sem,qA,qB,qC,qD,↓reduceIte,qE,reduceCtorEq,qF,qH,qI,qJ,qK,qG,hl6,ht6,hl10,ht10]
   cases hq3
   refine zlr rfl ?_
   refine zlB (m:=2) [some 0,some 1] rfl rfl rfl (by rfl) ?_ ?_
   all_goals ((try simp (disch:=first | assumption | (simp only [qL];assumption)) only [go_sem,qA,qB,qC,qD,↓reduceIte,qE,reduceCtorEq,qF,qH,qI,qJ,qK,qG,hl6,ht6,hl10,ht10]);(repeat' first | done | rfl | omega | refine And.intro ?_ ?_ | (simp;done) | (simp;omega)))
 ·intro s2 hJ;subst hJ
  try dsimp only at h
  refine sA ?_
  refine zle h (λ h hc11=>?_) (λ h hc11=>?_)
  ·refine sA ?_
   have he:=oi h
   subst he
   exact zld ⟨[(2,(B false))],[(0,some (false,.box [(.os 1 3 0 p734.c1.length p734.c1.length false),.nl])),(1,some (false,.deep [.sc,.sc,.sl [.sl [.sc,.sc,.sc,.sc]]] (p734.c1.map zlj)))],2,48⟩ [some 0,some 1]
  ·refine sA ?_
   obtain ⟨y814,hl12,h⟩:=zk9 h
   refine zlo (λ g735:zdn=>⟨[(0,(.pb 0 0)),(33,(I ((p734.c1.length:Nat):Int))),(34,(I g735.t34))],[(0,some (false,.box [(.os 1 3 0 g735.c1.length g735.c1.length false),.nl])),(1,some (false,.deep [.sc,.sc,.sl [.sl [.sc,.sc,.sc,.sc]]] (g735.c1.map zlj)))],2,48⟩) (zw p734) _ _ hl12 (zlg [some 0,some 1]) ?_
   ·intro n1 g735 z1 hs1 hk1
    unfold zw at hs1
    try dsimp only at hs1
    refine sA ?_
    refine zle hs1 (λ hs1 hc13=>?_) (λ hs1 hc13=>?_)
    ·refine sA ?_
     obtain ⟨hp14,hs1⟩:=zla hs1
     have hn14:g735.t34.toNat < g735.c1.length:=by first|omega|(simp;omega)
     refine sA ?_
     refine zlq ?_
     obtain ⟨c812,hr15,hs1⟩:=zk9 hs1
     refine zlh (zee hr15) ?_
     refine sA ?_
     refine zle hs1 (λ hs1 hc16=>?_) (λ hs1 hc16=>?_)
     ·refine sA ?_
      obtain ⟨c813,hr17,hs1⟩:=zk9 hs1
      refine znM [1] (zhW hr17) ?_
      refine sA ?_
      obtain ⟨hp18,hs1⟩:=zla hs1
      have hl18:g735.c1.length≤c813.2.length:=by omega
      have ht18:List.take (g735.c1.length) c813.2=c813.2:=by rw [← hp18];exact qb
      try rw [← hp18]
      try simp (disch:=first | assumption | (simp only [qL];assumption)) only [go_sem,qA,qB,qC,qD,↓reduceIte,qE,reduceCtorEq,qF,qH,qI,qJ,qK,qG,hl18,ht18]
      cases hs1
      refine zll hk1 ?_
      refine zlB (m:=2) [some 0,some 1] rfl rfl rfl (by rfl) ?_ ?_
      all_goals ((try simp (disch:=first | assumption | (simp only [qL];assumption)) only [go_sem,qA,qB,qC,qD,↓reduceIte,qE,reduceCtorEq,qF,qH,qI,qJ,qK,qG,hl18,ht18]);(repeat' first | done | rfl | omega | refine And.intro ?_ ?_ | (simp;done) | (simp;omega)))
     ·refine sA ?_
      cases hs1
      exact zll hk1 (zlg [some 0,some 1])
    ·refine sA ?_
     cases hs1
     cases hk1
     try dsimp only at h
     refine sA ?_
     have he:=oi h
     subst he
     exact zld ⟨[(2,(B true))],[(0,some (false,.box [(.os 1 3 0 g735.c1.length g735.c1.length false),.nl])),(1,some (false,.deep [.sc,.sc,.sl [.sl [.sc,.sc,.sc,.sc]]] (g735.c1.map zlj)))],2,48⟩ [some 0,some 1]
theorem zid {a0:BranchT} {a1:BranchT} {r:Bool} (h:zc2 a0 a1=some r):Fn Tryz.prog 213 [(.ag [(.lf true (.sl (a0.fEv.map zlk)))]),(.ag [(.lf true (.sl (a1.fEv.map zlk)))])] [] 0 (B r) [] 0:=by
 unfold zc2 at h
 refine fc [] Tryz.func213 ?_
 simp only [Tryz.f213]
 refine sA ?_
 obtain ⟨c817,hr1,h⟩:=zk9 h
 refine zlh (zfR hr1) ?_
 refine sA ?_
 have he:=oi h
 subst he
 exact zld ⟨[(4,(B c817))],[],0,10⟩ []
theorem zcU {a0:(List BranchT)} {a1:(List BranchT)} {r:Bool} (h:zu a0 a1=some r):Fn Tryz.prog 212 [(.lf true (.sl (a0.map zlc))),(.lf true (.sl (a1.map zlc))),(.fn 213 [])] [] 0 (B r) [] 0:=by
 unfold zu at h
 refine fc [(1000,[(0,0),(1,0),(2,0)]),(1001,[(0,0),(1,0),(2,0),(14,0)]),(1002,[(6,0)]),(1003,[(1,0),(2,0),(15,0),(16,0),(17,0)]),(1004,[(1,0),(2,0),(15,0),(16,0),(17,0),(18,0)]),(1005,[(1,0),(2,0),(7,0),(8,0),(15,0),(16,0),(17,0)]),(1006,[(1,0),(2,0),(8,0),(9,0),(15,0),(16,0),(17,0)]),(1007,[(1,0),(2,0),(15,0),(16,0),(17,0),(30,0)]),(1008,[(6,0)]),(1009,[(1,0),(2,0),(15,0),(16,0),(17,0)]),(1010,[(6,0)])] Tryz.func212 ?_
 simp only [Tryz.f212]
 refine sA ?_
 refine zle h (λ h hc1=>?_) (λ h hc1=>?_)
 ·refine sA ?_
  have he:=oi h
  subst he
  exact zld ⟨[(6,(B false))],[],0,32⟩ []
 ·refine sA ?_
  obtain ⟨y820,hl2,h⟩:=zk9 h
  refine zlo (λ g816:zp=>⟨[(1,(.lf true (.sl (a1.map zlc)))),(2,(.fn 213 [])),(15,(.lf true (.sl (a0.map zlc)))),(16,(I ((a0.length:Nat):Int))),(17,(I g816.t17))],[],0,32⟩) (za a0 a1) _ _ hl2 (zlg []) ?_
  ·intro n1 g816 z1 hs1 hk1
   unfold za at hs1
   try dsimp only at hs1
   refine sA ?_
   refine zle hs1 (λ hs1 hc3=>?_) (λ hs1 hc3=>?_)
   ·refine sA ?_
    obtain ⟨hp4,hs1⟩:=zla hs1
    have hn4:g816.t17.toNat < a0.length:=by first|omega|(simp;omega)
    refine sA ?_
    refine zlq ?_
    obtain ⟨hp5,hs1⟩:=zla hs1
    have hn5:g816.t17.toNat < a1.length:=by first|omega|(simp;omega)
    refine sA ?_
    refine zlq ?_
    obtain ⟨c819,hr6,hs1⟩:=zk9 hs1
    refine zlh (zid hr6) ?_
    refine sA ?_
    refine zle hs1 (λ hs1 hc7=>?_) (λ hs1 hc7=>?_)
    ·refine sA ?_
     cases hs1
     cases hk1
     try dsimp only at h
     refine sA ?_
     have he:=oi h
     subst he
     exact zld ⟨[(6,(B false))],[],0,32⟩ []
    ·refine sA ?_
     cases hs1
     exact zll hk1 (zlg [])
   ·refine sA ?_
    cases hs1
    cases hk1
    try dsimp only at h
    refine sA ?_
    have he:=oi h
    subst he
    exact zld ⟨[(6,(B true))],[],0,32⟩ []
theorem ziH {a0:TellingsT} {a1:TellingsT} {r:Bool} (h:zcM a0 a1=some r):Fn Tryz.prog 168 [(.ag [(.lf true (.sl (a0.fBr.map zlc)))]),(.ag [(.lf true (.sl (a1.fBr.map zlc)))])] [] 0 (B r) [] 0:=by
 unfold zcM at h
 refine fc [] Tryz.func168 ?_
 simp only [Tryz.f168]
 refine sA ?_
 obtain ⟨c823,hr1,h⟩:=zk9 h
 refine zlh (zcU hr1) ?_
 refine sA ?_
 have he:=oi h
 subst he
 exact zld ⟨[(4,(B c823))],[],0,10⟩ []
theorem zhl {a0:RegionT} {a1:RegionT} {r:Bool} (h:zb3 a0 a1=some r):Fn Tryz.prog 105 [(.ra true [.sc (.int .i64 a0.Id),.sc (.int .i64 a0.fVe),.sl (a0.fTe.fBr.map zlc)]),(.ra true [.sc (.int .i64 a1.Id),.sc (.int .i64 a1.fVe),.sl (a1.fTe.fBr.map zlc)])] [] 0 (B r) [] 0:=by
 unfold zb3 at h
 refine fc [] Tryz.func105 ?_
 simp only [Tryz.f105]
 refine sA ?_
 refine zlt h (λ h hc1=>?_) (λ h hc1=>?_)
 ·refine sA ?_
  obtain ⟨c824,hr2,h⟩:=zk9 h
  refine zlh (ziH hr2) ?_
  refine sA ?_
  have he:=oi h
  subst he
  exact zld ⟨[(4,(B c824))],[],0,25⟩ []
 ·refine sA ?_
  have he:=oi h
  subst he
  exact zld ⟨[(4,(B false))],[],0,25⟩ []
theorem zhm {a0:WorldT} {r:(WorldT×Int×Bool)} (h:zca a0=some r):Fn Tryz.prog 38 [(.ag [(.lf true (.sl (a0.fRe.map zlj))),(.lf true (.sl (a0.Line.map zlz)))])] [] 0 (.tu [(.ag [(.os 0 3 0 r.1.fRe.length r.1.fRe.length false),.nl]),(I r.2.1),(B r.2.2)]) [(0,some (true,.deep [.sc,.sc,.sl [.sl [.sc,.sc,.sc,.sc]]] (r.1.fRe.map zlj)))] 2:=by
 unfold zca at h
 refine fc [(1000,[(1,0),(2,0)]),(1001,[(1,0),(2,0),(10,0)]),(1002,[(2,0),(3,0),(4,0)]),(1003,[(2,0),(5,0)]),(1004,[(2,0),(5,0)]),(1005,[(2,0),(5,0),(6,0)]),(1006,[(2,0),(5,0),(6,0),(16,0)]),(1007,[(2,0),(5,0),(6,0)]),(1008,[(2,0),(5,0),(6,0),(7,0)]),(1009,[(2,0),(5,0),(6,0),(7,0),(22,0)]),(1010,[(2,0),(3,0),(4,0)]),(1011,[(2,0),(5,0),(6,0),(39,0)]),(1012,[(2,0),(3,0),(4,0)]),(1013,[(2,0),(3,0),(4,0)]),(4011,[])] Tryz.func38 ?_
 simp only [Tryz.f38]
 refine sA ?_
 obtain ⟨c676,hr1,h⟩:=zk9 h
 refine zlh (zjZ hr1) ?_
 refine sA ?_
 refine zle h (λ h hc2=>?_) (λ h hc2=>?_)
 ·refine sA ?_
  have he:=oi h
  subst he
  exact zld ⟨[(2,(.pb 1 0)),(3,(I 0)),(4,(B false))],[(0,some (true,.deep [.sc,.sc,.sl [.sl [.sc,.sc,.sc,.sc]]] (([]:List RegionT).map zlj))),(1,some (true,.box [(.os 0 3 0 (([]:List RegionT).length) (([]:List RegionT).length) false),.nl]))],2,43⟩ [none,some 1]
 ·refine sA ?_
  obtain ⟨c695,hr3,h⟩:=zk9 h
  refine zlh (zhF hr3) ?_
  refine sA ?_
  obtain ⟨y833,hl4,h⟩:=zk9 h
  refine zlo (λ g696:zfC=>⟨[(2,(.pb 0 0)),(5,(.pb 1 0)),(6,(I g696.t6))],[(0,some (true,.box [.nl,.nl])),(1,some (true,.box [(.os 2 3 0 g696.c2.length g696.c2.length false),.nl])),(2,some (true,.deep [.sc,.sc,.sl [.sl [.sc,.sc,.sc,.sc]]] (g696.c2.map zlj)))],3,43⟩) (zab) _ _ hl4 (zlg [some 1,some 5,some 2]) ?_
  ·intro n1 g696 z1 hs1 hk1
   unfold zab at hs1
   try dsimp only at hs1
   refine sA ?_
   refine zle hs1 (λ hs1 hc5=>?_) (λ hs1 hc5=>?_)
   ·refine sA ?_
    obtain ⟨c828,hr6,hs1⟩:=zk9 hs1
    refine zya (zhF hr6) ?_
    refine sA ?_
    obtain ⟨c829,hr7,hs1⟩:=zk9 hs1
    refine znM [1,2] (zhY hr7) ?_
    refine sA ?_
    refine zle hs1 (λ hs1 hc8=>?_) (λ hs1 hc8=>?_)
    ·refine sA ?_
     cases hs1
     cases hk1
     try dsimp only at h
     refine sA ?_
     have he:=oi h
     subst he
     exact zld ⟨[(2,(.pb 1 0)),(3,(I 0)),(4,(B false))],[(0,some (true,.deep [.sc,.sc,.sl [.sl [.sc,.sc,.sc,.sc]]] (([]:List RegionT).map zlj))),(1,some (true,.box [(.os 0 3 0 (([]:List RegionT).length) (([]:List RegionT).length) false),.nl]))],2,43⟩ [none,some 0]
    ·refine sA ?_
     obtain ⟨p832,hq9,hs1⟩:=zk9 hs1
     refine zlS (λ s2=>s2=⟨[(2,(.pb 0 0)),(5,(.pb 1 0)),(6,(I g696.t6)),(39,(B p832.t39))],[(0,some (true,.box [.nl,.nl])),(1,some (true,.box [(.os 2 3 0 c829.2.2.length c829.2.2.length false),.nl])),(2,some (true,.deep [.sc,.sc,.sl [.sl [.sc,.sc,.sc,.sc]]] (c829.2.2.map zlj)))],3,43⟩) ?_ ?_
     ·refine sA ?_
      obtain ⟨hp10,hq9⟩:=zla hq9
      have hn10:0 < c828.fRe.length:=by first|omega|(simp;omega)
      refine sA ?_
      refine zlq ?_
      obtain ⟨hp11,hq9⟩:=zla hq9
      have hn11:0 < c829.2.2.length:=by first|omega|(simp;omega)
      refine sA ?_
      refine zlq ?_
      obtain ⟨c830,hr12,hq9⟩:=zk9 hq9
      refine zlh (zhl hr12) ?_
      refine sA ?_
      refine zlt hq9 (λ hq9 hc13=>?_) (λ hq9 hc13=>?_)
      ·refine sA ?_
       obtain ⟨hp14,hq9⟩:=zla hq9
       have hn14:1 < c828.fRe.length:=by first|omega|(simp;omega)
       refine sA ?_
       refine zlq ?_
       obtain ⟨hp15,hq9⟩:=zla hq9
       have hn15:1 < c829.2.2.length:=by first|omega|(simp;omega)
       refine sA ?_
       refine zlq ?_
       obtain ⟨c831,hr16,hq9⟩:=zk9 hq9
       refine zlh (zhl hr16) ?_
       refine sA ?_
       cases hq9
       exact zlr rfl (zlg [some 0,some 1,some 2])
      ·refine sA ?_
       cases hq9
       exact zlr rfl (zlg [some 0,some 1,some 2])
     ·intro s2 hJ;subst hJ
      try dsimp only at hs1
      refine sA ?_
      refine zle hs1 (λ hs1 hc17=>?_) (λ hs1 hc17=>?_)
      ·refine sA ?_
       cases hs1
       cases hk1
       try dsimp only at h
       refine sA ?_
       have he:=oi h
       subst he
       exact zld ⟨[(2,(.pb 1 0)),(3,(I g696.t6)),(4,(B true))],[(0,some (true,.deep [.sc,.sc,.sl [.sl [.sc,.sc,.sc,.sc]]] (c829.2.2.map zlj))),(1,some (true,.box [(.os 0 3 0 c829.2.2.length c829.2.2.length false),.nl]))],2,43⟩ [some 2,some 0]
      ·refine sA ?_
       cases hs1
       exact zll hk1 (zlg [some 0,some 1,some 2])
   ·refine sA ?_
    cases hs1
    cases hk1
    try dsimp only at h
    refine sA ?_
    have he:=oi h
    subst he
    exact zld ⟨[(2,(.pb 1 0)),(3,(I 0)),(4,(B false))],[(0,some (true,.deep [.sc,.sc,.sl [.sl [.sc,.sc,.sc,.sc]]] (([]:List RegionT).map zlj))),(1,some (true,.box [(.os 0 3 0 (([]:List RegionT).length) (([]:List RegionT).length) false),.nl]))],2,43⟩ [none,some 0]
theorem zkP {a0:EventT} {a1:EventT} {r:Bool} (h:zfW a0 a1=some r):Fn Tryz.prog 268 [(.ag [(I a0.Id),(I a0.fVe),(I a0.Kind),(.lf false (.sc (.string a0.Name)))]),(.ag [(I a1.Id),(I a1.fVe),(I a1.Kind),(.lf false (.sc (.string a1.Name)))])] [] 0 (B r) [] 0:=by
 unfold zfW at h
 refine fc [(1000,[(2,0),(3,0)]),(1001,[(2,0),(3,0),(9,0)]),(1002,[(4,0)]),(1003,[(2,0),(3,0),(14,0)]),(1004,[(4,0)]),(1005,[(2,0),(3,0),(19,0)]),(1006,[(4,0)]),(1007,[(24,0)]),(1008,[(4,0)]),(1009,[(4,0)])] Tryz.func268 ?_
 simp only [Tryz.f268]
 refine sA ?_
 refine zle h (λ h hc1=>?_) (λ h hc1=>?_)
 ·refine sA ?_
  have he:=oi h
  subst he
  exact zld ⟨[(4,(B false))],[],0,25⟩ []
 ·refine sA ?_
  refine zle h (λ h hc2=>?_) (λ h hc2=>?_)
  ·refine sA ?_
   have he:=oi h
   subst he
   exact zld ⟨[(4,(B false))],[],0,25⟩ []
  ·refine sA ?_
   refine zle h (λ h hc3=>?_) (λ h hc3=>?_)
   ·refine sA ?_
    have he:=oi h
    subst he
    exact zld ⟨[(4,(B false))],[],0,25⟩ []
   ·refine sA ?_
    refine zle h (λ h hc4=>?_) (λ h hc4=>?_)
    ·refine sA ?_
     have he:=oi h
     subst he
     exact zld ⟨[(4,(B false))],[],0,25⟩ []
    ·refine sA ?_
     have he:=oi h
     subst he
     exact zld ⟨[(4,(B true))],[],0,25⟩ []
theorem zks {a0:(List EventT)} {a1:(List EventT)} {r:Bool} (h:zfm a0 a1=some r):Fn Tryz.prog 244 [(.lf true (.sl (a0.map zlk))),(.lf true (.sl (a1.map zlk)))] [] 0 (B r) [] 0:=by
 unfold zfm at h
 refine fc [(1000,[(0,0),(1,0)]),(1001,[(0,0),(1,0),(10,0)]),(1002,[(4,0)]),(1003,[(0,0),(1,0),(5,0)]),(1004,[(0,0),(1,0),(5,0),(14,0)]),(1005,[(0,0),(1,0),(5,0)]),(1006,[(0,0),(1,0),(5,0),(26,0)]),(1007,[(4,0)]),(1008,[(4,0)])] Tryz.func244 ?_
 simp only [Tryz.f244]
 refine sA ?_
 refine zle h (λ h hc1=>?_) (λ h hc1=>?_)
 ·refine sA ?_
  have he:=oi h
  subst he
  exact zld ⟨[(4,(B false))],[],0,27⟩ []
 ·refine sA ?_
  obtain ⟨y842,hl2,h⟩:=zk9 h
  refine zlo (λ g839:ze9=>⟨[(0,(.lf true (.sl (a0.map zlk)))),(1,(.lf true (.sl (a1.map zlk)))),(5,(I g839.t5))],[],0,27⟩) (zb2 a0 a1) _ _ hl2 (zlg []) ?_
  ·intro n1 g839 z1 hs1 hk1
   unfold zb2 at hs1
   try dsimp only at hs1
   refine sA ?_
   refine zle hs1 (λ hs1 hc3=>?_) (λ hs1 hc3=>?_)
   ·refine sA ?_
    obtain ⟨hp4,hs1⟩:=zla hs1
    have hn4:g839.t5.toNat < a0.length:=by first|omega|(simp;omega)
    refine sA ?_
    refine zlq ?_
    obtain ⟨hp5,hs1⟩:=zla hs1
    have hn5:g839.t5.toNat < a1.length:=by first|omega|(simp;omega)
    refine sA ?_
    refine zlq ?_
    obtain ⟨c841,hr6,hs1⟩:=zk9 hs1
    refine zlh (zkP hr6) ?_
    refine sA ?_
    refine zle hs1 (λ hs1 hc7=>?_) (λ hs1 hc7=>?_)
    ·refine sA ?_
     cases hs1
     cases hk1
     try dsimp only at h
     refine sA ?_
     have he:=oi h
     subst he
     exact zld ⟨[(4,(B false))],[],0,27⟩ []
    ·refine sA ?_
     cases hs1
     exact zll hk1 (zlg [])
   ·refine sA ?_
    cases hs1
    cases hk1
    try dsimp only at h
    refine sA ?_
    have he:=oi h
    subst he
    exact zld ⟨[(4,(B true))],[],0,27⟩ []
theorem zkt {a0:BranchT} {a1:BranchT} {r:Bool} (h:zfo a0 a1=some r):Fn Tryz.prog 200 [(.ag [(.lf true (.sl (a0.fEv.map zlk)))]),(.ag [(.lf true (.sl (a1.fEv.map zlk)))])] [] 0 (B r) [] 0:=by
 unfold zfo at h
 refine fc [(1000,[(2,0),(3,0)]),(1001,[(10,0)]),(1002,[(4,0)]),(1003,[(4,0)])] Tryz.func200 ?_
 simp only [Tryz.f200]
 refine sA ?_
 obtain ⟨c845,hr1,h⟩:=zk9 h
 refine zlh (zks hr1) ?_
 refine sA ?_
 refine zle h (λ h hc2=>?_) (λ h hc2=>?_)
 ·refine sA ?_
  have he:=oi h
  subst he
  exact zld ⟨[(4,(B false))],[],0,11⟩ []
 ·refine sA ?_
  have he:=oi h
  subst he
  exact zld ⟨[(4,(B true))],[],0,11⟩ []
theorem zj1 {a0:(List BranchT)} {a1:(List BranchT)} {r:Bool} (h:zeH a0 a1=some r):Fn Tryz.prog 147 [(.lf true (.sl (a0.map zlc))),(.lf true (.sl (a1.map zlc)))] [] 0 (B r) [] 0:=by
 unfold zeH at h
 refine fc [(1000,[(0,0),(1,0)]),(1001,[(0,0),(1,0),(10,0)]),(1002,[(4,0)]),(1003,[(0,0),(1,0),(5,0)]),(1004,[(0,0),(1,0),(5,0),(14,0)]),(1005,[(0,0),(1,0),(5,0)]),(1006,[(0,0),(1,0),(5,0),(26,0)]),(1007,[(4,0)]),(1008,[(4,0)])] Tryz.func147 ?_
 simp only [Tryz.f147]
 refine sA ?_
 refine zle h (λ h hc1=>?_) (λ h hc1=>?_)
 ·refine sA ?_
  have he:=oi h
  subst he
  exact zld ⟨[(4,(B false))],[],0,27⟩ []
 ·refine sA ?_
  obtain ⟨y848,hl2,h⟩:=zk9 h
  refine zlo (λ g838:zek=>⟨[(0,(.lf true (.sl (a0.map zlc)))),(1,(.lf true (.sl (a1.map zlc)))),(5,(I g838.t5))],[],0,27⟩) (zbK a0 a1) _ _ hl2 (zlg []) ?_
  ·intro n1 g838 z1 hs1 hk1
   unfold zbK at hs1
   try dsimp only at hs1
   refine sA ?_
   refine zle hs1 (λ hs1 hc3=>?_) (λ hs1 hc3=>?_)
   ·refine sA ?_
    obtain ⟨hp4,hs1⟩:=zla hs1
    have hn4:g838.t5.toNat < a0.length:=by first|omega|(simp;omega)
    refine sA ?_
    refine zlq ?_
    obtain ⟨hp5,hs1⟩:=zla hs1
    have hn5:g838.t5.toNat < a1.length:=by first|omega|(simp;omega)
    refine sA ?_
    refine zlq ?_
    obtain ⟨c847,hr6,hs1⟩:=zk9 hs1
    refine zlh (zkt hr6) ?_
    refine sA ?_
    refine zle hs1 (λ hs1 hc7=>?_) (λ hs1 hc7=>?_)
    ·refine sA ?_
     cases hs1
     cases hk1
     try dsimp only at h
     refine sA ?_
     have he:=oi h
     subst he
     exact zld ⟨[(4,(B false))],[],0,27⟩ []
    ·refine sA ?_
     cases hs1
     exact zll hk1 (zlg [])
   ·refine sA ?_
    cases hs1
    cases hk1
    try dsimp only at h
    refine sA ?_
    have he:=oi h
    subst he
    exact zld ⟨[(4,(B true))],[],0,27⟩ []
theorem zhG {a0:TellingsT} {a1:TellingsT} {r:Bool} (h:zcv a0 a1=some r):Fn Tryz.prog 75 [(.ag [(.lf true (.sl (a0.fBr.map zlc)))]),(.ag [(.lf true (.sl (a1.fBr.map zlc)))])] [] 0 (B r) [] 0:=by
 unfold zcv at h
 refine fc [(1000,[(2,0),(3,0)]),(1001,[(10,0)]),(1002,[(4,0)]),(1003,[(4,0)])] Tryz.func75 ?_
 simp only [Tryz.f75]
 refine sA ?_
 obtain ⟨c851,hr1,h⟩:=zk9 h
 refine zlh (zj1 hr1) ?_
 refine sA ?_
 refine zle h (λ h hc2=>?_) (λ h hc2=>?_)
 ·refine sA ?_
  have he:=oi h
  subst he
  exact zld ⟨[(4,(B false))],[],0,11⟩ []
 ·refine sA ?_
  have he:=oi h
  subst he
  exact zld ⟨[(4,(B true))],[],0,11⟩ []
theorem zku {a0:RegionT} {a1:RegionT} {r:Bool} (h:zfr a0 a1=some r):Fn Tryz.prog 21 [(.ag [(I a0.Id),(I a0.fVe),(.lf true (.sl (a0.fTe.fBr.map zlc)))]),(.ag [(I a1.Id),(I a1.fVe),(.lf true (.sl (a1.fTe.fBr.map zlc)))])] [] 0 (B r) [] 0:=by
 unfold zfr at h
 refine fc [(1000,[(2,0),(3,0)]),(1001,[(2,0),(3,0),(9,0)]),(1002,[(4,0)]),(1003,[(2,0),(3,0),(14,0)]),(1004,[(4,0)]),(1005,[(20,0)]),(1006,[(4,0)]),(1007,[(4,0)])] Tryz.func21 ?_
 simp only [Tryz.f21]
 refine sA ?_
 refine zle h (λ h hc1=>?_) (λ h hc1=>?_)
 ·refine sA ?_
  have he:=oi h
  subst he
  exact zld ⟨[(4,(B false))],[],0,21⟩ []
 ·refine sA ?_
  refine zle h (λ h hc2=>?_) (λ h hc2=>?_)
  ·refine sA ?_
   have he:=oi h
   subst he
   exact zld ⟨[(4,(B false))],[],0,21⟩ []
  ·refine sA ?_
   obtain ⟨c852,hr3,h⟩:=zk9 h
   refine zlh (zhG hr3) ?_
   refine sA ?_
   refine zle h (λ h hc4=>?_) (λ h hc4=>?_)
   ·refine sA ?_
    have he:=oi h
    subst he
    exact zld ⟨[(4,(B false))],[],0,21⟩ []
   ·refine sA ?_
    have he:=oi h
    subst he
    exact zld ⟨[(4,(B true))],[],0,21⟩ []
theorem zj2 {a0:(List RegionT)} {a1:(List RegionT)} {r:Bool} (h:zeP a0 a1=some r):Fn Tryz.prog 106 [(.lf true (.sl (a0.map zlj))),(.lf true (.sl (a1.map zlj)))] [] 0 (B r) [] 0:=by
 unfold zeP at h
 refine fc [(1000,[(0,0),(1,0)]),(1001,[(0,0),(1,0),(10,0)]),(1002,[(4,0)]),(1003,[(0,0),(1,0),(5,0)]),(1004,[(0,0),(1,0),(5,0),(14,0)]),(1005,[(0,0),(1,0),(5,0)]),(1006,[(0,0),(1,0),(5,0),(26,0)]),(1007,[(4,0)]),(1008,[(4,0)])] Tryz.func106 ?_
 simp only [Tryz.f106]
 refine sA ?_
 refine zle h (λ h hc1=>?_) (λ h hc1=>?_)
 ·refine sA ?_
  have he:=oi h
  subst he
  exact zld ⟨[(4,(B false))],[],0,27⟩ []
 ·refine sA ?_
  obtain ⟨y855,hl2,h⟩:=zk9 h
  refine zlo (λ g837:zeq=>⟨[(0,(.lf true (.sl (a0.map zlj)))),(1,(.lf true (.sl (a1.map zlj)))),(5,(I g837.t5))],[],0,27⟩) (zbO a0 a1) _ _ hl2 (zlg []) ?_
  ·intro n1 g837 z1 hs1 hk1
   unfold zbO at hs1
   try dsimp only at hs1
   refine sA ?_
   refine zle hs1 (λ hs1 hc3=>?_) (λ hs1 hc3=>?_)
   ·refine sA ?_
    obtain ⟨hp4,hs1⟩:=zla hs1
    have hn4:g837.t5.toNat < a0.length:=by first|omega|(simp;omega)
    refine sA ?_
    refine zlq ?_
    obtain ⟨hp5,hs1⟩:=zla hs1
    have hn5:g837.t5.toNat < a1.length:=by first|omega|(simp;omega)
    refine sA ?_
    refine zlq ?_
    obtain ⟨c854,hr6,hs1⟩:=zk9 hs1
    refine zlh (zku hr6) ?_
    refine sA ?_
    refine zle hs1 (λ hs1 hc7=>?_) (λ hs1 hc7=>?_)
    ·refine sA ?_
     cases hs1
     cases hk1
     try dsimp only at h
     refine sA ?_
     have he:=oi h
     subst he
     exact zld ⟨[(4,(B false))],[],0,27⟩ []
    ·refine sA ?_
     cases hs1
     exact zll hk1 (zlg [])
   ·refine sA ?_
    cases hs1
    cases hk1
    try dsimp only at h
    refine sA ?_
    have he:=oi h
    subst he
    exact zld ⟨[(4,(B true))],[],0,27⟩ []
theorem zk1 {a0:WordT} {a1:WordT} {r:Bool} (h:zgu a0 a1=some r):Fn Tryz.prog 214 [(.ag [(I a0.fVe),(.lf true (.sl (a0.fTe.fBr.map zlc)))]),(.ag [(I a1.fVe),(.lf true (.sl (a1.fTe.fBr.map zlc)))])] [] 0 (B r) [] 0:=by
 unfold zgu at h
 refine fc [(1000,[(2,0),(3,0)]),(1001,[(2,0),(3,0),(9,0)]),(1002,[(4,0)]),(1003,[(15,0)]),(1004,[(4,0)]),(1005,[(4,0)])] Tryz.func214 ?_
 simp only [Tryz.f214]
 refine sA ?_
 refine zle h (λ h hc1=>?_) (λ h hc1=>?_)
 ·refine sA ?_
  have he:=oi h
  subst he
  exact zld ⟨[(4,(B false))],[],0,16⟩ []
 ·refine sA ?_
  obtain ⟨c860,hr2,h⟩:=zk9 h
  refine zlh (zhG hr2) ?_
  refine sA ?_
  refine zle h (λ h hc3=>?_) (λ h hc3=>?_)
  ·refine sA ?_
   have he:=oi h
   subst he
   exact zld ⟨[(4,(B false))],[],0,16⟩ []
  ·refine sA ?_
   have he:=oi h
   subst he
   exact zld ⟨[(4,(B true))],[],0,16⟩ []
theorem zk2 {a0:SaidT} {a1:SaidT} {r:Bool} (h:zgv a0 a1=some r):Fn Tryz.prog 169 [(.ag [(I a0.To),(I a0.Word.fVe),(.lf true (.sl (a0.Word.fTe.fBr.map zlc)))]),(.ag [(I a1.To),(I a1.Word.fVe),(.lf true (.sl (a1.Word.fTe.fBr.map zlc)))])] [] 0 (B r) [] 0:=by
 unfold zgv at h
 refine fc [(1000,[(2,0),(3,0)]),(1001,[(2,0),(3,0),(9,0)]),(1002,[(4,0)]),(1003,[(15,0)]),(1004,[(4,0)]),(1005,[(4,0)])] Tryz.func169 ?_
 simp only [Tryz.f169]
 refine sA ?_
 refine zle h (λ h hc1=>?_) (λ h hc1=>?_)
 ·refine sA ?_
  have he:=oi h
  subst he
  exact zld ⟨[(4,(B false))],[],0,16⟩ []
 ·refine sA ?_
  obtain ⟨c861,hr2,h⟩:=zk9 h
  refine zlh (zk1 hr2) ?_
  refine sA ?_
  refine zle h (λ h hc3=>?_) (λ h hc3=>?_)
  ·refine sA ?_
   have he:=oi h
   subst he
   exact zld ⟨[(4,(B false))],[],0,16⟩ []
  ·refine sA ?_
   have he:=oi h
   subst he
   exact zld ⟨[(4,(B true))],[],0,16⟩ []
theorem zkQ {a0:(List SaidT)} {a1:(List SaidT)} {r:Bool} (h:zf0 a0 a1=some r):Fn Tryz.prog 107 [(.lf true (.sl (a0.map zlz))),(.lf true (.sl (a1.map zlz)))] [] 0 (B r) [] 0:=by
 unfold zf0 at h
 refine fc [(1000,[(0,0),(1,0)]),(1001,[(0,0),(1,0),(10,0)]),(1002,[(4,0)]),(1003,[(0,0),(1,0),(5,0)]),(1004,[(0,0),(1,0),(5,0),(14,0)]),(1005,[(0,0),(1,0),(5,0)]),(1006,[(0,0),(1,0),(5,0),(26,0)]),(1007,[(4,0)]),(1008,[(4,0)])] Tryz.func107 ?_
 simp only [Tryz.f107]
 refine sA ?_
 refine zle h (λ h hc1=>?_) (λ h hc1=>?_)
 ·refine sA ?_
  have he:=oi h
  subst he
  exact zld ⟨[(4,(B false))],[],0,27⟩ []
 ·refine sA ?_
  obtain ⟨y864,hl2,h⟩:=zk9 h
  refine zlo (λ g859:zfJ=>⟨[(0,(.lf true (.sl (a0.map zlz)))),(1,(.lf true (.sl (a1.map zlz)))),(5,(I g859.t5))],[],0,27⟩) (zcA a0 a1) _ _ hl2 (zlg []) ?_
  ·intro n1 g859 z1 hs1 hk1
   unfold zcA at hs1
   try dsimp only at hs1
   refine sA ?_
   refine zle hs1 (λ hs1 hc3=>?_) (λ hs1 hc3=>?_)
   ·refine sA ?_
    obtain ⟨hp4,hs1⟩:=zla hs1
    have hn4:g859.t5.toNat < a0.length:=by first|omega|(simp;omega)
    refine sA ?_
    refine zlq ?_
    obtain ⟨hp5,hs1⟩:=zla hs1
    have hn5:g859.t5.toNat < a1.length:=by first|omega|(simp;omega)
    refine sA ?_
    refine zlq ?_
    obtain ⟨c863,hr6,hs1⟩:=zk9 hs1
    refine zlh (zk2 hr6) ?_
    refine sA ?_
    refine zle hs1 (λ hs1 hc7=>?_) (λ hs1 hc7=>?_)
    ·refine sA ?_
     cases hs1
     cases hk1
     try dsimp only at h
     refine sA ?_
     have he:=oi h
     subst he
     exact zld ⟨[(4,(B false))],[],0,27⟩ []
    ·refine sA ?_
     cases hs1
     exact zll hk1 (zlg [])
   ·refine sA ?_
    cases hs1
    cases hk1
    try dsimp only at h
    refine sA ?_
    have he:=oi h
    subst he
    exact zld ⟨[(4,(B true))],[],0,27⟩ []
theorem zgi {a0:WorldT} {a1:WorldT} {r:Bool} (h:zcj a0 a1=some r):Fn Tryz.prog 39 [(.ag [(.lf true (.sl (a0.fRe.map zlj))),(.lf true (.sl (a0.Line.map zlz)))]),(.ag [(.lf true (.sl (a1.fRe.map zlj))),(.lf true (.sl (a1.Line.map zlz)))])] [] 0 (B r) [] 0:=by
 unfold zcj at h
 refine fc [(1000,[(2,0),(3,0)]),(1001,[(2,0),(3,0),(10,0)]),(1002,[(4,0)]),(1003,[(16,0)]),(1004,[(4,0)]),(1005,[(4,0)])] Tryz.func39 ?_
 simp only [Tryz.f39]
 refine sA ?_
 obtain ⟨c858,hr1,h⟩:=zk9 h
 refine zlh (zj2 hr1) ?_
 refine sA ?_
 refine zle h (λ h hc2=>?_) (λ h hc2=>?_)
 ·refine sA ?_
  have he:=oi h
  subst he
  exact zld ⟨[(4,(B false))],[],0,17⟩ []
 ·refine sA ?_
  obtain ⟨c867,hr3,h⟩:=zk9 h
  refine zlh (zkQ hr3) ?_
  refine sA ?_
  refine zle h (λ h hc4=>?_) (λ h hc4=>?_)
  ·refine sA ?_
   have he:=oi h
   subst he
   exact zld ⟨[(4,(B false))],[],0,17⟩ []
  ·refine sA ?_
   have he:=oi h
   subst he
   exact zld ⟨[(4,(B true))],[],0,17⟩ []
theorem zia {a0:Int} {r:ByteArray} (h:zbb a0=some r):Fn Tryz.prog 115 [(I a0)] [] 0 (.lf false (.sc (.string r))) [] 0:=by
 unfold zbb at h
 refine fc [(1000,[(0,0)]),(1001,[(0,0),(5,0)]),(1002,[(2,0)]),(1003,[(0,0),(3,0)]),(1004,[(0,0),(3,0),(7,0)]),(1005,[(0,0),(3,0)]),(1006,[(0,0),(3,0)]),(1007,[(2,0)])] Tryz.func115 ?_
 simp only [Tryz.f115]
 refine sA ?_
 refine zle h (λ h hc1=>?_) (λ h hc1=>?_)
 ·refine sA ?_
  have he:=oi h
  subst he
  exact zld ⟨[(2,(.lf false (.sc (.string (⟨#[109,48]⟩:ByteArray)))))],[],0,20⟩ []
 ·refine sA ?_
  obtain ⟨y881,hl2,h⟩:=zk9 h
  refine zlo (λ g880:zgF=>⟨[(0,(I g880.t0)),(3,(.lf false (.sc (.string g880.t3))))],[],0,20⟩) (ze3) _ _ hl2 (zlg []) ?_
  ·intro n1 g880 z1 hs1 hk1
   unfold ze3 at hs1
   try dsimp only at hs1
   refine sA ?_
   refine zle hs1 (λ hs1 hc3=>?_) (λ hs1 hc3=>?_)
   ·refine sA ?_
    obtain ⟨hp4,hs1⟩:=zla hs1
    refine sA ?_
    refine zlq ?_
    cases hs1
    exact zll hk1 (zlg [])
   ·refine sA ?_
    cases hs1
    cases hk1
    try dsimp only at h
    refine sA ?_
    obtain ⟨hp5,h⟩:=zla h
    refine sA ?_
    refine zlq ?_
    have he:=oi h
    subst he
    exact zld ⟨[(2,(.lf false (.sc (.string ((⟨#[109]⟩:ByteArray)++g880.t3)))))],[],0,20⟩ []
theorem ziJ {a0:(List EventT)} {a1:Int} {m0:Nat} {x0:Bool} {r:(Int×(List EventT))} (h:zcK a0 a1=some r):Fn Tryz.prog 201 [(.os 0 4 0 a0.length m0 x0),(I a1)] [(0,some (false,.arr true 4 (a0.map zlk)))] 1 (I r.1) [(0,some (false,.arr false 4 (r.2.map zlk)))] 1:=by
 unfold zcK at h
 refine fc [(1000,[(0,0),(1,0)]),(1001,[(0,0),(1,0),(5,0)]),(1002,[(0,0),(1,0),(5,0),(9,0)]),(1003,[(0,0),(1,0),(5,0)]),(1004,[(0,0),(1,0),(5,0)]),(1005,[(0,0),(1,0),(5,0)]),(1006,[(0,0),(1,0),(5,0)]),(1007,[(0,0),(1,0),(5,0)]),(1008,[(0,0),(1,0),(5,0)]),(1009,[(0,0),(1,0),(5,0)]),(1010,[(0,0),(1,0),(5,0)]),(1011,[(0,0),(1,0),(5,0)]),(1012,[(4,0)])] Tryz.func201 ?_
 simp only [Tryz.f201]
 refine sA ?_
 obtain ⟨y884,hl1,h⟩:=zk9 h
 refine zlo (λ g879:zcX=>⟨[(0,(.os 0 4 0 g879.c0.length g879.c0.length false)),(1,(I g879.t1)),(5,(I g879.t5))],[(0,some (false,.arr true 4 (g879.c0.map zlk)))],1,42⟩) (zaJ) _ _ hl1 (zlg [some 0]) ?_
 ·intro n1 g879 z1 hs1 hk1
  unfold zaJ at hs1
  try dsimp only at hs1
  refine sA ?_
  refine zle hs1 (λ hs1 hc2=>?_) (λ hs1 hc2=>?_)
  ·refine sA ?_
   obtain ⟨hp3,hs1⟩:=zla hs1
   have hn3:g879.t5.toNat < g879.c0.length:=by first|omega|(simp;omega)
   refine sA ?_
   refine zlq ?_
   refine zo1 ?_
   refine sA ?_
   obtain ⟨hp5,hs1⟩:=zla hs1
   have hn5:g879.t5.toNat < g879.c0.length:=by first|omega|(simp;omega)
   refine sA ?_
   refine zlq ?_
   refine zo1 ?_
   refine sA ?_
   obtain ⟨hp7,hs1⟩:=zla hs1
   have hn7:g879.t5.toNat < g879.c0.length:=by first|omega|(simp;omega)
   refine sA ?_
   refine zlq ?_
   refine zo1 ?_
   refine sA ?_
   obtain ⟨c883,hr9,hs1⟩:=zk9 hs1
   refine zlh (zia hr9) ?_
   refine sA ?_
   obtain ⟨hp10,hs1⟩:=zla hs1
   have hn10:g879.t5.toNat < g879.c0.length:=by first|omega|(simp;omega)
   refine sA ?_
   refine zlq ?_
   refine zo1 ?_
   refine sA ?_
   cases hs1
   exact zll hk1 (zlg [some 0])
  ·refine sA ?_
   cases hs1
   cases hk1
   try dsimp only at h
   refine sA ?_
   have he:=oi h
   subst he
   exact zld ⟨[(4,(I g879.t1))],[(0,some (false,.arr false 4 (g879.c0.map zlk)))],1,42⟩ [some 0]
theorem zgT {a0:(List BranchT)} {a1:Int} {m0:Nat} {x0:Bool} {r:(Int×(List BranchT))} (h:za0 a0 a1=some r):Fn Tryz.prog 148 [(.os 0 1 0 a0.length m0 x0),(I a1)] [(0,some (false,.deep [.sl [.sc,.sc,.sc,.sc]] (a0.map zlc)))] 1 (I r.1) [(0,some (false,.deep [.sl [.sc,.sc,.sc,.sc]] (r.2.map zlc)))] 1:=by
 unfold za0 at h
 refine fc [(1000,[(0,0),(1,0)]),(1001,[(0,0),(1,0),(5,0)]),(1002,[(0,0),(1,0),(5,0),(9,0)]),(1003,[(0,0),(1,0),(5,0)]),(1004,[(0,0),(1,0),(5,0)]),(1005,[(4,0)]),(5004,[])] Tryz.func148 ?_
 simp only [Tryz.f148]
 refine sA ?_
 obtain ⟨y887,hl1,h⟩:=zk9 h
 refine zlo (λ g878:zce=>⟨[(0,(.os 0 1 0 g878.c0.length g878.c0.length false)),(1,(I g878.t1)),(5,(I g878.t5))],[(0,some (false,.deep [.sl [.sc,.sc,.sc,.sc]] (g878.c0.map zlc)))],1,20⟩) (zam) _ _ hl1 (zlg [some 0]) ?_
 ·intro n1 g878 z1 hs1 hk1
  unfold zam at hs1
  try dsimp only at hs1
  refine sA ?_
  refine zle hs1 (λ hs1 hc2=>?_) (λ hs1 hc2=>?_)
  ·refine sA ?_
   obtain ⟨hp3,hs1⟩:=zla hs1
   refine zpl 0 g878.t5.toNat ?_
   refine sA ?_
   obtain ⟨hp4,hs1⟩:=zla hs1
   have hn4:g878.t5.toNat < g878.c0.length:=by first|omega|(simp;omega)
   refine sA ?_
   refine zlq ?_
   obtain ⟨c886,hr5,hs1⟩:=zk9 hs1
   refine znM [1] (ziJ hr5) ?_
   refine sA ?_
   obtain ⟨hp6,hs1⟩:=zla hs1
   have hl6:((nth g878.c0 g878.t5.toNat).fEv).length≤c886.2.length:=by omega
   have ht6:List.take (((nth g878.c0 g878.t5.toNat).fEv).length) c886.2=c886.2:=by rw [← hp6];exact qb
   try rw [← hp6]
   try simp (disch:=first | assumption | (simp only [qL];assumption)) only [go_sem,qA,qB,qC,qD,↓reduceIte,qE,reduceCtorEq,qF,qH,qI,qJ,qK,qG,hl6,ht6]
   cases hs1
   refine zll hk1 ?_
   refine zn7 0 ?_
   refine zlB (m:=1) [some 0] rfl rfl rfl (by rfl) ?_ ?_
   all_goals ((try simp (disch:=first | assumption | (simp only [qL];assumption)) only [go_sem,qA,qB,qC,qD,↓reduceIte,qE,reduceCtorEq,qF,qH,qI,qJ,qK,qG,hl6,ht6]);(repeat' first | done | rfl | omega | refine And.intro ?_ ?_ | (simp;done) | (simp;omega)))
  ·refine sA ?_
   cases hs1
   cases hk1
   try dsimp only at h
   refine sA ?_
   have he:=oi h
   subst he
   exact zld ⟨[(4,(I g878.t1))],[(0,some (false,.deep [.sl [.sc,.sc,.sc,.sc]] (g878.c0.map zlc)))],1,20⟩ [some 0]
theorem zgU {a0:(List RegionT)} {a1:Int} {m0:Nat} {x0:Bool} {r:(Int×(List RegionT))} (h:za4 a0 a1=some r):Fn Tryz.prog 108 [(.os 0 3 0 a0.length m0 x0),(I a1)] [(0,some (false,.deep [.sc,.sc,.sl [.sl [.sc,.sc,.sc,.sc]]] (a0.map zlj)))] 1 (I r.1) [(0,some (false,.deep [.sc,.sc,.sl [.sl [.sc,.sc,.sc,.sc]]] (r.2.map zlj)))] 1:=by
 unfold za4 at h
 refine fc [(1000,[(0,0),(1,0)]),(1001,[(0,0),(1,0),(5,0)]),(1002,[(0,0),(1,0),(5,0),(9,0)]),(1003,[(0,0),(1,0),(5,0)]),(1004,[(0,0),(1,0),(5,0)]),(1005,[(0,0),(1,0),(5,0)]),(1006,[(0,0),(1,0),(5,0)]),(1007,[(0,0),(1,0),(5,0)]),(1008,[(0,0),(1,0),(5,0)]),(1009,[(4,0)]),(5004,[])] Tryz.func108 ?_
 simp only [Tryz.f108]
 refine sA ?_
 obtain ⟨y890,hl1,h⟩:=zk9 h
 refine zlo (λ g874:zcf=>⟨[(0,(.os 0 3 0 g874.c0.length g874.c0.length false)),(1,(I g874.t1)),(5,(I g874.t5))],[(0,some (false,.deep [.sc,.sc,.sl [.sl [.sc,.sc,.sc,.sc]]] (g874.c0.map zlj)))],1,35⟩) (zan) _ _ hl1 (zlg [some 0]) ?_
 ·intro n1 g874 z1 hs1 hk1
  unfold zan at hs1
  try dsimp only at hs1
  refine sA ?_
  refine zle hs1 (λ hs1 hc2=>?_) (λ hs1 hc2=>?_)
  ·refine sA ?_
   obtain ⟨hp3,hs1⟩:=zla hs1
   refine zpl 0 g874.t5.toNat ?_
   refine sA ?_
   obtain ⟨hp4,hs1⟩:=zla hs1
   have hn4:g874.t5.toNat < g874.c0.length:=by first|omega|(simp;omega)
   refine sA ?_
   refine zlq ?_
   obtain ⟨hp5,hs1⟩:=zla hs1
   have hn5:g874.t5.toNat < g874.c0.length:=by first|omega|(simp;omega)
   refine sA ?_
   refine zlq ?_
   obtain ⟨hp6,hs1⟩:=zla hs1
   have hn6:g874.t5.toNat < g874.c0.length:=by first|omega|(simp;omega)
   refine sA ?_
   refine zlq ?_
   obtain ⟨c889,hr7,hs1⟩:=zk9 hs1
   refine znM [3] (zgT hr7) ?_
   refine sA ?_
   obtain ⟨hp8,hs1⟩:=zla hs1
   have hl8:(((nth g874.c0 g874.t5.toNat).fTe).fBr).length≤c889.2.length:=by omega
   have ht8:List.take ((((nth g874.c0 g874.t5.toNat).fTe).fBr).length) c889.2=c889.2:=by rw [← hp8];exact qb
   try rw [← hp8]
   try simp (disch:=first | assumption | (simp only [qL];assumption)) only [go_sem,qA,qB,qC,qD,↓reduceIte,qE,reduceCtorEq,qF,qH,qI,qJ,qK,qG,hl8,ht8]
   cases hs1
   refine zll hk1 ?_
   refine zn7 0 ?_
   refine zlB (m:=1) [some 0] rfl rfl rfl (by rfl) ?_ ?_
   all_goals ((try simp (disch:=first | assumption | (simp only [qL];assumption)) only [go_sem,qA,qB,qC,qD,↓reduceIte,qE,reduceCtorEq,qF,qH,qI,qJ,qK,qG,hl8,ht8]);(repeat' first | done | rfl | omega | refine And.intro ?_ ?_ | (simp;done) | (simp;omega)))
  ·refine sA ?_
   cases hs1
   cases hk1
   try dsimp only at h
   refine sA ?_
   have he:=oi h
   subst he
   exact zld ⟨[(4,(I g874.t1))],[(0,some (false,.deep [.sc,.sc,.sl [.sl [.sc,.sc,.sc,.sc]]] (g874.c0.map zlj)))],1,35⟩ [some 0]
theorem ziK {a0:(List SaidT)} {a1:Int} {m0:Nat} {x0:Bool} {r:(Int×(List SaidT))} (h:zcN a0 a1=some r):Fn Tryz.prog 109 [(.os 0 3 0 a0.length m0 x0),(I a1)] [(0,some (false,.deep [.sc,.sc,.sl [.sl [.sc,.sc,.sc,.sc]]] (a0.map zlz)))] 1 (I r.1) [(0,some (false,.deep [.sc,.sc,.sl [.sl [.sc,.sc,.sc,.sc]]] (r.2.map zlz)))] 1:=by
 unfold zcN at h
 refine fc [(1000,[(0,0),(1,0)]),(1001,[(0,0),(1,0),(5,0)]),(1002,[(0,0),(1,0),(5,0),(9,0)]),(1003,[(0,0),(1,0),(5,0)]),(1004,[(0,0),(1,0),(5,0)]),(1005,[(0,0),(1,0),(5,0)]),(1006,[(0,0),(1,0),(5,0)]),(1007,[(0,0),(1,0),(5,0)]),(1008,[(0,0),(1,0),(5,0)]),(1009,[(4,0)]),(5004,[])] Tryz.func109 ?_
 simp only [Tryz.f109]
 refine sA ?_
 obtain ⟨y897,hl1,h⟩:=zk9 h
 refine zlo (λ g894:zc3=>⟨[(0,(.os 0 3 0 g894.c0.length g894.c0.length false)),(1,(I g894.t1)),(5,(I g894.t5))],[(0,some (false,.deep [.sc,.sc,.sl [.sl [.sc,.sc,.sc,.sc]]] (g894.c0.map zlz)))],1,37⟩) (zaR) _ _ hl1 (zlg [some 0]) ?_
 ·intro n1 g894 z1 hs1 hk1
  unfold zaR at hs1
  try dsimp only at hs1
  refine sA ?_
  refine zle hs1 (λ hs1 hc2=>?_) (λ hs1 hc2=>?_)
  ·refine sA ?_
   obtain ⟨hp3,hs1⟩:=zla hs1
   refine zpl 0 g894.t5.toNat ?_
   refine sA ?_
   obtain ⟨hp4,hs1⟩:=zla hs1
   have hn4:g894.t5.toNat < g894.c0.length:=by first|omega|(simp;omega)
   refine sA ?_
   refine zlq ?_
   obtain ⟨hp5,hs1⟩:=zla hs1
   have hn5:g894.t5.toNat < g894.c0.length:=by first|omega|(simp;omega)
   refine sA ?_
   refine zlq ?_
   obtain ⟨hp6,hs1⟩:=zla hs1
   have hn6:g894.t5.toNat < g894.c0.length:=by first|omega|(simp;omega)
   refine sA ?_
   refine zlq ?_
   obtain ⟨c896,hr7,hs1⟩:=zk9 hs1
   refine znM [3] (zgT hr7) ?_
   refine sA ?_
   obtain ⟨hp8,hs1⟩:=zla hs1
   have hl8:((((nth g894.c0 g894.t5.toNat).Word).fTe).fBr).length≤c896.2.length:=by omega
   have ht8:List.take (((((nth g894.c0 g894.t5.toNat).Word).fTe).fBr).length) c896.2=c896.2:=by rw [← hp8];exact qb
   try rw [← hp8]
   try simp (disch:=first | assumption | (simp only [qL];assumption)) only [go_sem,qA,qB,qC,qD,↓reduceIte,qE,reduceCtorEq,qF,qH,qI,qJ,qK,qG,hl8,ht8]
   cases hs1
   refine zll hk1 ?_
   refine zn7 0 ?_
   refine zlB (m:=1) [some 0] rfl rfl rfl (by rfl) ?_ ?_
   all_goals ((try simp (disch:=first | assumption | (simp only [qL];assumption)) only [go_sem,qA,qB,qC,qD,↓reduceIte,qE,reduceCtorEq,qF,qH,qI,qJ,qK,qG,hl8,ht8]);(repeat' first | done | rfl | omega | refine And.intro ?_ ?_ | (simp;done) | (simp;omega)))
  ·refine sA ?_
   cases hs1
   cases hk1
   try dsimp only at h
   refine sA ?_
   have he:=oi h
   subst he
   exact zld ⟨[(4,(I g894.t1))],[(0,some (false,.deep [.sc,.sc,.sl [.sl [.sc,.sc,.sc,.sc]]] (g894.c0.map zlz)))],1,37⟩ [some 0]
theorem zin {a0:WorldT} {a1:Int} {m0:Nat} {x0:Bool} {m1:Nat} {x1:Bool} {r:(Int×(List RegionT)×(List SaidT))} (h:zdy a0 a1=some r):Fn Tryz.prog 40 [(.ag [(.os 0 3 0 a0.fRe.length m0 x0),(.os 1 3 0 a0.Line.length m1 x1)]),(I a1)] [(0,some (false,.deep [.sc,.sc,.sl [.sl [.sc,.sc,.sc,.sc]]] (a0.fRe.map zlj))),(1,some (false,.deep [.sc,.sc,.sl [.sl [.sc,.sc,.sc,.sc]]] (a0.Line.map zlz)))] 2 (I r.1) [(0,some (false,.deep [.sc,.sc,.sl [.sl [.sc,.sc,.sc,.sc]]] (r.2.1.map zlj))),(1,some (false,.deep [.sc,.sc,.sl [.sl [.sc,.sc,.sc,.sc]]] (r.2.2.map zlz)))] 2:=by
 unfold zdy at h
 refine fc [(1000,[(1,0),(2,0)]),(1001,[(1,0),(2,0)]),(1002,[(1,0)]),(1003,[(4,0)])] Tryz.func40 ?_
 simp only [Tryz.f40]
 refine sA ?_
 obtain ⟨c891,hr1,h⟩:=zk9 h
 refine znM [0] (zgU hr1) ?_
 refine sA ?_
 obtain ⟨hp2,h⟩:=zla h
 have hl2:a0.fRe.length≤c891.2.length:=by omega
 have ht2:List.take (a0.fRe.length) c891.2=c891.2:=by rw [← hp2];exact qb
 try rw [← hp2]
 try simp (disch:=first | assumption | (simp only [qL];assumption)) only [go_sem,qA,qB,qC,qD,↓reduceIte,qE,reduceCtorEq,qF,qH,qI,qJ,qK,qG,hl2,ht2]
 obtain ⟨c898,hr3,h⟩:=zk9 h
 refine zrh (ids:=[1]) (ziK hr3) (by first | rfl | (simp (disch:=first | assumption | (simp only [qL];assumption)) only [go_sem,qA,qB,qC,qD,↓reduceIte,qE,reduceCtorEq,qF,qH,qI,qJ,qK,qG,hl2,ht2];first | done | rfl) | (simp only [qM,qP,qQ,qO,qL,qN,qa,qA];rfl) | (simp (disch:=first | assumption | (simp only [qL];assumption)) only [go_sem,qA,qB,qC,qD,↓reduceIte,qE,reduceCtorEq,qF,qH,qI,qJ,qK,qG,hl2,ht2];simp only [qM,qP,qQ,qO,qL,qN,qa,qA];rfl)) (FitAll.refl _) (by first | rfl | (simp (disch:=first | assumption | (simp only [qL];assumption)) only [go_sem,qA,qB,qC,qD,↓reduceIte,qE,reduceCtorEq,qF,qH,qI,qJ,qK,qG,hl2,ht2];first | done | rfl) | (simp only [qM,qP,qQ,qO,qL,qN,qa,qA];rfl) | (simp (disch:=first | assumption | (simp only [qL];assumption)) only [go_sem,qA,qB,qC,qD,↓reduceIte,qE,reduceCtorEq,qF,qH,qI,qJ,qK,qG,hl2,ht2];simp only [qM,qP,qQ,qO,qL,qN,qa,qA];rfl)) (by decide) (by first | rfl | (simp (disch:=first | assumption | (simp only [qL];assumption)) only [go_sem,qA,qB,qC,qD,↓reduceIte,qE,reduceCtorEq,qF,qH,qI,qJ,qK,qG,hl2,ht2];done)) (by rfl) ?_
 try simp (disch:=first | assumption | (simp only [qL];assumption)) only [go_sem,qA,qB,qC,qD,↓reduceIte,qE,reduceCtorEq,qF,qH,qI,qJ,qK,qG,hl2,ht2]
 obtain ⟨hp4,h⟩:=zla h
 have hl4:a0.Line.length≤c898.2.length:=by omega
 have ht4:List.take (a0.Line.length) c898.2=c898.2:=by rw [← hp4];exact qb
 try rw [← hp4]
 try simp (disch:=first | assumption | (simp only [qL];assumption)) only [go_sem,qA,qB,qC,qD,↓reduceIte,qE,reduceCtorEq,qF,qH,qI,qJ,qK,qG,hl2,ht2,hl4,ht4]
 have he:=oi h
 subst he
 refine zl0 ⟨[(4,(I c898.1))],[(0,some (false,.deep [.sc,.sc,.sl [.sl [.sc,.sc,.sc,.sc]]] (c891.2.map zlj))),(1,some (false,.deep [.sc,.sc,.sl [.sl [.sc,.sc,.sc,.sc]]] (c898.2.map zlz)))],2,14⟩ (zlB (m:=2) [some 0,some 1] rfl rfl rfl (by rfl) ?_ ?_) ?_
 all_goals ((try simp (disch:=first | assumption | (simp only [qL];assumption)) only [go_sem,qA,qB,qC,qD,↓reduceIte,qE,reduceCtorEq,qF,qH,qI,qJ,qK,qG,hl2,ht2,hl4,ht4]);(repeat' first | done | rfl | omega | refine And.intro ?_ ?_ | (simp;done) | (simp;omega)))
theorem zi2 {a0:Int} {r:Int} (h:zdo a0=some r):Fn Tryz.prog 109 [.nl,(I a0)] [] 0 (I r) [] 0:=by
 unfold zdo at h
 refine fc [(1000,[(0,0),(1,0)]),(1001,[(0,0),(1,0),(5,0)]),(1002,[(0,0),(1,0),(5,0),(9,0)]),(1003,[(0,0),(1,0),(5,0)]),(1004,[(0,0),(1,0),(5,0)]),(1005,[(0,0),(1,0),(5,0)]),(1006,[(0,0),(1,0),(5,0)]),(1007,[(0,0),(1,0),(5,0)]),(1008,[(0,0),(1,0),(5,0)]),(1009,[(4,0)])] Tryz.func109 ?_
 simp only [Tryz.f109]
 refine sA ?_
 obtain ⟨y905,hl1,h⟩:=zk9 h
 refine zlo (λ g904:Unit=>⟨[(0,.nl),(1,(I a0)),(5,(I 0))],[],0,37⟩) (zdB) _ _ hl1 (zlg []) ?_
 ·intro n1 g904 z1 hs1 hk1
  unfold zdB at hs1
  try dsimp only at hs1
  refine sA ?_
  cases hs1
  cases hk1
  try dsimp only at h
  refine sA ?_
  have he:=oi h
  subst he
  exact zld ⟨[(4,(I a0))],[],0,37⟩ []
theorem ziz {a0:WorldT} {a1:Int} {m0:Nat} {x0:Bool} {r:(Int×(List RegionT))} (h:zcq a0 a1=some r):Fn Tryz.prog 40 [(.ag [(.os 0 3 0 a0.fRe.length m0 x0),.nl]),(I a1)] [(0,some (false,.deep [.sc,.sc,.sl [.sl [.sc,.sc,.sc,.sc]]] (a0.fRe.map zlj)))] 1 (I r.1) [(0,some (false,.deep [.sc,.sc,.sl [.sl [.sc,.sc,.sc,.sc]]] (r.2.map zlj)))] 1:=by
 unfold zcq at h
 refine fc [(1000,[(1,0),(2,0)]),(1001,[(1,0),(2,0)]),(1002,[(1,0)]),(1003,[(4,0)])] Tryz.func40 ?_
 simp only [Tryz.f40]
 refine sA ?_
 obtain ⟨c903,hr1,h⟩:=zk9 h
 refine znM [0] (zgU hr1) ?_
 refine sA ?_
 obtain ⟨hp2,h⟩:=zla h
 have hl2:a0.fRe.length≤c903.2.length:=by omega
 have ht2:List.take (a0.fRe.length) c903.2=c903.2:=by rw [← hp2];exact qb
 try rw [← hp2]
 try simp (disch:=first | assumption | (simp only [qL];assumption)) only [go_sem,qA,qB,qC,qD,↓reduceIte,qE,reduceCtorEq,qF,qH,qI,qJ,qK,qG,hl2,ht2]
 obtain ⟨c906,hr3,h⟩:=zk9 h
 refine zmS (zi2 hr3) (by first | rfl | (simp (disch:=first | assumption | (simp only [qL];assumption)) only [go_sem,qA,qB,qC,qD,↓reduceIte,qE,reduceCtorEq,qF,qH,qI,qJ,qK,qG,hl2,ht2];first | done | rfl) | (simp only [qM,qP,qQ,qO,qL,qN,qa,qA];rfl) | (simp (disch:=first | assumption | (simp only [qL];assumption)) only [go_sem,qA,qB,qC,qD,↓reduceIte,qE,reduceCtorEq,qF,qH,qI,qJ,qK,qG,hl2,ht2];simp only [qM,qP,qQ,qO,qL,qN,qa,qA];rfl)) (FitAll.refl _) (.inl (by first | rfl | (simp (disch:=first | assumption | (simp only [qL];assumption)) only [go_sem,qA,qB,qC,qD,↓reduceIte,qE,reduceCtorEq,qF,qH,qI,qJ,qK,qG,hl2,ht2];done))) ?_
 try simp (disch:=first | assumption | (simp only [qL];assumption)) only [go_sem,qA,qB,qC,qD,↓reduceIte,qE,reduceCtorEq,qF,qH,qI,qJ,qK,qG,hl2,ht2]
 have he:=oi h
 subst he
 refine zl0 ⟨[(4,(I c906))],[(0,some (false,.deep [.sc,.sc,.sl [.sl [.sc,.sc,.sc,.sc]]] (c903.2.map zlj)))],1,14⟩ (zlB (m:=1) [some 0] rfl rfl rfl (by rfl) ?_ ?_) ?_
 all_goals ((try simp (disch:=first | assumption | (simp only [qL];assumption)) only [go_sem,qA,qB,qC,qD,↓reduceIte,qE,reduceCtorEq,qF,qH,qI,qJ,qK,qG,hl2,ht2]);(repeat' first | done | rfl | omega | refine And.intro ?_ ?_ | (simp;done) | (simp;omega)))
theorem zjz {a0:(List EventT)} {a1:Int} {r:Int} (h:zdZ a0 a1=some r):Fn Tryz.prog 202 [(.lf true (.sl (a0.map zlk))),(I a1)] [] 0 (I r) [] 0:=by
 unfold zdZ at h
 refine fc [(13,[(4,6)]),(1000,[(0,0),(1,0)]),(1001,[(0,0),(1,0),(5,0)]),(1002,[(0,0),(1,0),(5,0),(9,0)]),(1003,[(0,0),(1,0),(5,0)]),(1004,[(0,0),(1,0),(5,0),(18,0)]),(1005,[(4,0)]),(1006,[(0,0),(1,0),(5,0)]),(1007,[(0,0),(1,0),(5,0),(27,0)]),(1008,[(4,0)]),(1009,[(0,0),(1,0),(5,0)]),(1010,[(0,0),(1,0),(5,0),(36,0)]),(1011,[(4,0)]),(1012,[(0,0),(1,0),(5,0)]),(1013,[(0,0),(1,0),(5,0),(46,0)]),(1014,[(4,0)]),(1015,[(0,0),(1,0),(5,0)]),(1016,[(4,0)])] Tryz.func202 ?_
 simp only [Tryz.f202]
 refine sA ?_
 obtain ⟨y913,hl1,h⟩:=zk9 h
 refine zlo (λ g910:zdY=>⟨[(0,(.lf true (.sl (a0.map zlk)))),(1,(I g910.t1)),(5,(I g910.t5))],[],0,50⟩) (zbn a0) _ _ hl1 (zlg []) ?_
 ·intro n1 g910 z1 hs1 hk1
  unfold zbn at hs1
  try dsimp only at hs1
  refine sA ?_
  refine zle hs1 (λ hs1 hc2=>?_) (λ hs1 hc2=>?_)
  ·refine sA ?_
   obtain ⟨hp3,hs1⟩:=zla hs1
   have hn3:g910.t5.toNat < a0.length:=by first|omega|(simp;omega)
   refine sA ?_
   refine zlq ?_
   refine zle hs1 (λ hs1 hc4=>?_) (λ hs1 hc4=>?_)
   ·refine sA ?_
    cases hs1
    cases hk1
    try dsimp only at h
    refine sA ?_
    have he:=oi h
    subst he
    exact zld ⟨[(4,(I (-1)))],[],0,50⟩ []
   ·refine sA ?_
    obtain ⟨hp5,hs1⟩:=zla hs1
    have hn5:g910.t5.toNat < a0.length:=by first|omega|(simp;omega)
    refine sA ?_
    refine zlq ?_
    refine zle hs1 (λ hs1 hc6=>?_) (λ hs1 hc6=>?_)
    ·refine sA ?_
     cases hs1
     cases hk1
     try dsimp only at h
     refine sA ?_
     have he:=oi h
     subst he
     exact zld ⟨[(4,(I (-1)))],[],0,50⟩ []
    ·refine sA ?_
     obtain ⟨hp7,hs1⟩:=zla hs1
     have hn7:g910.t5.toNat < a0.length:=by first|omega|(simp;omega)
     refine sA ?_
     refine zlq ?_
     refine zle hs1 (λ hs1 hc8=>?_) (λ hs1 hc8=>?_)
     ·refine sA ?_
      cases hs1
      cases hk1
      try dsimp only at h
      refine sA ?_
      have he:=oi h
      subst he
      exact zld ⟨[(4,(I (-1)))],[],0,50⟩ []
     ·refine sA ?_
      obtain ⟨hp9,hs1⟩:=zla hs1
      have hn9:g910.t5.toNat < a0.length:=by first|omega|(simp;omega)
      refine sA ?_
      refine zlq ?_
      obtain ⟨c912,hr10,hs1⟩:=zk9 hs1
      refine zlh (zia hr10) ?_
      refine sA ?_
      refine zle hs1 (λ hs1 hc11=>?_) (λ hs1 hc11=>?_)
      ·refine sA ?_
       cases hs1
       cases hk1
       try dsimp only at h
       refine sA ?_
       have he:=oi h
       subst he
       exact zld ⟨[(4,(I (-1)))],[],0,50⟩ []
      ·refine sA ?_
       cases hs1
       exact zll hk1 (zlg [])
  ·refine sA ?_
   cases hs1
   cases hk1
   try dsimp only at h
   refine sA ?_
   have he:=oi h
   subst he
   exact zld ⟨[(4,(I g910.t1))],[],0,50⟩ []
theorem zhn {a0:(List BranchT)} {a1:Int} {r:Int} (h:zb4 a0 a1=some r):Fn Tryz.prog 149 [(.lf true (.sl (a0.map zlc))),(I a1)] [] 0 (I r) [] 0:=by
 unfold zb4 at h
 refine fc [(1000,[(0,0),(1,0)]),(1001,[(0,0),(1,0),(5,0)]),(1002,[(0,0),(1,0),(5,0),(9,0)]),(1003,[(0,0),(1,0),(5,0)]),(1004,[(0,0),(1,0),(5,0)]),(1005,[(0,0),(1,0),(5,0),(20,0)]),(1006,[(4,0)]),(1007,[(4,0)])] Tryz.func149 ?_
 simp only [Tryz.f149]
 refine sA ?_
 obtain ⟨y918,hl1,h⟩:=zk9 h
 refine zlo (λ g909:zdw=>⟨[(0,(.lf true (.sl (a0.map zlc)))),(1,(I g909.t1)),(5,(I g909.t5))],[],0,22⟩) (za1 a0) _ _ hl1 (zlg []) ?_
 ·intro n1 g909 z1 hs1 hk1
  unfold za1 at hs1
  try dsimp only at hs1
  refine sA ?_
  refine zle hs1 (λ hs1 hc2=>?_) (λ hs1 hc2=>?_)
  ·refine sA ?_
   obtain ⟨hp3,hs1⟩:=zla hs1
   have hn3:g909.t5.toNat < a0.length:=by first|omega|(simp;omega)
   refine sA ?_
   refine zlq ?_
   obtain ⟨c917,hr4,hs1⟩:=zk9 hs1
   refine zlh (zjz hr4) ?_
   refine sA ?_
   refine zle hs1 (λ hs1 hc5=>?_) (λ hs1 hc5=>?_)
   ·refine sA ?_
    cases hs1
    cases hk1
    try dsimp only at h
    refine sA ?_
    have he:=oi h
    subst he
    exact zld ⟨[(4,(I (-1)))],[],0,22⟩ []
   ·refine sA ?_
    cases hs1
    exact zll hk1 (zlg [])
  ·refine sA ?_
   cases hs1
   cases hk1
   try dsimp only at h
   refine sA ?_
   have he:=oi h
   subst he
   exact zld ⟨[(4,(I g909.t1))],[],0,22⟩ []
theorem zi3 {a0:(List RegionT)} {a1:Int} {r:Int} (h:zdp a0 a1=some r):Fn Tryz.prog 110 [(.lf true (.sl (a0.map zlj))),(I a1)] [] 0 (I r) [] 0:=by
 unfold zdp at h
 refine fc [(1000,[(0,0),(1,0)]),(1001,[(0,0),(1,0),(5,0)]),(1002,[(0,0),(1,0),(5,0),(9,0)]),(1003,[(0,0),(1,0),(5,0)]),(1004,[(0,0),(1,0),(5,0),(18,0)]),(1005,[(4,0)]),(1006,[(0,0),(1,0),(5,0)]),(1007,[(0,0),(1,0),(5,0),(27,0)]),(1008,[(4,0)]),(1009,[(0,0),(1,0),(5,0)]),(1010,[(0,0),(1,0),(5,0)]),(1011,[(0,0),(1,0),(5,0),(39,0)]),(1012,[(4,0)]),(1013,[(4,0)])] Tryz.func110 ?_
 simp only [Tryz.f110]
 refine sA ?_
 obtain ⟨y923,hl1,h⟩:=zk9 h
 refine zlo (λ g908:zdC=>⟨[(0,(.lf true (.sl (a0.map zlj)))),(1,(I g908.t1)),(5,(I g908.t5))],[],0,41⟩) (za6 a0) _ _ hl1 (zlg []) ?_
 ·intro n1 g908 z1 hs1 hk1
  unfold za6 at hs1
  try dsimp only at hs1
  refine sA ?_
  refine zle hs1 (λ hs1 hc2=>?_) (λ hs1 hc2=>?_)
  ·refine sA ?_
   obtain ⟨hp3,hs1⟩:=zla hs1
   have hn3:g908.t5.toNat < a0.length:=by first|omega|(simp;omega)
   refine sA ?_
   refine zlq ?_
   refine zle hs1 (λ hs1 hc4=>?_) (λ hs1 hc4=>?_)
   ·refine sA ?_
    cases hs1
    cases hk1
    try dsimp only at h
    refine sA ?_
    have he:=oi h
    subst he
    exact zld ⟨[(4,(I (-1)))],[],0,41⟩ []
   ·refine sA ?_
    obtain ⟨hp5,hs1⟩:=zla hs1
    have hn5:g908.t5.toNat < a0.length:=by first|omega|(simp;omega)
    refine sA ?_
    refine zlq ?_
    refine zle hs1 (λ hs1 hc6=>?_) (λ hs1 hc6=>?_)
    ·refine sA ?_
     cases hs1
     cases hk1
     try dsimp only at h
     refine sA ?_
     have he:=oi h
     subst he
     exact zld ⟨[(4,(I (-1)))],[],0,41⟩ []
    ·refine sA ?_
     obtain ⟨hp7,hs1⟩:=zla hs1
     have hn7:g908.t5.toNat < a0.length:=by first|omega|(simp;omega)
     refine sA ?_
     refine zlq ?_
     obtain ⟨c922,hr8,hs1⟩:=zk9 hs1
     refine zlh (zhn hr8) ?_
     refine sA ?_
     refine zle hs1 (λ hs1 hc9=>?_) (λ hs1 hc9=>?_)
     ·refine sA ?_
      cases hs1
      cases hk1
      try dsimp only at h
      refine sA ?_
      have he:=oi h
      subst he
      exact zld ⟨[(4,(I (-1)))],[],0,41⟩ []
     ·refine sA ?_
      cases hs1
      exact zll hk1 (zlg [])
  ·refine sA ?_
   cases hs1
   cases hk1
   try dsimp only at h
   refine sA ?_
   have he:=oi h
   subst he
   exact zld ⟨[(4,(I g908.t1))],[],0,41⟩ []
theorem zj3 {a0:(List SaidT)} {a1:Int} {r:Int} (h:zeY a0 a1=some r):Fn Tryz.prog 111 [(.lf true (.sl (a0.map zlz))),(I a1)] [] 0 (I r) [] 0:=by
 unfold zeY at h
 refine fc [(1000,[(0,0),(1,0)]),(1001,[(0,0),(1,0),(5,0)]),(1002,[(0,0),(1,0),(5,0),(9,0)]),(1003,[(0,0),(1,0),(5,0)]),(1004,[(0,0),(1,0),(5,0),(18,0)]),(1005,[(4,0)]),(1006,[(0,0),(1,0),(5,0)]),(1007,[(0,0),(1,0),(5,0),(28,0)]),(1008,[(4,0)]),(1009,[(0,0),(1,0),(5,0)]),(1010,[(0,0),(1,0),(5,0)]),(1011,[(0,0),(1,0),(5,0),(41,0)]),(1012,[(4,0)]),(1013,[(4,0)])] Tryz.func111 ?_
 simp only [Tryz.f111]
 refine sA ?_
 obtain ⟨y930,hl1,h⟩:=zk9 h
 refine zlo (λ g927:zgn=>⟨[(0,(.lf true (.sl (a0.map zlz)))),(1,(I g927.t1)),(5,(I g927.t5))],[],0,43⟩) (zcQ a0) _ _ hl1 (zlg []) ?_
 ·intro n1 g927 z1 hs1 hk1
  unfold zcQ at hs1
  try dsimp only at hs1
  refine sA ?_
  refine zle hs1 (λ hs1 hc2=>?_) (λ hs1 hc2=>?_)
  ·refine sA ?_
   obtain ⟨hp3,hs1⟩:=zla hs1
   have hn3:g927.t5.toNat < a0.length:=by first|omega|(simp;omega)
   refine sA ?_
   refine zlq ?_
   refine zle hs1 (λ hs1 hc4=>?_) (λ hs1 hc4=>?_)
   ·refine sA ?_
    cases hs1
    cases hk1
    try dsimp only at h
    refine sA ?_
    have he:=oi h
    subst he
    exact zld ⟨[(4,(I (-1)))],[],0,43⟩ []
   ·refine sA ?_
    obtain ⟨hp5,hs1⟩:=zla hs1
    have hn5:g927.t5.toNat < a0.length:=by first|omega|(simp;omega)
    refine sA ?_
    refine zlq ?_
    refine zle hs1 (λ hs1 hc6=>?_) (λ hs1 hc6=>?_)
    ·refine sA ?_
     cases hs1
     cases hk1
     try dsimp only at h
     refine sA ?_
     have he:=oi h
     subst he
     exact zld ⟨[(4,(I (-1)))],[],0,43⟩ []
    ·refine sA ?_
     obtain ⟨hp7,hs1⟩:=zla hs1
     have hn7:g927.t5.toNat < a0.length:=by first|omega|(simp;omega)
     refine sA ?_
     refine zlq ?_
     obtain ⟨c929,hr8,hs1⟩:=zk9 hs1
     refine zlh (zhn hr8) ?_
     refine sA ?_
     refine zle hs1 (λ hs1 hc9=>?_) (λ hs1 hc9=>?_)
     ·refine sA ?_
      cases hs1
      cases hk1
      try dsimp only at h
      refine sA ?_
      have he:=oi h
      subst he
      exact zld ⟨[(4,(I (-1)))],[],0,43⟩ []
     ·refine sA ?_
      cases hs1
      exact zll hk1 (zlg [])
  ·refine sA ?_
   cases hs1
   cases hk1
   try dsimp only at h
   refine sA ?_
   have he:=oi h
   subst he
   exact zld ⟨[(4,(I g927.t1))],[],0,43⟩ []
theorem zhX {a0:WorldT} {a1:Int} {r:Int} (h:zde a0 a1=some r):Fn Tryz.prog 41 [(.ag [(.lf true (.sl (a0.fRe.map zlj))),(.lf true (.sl (a0.Line.map zlz)))]),(I a1)] [] 0 (I r) [] 0:=by
 unfold zde at h
 refine fc [(1000,[(1,0),(2,0)]),(1001,[(1,0),(2,0)]),(1002,[(1,0),(2,0),(10,0)]),(1003,[(4,0)]),(1004,[(1,0)]),(1005,[(1,0),(16,0)]),(1006,[(4,0)]),(1007,[(4,0)])] Tryz.func41 ?_
 simp only [Tryz.f41]
 refine sA ?_
 obtain ⟨c926,hr1,h⟩:=zk9 h
 refine zlh (zi3 hr1) ?_
 refine sA ?_
 refine zle h (λ h hc2=>?_) (λ h hc2=>?_)
 ·refine sA ?_
  have he:=oi h
  subst he
  exact zld ⟨[(4,(I (-1)))],[],0,18⟩ []
 ·refine sA ?_
  obtain ⟨c933,hr3,h⟩:=zk9 h
  refine zlh (zj3 hr3) ?_
  refine sA ?_
  refine zle h (λ h hc4=>?_) (λ h hc4=>?_)
  ·refine sA ?_
   have he:=oi h
   subst he
   exact zld ⟨[(4,(I (-1)))],[],0,18⟩ []
  ·refine sA ?_
   have he:=oi h
   subst he
   exact zld ⟨[(4,(I c933))],[],0,18⟩ []
end Go.TL.YteonagfnhdlfcaaGreatDoor

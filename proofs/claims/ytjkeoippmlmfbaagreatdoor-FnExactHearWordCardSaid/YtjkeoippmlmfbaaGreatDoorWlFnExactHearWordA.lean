import Derived.Test.YtjkeoippmlmfbaaGreatDoorTlTabr5zD
import Derived.Test.YtjkeoippmlmfbaaGreatDoorG31EnR5C
import Derived.Test.YtjkeoippmlmfbaaGreatDoorTlAuto
import Derived.Test.YtjkeoippmlmfbaaGreatDoorTlPk
import Derived.Test.YtjkeoippmlmfbaaGreatDoorG34TlTrimr5zD
import Derived.Test.YtjkeoippmlmfbaaGreatDoorG35TlBelow
import Derived.Test.YtjkeoippmlmfbaaGreatDoorTlInsert
import Derived.Test.YtjkeoippmlmfbaaGreatDoorTlSrBr5zD
import Derived.Test.YtjkeoippmlmfbaaGreatDoorTlDelD
import Derived.Test.YtjkeoippmlmfbaaGreatDoorTlSortD
set_option linter.unusedSimpArgs false
set_option linter.unusedVariables false
set_option linter.unusedVariables false
set_option linter.unusedSimpArgs false
set_option maxRecDepth 8000
set_option maxHeartbeats 0
namespace Go.TL.YtjkeoippmlmfbaaGreatDoor
open Go Go.Proofs Go.TL
theorem w_laws_szEvent {a0 : EventT} {a1 : Int} {r : Int} (h : laws_szEvent a0 a1 = some r) : Fn Tryz.prog 114 [(.ag [(I a0.Id),(I a0.Version),(I a0.Kind),(.lf false (.sc (.string a0.Name)))]),(I a1)] [] 0 (I r) [] 0 := by
 unfold laws_szEvent at h
 refine fn_code tab_ok mixed [(1000,[(1,0),(2,0)]),(1001,[(1,0)]),(1002,[(1,0),(11,0)]),(1003,[(4,0)]),(1004,[(4,0)])] Tryz.func114 rfl rfl (by simp [Tryz.f114]) (by kernel_rfl) ?_
 simp only [Tryz.f114]
 refine sA ?_
 refine Bs_if h (fun h hc1 => ?_) (fun h hc1 => ?_)
 ·try refine sA ?_
  obtain rfl:=Option.some.inj h
  exact endsA ⟨[(4,(I (-1)))],[],0,13⟩ []
 ·try refine sA ?_
  obtain rfl:=Option.some.inj h
  exact endsA ⟨[(4,(I (wI (a1 - (a0.Name.size : Int)))))],[],0,13⟩ []
theorem w_laws_szEventS {a0 : (List EventT)} {a1 : Int} {r : Int} (h : laws_szEventS a0 a1 = some r) : Fn Tryz.prog 49 [(.lf true (.sl (a0.map eEvent))),(I a1)] [] 0 (I r) [] 0 := by
 unfold laws_szEventS at h
 refine fn_code tab_ok mixed [(1000,[(0,0),(1,0)]),(1001,[(0,0),(1,0)]),(1002,[(0,0),(1,0),(11,0)]),(1003,[(4,0)]),(1004,[(0,0),(1,0),(5,0)]),(1005,[(0,0),(1,0),(5,0),(15,0)]),(1006,[(0,0),(1,0),(5,0)]),(1007,[(0,0),(1,0),(5,0)]),(1008,[(0,0),(1,0),(5,0),(25,0)]),(1009,[(4,0)]),(1010,[(4,0)])] Tryz.func49 rfl rfl (by simp [Tryz.f49]) (by kernel_rfl) ?_
 simp only [Tryz.f49]
 refine sA ?_
 refine Bs_if h (fun h hc1 => ?_) (fun h hc1 => ?_)
 ·try refine sA ?_
  obtain rfl:=Option.some.inj h
  exact endsA ⟨[(4,(I (-1)))],[],0,27⟩ []
 ·try refine sA ?_
  obtain ⟨y5,hl2,h⟩ := bind_ok h
  refine W_loopP (fun g2 : laws_szEventS_G1 => ⟨[(0,(.lf true (.sl (a0.map eEvent)))),(1,(I g2.t1)),(5,(I g2.t5))],[],0,27⟩) (laws_szEventS_L1 a0) _ _ hl2 (weakA []) ?_
  ·intro n1 g2 z1 hs1 hk1
   unfold laws_szEventS_L1 at hs1
   try dsimp only at hs1
   refine sA ?_
   refine Bs_if hs1 (fun hs1 hc3 => ?_) (fun hs1 hc3 => ?_)
   ·try refine sA ?_
    obtain ⟨hp4,hs1⟩ := guard_some hs1
    have hn4 : g2.t5.toNat < a0.length := by first | omega | (simp only [List.length_set,List.length_append,List.length_replicate,List.length_map]; omega)
    try refine sA ?_
    try refine andA ?_
    obtain ⟨c4,hr5,hs1⟩ := bind_ok hs1
    refine Cl_sA (w_laws_szEvent hr5) ?_
    try refine sA ?_
    refine Bs_if hs1 (fun hs1 hc6 => ?_) (fun hs1 hc6 => ?_)
    ·try refine sA ?_
     cases hs1
     cases hk1
     try dsimp only at h
     try refine sA ?_
     obtain rfl:=Option.some.inj h
     exact endsA ⟨[(4,(I (-1)))],[],0,27⟩ []
    ·try refine sA ?_
     cases hs1
     exact X_backP hk1 (weakA [])
   ·try refine sA ?_
    cases hs1
    cases hk1
    try dsimp only at h
    try refine sA ?_
    obtain rfl:=Option.some.inj h
    exact endsA ⟨[(4,(I g2.t1))],[],0,27⟩ []
theorem w_laws_szBranch {a0 : BranchT} {a1 : Int} {r : Int} (h : laws_szBranch a0 a1 = some r) : Fn Tryz.prog 140 [(.ag [(.lf true (.sl (a0.Events.map eEvent)))]),(I a1)] [] 0 (I r) [] 0 := by
 unfold laws_szBranch at h
 refine fn_code tab_ok mixed [(1000,[(1,0),(2,0)]),(1001,[(1,0)]),(1002,[(1,0),(10,0)]),(1003,[(4,0)]),(1004,[(4,0)])] Tryz.func140 rfl rfl (by simp [Tryz.f140]) (by kernel_rfl) ?_
 simp only [Tryz.f140]
 refine sA ?_
 obtain ⟨c8,hr1,h⟩ := bind_ok h
 refine Cl_sA (w_laws_szEventS hr1) ?_
 try refine sA ?_
 refine Bs_if h (fun h hc2 => ?_) (fun h hc2 => ?_)
 ·try refine sA ?_
  obtain rfl:=Option.some.inj h
  exact endsA ⟨[(4,(I (-1)))],[],0,12⟩ []
 ·try refine sA ?_
  obtain rfl:=Option.some.inj h
  exact endsA ⟨[(4,(I c8))],[],0,12⟩ []
theorem w_laws_szBranchS {a0 : (List BranchT)} {a1 : Int} {r : Int} (h : laws_szBranchS a0 a1 = some r) : Fn Tryz.prog 80 [(.lf true (.sl (a0.map eBranch))),(I a1)] [] 0 (I r) [] 0 := by
 unfold laws_szBranchS at h
 refine fn_code tab_ok mixed [(1000,[(0,0),(1,0)]),(1001,[(0,0),(1,0)]),(1002,[(0,0),(1,0),(11,0)]),(1003,[(4,0)]),(1004,[(0,0),(1,0),(5,0)]),(1005,[(0,0),(1,0),(5,0),(15,0)]),(1006,[(0,0),(1,0),(5,0)]),(1007,[(0,0),(1,0),(5,0)]),(1008,[(0,0),(1,0),(5,0),(25,0)]),(1009,[(4,0)]),(1010,[(4,0)])] Tryz.func80 rfl rfl (by simp [Tryz.f80]) (by kernel_rfl) ?_
 simp only [Tryz.f80]
 refine sA ?_
 refine Bs_if h (fun h hc1 => ?_) (fun h hc1 => ?_)
 ·try refine sA ?_
  obtain rfl:=Option.some.inj h
  exact endsA ⟨[(4,(I (-1)))],[],0,27⟩ []
 ·try refine sA ?_
  obtain ⟨y11,hl2,h⟩ := bind_ok h
  refine W_loopP (fun g1 : laws_szBranchS_G1 => ⟨[(0,(.lf true (.sl (a0.map eBranch)))),(1,(I g1.t1)),(5,(I g1.t5))],[],0,27⟩) (laws_szBranchS_L1 a0) _ _ hl2 (weakA []) ?_
  ·intro n1 g1 z1 hs1 hk1
   unfold laws_szBranchS_L1 at hs1
   try dsimp only at hs1
   refine sA ?_
   refine Bs_if hs1 (fun hs1 hc3 => ?_) (fun hs1 hc3 => ?_)
   ·try refine sA ?_
    obtain ⟨hp4,hs1⟩ := guard_some hs1
    have hn4 : g1.t5.toNat < a0.length := by first | omega | (simp only [List.length_set,List.length_append,List.length_replicate,List.length_map]; omega)
    try refine sA ?_
    try refine andA ?_
    obtain ⟨c10,hr5,hs1⟩ := bind_ok hs1
    refine Cl_sA (w_laws_szBranch hr5) ?_
    try refine sA ?_
    refine Bs_if hs1 (fun hs1 hc6 => ?_) (fun hs1 hc6 => ?_)
    ·try refine sA ?_
     cases hs1
     cases hk1
     try dsimp only at h
     try refine sA ?_
     obtain rfl:=Option.some.inj h
     exact endsA ⟨[(4,(I (-1)))],[],0,27⟩ []
    ·try refine sA ?_
     cases hs1
     exact X_backP hk1 (weakA [])
   ·try refine sA ?_
    cases hs1
    cases hk1
    try dsimp only at h
    try refine sA ?_
    obtain rfl:=Option.some.inj h
    exact endsA ⟨[(4,(I g1.t1))],[],0,27⟩ []
theorem w_laws_szTellings {a0 : TellingsT} {a1 : Int} {r : Int} (h : laws_szTellings a0 a1 = some r) : Fn Tryz.prog 14 [(.ag [(.lf true (.sl (a0.Branches.map eBranch)))]),(I a1)] [] 0 (I r) [] 0 := by
 unfold laws_szTellings at h
 refine fn_code tab_ok mixed [(1000,[(1,0),(2,0)]),(1001,[(1,0)]),(1002,[(1,0),(10,0)]),(1003,[(4,0)]),(1004,[(4,0)])] Tryz.func14 rfl rfl (by simp [Tryz.f14]) (by kernel_rfl) ?_
 simp only [Tryz.f14]
 refine sA ?_
 obtain ⟨c14,hr1,h⟩ := bind_ok h
 refine Cl_sA (w_laws_szBranchS hr1) ?_
 try refine sA ?_
 refine Bs_if h (fun h hc2 => ?_) (fun h hc2 => ?_)
 ·try refine sA ?_
  obtain rfl:=Option.some.inj h
  exact endsA ⟨[(4,(I (-1)))],[],0,12⟩ []
 ·try refine sA ?_
  obtain rfl:=Option.some.inj h
  exact endsA ⟨[(4,(I c14))],[],0,12⟩ []
theorem w_laws_szRegion {a0 : RegionT} {a1 : Int} {r : Int} (h : laws_szRegion a0 a1 = some r) : Fn Tryz.prog 23 [(.ag [(I a0.Id),(I a0.Version),(.lf true (.sl (a0.Tellings.Branches.map eBranch)))]),(I a1)] [] 0 (I r) [] 0 := by
 unfold laws_szRegion at h
 refine fn_code tab_ok mixed [(1000,[(1,0),(2,0)]),(1001,[(1,0)]),(1002,[(1,0),(10,0)]),(1003,[(4,0)]),(1004,[(4,0)])] Tryz.func23 rfl rfl (by simp [Tryz.f23]) (by kernel_rfl) ?_
 simp only [Tryz.f23]
 refine sA ?_
 obtain ⟨c15,hr1,h⟩ := bind_ok h
 refine Cl_sA (w_laws_szTellings hr1) ?_
 try refine sA ?_
 refine Bs_if h (fun h hc2 => ?_) (fun h hc2 => ?_)
 ·try refine sA ?_
  obtain rfl:=Option.some.inj h
  exact endsA ⟨[(4,(I (-1)))],[],0,12⟩ []
 ·try refine sA ?_
  obtain rfl:=Option.some.inj h
  exact endsA ⟨[(4,(I c15))],[],0,12⟩ []
theorem w_laws_szWord {a0 : WordT} {a1 : Int} {r : Int} (h : laws_szWord a0 a1 = some r) : Fn Tryz.prog 76 [(.ag [(I a0.Version),(.lf true (.sl (a0.Tellings.Branches.map eBranch)))]),(I a1)] [] 0 (I r) [] 0 := by
 unfold laws_szWord at h
 refine fn_code tab_ok mixed [(1000,[(1,0),(2,0)]),(1001,[(1,0)]),(1002,[(1,0),(10,0)]),(1003,[(4,0)]),(1004,[(4,0)])] Tryz.func76 rfl rfl (by simp [Tryz.f76]) (by kernel_rfl) ?_
 simp only [Tryz.f76]
 refine sA ?_
 obtain ⟨c17,hr1,h⟩ := bind_ok h
 refine Cl_sA (w_laws_szTellings hr1) ?_
 try refine sA ?_
 refine Bs_if h (fun h hc2 => ?_) (fun h hc2 => ?_)
 ·try refine sA ?_
  obtain rfl:=Option.some.inj h
  exact endsA ⟨[(4,(I (-1)))],[],0,12⟩ []
 ·try refine sA ?_
  obtain rfl:=Option.some.inj h
  exact endsA ⟨[(4,(I c17))],[],0,12⟩ []
theorem w_laws_toEvent {a0 : EventT} {r : EventT} (h : laws_toEvent a0 = some r) : Fn Tryz.prog 117 [(.ag [(I a0.Id),(I a0.Version),(I a0.Kind),(.lf false (.sc (.string a0.Name)))])] [] 0 (.ag [(I r.Id),(I r.Version),(I r.Kind),(.lf false (.sc (.string r.Name)))]) [] 1 := by
 unfold laws_toEvent at h
 refine fn_code tab_ok mixed [(1000,[(1,0),(2,0)]),(1001,[(1,0),(2,0),(3,0)]),(1002,[(1,0),(2,0),(3,0)]),(1003,[(1,0),(2,0),(3,0)]),(1004,[(1,0),(2,0),(3,0)]),(1005,[(2,0),(3,0)]),(1006,[(2,0)])] Tryz.func117 rfl rfl (by simp [Tryz.f117]) (by kernel_rfl) ?_
 simp only [Tryz.f117]
 refine sA ?_
 obtain rfl:=Option.some.inj h
 exact endsA ⟨[(2,(.pb 0 0))],[(0,some (true,.box [(I a0.Id),(I a0.Version),(I a0.Kind),(.lf false (.sc (.string a0.Name)))]))],1,17⟩ [some 1]
theorem w_laws_toEventS {a0 : (List EventT)} {r : (List EventT)} (h : laws_toEventS a0 = some r) : Fn Tryz.prog 51 [(.lf true (.sl (a0.map eEvent)))] [] 0 (.os 0 4 0 r.length r.length false) [(0,some (true,.arr false 4 (r.map eEvent)))] 1 := by
 unfold laws_toEventS at h
 refine fn_code tab_ok mixed [(1000,[(0,0)]),(1001,[(0,0),(3,0)]),(1002,[(0,0),(3,0),(4,0)]),(1003,[(0,0),(3,0),(4,0),(11,0)]),(1004,[(0,0),(3,0),(4,0)]),(1005,[(0,0),(3,0),(4,0)]),(1006,[(2,0)])] Tryz.func51 rfl rfl (by simp [Tryz.f51]) (by kernel_rfl) ?_
 simp only [Tryz.f51]
 simp (disch := first | assumption | (simp only [List.length_set]; assumption)) only [go_sem,Nat.reduceAdd,Nat.reduceMul,Nat.reduceSub,Nat.reduceEqDiff,↓reduceIte,Nat.reduceLT,reduceCtorEq,Nat.reduceLeDiff,Int.reduceToNat,Int.reduceEq,Int.reduceLE,Int.reduceLT,Nat.reduceBEq,fold_eEvent_rep]
 obtain ⟨hp1,h⟩ := guard_some h
 try simp (disch := first | assumption | (simp only [List.length_set]; assumption)) only [go_sem,Nat.reduceAdd,Nat.reduceMul,Nat.reduceSub,Nat.reduceEqDiff,↓reduceIte,Nat.reduceLT,reduceCtorEq,Nat.reduceLeDiff,Int.reduceToNat,Int.reduceEq,Int.reduceLE,Int.reduceLT,Nat.reduceBEq,fold_eEvent_rep]
 try refine andA ?_
 obtain ⟨y23,hl2,h⟩ := bind_ok h
 refine W_loopP (fun g20 : laws_toEventS_G1 => ⟨[(0,(.lf true (.sl (a0.map eEvent)))),(3,(.os 0 4 0 g20.c0.length g20.c0.length false)),(4,(I g20.t4))],[(0,some (true,.arr false 4 (g20.c0.map eEvent)))],1,23⟩) (laws_toEventS_L1 a0) _ _ hl2 (weak_of (m := 0) [some 0] rfl rfl rfl (by rfl) (by ((try simp (disch := first | assumption | (simp only [List.length_set]; assumption)) only [go_sem,Nat.reduceAdd,Nat.reduceMul,Nat.reduceSub,Nat.reduceEqDiff,↓reduceIte,Nat.reduceLT,reduceCtorEq,Nat.reduceLeDiff,Int.reduceToNat,Int.reduceEq,Int.reduceLE,Int.reduceLT,Nat.reduceBEq,fold_eEvent_rep]); (repeat' first | done | rfl | omega | refine And.intro ?_ ?_ | (simp; done) | (simp; omega)))) (by ((try simp (disch := first | assumption | (simp only [List.length_set]; assumption)) only [go_sem,Nat.reduceAdd,Nat.reduceMul,Nat.reduceSub,Nat.reduceEqDiff,↓reduceIte,Nat.reduceLT,reduceCtorEq,Nat.reduceLeDiff,Int.reduceToNat,Int.reduceEq,Int.reduceLE,Int.reduceLT,Nat.reduceBEq,fold_eEvent_rep]); (repeat' first | done | rfl | omega | refine And.intro ?_ ?_ | (simp; done) | (simp; omega))))) ?_
 ·intro n1 g20 z1 hs1 hk1
  unfold laws_toEventS_L1 at hs1
  try dsimp only at hs1
  simp (disch := first | assumption | (simp only [List.length_set]; assumption)) only [go_sem,Nat.reduceAdd,Nat.reduceMul,Nat.reduceSub,Nat.reduceEqDiff,↓reduceIte,Nat.reduceLT,reduceCtorEq,Nat.reduceLeDiff,Int.reduceToNat,Int.reduceEq,Int.reduceLE,Int.reduceLT,Nat.reduceBEq,fold_eEvent_rep]
  refine Bs_if hs1 (fun hs1 hc3 => ?_) (fun hs1 hc3 => ?_)
  ·try simp (disch := first | assumption | (simp only [List.length_set]; assumption)) only [go_sem,Nat.reduceAdd,Nat.reduceMul,Nat.reduceSub,Nat.reduceEqDiff,↓reduceIte,Nat.reduceLT,reduceCtorEq,Nat.reduceLeDiff,Int.reduceToNat,Int.reduceEq,Int.reduceLE,Int.reduceLT,Nat.reduceBEq,fold_eEvent_rep]
   obtain ⟨hp4,hs1⟩ := guard_some hs1
   have hn4 : g20.t4.toNat < a0.length := by first | omega | (simp only [List.length_set,List.length_append,List.length_replicate,List.length_map]; omega)
   try simp (disch := first | assumption | (simp only [List.length_set]; assumption)) only [go_sem,Nat.reduceAdd,Nat.reduceMul,Nat.reduceSub,Nat.reduceEqDiff,↓reduceIte,Nat.reduceLT,reduceCtorEq,Nat.reduceLeDiff,Int.reduceToNat,Int.reduceEq,Int.reduceLE,Int.reduceLT,Nat.reduceBEq,fold_eEvent_rep]
   try refine andA ?_
   obtain ⟨c22,hr5,hs1⟩ := bind_ok hs1
   refine Cl_shown (w_laws_toEvent hr5) (by first | rfl | (simp (disch := first | assumption | (simp only [List.length_set]; assumption)) only [go_sem,Nat.reduceAdd,Nat.reduceMul,Nat.reduceSub,Nat.reduceEqDiff,↓reduceIte,Nat.reduceLT,reduceCtorEq,Nat.reduceLeDiff,Int.reduceToNat,Int.reduceEq,Int.reduceLE,Int.reduceLT,Nat.reduceBEq,fold_eEvent_rep]; first | done | rfl) | (simp only [List.length_append,List.length_cons,List.length_nil,List.length_map,List.length_set,List.length_replicate,Nat.zero_add,Nat.reduceAdd]; rfl) | (simp (disch := first | assumption | (simp only [List.length_set]; assumption)) only [go_sem,Nat.reduceAdd,Nat.reduceMul,Nat.reduceSub,Nat.reduceEqDiff,↓reduceIte,Nat.reduceLT,reduceCtorEq,Nat.reduceLeDiff,Int.reduceToNat,Int.reduceEq,Int.reduceLE,Int.reduceLT,Nat.reduceBEq,fold_eEvent_rep]; simp only [List.length_append,List.length_cons,List.length_nil,List.length_map,List.length_set,List.length_replicate,Nat.zero_add,Nat.reduceAdd]; rfl)) (FitAll.refl _) (.inl (by first | rfl | (simp (disch := first | assumption | (simp only [List.length_set]; assumption)) only [go_sem,Nat.reduceAdd,Nat.reduceMul,Nat.reduceSub,Nat.reduceEqDiff,↓reduceIte,Nat.reduceLT,reduceCtorEq,Nat.reduceLeDiff,Int.reduceToNat,Int.reduceEq,Int.reduceLE,Int.reduceLT,Nat.reduceBEq,fold_eEvent_rep]; done))) ?_
   try simp (disch := first | assumption | (simp only [List.length_set]; assumption)) only [go_sem,Nat.reduceAdd,Nat.reduceMul,Nat.reduceSub,Nat.reduceEqDiff,↓reduceIte,Nat.reduceLT,reduceCtorEq,Nat.reduceLeDiff,Int.reduceToNat,Int.reduceEq,Int.reduceLE,Int.reduceLT,Nat.reduceBEq,fold_eEvent_rep]
   obtain ⟨hp6,hs1⟩ := guard_some hs1
   have hn6 : g20.t4.toNat < g20.c0.length := by first | omega | (simp only [List.length_set,List.length_append,List.length_replicate,List.length_map]; omega)
   try simp (disch := first | assumption | (simp only [List.length_set]; assumption)) only [go_sem,Nat.reduceAdd,Nat.reduceMul,Nat.reduceSub,Nat.reduceEqDiff,↓reduceIte,Nat.reduceLT,reduceCtorEq,Nat.reduceLeDiff,Int.reduceToNat,Int.reduceEq,Int.reduceLE,Int.reduceLT,Nat.reduceBEq,fold_eEvent_rep]
   try refine andA ?_
   try refine andB ?_
   try simp (disch := first | assumption | (simp only [List.length_set]; assumption)) only [go_sem,Nat.reduceAdd,Nat.reduceMul,Nat.reduceSub,Nat.reduceEqDiff,↓reduceIte,Nat.reduceLT,reduceCtorEq,Nat.reduceLeDiff,Int.reduceToNat,Int.reduceEq,Int.reduceLE,Int.reduceLT,Nat.reduceBEq,fold_eEvent_rep]
   cases hs1
   refine X_backP hk1 ?_
   refine weak_of (m := 0) [some 0] rfl rfl rfl (by rfl) ?_ ?_
   all_goals ((try simp (disch := first | assumption | (simp only [List.length_set]; assumption)) only [go_sem,Nat.reduceAdd,Nat.reduceMul,Nat.reduceSub,Nat.reduceEqDiff,↓reduceIte,Nat.reduceLT,reduceCtorEq,Nat.reduceLeDiff,Int.reduceToNat,Int.reduceEq,Int.reduceLE,Int.reduceLT,Nat.reduceBEq,fold_eEvent_rep]); (repeat' first | done | rfl | omega | refine And.intro ?_ ?_ | (simp; done) | (simp; omega)))
  ·try simp (disch := first | assumption | (simp only [List.length_set]; assumption)) only [go_sem,Nat.reduceAdd,Nat.reduceMul,Nat.reduceSub,Nat.reduceEqDiff,↓reduceIte,Nat.reduceLT,reduceCtorEq,Nat.reduceLeDiff,Int.reduceToNat,Int.reduceEq,Int.reduceLE,Int.reduceLT,Nat.reduceBEq,fold_eEvent_rep]
   cases hs1
   cases hk1
   try dsimp only at h
   try simp (disch := first | assumption | (simp only [List.length_set]; assumption)) only [go_sem,Nat.reduceAdd,Nat.reduceMul,Nat.reduceSub,Nat.reduceEqDiff,↓reduceIte,Nat.reduceLT,reduceCtorEq,Nat.reduceLeDiff,Int.reduceToNat,Int.reduceEq,Int.reduceLE,Int.reduceLT,Nat.reduceBEq,fold_eEvent_rep]
   obtain rfl:=Option.some.inj h
   refine ends_weak ⟨[(2,(.os 0 4 0 g20.c0.length g20.c0.length false))],[(0,some (true,.arr false 4 (g20.c0.map eEvent)))],1,23⟩ (weak_of (m := 0) [some 0] rfl rfl rfl (by rfl) ?_ ?_) ?_
   all_goals ((try simp (disch := first | assumption | (simp only [List.length_set]; assumption)) only [go_sem,Nat.reduceAdd,Nat.reduceMul,Nat.reduceSub,Nat.reduceEqDiff,↓reduceIte,Nat.reduceLT,reduceCtorEq,Nat.reduceLeDiff,Int.reduceToNat,Int.reduceEq,Int.reduceLE,Int.reduceLT,Nat.reduceBEq,fold_eEvent_rep]); (repeat' first | done | rfl | omega | refine And.intro ?_ ?_ | (simp; done) | (simp; omega)))
theorem w_laws_toBranch_F_dp {a0 : BranchT} {r : BranchT} (h : laws_toBranch_F a0 = some r) : Fn Tryz.prog 141 [(.ag [(.lf true (.sl (a0.Events.map eEvent)))])] [] 0 (.ag [(.os 0 4 0 r.Events.length r.Events.length false)]) [(0,some (true,.arr false 4 (r.Events.map eEvent)))] 2 := by
 unfold laws_toBranch_F at h
 refine fn_code tab_ok mixed [(1000,[(1,0),(2,0)]),(1001,[(1,0),(2,0),(3,0)]),(1002,[(2,0),(3,0)]),(1003,[(2,0)])] Tryz.func141 rfl rfl (by simp [Tryz.f141]) (by kernel_rfl) ?_
 simp only [Tryz.f141]
 refine sA ?_
 obtain ⟨c24,hr1,h⟩ := bind_ok h
 refine Cl_sA (w_laws_toEventS hr1) ?_
 try refine sA ?_
 obtain rfl:=Option.some.inj h
 exact endsA ⟨[(2,(.pb 1 0))],[(0,some (true,.arr false 4 (c24.map eEvent))),(1,some (true,.box [(.os 0 4 0 c24.length c24.length false)]))],2,9⟩ [some 3,some 1]
theorem w_laws_toBranchS {a0 : (List BranchT)} {r : (List BranchT)} (h : laws_toBranchS a0 = some r) : Fn Tryz.prog 83 [(.lf true (.sl (a0.map eBranch)))] [] 0 (.os 0 1 0 r.length r.length false) [(0,some (true,.deep [.sl [.sc,.sc,.sc,.sc]] (r.map eBranch)))] 1 := by
 unfold laws_toBranchS at h
 refine fn_code tab_ok mixed [(1000,[(0,0)]),(1001,[(0,0),(3,0)]),(1002,[(0,0),(3,0),(4,0)]),(1003,[(0,0),(3,0),(4,0),(11,0)]),(1004,[(0,0),(3,0),(4,0)]),(1005,[(0,0),(3,0),(4,0)]),(1006,[(2,0)])] Tryz.func83 rfl rfl (by simp [Tryz.f83]) (by kernel_rfl) ?_
 simp only [Tryz.f83]
 simp (disch := first | assumption | (simp only [List.length_set]; assumption)) only [go_sem,Nat.reduceAdd,Nat.reduceMul,Nat.reduceSub,Nat.reduceEqDiff,↓reduceIte,Nat.reduceLT,reduceCtorEq,Nat.reduceLeDiff,Int.reduceToNat,Int.reduceEq,Int.reduceLE,Int.reduceLT,Nat.reduceBEq,fold_eBranch_rep]
 obtain ⟨hp1,h⟩ := guard_some h
 try simp (disch := first | assumption | (simp only [List.length_set]; assumption)) only [go_sem,Nat.reduceAdd,Nat.reduceMul,Nat.reduceSub,Nat.reduceEqDiff,↓reduceIte,Nat.reduceLT,reduceCtorEq,Nat.reduceLeDiff,Int.reduceToNat,Int.reduceEq,Int.reduceLE,Int.reduceLT,Nat.reduceBEq,fold_eBranch_rep]
 try refine andA ?_
 obtain ⟨y27,hl2,h⟩ := bind_ok h
 refine W_loopP (fun g19 : laws_toBranchS_G1 => ⟨[(0,(.lf true (.sl (a0.map eBranch)))),(3,(.os 0 1 0 g19.c0.length g19.c0.length false)),(4,(I g19.t4))],[(0,some (true,.deep [.sl [.sc,.sc,.sc,.sc]] (g19.c0.map eBranch)))],1,23⟩) (laws_toBranchS_L1 a0) _ _ hl2 (weak_of (m := 0) [some 0] rfl rfl rfl (by rfl) (by ((try simp (disch := first | assumption | (simp only [List.length_set]; assumption)) only [go_sem,Nat.reduceAdd,Nat.reduceMul,Nat.reduceSub,Nat.reduceEqDiff,↓reduceIte,Nat.reduceLT,reduceCtorEq,Nat.reduceLeDiff,Int.reduceToNat,Int.reduceEq,Int.reduceLE,Int.reduceLT,Nat.reduceBEq,fold_eBranch_rep]); (repeat' first | done | rfl | omega | refine And.intro ?_ ?_ | (simp; done) | (simp; omega)))) (by ((try simp (disch := first | assumption | (simp only [List.length_set]; assumption)) only [go_sem,Nat.reduceAdd,Nat.reduceMul,Nat.reduceSub,Nat.reduceEqDiff,↓reduceIte,Nat.reduceLT,reduceCtorEq,Nat.reduceLeDiff,Int.reduceToNat,Int.reduceEq,Int.reduceLE,Int.reduceLT,Nat.reduceBEq,fold_eBranch_rep]); (repeat' first | done | rfl | omega | refine And.intro ?_ ?_ | (simp; done) | (simp; omega))))) ?_
 ·intro n1 g19 z1 hs1 hk1
  unfold laws_toBranchS_L1 at hs1
  try dsimp only at hs1
  simp (disch := first | assumption | (simp only [List.length_set]; assumption)) only [go_sem,Nat.reduceAdd,Nat.reduceMul,Nat.reduceSub,Nat.reduceEqDiff,↓reduceIte,Nat.reduceLT,reduceCtorEq,Nat.reduceLeDiff,Int.reduceToNat,Int.reduceEq,Int.reduceLE,Int.reduceLT,Nat.reduceBEq,fold_eBranch_rep]
  refine Bs_if hs1 (fun hs1 hc3 => ?_) (fun hs1 hc3 => ?_)
  ·try simp (disch := first | assumption | (simp only [List.length_set]; assumption)) only [go_sem,Nat.reduceAdd,Nat.reduceMul,Nat.reduceSub,Nat.reduceEqDiff,↓reduceIte,Nat.reduceLT,reduceCtorEq,Nat.reduceLeDiff,Int.reduceToNat,Int.reduceEq,Int.reduceLE,Int.reduceLT,Nat.reduceBEq,fold_eBranch_rep]
   obtain ⟨hp4,hs1⟩ := guard_some hs1
   have hn4 : g19.t4.toNat < a0.length := by first | omega | (simp only [List.length_set,List.length_append,List.length_replicate,List.length_map]; omega)
   try simp (disch := first | assumption | (simp only [List.length_set]; assumption)) only [go_sem,Nat.reduceAdd,Nat.reduceMul,Nat.reduceSub,Nat.reduceEqDiff,↓reduceIte,Nat.reduceLT,reduceCtorEq,Nat.reduceLeDiff,Int.reduceToNat,Int.reduceEq,Int.reduceLE,Int.reduceLT,Nat.reduceBEq,fold_eBranch_rep]
   try refine andA ?_
   obtain ⟨c26,hr5,hs1⟩ := bind_ok hs1
   refine Cl_shown (w_laws_toBranch_F_dp hr5) (by first | rfl | (simp (disch := first | assumption | (simp only [List.length_set]; assumption)) only [go_sem,Nat.reduceAdd,Nat.reduceMul,Nat.reduceSub,Nat.reduceEqDiff,↓reduceIte,Nat.reduceLT,reduceCtorEq,Nat.reduceLeDiff,Int.reduceToNat,Int.reduceEq,Int.reduceLE,Int.reduceLT,Nat.reduceBEq,fold_eBranch_rep]; first | done | rfl) | (simp only [List.length_append,List.length_cons,List.length_nil,List.length_map,List.length_set,List.length_replicate,Nat.zero_add,Nat.reduceAdd]; rfl) | (simp (disch := first | assumption | (simp only [List.length_set]; assumption)) only [go_sem,Nat.reduceAdd,Nat.reduceMul,Nat.reduceSub,Nat.reduceEqDiff,↓reduceIte,Nat.reduceLT,reduceCtorEq,Nat.reduceLeDiff,Int.reduceToNat,Int.reduceEq,Int.reduceLE,Int.reduceLT,Nat.reduceBEq,fold_eBranch_rep]; simp only [List.length_append,List.length_cons,List.length_nil,List.length_map,List.length_set,List.length_replicate,Nat.zero_add,Nat.reduceAdd]; rfl)) (FitAll.refl _) (.inl (by first | rfl | (simp (disch := first | assumption | (simp only [List.length_set]; assumption)) only [go_sem,Nat.reduceAdd,Nat.reduceMul,Nat.reduceSub,Nat.reduceEqDiff,↓reduceIte,Nat.reduceLT,reduceCtorEq,Nat.reduceLeDiff,Int.reduceToNat,Int.reduceEq,Int.reduceLE,Int.reduceLT,Nat.reduceBEq,fold_eBranch_rep]; done))) ?_
   try simp (disch := first | assumption | (simp only [List.length_set]; assumption)) only [go_sem,Nat.reduceAdd,Nat.reduceMul,Nat.reduceSub,Nat.reduceEqDiff,↓reduceIte,Nat.reduceLT,reduceCtorEq,Nat.reduceLeDiff,Int.reduceToNat,Int.reduceEq,Int.reduceLE,Int.reduceLT,Nat.reduceBEq,fold_eBranch_rep]
   obtain ⟨hp6,hs1⟩ := guard_some hs1
   have hn6 : g19.t4.toNat < g19.c0.length := by first | omega | (simp only [List.length_set,List.length_append,List.length_replicate,List.length_map]; omega)
   try simp (disch := first | assumption | (simp only [List.length_set]; assumption)) only [go_sem,Nat.reduceAdd,Nat.reduceMul,Nat.reduceSub,Nat.reduceEqDiff,↓reduceIte,Nat.reduceLT,reduceCtorEq,Nat.reduceLeDiff,Int.reduceToNat,Int.reduceEq,Int.reduceLE,Int.reduceLT,Nat.reduceBEq,fold_eBranch_rep]
   try refine andA ?_
   try refine andB ?_
   try simp (disch := first | assumption | (simp only [List.length_set]; assumption)) only [go_sem,Nat.reduceAdd,Nat.reduceMul,Nat.reduceSub,Nat.reduceEqDiff,↓reduceIte,Nat.reduceLT,reduceCtorEq,Nat.reduceLeDiff,Int.reduceToNat,Int.reduceEq,Int.reduceLE,Int.reduceLT,Nat.reduceBEq,fold_eBranch_rep]
   cases hs1
   refine X_backP hk1 ?_
   refine packW 0 ?_
   refine weak_of (m := 0) [some 0] rfl rfl rfl (by rfl) ?_ ?_
   all_goals ((try simp (disch := first | assumption | (simp only [List.length_set]; assumption)) only [go_sem,Nat.reduceAdd,Nat.reduceMul,Nat.reduceSub,Nat.reduceEqDiff,↓reduceIte,Nat.reduceLT,reduceCtorEq,Nat.reduceLeDiff,Int.reduceToNat,Int.reduceEq,Int.reduceLE,Int.reduceLT,Nat.reduceBEq,fold_eBranch_rep]); (repeat' first | done | rfl | omega | refine And.intro ?_ ?_ | (simp; done) | (simp; omega)))
  ·try simp (disch := first | assumption | (simp only [List.length_set]; assumption)) only [go_sem,Nat.reduceAdd,Nat.reduceMul,Nat.reduceSub,Nat.reduceEqDiff,↓reduceIte,Nat.reduceLT,reduceCtorEq,Nat.reduceLeDiff,Int.reduceToNat,Int.reduceEq,Int.reduceLE,Int.reduceLT,Nat.reduceBEq,fold_eBranch_rep]
   cases hs1
   cases hk1
   try dsimp only at h
   try simp (disch := first | assumption | (simp only [List.length_set]; assumption)) only [go_sem,Nat.reduceAdd,Nat.reduceMul,Nat.reduceSub,Nat.reduceEqDiff,↓reduceIte,Nat.reduceLT,reduceCtorEq,Nat.reduceLeDiff,Int.reduceToNat,Int.reduceEq,Int.reduceLE,Int.reduceLT,Nat.reduceBEq,fold_eBranch_rep]
   obtain rfl:=Option.some.inj h
   refine ends_weak ⟨[(2,(.os 0 1 0 g19.c0.length g19.c0.length false))],[(0,some (true,.deep [.sl [.sc,.sc,.sc,.sc]] (g19.c0.map eBranch)))],1,23⟩ (weak_of (m := 0) [some 0] rfl rfl rfl (by rfl) ?_ ?_) ?_
   all_goals ((try simp (disch := first | assumption | (simp only [List.length_set]; assumption)) only [go_sem,Nat.reduceAdd,Nat.reduceMul,Nat.reduceSub,Nat.reduceEqDiff,↓reduceIte,Nat.reduceLT,reduceCtorEq,Nat.reduceLeDiff,Int.reduceToNat,Int.reduceEq,Int.reduceLE,Int.reduceLT,Nat.reduceBEq,fold_eBranch_rep]); (repeat' first | done | rfl | omega | refine And.intro ?_ ?_ | (simp; done) | (simp; omega)))
theorem w_laws_toTellings {a0 : TellingsT} {r : TellingsT} (h : laws_toTellings a0 = some r) : Fn Tryz.prog 16 [(.ag [(.lf true (.sl (a0.Branches.map eBranch)))])] [] 0 (.ag [(.os 0 1 0 r.Branches.length r.Branches.length false)]) [(0,some (true,.deep [.sl [.sc,.sc,.sc,.sc]] (r.Branches.map eBranch)))] 2 := by
 unfold laws_toTellings at h
 refine fn_code tab_ok mixed [(1000,[(1,0),(2,0)]),(1001,[(1,0),(2,0),(3,0)]),(1002,[(2,0),(3,0)]),(1003,[(2,0)])] Tryz.func16 rfl rfl (by simp [Tryz.f16]) (by kernel_rfl) ?_
 simp only [Tryz.f16]
 refine sA ?_
 obtain ⟨c28,hr1,h⟩ := bind_ok h
 refine Cl_sA (w_laws_toBranchS hr1) ?_
 try refine sA ?_
 obtain rfl:=Option.some.inj h
 exact endsA ⟨[(2,(.pb 1 0))],[(0,some (true,.deep [.sl [.sc,.sc,.sc,.sc]] (c28.map eBranch))),(1,some (true,.box [(.os 0 1 0 c28.length c28.length false)]))],2,9⟩ [some 3,some 1]
theorem w_laws_toRegion {a0 : RegionT} {r : RegionT} (h : laws_toRegion a0 = some r) : Fn Tryz.prog 25 [(.ag [(I a0.Id),(I a0.Version),(.lf true (.sl (a0.Tellings.Branches.map eBranch)))])] [] 0 (.ag [(I r.Id),(I r.Version),(.os 0 1 0 r.Tellings.Branches.length r.Tellings.Branches.length false)]) [(0,some (true,.deep [.sl [.sc,.sc,.sc,.sc]] (r.Tellings.Branches.map eBranch)))] 2 := by
 unfold laws_toRegion at h
 refine fn_code tab_ok mixed [(1000,[(1,0),(2,0)]),(1001,[(1,0),(2,0),(3,0)]),(1002,[(1,0),(2,0),(3,0)]),(1003,[(1,0),(2,0),(3,0)]),(1004,[(2,0),(3,0)]),(1005,[(2,0)])] Tryz.func25 rfl rfl (by simp [Tryz.f25]) (by kernel_rfl) ?_
 simp only [Tryz.f25]
 refine sA ?_
 obtain ⟨c29,hr1,h⟩ := bind_ok h
 refine Cl_sA (w_laws_toTellings hr1) ?_
 try refine sA ?_
 obtain rfl:=Option.some.inj h
 exact endsA ⟨[(2,(.pb 1 0))],[(0,some (true,.deep [.sl [.sc,.sc,.sc,.sc]] (c29.Branches.map eBranch))),(1,some (true,.box [(I a0.Id),(I a0.Version),(.os 0 1 0 c29.Branches.length c29.Branches.length false)]))],2,15⟩ [some 3,some 1]
theorem w_laws_toWord {a0 : WordT} {r : WordT} (h : laws_toWord a0 = some r) : Fn Tryz.prog 78 [(.ag [(I a0.Version),(.lf true (.sl (a0.Tellings.Branches.map eBranch)))])] [] 0 (.ag [(I r.Version),(.os 0 1 0 r.Tellings.Branches.length r.Tellings.Branches.length false)]) [(0,some (true,.deep [.sl [.sc,.sc,.sc,.sc]] (r.Tellings.Branches.map eBranch)))] 2 := by
 unfold laws_toWord at h
 refine fn_code tab_ok mixed [(1000,[(1,0),(2,0)]),(1001,[(1,0),(2,0),(3,0)]),(1002,[(1,0),(2,0),(3,0)]),(1003,[(2,0),(3,0)]),(1004,[(2,0)])] Tryz.func78 rfl rfl (by simp [Tryz.f78]) (by kernel_rfl) ?_
 simp only [Tryz.f78]
 refine sA ?_
 obtain ⟨c31,hr1,h⟩ := bind_ok h
 refine Cl_sA (w_laws_toTellings hr1) ?_
 try refine sA ?_
 obtain rfl:=Option.some.inj h
 exact endsA ⟨[(2,(.pb 1 0))],[(0,some (true,.deep [.sl [.sc,.sc,.sc,.sc]] (c31.Branches.map eBranch))),(1,some (true,.box [(I a0.Version),(.os 0 1 0 c31.Branches.length c31.Branches.length false)]))],2,12⟩ [some 3,some 1]
theorem w_spec_l1In {a0 : Int} {a1 : Int} {a2 : Int} {r : Bool} (h : spec_l1In a0 a1 a2 = some r) : Fn Tryz.prog 148 [(I a0),(I a1),(I a2)] [] 0 (B r) [] 0 := by
 unfold spec_l1In at h
 refine fn_code tab_ok mixed [] Tryz.func148 rfl rfl (by simp [Tryz.f148]) (by kernel_rfl) ?_
 simp only [Tryz.f148]
 refine sA ?_
 refine Sp_if h (fun h hc1 => ?_) (fun h hc1 => ?_)
 ·try refine sA ?_
  obtain rfl:=Option.some.inj h
  exact endsA ⟨[(6,(B (decide (a0 ≤ a2))))],[],0,15⟩ []
 ·try refine sA ?_
  obtain rfl:=Option.some.inj h
  exact endsA ⟨[(6,(B false))],[],0,15⟩ []
theorem w_spec_l13Version {a0 : Int} {r : Bool} (h : spec_l13Version a0 = some r) : Fn Tryz.prog 149 [(I a0)] [] 0 (B r) [] 0 := by
 unfold spec_l13Version at h
 refine fn_code tab_ok mixed [] Tryz.func149 rfl rfl (by simp [Tryz.f149]) (by kernel_rfl) ?_
 simp only [Tryz.f149]
 refine sA ?_
 obtain ⟨c34,hr1,h⟩ := bind_ok h
 refine Cl_sA (w_spec_l1In hr1) ?_
 try refine sA ?_
 obtain rfl:=Option.some.inj h
 exact endsA ⟨[(2,(B c34))],[],0,5⟩ []
theorem w_spec_NewState {r : StateT} (h : spec_NewState = some r) : Fn Tryz.prog 151 [] [] 0 (.ag [(I r.Status),(I r.Next),(B r.Cancel),(I r.Done),.nl,.nl]) [] 1 := by
 unfold spec_NewState at h
 refine fn_code tab_ok mixed [] Tryz.func151 rfl rfl (by simp [Tryz.f151]) (by kernel_rfl) ?_
 simp only [Tryz.f151]
 refine sA ?_
 obtain rfl:=Option.some.inj h
 exact endsA ⟨[(0,(.pb 0 0))],[(0,some (true,.box [(I 0),(I 1),(B false),(I 0),.nl,.nl]))],1,2⟩ [some 0]
theorem w_spec_l1Name {a0 : ByteArray} {r : Bool} (h : spec_l1Name a0 = some r) : Fn Tryz.prog 207 [(.lf false (.sc (.string a0)))] [] 0 (B r) [] 0 := by
 unfold spec_l1Name at h
 refine fn_code tab_ok mixed [(1000,[(0,0)]),(1001,[(0,0),(3,0)]),(1002,[(0,0),(3,0),(7,0)]),(1003,[(0,0),(3,0)]),(1004,[(0,0),(3,0),(32,0)]),(1005,[(2,0)]),(1006,[(2,0)]),(4004,[])] Tryz.func207 rfl rfl (by simp [Tryz.f207]) (by kernel_rfl) ?_
 simp only [Tryz.f207]
 refine sA ?_
 obtain ⟨y51,hl1,h⟩ := bind_ok h
 refine W_loopP (fun g48 : spec_l1Name_G1 => ⟨[(0,(.lf false (.sc (.string a0)))),(3,(I g48.t3))],[],0,36⟩) (spec_l1Name_L1 a0) _ _ hl1 (weakA []) ?_
 ·intro n1 g48 z1 hs1 hk1
  unfold spec_l1Name_L1 at hs1
  try dsimp only at hs1
  refine sA ?_
  refine Bs_if hs1 (fun hs1 hc2 => ?_) (fun hs1 hc2 => ?_)
  ·try refine sA ?_
   obtain ⟨p50,hq3,hs1⟩ := bind_ok hs1
   refine Sq_cut (fun s2 => s2 = ⟨[(0,(.lf false (.sc (.string a0)))),(3,(I g48.t3)),(32,(B p50.t32))],[],0,36⟩) ?_ ?_
   ·try refine sA ?_
    obtain ⟨hp4,hq3⟩ := guard_some hq3
    try refine sA ?_
    try refine andA ?_
    refine Sp_if hq3 (fun hq3 hc5 => ?_) (fun hq3 hc5 => ?_)
    ·try refine sA ?_
     obtain ⟨hp6,hq3⟩ := guard_some hq3
     try refine sA ?_
     try refine andA ?_
     refine Sp_if hq3 (fun hq3 hc7 => ?_) (fun hq3 hc7 => ?_)
     ·try refine sA ?_
      cases hq3
      exact X_cut rfl (weakA [])
     ·try refine sA ?_
      obtain ⟨hp8,hq3⟩ := guard_some hq3
      try refine sA ?_
      try refine andA ?_
      refine Sp_if hq3 (fun hq3 hc9 => ?_) (fun hq3 hc9 => ?_)
      ·try refine sA ?_
       obtain ⟨hp10,hq3⟩ := guard_some hq3
       try refine sA ?_
       try refine andA ?_
       cases hq3
       exact X_cut rfl (weakA [])
      ·try refine sA ?_
       cases hq3
       exact X_cut rfl (weakA [])
    ·try refine sA ?_
     obtain ⟨hp11,hq3⟩ := guard_some hq3
     try refine sA ?_
     try refine andA ?_
     refine Sp_if hq3 (fun hq3 hc12 => ?_) (fun hq3 hc12 => ?_)
     ·try refine sA ?_
      obtain ⟨hp13,hq3⟩ := guard_some hq3
      try refine sA ?_
      try refine andA ?_
      cases hq3
      exact X_cut rfl (weakA [])
     ·try refine sA ?_
      cases hq3
      exact X_cut rfl (weakA [])
   ·intro s2 hJ; subst hJ
    try dsimp only at hs1
    try refine sA ?_
    refine Bs_if hs1 (fun hs1 hc14 => ?_) (fun hs1 hc14 => ?_)
    ·try refine sA ?_
     cases hs1
     cases hk1
     try dsimp only at h
     try refine sA ?_
     obtain rfl:=Option.some.inj h
     exact endsA ⟨[(2,(B false))],[],0,36⟩ []
    ·try refine sA ?_
     cases hs1
     exact X_backP hk1 (weakA [])
  ·try refine sA ?_
   cases hs1
   cases hk1
   try dsimp only at h
   try refine sA ?_
   obtain rfl:=Option.some.inj h
   exact endsA ⟨[(2,(B (decide ((a0.size : Int) ≤ 12))))],[],0,36⟩ []
theorem w_spec_GoodEvent {a0 : EventT} {r : Bool} (h : spec_GoodEvent a0 = some r) : Fn Tryz.prog 191 [(.ag [(I a0.Id),(I a0.Version),(I a0.Kind),(.lf false (.sc (.string a0.Name)))])] [] 0 (B r) [] 0 := by
 unfold spec_GoodEvent at h
 refine fn_code tab_ok mixed [] Tryz.func191 rfl rfl (by simp [Tryz.f191]) (by kernel_rfl) ?_
 simp only [Tryz.f191]
 refine sA ?_
 obtain ⟨c45,hr1,h⟩ := bind_ok h
 refine Cl_sA (w_spec_l1In hr1) ?_
 try refine sA ?_
 refine Sp_if h (fun h hc2 => ?_) (fun h hc2 => ?_)
 ·try refine sA ?_
  obtain ⟨c46,hr3,h⟩ := bind_ok h
  refine Cl_sA (w_spec_l1In hr3) ?_
  try refine sA ?_
  refine Sp_if h (fun h hc4 => ?_) (fun h hc4 => ?_)
  ·try refine sA ?_
   obtain ⟨c47,hr5,h⟩ := bind_ok h
   refine Cl_sA (w_spec_l1In hr5) ?_
   try refine sA ?_
   refine Sp_if h (fun h hc6 => ?_) (fun h hc6 => ?_)
   ·try refine sA ?_
    obtain ⟨c54,hr7,h⟩ := bind_ok h
    refine Cl_sA (w_spec_l1Name hr7) ?_
    try refine sA ?_
    obtain rfl:=Option.some.inj h
    exact endsA ⟨[(2,(B c54))],[],0,21⟩ []
   ·try refine sA ?_
    obtain rfl:=Option.some.inj h
    exact endsA ⟨[(2,(B false))],[],0,21⟩ []
  ·try refine sA ?_
   obtain rfl:=Option.some.inj h
   exact endsA ⟨[(2,(B false))],[],0,21⟩ []
 ·try refine sA ?_
  obtain rfl:=Option.some.inj h
  exact endsA ⟨[(2,(B false))],[],0,21⟩ []
theorem w_spec_l12Own {a0 : StateT} {r : StateT} (h : spec_l12Own a0 = some r) : Fn Tryz.prog 96 [(.ag [(I a0.Status),(I a0.Next),(B a0.Cancel),(I a0.Done),(.lf true (.sl (a0.Signals.map eS))),(.lf true (.sl (a0.Timers.map eS)))])] [] 0 (.ag [(I r.Status),(I r.Next),(B r.Cancel),(I r.Done),(.os 0 1 0 r.Signals.length r.Signals.length false),(.os 1 1 0 r.Timers.length r.Timers.length false)]) [(0,some (true,.arr false 1 (r.Signals.map eS))),(1,some (true,.arr false 1 (r.Timers.map eS)))] 3 := by
 unfold spec_l12Own at h
 refine fn_code tab_ok mixed [(1000,[(1,0),(2,0)]),(1001,[(1,0),(2,0)]),(1002,[(1,0),(2,0)]),(1003,[(2,0)])] Tryz.func96 rfl rfl (by simp [Tryz.f96]) (by kernel_rfl) ?_
 simp only [Tryz.f96]
 refine sA ?_
 obtain ⟨hp1,h⟩ := guard_some h
 try refine sA ?_
 try refine andA ?_
 obtain ⟨hp2,h⟩ := guard_some h
 try refine sA ?_
 try refine andA ?_
 obtain rfl:=Option.some.inj h
 exact endsA ⟨[(2,(.pb 2 0))],[(0,some (true,.arr false 1 ((([]) ++ a0.Signals).map eS))),(1,some (true,.arr false 1 ((([]) ++ a0.Timers).map eS))),(2,some (true,.box [(I a0.Status),(I a0.Next),(B a0.Cancel),(I a0.Done),(.os 0 1 0 ((([]) ++ a0.Signals).length) ((([]) ++ a0.Signals).length) false),(.os 1 1 0 ((([]) ++ a0.Timers).length) ((([]) ++ a0.Timers).length) false)]))],3,14⟩ [some 3,some 5,some 1]
theorem w_spec_l12At {a0 : (List ByteArray)} {a1 : ByteArray} {r : Int} (h : spec_l12At a0 a1 = some r) : Fn Tryz.prog 177 [(.lf true (.sl (a0.map eS))),(.lf false (.sc (.string a1)))] [] 0 (I r) [] 0 := by
 unfold spec_l12At at h
 refine fn_code tab_ok mixed [(1000,[(0,0),(1,0)]),(1001,[(1,0),(7,0),(8,0),(9,0)]),(1002,[(1,0),(7,0),(8,0),(9,0),(10,0)]),(1003,[(1,0),(5,0),(6,0),(7,0),(8,0),(9,0)]),(1004,[(1,0),(5,0),(7,0),(8,0),(9,0),(16,0)]),(1005,[(4,0)]),(1006,[(1,0),(7,0),(8,0),(9,0)]),(1007,[(4,0)])] Tryz.func177 rfl rfl (by simp [Tryz.f177]) (by kernel_rfl) ?_
 simp only [Tryz.f177]
 refine sA ?_
 obtain ⟨y59,hl1,h⟩ := bind_ok h
 refine W_loopP (fun g58 : spec_l12At_G1 => ⟨[(1,(.lf false (.sc (.string a1)))),(7,(.lf true (.sl (a0.map eS)))),(8,(I ((a0.length : Nat) : Int))),(9,(I g58.t9))],[],0,19⟩) (spec_l12At_L1 a0 a1) _ _ hl1 (weakA []) ?_
 ·intro n1 g58 z1 hs1 hk1
  unfold spec_l12At_L1 at hs1
  try dsimp only at hs1
  refine sA ?_
  refine Bs_if hs1 (fun hs1 hc2 => ?_) (fun hs1 hc2 => ?_)
  ·try refine sA ?_
   obtain ⟨hp3,hs1⟩ := guard_some hs1
   have hn3 : g58.t9.toNat < a0.length := by first | omega | (simp only [List.length_set,List.length_append,List.length_replicate,List.length_map]; omega)
   try refine sA ?_
   try refine andA ?_
   refine Bs_if hs1 (fun hs1 hc4 => ?_) (fun hs1 hc4 => ?_)
   ·try refine sA ?_
    cases hs1
    cases hk1
    try dsimp only at h
    try refine sA ?_
    obtain rfl:=Option.some.inj h
    exact endsA ⟨[(4,(I g58.t9))],[],0,19⟩ []
   ·try refine sA ?_
    cases hs1
    exact X_backP hk1 (weakA [])
  ·try refine sA ?_
   cases hs1
   cases hk1
   try dsimp only at h
   try refine sA ?_
   obtain rfl:=Option.some.inj h
   exact endsA ⟨[(4,(I (-1)))],[],0,19⟩ []
theorem w_spec_l12Timer {a0 : (List ByteArray)} {a1 : ByteArray} {r : (List ByteArray)} (h : spec_l12Timer a0 a1 = some r) : Fn Tryz.prog 178 [(.lf true (.sl (a0.map eS))),(.lf false (.sc (.string a1)))] [] 0 (.os 0 1 0 r.length r.length false) [(0,some (true,.arr false 1 (r.map eS)))] 1 := by
 unfold spec_l12Timer at h
 refine fn_code tab_ok mixed [(1000,[(0,0),(1,0)]),(1001,[(0,0),(1,0),(5,0)]),(1002,[(0,0),(1,0),(5,0),(6,0)]),(1003,[(1,0),(5,0),(6,0),(13,0),(14,0),(15,0)]),(1004,[(1,0),(5,0),(6,0),(13,0),(14,0),(15,0),(16,0)]),(1005,[(1,0),(5,0),(6,0),(8,0),(13,0),(14,0),(15,0)]),(1006,[(1,0),(5,0),(6,0),(8,0),(13,0),(14,0),(15,0),(21,0)]),(1007,[(1,0),(5,0),(6,0),(8,0),(13,0),(14,0),(15,0),(28,0)]),(1008,[(1,0),(5,0),(8,0),(13,0),(14,0),(15,0)]),(1009,[(1,0),(5,0),(6,0),(8,0),(13,0),(14,0),(15,0)]),(1010,[(1,0),(5,0),(6,0),(13,0),(14,0),(15,0)]),(1011,[(1,0),(5,0),(6,0),(13,0),(14,0),(15,0)]),(1012,[(1,0),(5,0),(39,0)]),(1013,[(5,0)]),(1014,[(4,0)]),(4007,[])] Tryz.func178 rfl rfl (by simp [Tryz.f178]) (by kernel_rfl) ?_
 simp only [Tryz.f178]
 refine sA ?_
 obtain ⟨c64,hr1,h⟩ := bind_ok h
 refine Cl_sA (w_spec_l12At hr1) ?_
 try refine sA ?_
 obtain ⟨y68,hl2,h⟩ := bind_ok h
 refine W_loopP (fun g65 : spec_l12Timer_G1 => ⟨[(1,(.lf false (.sc (.string a1)))),(5,(.os 0 1 0 g65.c0.length g65.c0.length false)),(6,(B g65.t6)),(13,(.lf true (.sl (a0.map eS)))),(14,(I ((a0.length : Nat) : Int))),(15,(I g65.t15))],[(0,some (true,.arr false 1 (g65.c0.map eS)))],1,45⟩) (spec_l12Timer_L1 a0 a1) _ _ hl2 (weakA [none]) ?_
 ·intro n1 g65 z1 hs1 hk1
  unfold spec_l12Timer_L1 at hs1
  try dsimp only at hs1
  refine sA ?_
  refine Bs_if hs1 (fun hs1 hc3 => ?_) (fun hs1 hc3 => ?_)
  ·try refine sA ?_
   obtain ⟨hp4,hs1⟩ := guard_some hs1
   have hn4 : g65.t15.toNat < a0.length := by first | omega | (simp only [List.length_set,List.length_append,List.length_replicate,List.length_map]; omega)
   try refine sA ?_
   try refine andA ?_
   refine Bs_if hs1 (fun hs1 hc5 => ?_) (fun hs1 hc5 => ?_)
   ·try refine sA ?_
    cases hs1
    exact X_backP hk1 (weakA [some 0])
   ·try refine sA ?_
    obtain ⟨p67,hq6,hs1⟩ := bind_ok hs1
    refine Sq_cut (fun s2 => s2 = ⟨[(1,(.lf false (.sc (.string a1)))),(5,(.os 0 1 0 g65.c0.length g65.c0.length false)),(6,(B g65.t6)),(8,(.lf false (.sc (.string (nth a0 g65.t15.toNat))))),(13,(.lf true (.sl (a0.map eS)))),(14,(I ((a0.length : Nat) : Int))),(15,(I g65.t15)),(28,(B p67.t28))],[(0,some (true,.arr false 1 (g65.c0.map eS)))],1,45⟩) ?_ ?_
    ·try refine sA ?_
     refine Sp_if hq6 (fun hq6 hc7 => ?_) (fun hq6 hc7 => ?_)
     ·try refine sA ?_
      cases hq6
      exact X_cut rfl (weakA [some 0])
     ·try refine sA ?_
      cases hq6
      exact X_cut rfl (weakA [some 0])
    ·intro s2 hJ; subst hJ
     try dsimp only at hs1
     try refine sA ?_
     refine Bs_if hs1 (fun hs1 hc8 => ?_) (fun hs1 hc8 => ?_)
     ·try refine sA ?_
      obtain ⟨hp9,hs1⟩ := guard_some hs1
      try refine sA ?_
      try refine andA ?_
      obtain ⟨hp10,hs1⟩ := guard_some hs1
      try refine sA ?_
      try refine andA ?_
      cases hs1
      exact X_backP hk1 (weakA [some 4])
     ·try refine sA ?_
      obtain ⟨hp11,hs1⟩ := guard_some hs1
      try refine sA ?_
      try refine andA ?_
      cases hs1
      exact X_backP hk1 (weakA [some 2])
  ·try refine sA ?_
   cases hs1
   cases hk1
   try dsimp only at h
   try refine sA ?_
   refine Bs_if h (fun h hc12 => ?_) (fun h hc12 => ?_)
   ·try refine sA ?_
    obtain ⟨hp13,h⟩ := guard_some h
    try refine sA ?_
    try refine andA ?_
    obtain rfl:=Option.some.inj h
    exact endsA ⟨[(4,(.os 0 1 0 ((g65.c0 ++ ([a1])).length) ((g65.c0 ++ ([a1])).length) false))],[(0,some (true,.arr false 1 ((g65.c0 ++ ([a1])).map eS)))],1,45⟩ [some 2]
   ·try refine sA ?_
    obtain rfl:=Option.some.inj h
    exact endsA ⟨[(4,(.os 0 1 0 g65.c0.length g65.c0.length false))],[(0,some (true,.arr false 1 (g65.c0.map eS)))],1,45⟩ [some 0]
theorem w_spec_l12Names {a0 : (List ByteArray)} {a1 : Bool} {r : Bool} (h : spec_l12Names a0 a1 = some r) : Fn Tryz.prog 208 [(.lf true (.sl (a0.map eS))),(B a1)] [] 0 (B r) [] 0 := by
 unfold spec_l12Names at h
 refine fn_code tab_ok mixed [(1000,[(0,0),(1,0)]),(1001,[(0,0),(1,0),(9,0),(10,0),(11,0)]),(1002,[(0,0),(1,0),(9,0),(10,0),(11,0),(12,0)]),(1003,[(0,0),(1,0),(5,0),(6,0),(9,0),(10,0),(11,0)]),(1004,[(0,0),(1,0),(5,0),(6,0),(9,0),(10,0),(11,0),(18,0)]),(1005,[(4,0)]),(1006,[(0,0),(1,0),(5,0),(6,0),(9,0),(10,0),(11,0),(21,0),(22,0),(23,0)]),(1007,[(0,0),(1,0),(5,0),(6,0),(9,0),(10,0),(11,0),(21,0),(22,0),(23,0),(24,0)]),(1008,[(0,0),(1,0),(5,0),(6,0),(7,0),(8,0),(9,0),(10,0),(11,0),(21,0),(22,0),(23,0)]),(1009,[(0,0),(1,0),(5,0),(6,0),(9,0),(10,0),(11,0),(21,0),(22,0),(23,0),(44,0)]),(1010,[(4,0)]),(1011,[(0,0),(1,0),(5,0),(6,0),(9,0),(10,0),(11,0),(21,0),(22,0),(23,0)]),(1012,[(0,0),(1,0),(9,0),(10,0),(11,0)]),(1013,[(4,0)]),(4009,[])] Tryz.func208 rfl rfl (by simp [Tryz.f208]) (by kernel_rfl) ?_
 simp only [Tryz.f208]
 refine sA ?_
 obtain ⟨y88,hl1,h⟩ := bind_ok h
 refine W_loopP (fun g73 : spec_l12Names_G1 => ⟨[(0,(.lf true (.sl (a0.map eS)))),(1,(B a1)),(9,(.lf true (.sl (a0.map eS)))),(10,(I ((a0.length : Nat) : Int))),(11,(I g73.t11))],[],0,50⟩) (spec_l12Names_L1 a0 a1) _ _ hl1 (weakA []) ?_
 ·intro n1 g73 z1 hs1 hk1
  unfold spec_l12Names_L1 at hs1
  try dsimp only at hs1
  refine sA ?_
  refine Bs_if hs1 (fun hs1 hc2 => ?_) (fun hs1 hc2 => ?_)
  ·try refine sA ?_
   obtain ⟨hp3,hs1⟩ := guard_some hs1
   have hn3 : g73.t11.toNat < a0.length := by first | omega | (simp only [List.length_set,List.length_append,List.length_replicate,List.length_map]; omega)
   try refine sA ?_
   try refine andA ?_
   obtain ⟨c81,hr4,hs1⟩ := bind_ok hs1
   refine Cl_sA (w_spec_l1Name hr4) ?_
   try refine sA ?_
   refine Bs_if hs1 (fun hs1 hc5 => ?_) (fun hs1 hc5 => ?_)
   ·try refine sA ?_
    cases hs1
    cases hk1
    try dsimp only at h
    try refine sA ?_
    obtain rfl:=Option.some.inj h
    exact endsA ⟨[(4,(B false))],[],0,50⟩ []
   ·try refine sA ?_
    obtain ⟨hp6,hs1⟩ := guard_some hs1
    try refine sA ?_
    try refine andA ?_
    obtain ⟨y85,hl7,hs1⟩ := bind_ok hs1
    refine W_loopP (fun g82 : spec_l12Names_G2 => ⟨[(0,(.lf true (.sl (a0.map eS)))),(1,(B a1)),(5,(I g73.t11)),(6,(.lf false (.sc (.string (nth a0 g73.t11.toNat))))),(9,(.lf true (.sl (a0.map eS)))),(10,(I ((a0.length : Nat) : Int))),(11,(I g73.t11)),(21,(.lf true (.sl ((a0.take g73.t11.toNat).map eS)))),(22,(I (((a0.take g73.t11.toNat).length : Nat) : Int))),(23,(I g82.t23))],[],0,50⟩) (spec_l12Names_L2 a0 g73 a1) _ _ hl7 (weakA []) ?_
    ·intro n2 g82 z2 hs2 hk2
     unfold spec_l12Names_L2 at hs2
     try dsimp only at hs2
     refine sA ?_
     refine Bs_if hs2 (fun hs2 hc8 => ?_) (fun hs2 hc8 => ?_)
     ·try refine sA ?_
      obtain ⟨hp9,hs2⟩ := guard_some hs2
      have hn9 : g82.t23.toNat < (a0.take g73.t11.toNat).length := by first | omega | (simp only [List.length_set,List.length_append,List.length_replicate,List.length_map]; omega)
      try refine sA ?_
      try refine andA ?_
      obtain ⟨p84,hq10,hs2⟩ := bind_ok hs2
      refine Sq_cut (fun s2 => s2 = ⟨[(0,(.lf true (.sl (a0.map eS)))),(1,(B a1)),(5,(I g73.t11)),(6,(.lf false (.sc (.string (nth a0 g73.t11.toNat))))),(9,(.lf true (.sl (a0.map eS)))),(10,(I ((a0.length : Nat) : Int))),(11,(I g73.t11)),(21,(.lf true (.sl ((a0.take g73.t11.toNat).map eS)))),(22,(I (((a0.take g73.t11.toNat).length : Nat) : Int))),(23,(I g82.t23)),(44,(B p84.t44))],[],0,50⟩) ?_ ?_
      ·try refine sA ?_
       refine Sp_if hq10 (fun hq10 hc11 => ?_) (fun hq10 hc11 => ?_)
       ·try refine sA ?_
        cases hq10
        exact X_cut rfl (weakA [])
       ·try refine sA ?_
        refine Sp_if hq10 (fun hq10 hc12 => ?_) (fun hq10 hc12 => ?_)
        ·try refine sA ?_
         refine Sp_if hq10 (fun hq10 hc13 => ?_) (fun hq10 hc13 => ?_)
         ·try refine sA ?_
          cases hq10
          exact X_cut rfl (weakA [])
         ·try refine sA ?_
          cases hq10
          exact X_cut rfl (weakA [])
        ·try refine sA ?_
         cases hq10
         exact X_cut rfl (weakA [])
      ·intro s2 hJ; subst hJ
       try dsimp only at hs2
       try refine sA ?_
       refine Bs_if hs2 (fun hs2 hc14 => ?_) (fun hs2 hc14 => ?_)
       ·try refine sA ?_
        cases hs2
        cases hk2
        try dsimp only at hs1
        try refine sA ?_
        cases hs1
        cases hk1
        try dsimp only at h
        try refine sA ?_
        obtain rfl:=Option.some.inj h
        exact endsA ⟨[(4,(B false))],[],0,50⟩ []
       ·try refine sA ?_
        cases hs2
        exact X_backP hk2 (weakA [])
     ·try refine sA ?_
      cases hs2
      cases hk2
      try dsimp only at hs1
      try refine sA ?_
      cases hs1
      exact X_backP hk1 (weakA [])
  ·try refine sA ?_
   cases hs1
   cases hk1
   try dsimp only at h
   try refine sA ?_
   obtain rfl:=Option.some.inj h
   exact endsA ⟨[(4,(B (decide (((a0.length : Nat) : Int) ≤ 30))))],[],0,50⟩ []
theorem w_spec_GoodState {a0 : StateT} {r : Bool} (h : spec_GoodState a0 = some r) : Fn Tryz.prog 192 [(.ag [(I a0.Status),(I a0.Next),(B a0.Cancel),(I a0.Done),(.lf true (.sl (a0.Signals.map eS))),(.lf true (.sl (a0.Timers.map eS)))])] [] 0 (B r) [] 0 := by
 unfold spec_GoodState at h
 refine fn_code tab_ok mixed [(1000,[(1,0)]),(1001,[(1,0),(30,0)]),(1002,[(2,0)]),(1003,[(1,0),(33,0)]),(1004,[(2,0)]),(1005,[(2,0)]),(4001,[])] Tryz.func192 rfl rfl (by simp [Tryz.f192]) (by kernel_rfl) ?_
 simp only [Tryz.f192]
 refine sA ?_
 obtain ⟨p94,hq1,h⟩ := bind_ok h
 refine Sq_cut (fun s2 => s2 = ⟨[(1,(.pb 0 0)),(30,(B p94.t30))],[(0,some (true,.box [(I a0.Status),(I a0.Next),(B a0.Cancel),(I a0.Done),(.lf true (.sl (a0.Signals.map eS))),(.lf true (.sl (a0.Timers.map eS)))]))],1,62⟩) ?_ ?_
 ·try refine sA ?_
  obtain ⟨c71,hr2,hq1⟩ := bind_ok hq1
  refine Cl_sA (w_spec_l1In hr2) ?_
  try refine sA ?_
  refine Sp_if hq1 (fun hq1 hc3 => ?_) (fun hq1 hc3 => ?_)
  ·try refine sA ?_
   cases hq1
   exact X_cut rfl (weakA [some 0])
  ·try refine sA ?_
   obtain ⟨c72,hr4,hq1⟩ := bind_ok hq1
   refine Cl_sA (w_spec_l1In hr4) ?_
   try refine sA ?_
   refine Sp_if hq1 (fun hq1 hc5 => ?_) (fun hq1 hc5 => ?_)
   ·try refine sA ?_
    cases hq1
    exact X_cut rfl (weakA [some 0])
   ·try refine sA ?_
    obtain ⟨c91,hr6,hq1⟩ := bind_ok hq1
    refine Cl_sA (w_spec_l12Names hr6) ?_
    try refine sA ?_
    refine Sp_if hq1 (fun hq1 hc7 => ?_) (fun hq1 hc7 => ?_)
    ·try refine sA ?_
     cases hq1
     exact X_cut rfl (weakA [some 0])
    ·try refine sA ?_
     obtain ⟨c92,hr8,hq1⟩ := bind_ok hq1
     refine Cl_sA (w_spec_l12Names hr8) ?_
     try refine sA ?_
     refine Sp_if hq1 (fun hq1 hc9 => ?_) (fun hq1 hc9 => ?_)
     ·try refine sA ?_
      cases hq1
      exact X_cut rfl (weakA [some 0])
     ·try refine sA ?_
      obtain ⟨c93,hr10,hq1⟩ := bind_ok hq1
      refine Cl_sA (w_spec_l1In hr10) ?_
      try refine sA ?_
      cases hq1
      exact X_cut rfl (weakA [some 0])
 ·intro s2 hJ; subst hJ
  try dsimp only at h
  try refine sA ?_
  refine Bs_if h (fun h hc11 => ?_) (fun h hc11 => ?_)
  ·try refine sA ?_
   obtain rfl:=Option.some.inj h
   exact endsA ⟨[(2,(B false))],[],0,62⟩ []
  ·try refine sA ?_
   refine Bs_if h (fun h hc12 => ?_) (fun h hc12 => ?_)
   ·try refine sA ?_
    refine Sp_if h (fun h hc13 => ?_) (fun h hc13 => ?_)
    ·try refine sA ?_
     refine Sp_if h (fun h hc14 => ?_) (fun h hc14 => ?_)
     ·try refine sA ?_
      refine Sp_if h (fun h hc15 => ?_) (fun h hc15 => ?_)
      ·try refine sA ?_
       refine Sp_if h (fun h hc16 => ?_) (fun h hc16 => ?_)
       ·try refine sA ?_
        obtain rfl:=Option.some.inj h
        exact endsA ⟨[(2,(B (((a0.Timers.length : Nat) : Int) == 0)))],[],0,62⟩ []
       ·try refine sA ?_
        obtain rfl:=Option.some.inj h
        exact endsA ⟨[(2,(B false))],[],0,62⟩ []
      ·try refine sA ?_
       obtain rfl:=Option.some.inj h
       exact endsA ⟨[(2,(B false))],[],0,62⟩ []
     ·try refine sA ?_
      obtain rfl:=Option.some.inj h
      exact endsA ⟨[(2,(B false))],[],0,62⟩ []
    ·try refine sA ?_
     obtain rfl:=Option.some.inj h
     exact endsA ⟨[(2,(B false))],[],0,62⟩ []
   ·try refine sA ?_
    obtain rfl:=Option.some.inj h
    exact endsA ⟨[(2,(B (decide (a0.Next > 1))))],[],0,62⟩ []
theorem w_spec_l12Apply {a0 : StateT} {a1 : EventT} {r : (StateT × Bool)} (h : spec_l12Apply a0 a1 = some r) : Fn Tryz.prog 152 [(.ag [(I a0.Status),(I a0.Next),(B a0.Cancel),(I a0.Done),(.lf true (.sl (a0.Signals.map eS))),(.lf true (.sl (a0.Timers.map eS)))]),(.ag [(I a1.Id),(I a1.Version),(I a1.Kind),(.lf false (.sc (.string a1.Name)))])] [] 0 (.tu [(.ag [(I r.1.Status),(I r.1.Next),(B r.1.Cancel),(I r.1.Done),(.lf true (.sl (r.1.Signals.map eS))),(.lf true (.sl (r.1.Timers.map eS)))]),(B r.2)]) [] 1 := by
 unfold spec_l12Apply at h
 refine fn_code tab_ok mixed [(22,[(0,2)]),(1000,[(2,0),(3,0),(4,0)]),(1001,[(2,0),(3,0),(4,0),(29,0)]),(1002,[(4,0),(5,0)]),(1003,[(2,0),(3,0),(4,0)]),(1004,[(2,0),(3,0),(4,0),(34,0)]),(1005,[(2,0),(4,0)]),(1006,[(2,0),(4,0)]),(1007,[(2,0),(3,0),(4,0),(34,0),(37,0)]),(1008,[(2,0),(4,0)]),(1009,[(2,0),(3,0),(4,0),(34,0),(40,0)]),(1010,[(2,0),(3,0),(4,0),(53,0)]),(1011,[(4,0),(5,0)]),(1012,[(2,0),(4,0)]),(1013,[(2,0),(3,0),(4,0),(34,0),(62,0)]),(1014,[(2,0),(4,0)]),(1015,[(2,0),(3,0),(4,0),(34,0),(68,0)]),(1016,[(2,0),(4,0)]),(1017,[(2,0),(4,0),(76,0)]),(1018,[(2,0),(4,0),(79,0)]),(1019,[(4,0),(5,0)]),(1020,[(2,0),(4,0)]),(1021,[(2,0),(4,0)]),(1022,[(4,0),(5,0)]),(3000,[]),(4001,[]),(4010,[])] Tryz.func152 rfl rfl (by simp [Tryz.f152]) (by kernel_rfl) ?_
 simp only [Tryz.f152]
 refine sA ?_
 obtain ⟨p56,hq1,h⟩ := bind_ok h
 refine Sq_cut (fun s2 => s2 = ⟨[(2,(.pb 0 0)),(3,(.pb 1 0)),(4,(.pb 2 0)),(29,(B p56.t29))],[(0,some (true,.box [(I a0.Status),(I a0.Next),(B a0.Cancel),(I a0.Done),(.lf true (.sl (a0.Signals.map eS))),(.lf true (.sl (a0.Timers.map eS)))])),(1,some (true,.box [(I a1.Id),(I a1.Version),(I a1.Kind),(.lf false (.sc (.string a1.Name)))])),(2,some (true,.box [(I 0),(I 0),(B false),(I 0),.nl,.nl]))],3,89⟩) ?_ ?_
 ·try refine sA ?_
  obtain ⟨c55,hr2,hq1⟩ := bind_ok hq1
  refine Cl_sA (w_spec_GoodEvent hr2) ?_
  try refine sA ?_
  refine Sp_if hq1 (fun hq1 hc3 => ?_) (fun hq1 hc3 => ?_)
  ·try refine sA ?_
   cases hq1
   exact X_cut rfl (weakA [some 0,some 1,some 2])
  ·try refine sA ?_
   refine Sp_if hq1 (fun hq1 hc4 => ?_) (fun hq1 hc4 => ?_)
   ·try refine sA ?_
    cases hq1
    exact X_cut rfl (weakA [some 0,some 1,some 2])
   ·try refine sA ?_
    refine Sp_if hq1 (fun hq1 hc5 => ?_) (fun hq1 hc5 => ?_)
    ·try refine sA ?_
     cases hq1
     exact X_cut rfl (weakA [some 0,some 1,some 2])
    ·try refine sA ?_
     cases hq1
     exact X_cut rfl (weakA [some 0,some 1,some 2])
 ·intro s2 hJ; subst hJ
  try dsimp only at h
  try refine sA ?_
  refine Bs_if h (fun h hc6 => ?_) (fun h hc6 => ?_)
  ·try refine sA ?_
   obtain rfl:=Option.some.inj h
   exact endsA ⟨[(4,(.pb 0 0)),(5,(B false))],[(0,some (true,.box [(I a0.Status),(I a0.Next),(B a0.Cancel),(I a0.Done),(.lf true (.sl (a0.Signals.map eS))),(.lf true (.sl (a0.Timers.map eS)))]))],1,89⟩ [some 2]
  ·try refine sA ?_
   obtain ⟨c57,hr7,h⟩ := bind_ok h
   refine Cl_sA (w_spec_l12Own hr7) ?_
   try refine sA ?_
   obtain ⟨q8,hq8,h⟩ := bind_ok h
   refine Sq_cut (fun s2 => ∃ p70 : spec_l12Apply_J3000,q8 = .inl p70 ∧ s2 = ⟨[(2,(.pb 0 0)),(4,(.pb 1 0))],[(0,some (true,.box [(I p70.b0_0),(I c57.Next),(B p70.b0_2),(I p70.b0_3),(.os 2 1 0 p70.c2.length p70.c2.length false),(.os 3 1 0 p70.c3.length p70.c3.length false)])),(1,some (true,.box [(I 0),(I 0),(B false),(I 0),.nl,.nl])),(2,some (true,.arr false 1 (p70.c2.map eS))),(3,some (true,.arr false 1 (p70.c3.map eS)))],4,89⟩) ?_ ?_
   ·try refine sA ?_
    refine Bs_if hq8 (fun hq8 hc9 => ?_) (fun hq8 hc9 => ?_)
    ·try refine sA ?_
     cases hq8
     exact X_cut ⟨_,rfl,rfl⟩ (weakA [some 0,some 2,some 3,some 4])
    ·try refine sA ?_
     refine Bs_if hq8 (fun hq8 hc10 => ?_) (fun hq8 hc10 => ?_)
     ·try refine sA ?_
      obtain ⟨p63,hq11,hq8⟩ := bind_ok hq8
      refine Sq_cut (fun s2 => s2 = ⟨[(2,(.pb 0 0)),(3,(.pb 1 0)),(4,(.pb 2 0)),(53,(B p63.t53))],[(0,some (true,.box [(I c57.Status),(I c57.Next),(B c57.Cancel),(I c57.Done),(.os 3 1 0 c57.Signals.length c57.Signals.length false),(.os 4 1 0 c57.Timers.length c57.Timers.length false)])),(1,some (true,.box [(I a1.Id),(I a1.Version),(I a1.Kind),(.lf false (.sc (.string a1.Name)))])),(2,some (true,.box [(I 0),(I 0),(B false),(I 0),.nl,.nl])),(3,some (true,.arr false 1 (c57.Signals.map eS))),(4,some (true,.arr false 1 (c57.Timers.map eS)))],5,89⟩) ?_ ?_
      ·try refine sA ?_
       obtain ⟨c62,hr12,hq11⟩ := bind_ok hq11
       refine Cl_sA (w_spec_l12At hr12) ?_
       try refine sA ?_
       refine Sp_if hq11 (fun hq11 hc13 => ?_) (fun hq11 hc13 => ?_)
       ·try refine sA ?_
        cases hq11
        exact X_cut rfl (weakA [some 0,some 1,some 2,some 3,some 4])
       ·try refine sA ?_
        cases hq11
        exact X_cut rfl (weakA [some 0,some 1,some 2,some 3,some 4])
      ·intro s2 hJ; subst hJ
       try dsimp only at hq8
       try refine sA ?_
       refine Bs_if hq8 (fun hq8 hc14 => ?_) (fun hq8 hc14 => ?_)
       ·try refine sA ?_
        cases hq8
        try dsimp only at h
        obtain rfl:=Option.some.inj h
        refine ends_frz 3 ?_
        refine ends_frz 4 ?_
        try refine sA ?_
        exact endsA ⟨[(4,(.pb 0 0)),(5,(B false))],[(0,some (true,.box [(I c57.Status),(I c57.Next),(B c57.Cancel),(I c57.Done),(.lf true (.sl (c57.Signals.map eS))),(.lf true (.sl (c57.Timers.map eS)))]))],1,89⟩ [some 2]
       ·try refine sA ?_
        obtain ⟨hp15,hq8⟩ := guard_some hq8
        try refine sA ?_
        try refine andA ?_
        cases hq8
        exact X_cut ⟨_,rfl,rfl⟩ (weakA [some 0,some 2,some 6,some 4])
     ·try refine sA ?_
      refine Bs_if hq8 (fun hq8 hc16 => ?_) (fun hq8 hc16 => ?_)
      ·try refine sA ?_
       cases hq8
       exact X_cut ⟨_,rfl,rfl⟩ (weakA [some 0,some 2,some 3,some 4])
      ·try refine sA ?_
       refine Bs_if hq8 (fun hq8 hc17 => ?_) (fun hq8 hc17 => ?_)
       ·try refine sA ?_
        obtain ⟨c69,hr18,hq8⟩ := bind_ok hq8
        refine Cl_sA (w_spec_l12Timer hr18) ?_
        try refine sA ?_
        cases hq8
        exact X_cut ⟨_,rfl,rfl⟩ (weakA [some 0,some 2,some 3,some 6])
       ·try refine sA ?_
        refine Bs_if hq8 (fun hq8 hc19 => ?_) (fun hq8 hc19 => ?_)
        ·try refine sA ?_
         refine Bs_if hq8 (fun hq8 hc20 => ?_) (fun hq8 hc20 => ?_)
         ·try refine sA ?_
          cases hq8
          try dsimp only at h
          obtain rfl:=Option.some.inj h
          refine ends_frz 3 ?_
          refine ends_frz 4 ?_
          try refine sA ?_
          exact endsA ⟨[(4,(.pb 0 0)),(5,(B false))],[(0,some (true,.box [(I c57.Status),(I c57.Next),(B c57.Cancel),(I c57.Done),(.lf true (.sl (c57.Signals.map eS))),(.lf true (.sl (c57.Timers.map eS)))]))],1,89⟩ [some 2]
         ·try refine sA ?_
          cases hq8
          exact X_cut ⟨_,rfl,rfl⟩ (weakA [some 0,some 2,some 3,some 4])
        ·try refine sA ?_
         cases hq8
         exact X_cut ⟨_,rfl,rfl⟩ (weakA [some 0,some 2,some 3,none])
   ·intro s2 hJ; obtain ⟨p70,e,rfl⟩ := hJ; subst e
    try dsimp only at h
    try refine sA ?_
    obtain ⟨c95,hr21,h⟩ := bind_ok h
    refine Cl_sA (w_spec_GoodState hr21) ?_
    try refine sA ?_
    obtain rfl:=Option.some.inj h
    refine ends_frz 2 ?_
    refine ends_frz 3 ?_
    try refine sA ?_
    exact endsA ⟨[(4,(.pb 0 0)),(5,(B c95))],[(0,some (true,.box [(I p70.b0_0),(I (wI (c57.Next + 1))),(B p70.b0_2),(I p70.b0_3),(.lf true (.sl (p70.c2.map eS))),(.lf true (.sl (p70.c3.map eS)))]))],1,89⟩ [some 1]
theorem w_spec_l12Fold {a0 : (List EventT)} {r : (StateT × Int)} (h : spec_l12Fold a0 = some r) : Fn Tryz.prog 94 [(.lf true (.sl (a0.map eEvent)))] [] 0 (.tu [(.ag [(I r.1.Status),(I r.1.Next),(B r.1.Cancel),(I r.1.Done),(.lf true (.sl (r.1.Signals.map eS))),(.lf true (.sl (r.1.Timers.map eS)))]),(I r.2)]) [] 1 := by
 unfold spec_l12Fold at h
 refine fn_code tab_ok mixed [(1000,[(0,0),(2,0)]),(1001,[(0,0),(2,0),(4,0)]),(1002,[(0,0),(2,0),(4,0),(10,0),(11,0),(12,0)]),(1003,[(0,0),(2,0),(4,0),(10,0),(11,0),(12,0),(13,0)]),(1004,[(0,0),(2,0),(4,0),(5,0),(6,0),(10,0),(11,0),(12,0)]),(1005,[(0,0),(2,0),(4,0),(5,0),(7,0),(8,0),(10,0),(11,0),(12,0)]),(1006,[(0,0),(2,0),(4,0),(5,0),(7,0),(10,0),(11,0),(12,0),(24,0)]),(1007,[(2,0),(3,0)]),(1008,[(0,0),(2,0),(4,0),(10,0),(11,0),(12,0)]),(1009,[(0,0),(2,0),(4,0),(10,0),(11,0),(12,0)]),(1010,[(2,0),(3,0)])] Tryz.func94 rfl rfl (by simp [Tryz.f94]) (by kernel_rfl) ?_
 simp only [Tryz.f94]
 refine sA ?_
 obtain ⟨c43,hr1,h⟩ := bind_ok h
 refine Cl_sA (w_spec_NewState hr1) ?_
 try refine sA ?_
 obtain ⟨y98,hl2,h⟩ := bind_ok h
 refine W_loopP (fun g44 : spec_l12Fold_G1 => ⟨[(0,(.lf true (.sl (a0.map eEvent)))),(2,(.pb 0 0)),(4,(.pb 1 0)),(10,(.lf true (.sl (a0.map eEvent)))),(11,(I ((a0.length : Nat) : Int))),(12,(I g44.t12))],[(0,some (true,.box [(I 0),(I 0),(B false),(I 0),.nl,.nl])),(1,some (true,.box [(I g44.b1_0),(I g44.b1_1),(B g44.b1_2),(I g44.b1_3),(.lf true (.sl (g44.b1_4.map eS))),(.lf true (.sl (g44.b1_5.map eS)))]))],2,32⟩) (spec_l12Fold_L1 a0) _ _ hl2 (weakA [some 0,some 2]) ?_
 ·intro n1 g44 z1 hs1 hk1
  unfold spec_l12Fold_L1 at hs1
  try dsimp only at hs1
  refine sA ?_
  refine Bs_if hs1 (fun hs1 hc3 => ?_) (fun hs1 hc3 => ?_)
  ·try refine sA ?_
   obtain ⟨hp4,hs1⟩ := guard_some hs1
   have hn4 : g44.t12.toNat < a0.length := by first | omega | (simp only [List.length_set,List.length_append,List.length_replicate,List.length_map]; omega)
   try refine sA ?_
   try refine andA ?_
   obtain ⟨c97,hr5,hs1⟩ := bind_ok hs1
   refine Cl_sA (w_spec_l12Apply hr5) ?_
   try refine sA ?_
   refine Bs_if hs1 (fun hs1 hc6 => ?_) (fun hs1 hc6 => ?_)
   ·try refine sA ?_
    cases hs1
    cases hk1
    try dsimp only at h
    try refine sA ?_
    obtain rfl:=Option.some.inj h
    exact endsA ⟨[(2,(.pb 0 0)),(3,(I g44.t12))],[(0,some (true,.box [(I g44.b1_0),(I g44.b1_1),(B g44.b1_2),(I g44.b1_3),(.lf true (.sl (g44.b1_4.map eS))),(.lf true (.sl (g44.b1_5.map eS)))]))],1,32⟩ [some 0]
   ·try refine sA ?_
    cases hs1
    exact X_backP hk1 (weakA [some 0,some 1])
  ·try refine sA ?_
   cases hs1
   cases hk1
   try dsimp only at h
   try refine sA ?_
   obtain rfl:=Option.some.inj h
   exact endsA ⟨[(2,(.pb 0 0)),(3,(I ((a0.length : Nat) : Int)))],[(0,some (true,.box [(I g44.b1_0),(I g44.b1_1),(B g44.b1_2),(I g44.b1_3),(.lf true (.sl (g44.b1_4.map eS))),(.lf true (.sl (g44.b1_5.map eS)))]))],1,32⟩ [some 0]
theorem w_spec_IsHistory {a0 : (List EventT)} {r : Bool} (h : spec_IsHistory a0 = some r) : Fn Tryz.prog 161 [(.lf true (.sl (a0.map eEvent)))] [] 0 (B r) [] 0 := by
 unfold spec_IsHistory at h
 refine fn_code tab_ok mixed [(1000,[(0,0)]),(1001,[(0,0),(7,0),(8,0)]),(1002,[(0,0),(7,0),(8,0),(9,0)]),(1003,[(0,0),(3,0),(7,0),(8,0)]),(1004,[(0,0),(7,0),(8,0),(26,0)]),(1005,[(2,0)]),(1006,[(0,0),(7,0),(8,0)]),(1007,[(0,0),(5,0)]),(1008,[(2,0)]),(4004,[])] Tryz.func161 rfl rfl (by simp [Tryz.f161]) (by kernel_rfl) ?_
 simp only [Tryz.f161]
 refine sA ?_
 obtain ⟨y40,hl1,h⟩ := bind_ok h
 refine W_loopP (fun g37 : spec_IsHistory_G1 => ⟨[(0,(.lf true (.sl (a0.map eEvent)))),(7,(I ((a0.length : Nat) : Int))),(8,(I g37.t8))],[],0,42⟩) (spec_IsHistory_L1 a0) _ _ hl1 (weakA []) ?_
 ·intro n1 g37 z1 hs1 hk1
  unfold spec_IsHistory_L1 at hs1
  try dsimp only at hs1
  refine sA ?_
  refine Bs_if hs1 (fun hs1 hc2 => ?_) (fun hs1 hc2 => ?_)
  ·try refine sA ?_
   obtain ⟨p39,hq3,hs1⟩ := bind_ok hs1
   refine Sq_cut (fun s2 => s2 = ⟨[(0,(.lf true (.sl (a0.map eEvent)))),(7,(I ((a0.length : Nat) : Int))),(8,(I g37.t8)),(26,(B p39.t26))],[],0,42⟩) ?_ ?_
   ·try refine sA ?_
    refine Sp_if hq3 (fun hq3 hc4 => ?_) (fun hq3 hc4 => ?_)
    ·try refine sA ?_
     obtain ⟨hp5,hq3⟩ := guard_some hq3
     have hn5 : (wI (g37.t8 - 1)).toNat < a0.length := by first | omega | (simp only [List.length_set,List.length_append,List.length_replicate,List.length_map]; omega)
     try refine sA ?_
     try refine andA ?_
     obtain ⟨hp6,hq3⟩ := guard_some hq3
     have hn6 : g37.t8.toNat < a0.length := by first | omega | (simp only [List.length_set,List.length_append,List.length_replicate,List.length_map]; omega)
     try refine sA ?_
     try refine andA ?_
     cases hq3
     exact X_cut rfl (weakA [])
    ·try refine sA ?_
     cases hq3
     exact X_cut rfl (weakA [])
   ·intro s2 hJ; subst hJ
    try dsimp only at hs1
    try refine sA ?_
    refine Bs_if hs1 (fun hs1 hc7 => ?_) (fun hs1 hc7 => ?_)
    ·try refine sA ?_
     cases hs1
     cases hk1
     try dsimp only at h
     try refine sA ?_
     obtain rfl:=Option.some.inj h
     exact endsA ⟨[(2,(B false))],[],0,42⟩ []
    ·try refine sA ?_
     cases hs1
     exact X_backP hk1 (weakA [])
  ·try refine sA ?_
   cases hs1
   cases hk1
   try dsimp only at h
   try refine sA ?_
   obtain ⟨c102,hr8,h⟩ := bind_ok h
   refine Cl_sA (w_spec_l12Fold hr8) ?_
   try refine sA ?_
   refine Sp_if h (fun h hc9 => ?_) (fun h hc9 => ?_)
   ·try refine sA ?_
    obtain rfl:=Option.some.inj h
    exact endsA ⟨[(2,(B (decide (((a0.length : Nat) : Int) ≤ 60))))],[],0,42⟩ []
   ·try refine sA ?_
    obtain rfl:=Option.some.inj h
    exact endsA ⟨[(2,(B false))],[],0,42⟩ []
theorem w_spec_l15History {a0 : (List EventT)} {r : Bool} (h : spec_l15History a0 = some r) : Fn Tryz.prog 115 [(.lf true (.sl (a0.map eEvent)))] [] 0 (B r) [] 0 := by
 unfold spec_l15History at h
 refine fn_code tab_ok mixed [] Tryz.func115 rfl rfl (by simp [Tryz.f115]) (by kernel_rfl) ?_
 simp only [Tryz.f115]
 refine sA ?_
 refine Sp_if h (fun h hc1 => ?_) (fun h hc1 => ?_)
 ·try refine sA ?_
  obtain ⟨c103,hr2,h⟩ := bind_ok h
  refine Cl_sA (w_spec_IsHistory hr2) ?_
  try refine sA ?_
  obtain rfl:=Option.some.inj h
  exact endsA ⟨[(2,(B c103))],[],0,10⟩ []
 ·try refine sA ?_
  obtain rfl:=Option.some.inj h
  exact endsA ⟨[(2,(B false))],[],0,10⟩ []
theorem w_spec_l15Event {a0 : EventT} {a1 : EventT} {r : Int} (h : spec_l15Event a0 a1 = some r) : Fn Tryz.prog 173 [(.ag [(I a0.Id),(I a0.Version),(I a0.Kind),(.lf false (.sc (.string a0.Name)))]),(.ag [(I a1.Id),(I a1.Version),(I a1.Kind),(.lf false (.sc (.string a1.Name)))])] [] 0 (I r) [] 0 := by
 unfold spec_l15Event at h
 refine fn_code tab_ok mixed [(1000,[(2,0),(3,0)]),(1001,[(2,0),(3,0),(5,0)]),(1002,[(15,0)]),(1003,[(4,0)]),(1004,[(4,0)]),(1005,[(2,0),(3,0),(16,0)]),(1006,[(26,0)]),(1007,[(4,0)]),(1008,[(4,0)]),(1009,[(2,0),(3,0),(27,0)]),(1010,[(4,0)]),(1011,[(33,0)]),(1012,[(4,0)]),(1013,[(4,0)])] Tryz.func173 rfl rfl (by simp [Tryz.f173]) (by kernel_rfl) ?_
 simp only [Tryz.f173]
 refine sA ?_
 refine Bs_if h (fun h hc1 => ?_) (fun h hc1 => ?_)
 ·try refine sA ?_
  refine Bs_if h (fun h hc2 => ?_) (fun h hc2 => ?_)
  ·try refine sA ?_
   obtain rfl:=Option.some.inj h
   exact endsA ⟨[(4,(I (-1)))],[],0,39⟩ []
  ·try refine sA ?_
   obtain rfl:=Option.some.inj h
   exact endsA ⟨[(4,(I 1))],[],0,39⟩ []
 ·try refine sA ?_
  refine Bs_if h (fun h hc3 => ?_) (fun h hc3 => ?_)
  ·try refine sA ?_
   refine Bs_if h (fun h hc4 => ?_) (fun h hc4 => ?_)
   ·try refine sA ?_
    obtain rfl:=Option.some.inj h
    exact endsA ⟨[(4,(I (-1)))],[],0,39⟩ []
   ·try refine sA ?_
    obtain rfl:=Option.some.inj h
    exact endsA ⟨[(4,(I 1))],[],0,39⟩ []
  ·try refine sA ?_
   refine Bs_if h (fun h hc5 => ?_) (fun h hc5 => ?_)
   ·try refine sA ?_
    obtain rfl:=Option.some.inj h
    exact endsA ⟨[(4,(I (-1)))],[],0,39⟩ []
   ·try refine sA ?_
    refine Bs_if h (fun h hc6 => ?_) (fun h hc6 => ?_)
    ·try refine sA ?_
     obtain rfl:=Option.some.inj h
     exact endsA ⟨[(4,(I 1))],[],0,39⟩ []
    ·try refine sA ?_
     obtain rfl:=Option.some.inj h
     exact endsA ⟨[(4,(I 0))],[],0,39⟩ []
theorem w_spec_l15Compare {a0 : (List EventT)} {a1 : (List EventT)} {r : (Int × Int)} (h : spec_l15Compare a0 a1 = some r) : Fn Tryz.prog 127 [(.lf true (.sl (a0.map eEvent))),(.lf true (.sl (a1.map eEvent)))] [] 0 (.tu [(I r.1),(I r.2)]) [] 0 := by
 unfold spec_l15Compare at h
 refine fn_code tab_ok mixed [(1000,[(0,0),(1,0)]),(1001,[(0,0),(1,0),(6,0)]),(1002,[(0,0),(1,0),(6,0),(17,0)]),(1003,[(0,0),(1,0),(6,0)]),(1004,[(0,0),(1,0),(6,0),(7,0)]),(1005,[(0,0),(1,0),(6,0),(7,0),(30,0)]),(1006,[(4,0),(5,0)]),(1007,[(0,0),(1,0),(33,0)]),(1008,[(4,0),(5,0)]),(1009,[(0,0),(1,0),(41,0)]),(1010,[(4,0),(5,0)]),(1011,[(4,0),(5,0)])] Tryz.func127 rfl rfl (by simp [Tryz.f127]) (by kernel_rfl) ?_
 simp only [Tryz.f127]
 refine sA ?_
 obtain ⟨y109,hl1,h⟩ := bind_ok h
 refine W_loopP (fun g106 : spec_l15Compare_G1 => ⟨[(0,(.lf true (.sl (a0.map eEvent)))),(1,(.lf true (.sl (a1.map eEvent)))),(6,(I g106.t6))],[],0,51⟩) (spec_l15Compare_L1 a0 a1) _ _ hl1 (weakA []) ?_
 ·intro n1 g106 z1 hs1 hk1
  unfold spec_l15Compare_L1 at hs1
  try dsimp only at hs1
  refine sA ?_
  refine Sp_if hs1 (fun hs1 hc2 => ?_) (fun hs1 hc2 => ?_)
  ·try refine sA ?_
   refine Bs_if hs1 (fun hs1 hc3 => ?_) (fun hs1 hc3 => ?_)
   ·try refine sA ?_
    obtain ⟨hp4,hs1⟩ := guard_some hs1
    have hn4 : g106.t6.toNat < a0.length := by first | omega | (simp only [List.length_set,List.length_append,List.length_replicate,List.length_map]; omega)
    try refine sA ?_
    try refine andA ?_
    obtain ⟨hp5,hs1⟩ := guard_some hs1
    have hn5 : g106.t6.toNat < a1.length := by first | omega | (simp only [List.length_set,List.length_append,List.length_replicate,List.length_map]; omega)
    try refine sA ?_
    try refine andA ?_
    obtain ⟨c108,hr6,hs1⟩ := bind_ok hs1
    refine Cl_sA (w_spec_l15Event hr6) ?_
    try refine sA ?_
    refine Bs_if hs1 (fun hs1 hc7 => ?_) (fun hs1 hc7 => ?_)
    ·try refine sA ?_
     cases hs1
     cases hk1
     try dsimp only at h
     try refine sA ?_
     obtain rfl:=Option.some.inj h
     exact endsA ⟨[(4,(I c108)),(5,(I g106.t6))],[],0,51⟩ []
    ·try refine sA ?_
     cases hs1
     exact X_backP hk1 (weakA [])
   ·try refine sA ?_
    cases hs1
    cases hk1
    try dsimp only at h
    try refine sA ?_
    refine Bs_if h (fun h hc8 => ?_) (fun h hc8 => ?_)
    ·try refine sA ?_
     obtain rfl:=Option.some.inj h
     exact endsA ⟨[(4,(I (-1))),(5,(I ((a0.length : Nat) : Int)))],[],0,51⟩ []
    ·try refine sA ?_
     refine Bs_if h (fun h hc9 => ?_) (fun h hc9 => ?_)
     ·try refine sA ?_
      obtain rfl:=Option.some.inj h
      exact endsA ⟨[(4,(I 1)),(5,(I ((a1.length : Nat) : Int)))],[],0,51⟩ []
     ·try refine sA ?_
      obtain rfl:=Option.some.inj h
      exact endsA ⟨[(4,(I 0)),(5,(I ((a0.length : Nat) : Int)))],[],0,51⟩ []
  ·try refine sA ?_
   cases hs1
   cases hk1
   try dsimp only at h
   try refine sA ?_
   refine Bs_if h (fun h hc10 => ?_) (fun h hc10 => ?_)
   ·try refine sA ?_
    obtain rfl:=Option.some.inj h
    exact endsA ⟨[(4,(I (-1))),(5,(I ((a0.length : Nat) : Int)))],[],0,51⟩ []
   ·try refine sA ?_
    refine Bs_if h (fun h hc11 => ?_) (fun h hc11 => ?_)
    ·try refine sA ?_
     obtain rfl:=Option.some.inj h
     exact endsA ⟨[(4,(I 1)),(5,(I ((a1.length : Nat) : Int)))],[],0,51⟩ []
    ·try refine sA ?_
     obtain rfl:=Option.some.inj h
     exact endsA ⟨[(4,(I 0)),(5,(I ((a0.length : Nat) : Int)))],[],0,51⟩ []
theorem w_spec_l15Begins {a0 : (List EventT)} {a1 : (List EventT)} {r : Bool} (h : spec_l15Begins a0 a1 = some r) : Fn Tryz.prog 128 [(.lf true (.sl (a0.map eEvent))),(.lf true (.sl (a1.map eEvent)))] [] 0 (B r) [] 0 := by
 unfold spec_l15Begins at h
 refine fn_code tab_ok mixed [(1000,[(0,0),(1,0)]),(1001,[(1,0),(6,0)]),(1002,[(4,0)])] Tryz.func128 rfl rfl (by simp [Tryz.f128]) (by kernel_rfl) ?_
 simp only [Tryz.f128]
 refine sA ?_
 obtain ⟨c113,hr1,h⟩ := bind_ok h
 refine Cl_sA (w_spec_l15Compare hr1) ?_
 try refine sA ?_
 obtain rfl:=Option.some.inj h
 exact endsA ⟨[(4,(B (c113.2 == ((a1.length : Nat) : Int))))],[],0,17⟩ []
theorem w_spec_GoodTellings {a0 : TellingsT} {r : Bool} (h : spec_GoodTellings a0 = some r) : Fn Tryz.prog 59 [(.ag [(.lf true (.sl (a0.Branches.map eBranch)))])] [] 0 (B r) [] 0 := by
 unfold spec_GoodTellings at h
 refine fn_code tab_ok mixed [(1000,[(1,0)]),(1001,[(1,0),(10,0),(11,0),(12,0)]),(1002,[(1,0),(10,0),(11,0),(12,0),(13,0)]),(1003,[(1,0),(3,0),(4,0),(10,0),(11,0),(12,0)]),(1004,[(1,0),(3,0),(4,0),(10,0),(11,0),(12,0),(20,0)]),(1005,[(2,0)]),(1006,[(1,0),(3,0),(4,0),(10,0),(11,0),(12,0),(24,0),(25,0),(26,0)]),(1007,[(1,0),(3,0),(4,0),(10,0),(11,0),(12,0),(24,0),(25,0),(26,0),(27,0)]),(1008,[(1,0),(3,0),(4,0),(5,0),(6,0),(10,0),(11,0),(12,0),(24,0),(25,0),(26,0)]),(1009,[(1,0),(3,0),(4,0),(5,0),(6,0),(7,0),(10,0),(11,0),(12,0),(24,0),(25,0),(26,0)]),(1010,[(1,0),(3,0),(4,0),(10,0),(11,0),(12,0),(24,0),(25,0),(26,0),(52,0)]),(1011,[(2,0)]),(1012,[(1,0),(3,0),(4,0),(10,0),(11,0),(12,0),(24,0),(25,0),(26,0)]),(1013,[(1,0),(10,0),(11,0),(12,0)]),(1014,[(2,0)]),(4010,[])] Tryz.func59 rfl rfl (by simp [Tryz.f59]) (by kernel_rfl) ?_
 simp only [Tryz.f59]
 refine sA ?_
 obtain ⟨y133,hl1,h⟩ := bind_ok h
 refine W_loopP (fun g36 : spec_GoodTellings_G1 => ⟨[(1,(.pb 0 0)),(10,(.lf true (.sl (a0.Branches.map eBranch)))),(11,(I ((a0.Branches.length : Nat) : Int))),(12,(I g36.t12))],[(0,some (true,.box [(.lf true (.sl (a0.Branches.map eBranch)))]))],1,59⟩) (spec_GoodTellings_L1 a0) _ _ hl1 (weakA [some 0]) ?_
 ·intro n1 g36 z1 hs1 hk1
  unfold spec_GoodTellings_L1 at hs1
  try dsimp only at hs1
  refine sA ?_
  refine Bs_if hs1 (fun hs1 hc2 => ?_) (fun hs1 hc2 => ?_)
  ·try refine sA ?_
   obtain ⟨hp3,hs1⟩ := guard_some hs1
   have hn3 : g36.t12.toNat < a0.Branches.length := by first | omega | (simp only [List.length_set,List.length_append,List.length_replicate,List.length_map]; omega)
   try refine sA ?_
   try refine andA ?_
   obtain ⟨c122,hr4,hs1⟩ := bind_ok hs1
   refine Cl_sA (w_spec_l15History hr4) ?_
   try refine sA ?_
   refine Bs_if hs1 (fun hs1 hc5 => ?_) (fun hs1 hc5 => ?_)
   ·try refine sA ?_
    cases hs1
    cases hk1
    try dsimp only at h
    try refine sA ?_
    obtain rfl:=Option.some.inj h
    exact endsA ⟨[(2,(B false))],[],0,59⟩ []
   ·try refine sA ?_
    obtain ⟨hp6,hs1⟩ := guard_some hs1
    try refine sA ?_
    try refine andA ?_
    obtain ⟨y130,hl7,hs1⟩ := bind_ok hs1
    refine W_loopP (fun g123 : spec_GoodTellings_G2 => ⟨[(1,(.pb 0 0)),(3,(I g36.t12)),(4,(.pb 1 0)),(10,(.lf true (.sl (a0.Branches.map eBranch)))),(11,(I ((a0.Branches.length : Nat) : Int))),(12,(I g36.t12)),(24,(.lf true (.sl ((a0.Branches.take g36.t12.toNat).map eBranch)))),(25,(I (((a0.Branches.take g36.t12.toNat).length : Nat) : Int))),(26,(I g123.t26))],[(0,some (true,.box [(.lf true (.sl (a0.Branches.map eBranch)))])),(1,some (true,.box [(.lf true (.sl (((nth a0.Branches g36.t12.toNat).Events).map eEvent)))]))],2,59⟩) (spec_GoodTellings_L2 a0 g36) _ _ hl7 (weakA [some 0,some 1]) ?_
    ·intro n2 g123 z2 hs2 hk2
     unfold spec_GoodTellings_L2 at hs2
     try dsimp only at hs2
     refine sA ?_
     refine Bs_if hs2 (fun hs2 hc8 => ?_) (fun hs2 hc8 => ?_)
     ·try refine sA ?_
      obtain ⟨hp9,hs2⟩ := guard_some hs2
      have hn9 : g123.t26.toNat < (a0.Branches.take g36.t12.toNat).length := by first | omega | (simp only [List.length_set,List.length_append,List.length_replicate,List.length_map]; omega)
      try refine sA ?_
      try refine andA ?_
      obtain ⟨c127,hr10,hs2⟩ := bind_ok hs2
      refine Cl_sA (w_spec_l15Compare hr10) ?_
      try refine sA ?_
      obtain ⟨p129,hq11,hs2⟩ := bind_ok hs2
      refine Sq_cut (fun s2 => s2 = ⟨[(1,(.pb 0 0)),(3,(I g36.t12)),(4,(.pb 1 0)),(10,(.lf true (.sl (a0.Branches.map eBranch)))),(11,(I ((a0.Branches.length : Nat) : Int))),(12,(I g36.t12)),(24,(.lf true (.sl ((a0.Branches.take g36.t12.toNat).map eBranch)))),(25,(I (((a0.Branches.take g36.t12.toNat).length : Nat) : Int))),(26,(I g123.t26)),(52,(B p129.t52))],[(0,some (true,.box [(.lf true (.sl (a0.Branches.map eBranch)))])),(1,some (true,.box [(.lf true (.sl (((nth a0.Branches g36.t12.toNat).Events).map eEvent)))]))],2,59⟩) ?_ ?_
      ·try refine sA ?_
       refine Sp_if hq11 (fun hq11 hc12 => ?_) (fun hq11 hc12 => ?_)
       ·try refine sA ?_
        cases hq11
        exact X_cut rfl (weakA [some 0,some 1])
       ·try refine sA ?_
        obtain ⟨c128,hr13,hq11⟩ := bind_ok hq11
        refine Cl_sA (w_spec_l15Begins hr13) ?_
        try refine sA ?_
        refine Sp_if hq11 (fun hq11 hc14 => ?_) (fun hq11 hc14 => ?_)
        ·try refine sA ?_
         cases hq11
         exact X_cut rfl (weakA [some 0,some 1])
        ·try refine sA ?_
         cases hq11
         exact X_cut rfl (weakA [some 0,some 1])
      ·intro s2 hJ; subst hJ
       try dsimp only at hs2
       try refine sA ?_
       refine Bs_if hs2 (fun hs2 hc15 => ?_) (fun hs2 hc15 => ?_)
       ·try refine sA ?_
        cases hs2
        cases hk2
        try dsimp only at hs1
        try refine sA ?_
        cases hs1
        cases hk1
        try dsimp only at h
        try refine sA ?_
        obtain rfl:=Option.some.inj h
        exact endsA ⟨[(2,(B false))],[],0,59⟩ []
       ·try refine sA ?_
        cases hs2
        exact X_backP hk2 (weakA [some 0,some 1])
     ·try refine sA ?_
      cases hs2
      cases hk2
      try dsimp only at hs1
      try refine sA ?_
      cases hs1
      exact X_backP hk1 (weakA [some 0])
  ·try refine sA ?_
   cases hs1
   cases hk1
   try dsimp only at h
   try refine sA ?_
   obtain rfl:=Option.some.inj h
   exact endsA ⟨[(2,(B (decide (((a0.Branches.length : Nat) : Int) ≤ 12))))],[],0,59⟩ []
theorem w_spec_GoodRegion {a0 : RegionT} {r : Bool} (h : spec_GoodRegion a0 = some r) : Fn Tryz.prog 90 [(.ag [(I a0.Id),(I a0.Version),(.lf true (.sl (a0.Tellings.Branches.map eBranch)))])] [] 0 (B r) [] 0 := by
 unfold spec_GoodRegion at h
 refine fn_code tab_ok mixed [(1000,[(1,0)]),(1001,[(1,0),(22,0)]),(1002,[(2,0)]),(1003,[(1,0),(25,0),(26,0),(27,0)]),(1004,[(1,0),(25,0),(26,0),(27,0),(28,0)]),(1005,[(1,0),(4,0),(25,0),(26,0),(27,0)]),(1006,[(1,0),(25,0),(26,0),(27,0),(32,0),(33,0),(34,0)]),(1007,[(1,0),(25,0),(26,0),(27,0),(32,0),(33,0),(34,0),(35,0)]),(1008,[(1,0),(6,0),(25,0),(26,0),(27,0),(32,0),(33,0),(34,0)]),(1009,[(1,0),(25,0),(26,0),(27,0),(32,0),(33,0),(34,0),(42,0)]),(1010,[(2,0)]),(1011,[(1,0),(25,0),(26,0),(27,0),(32,0),(33,0),(34,0)]),(1012,[(1,0),(25,0),(26,0),(27,0)]),(1013,[(2,0)]),(4001,[])] Tryz.func90 rfl rfl (by simp [Tryz.f90]) (by kernel_rfl) ?_
 simp only [Tryz.f90]
 refine sA ?_
 obtain ⟨p137,hq1,h⟩ := bind_ok h
 refine Sq_cut (fun s2 => s2 = ⟨[(1,(.pb 0 0)),(22,(B p137.t22))],[(0,some (true,.box [(I a0.Id),(I a0.Version),(.lf true (.sl (a0.Tellings.Branches.map eBranch)))]))],1,45⟩) ?_ ?_
 ·try refine sA ?_
  obtain ⟨c33,hr2,hq1⟩ := bind_ok hq1
  refine Cl_sA (w_spec_l1In hr2) ?_
  try refine sA ?_
  refine Sp_if hq1 (fun hq1 hc3 => ?_) (fun hq1 hc3 => ?_)
  ·try refine sA ?_
   cases hq1
   exact X_cut rfl (weakA [some 0])
  ·try refine sA ?_
   obtain ⟨c35,hr4,hq1⟩ := bind_ok hq1
   refine Cl_sA (w_spec_l13Version hr4) ?_
   try refine sA ?_
   refine Sp_if hq1 (fun hq1 hc5 => ?_) (fun hq1 hc5 => ?_)
   ·try refine sA ?_
    cases hq1
    exact X_cut rfl (weakA [some 0])
   ·try refine sA ?_
    obtain ⟨c136,hr6,hq1⟩ := bind_ok hq1
    refine Cl_sA (w_spec_GoodTellings hr6) ?_
    try refine sA ?_
    cases hq1
    exact X_cut rfl (weakA [some 0])
 ·intro s2 hJ; subst hJ
  try dsimp only at h
  try refine sA ?_
  refine Bs_if h (fun h hc7 => ?_) (fun h hc7 => ?_)
  ·try refine sA ?_
   obtain rfl:=Option.some.inj h
   exact endsA ⟨[(2,(B false))],[],0,45⟩ []
  ·try refine sA ?_
   obtain ⟨y147,hl8,h⟩ := bind_ok h
   refine W_loopP (fun g138 : spec_GoodRegion_G1 => ⟨[(1,(.pb 0 0)),(25,(.lf true (.sl (a0.Tellings.Branches.map eBranch)))),(26,(I ((a0.Tellings.Branches.length : Nat) : Int))),(27,(I g138.t27))],[(0,some (true,.box [(I a0.Id),(I a0.Version),(.lf true (.sl (a0.Tellings.Branches.map eBranch)))]))],1,45⟩) (spec_GoodRegion_L1 a0) _ _ hl8 (weakA [some 0]) ?_
   ·intro n1 g138 z1 hs1 hk1
    unfold spec_GoodRegion_L1 at hs1
    try dsimp only at hs1
    refine sA ?_
    refine Bs_if hs1 (fun hs1 hc9 => ?_) (fun hs1 hc9 => ?_)
    ·try refine sA ?_
     obtain ⟨hp10,hs1⟩ := guard_some hs1
     have hn10 : g138.t27.toNat < a0.Tellings.Branches.length := by first | omega | (simp only [List.length_set,List.length_append,List.length_replicate,List.length_map]; omega)
     try refine sA ?_
     try refine andA ?_
     obtain ⟨y144,hl11,hs1⟩ := bind_ok hs1
     refine W_loopP (fun g143 : spec_GoodRegion_G2 => ⟨[(1,(.pb 0 0)),(25,(.lf true (.sl (a0.Tellings.Branches.map eBranch)))),(26,(I ((a0.Tellings.Branches.length : Nat) : Int))),(27,(I g138.t27)),(32,(.lf true (.sl (((nth a0.Tellings.Branches g138.t27.toNat).Events).map eEvent)))),(33,(I ((((nth a0.Tellings.Branches g138.t27.toNat).Events).length : Nat) : Int))),(34,(I g143.t34))],[(0,some (true,.box [(I a0.Id),(I a0.Version),(.lf true (.sl (a0.Tellings.Branches.map eBranch)))]))],1,45⟩) (spec_GoodRegion_L2 a0 g138) _ _ hl11 (weakA [some 0]) ?_
     ·intro n2 g143 z2 hs2 hk2
      unfold spec_GoodRegion_L2 at hs2
      try dsimp only at hs2
      refine sA ?_
      refine Bs_if hs2 (fun hs2 hc12 => ?_) (fun hs2 hc12 => ?_)
      ·try refine sA ?_
       obtain ⟨hp13,hs2⟩ := guard_some hs2
       have hn13 : g143.t34.toNat < ((nth a0.Tellings.Branches g138.t27.toNat).Events).length := by first | omega | (simp only [List.length_set,List.length_append,List.length_replicate,List.length_map]; omega)
       try refine sA ?_
       try refine andA ?_
       refine Bs_if hs2 (fun hs2 hc14 => ?_) (fun hs2 hc14 => ?_)
       ·try refine sA ?_
        cases hs2
        cases hk2
        try dsimp only at hs1
        try refine sA ?_
        cases hs1
        cases hk1
        try dsimp only at h
        try refine sA ?_
        obtain rfl:=Option.some.inj h
        exact endsA ⟨[(2,(B false))],[],0,45⟩ []
       ·try refine sA ?_
        cases hs2
        exact X_backP hk2 (weakA [some 0])
      ·try refine sA ?_
       cases hs2
       cases hk2
       try dsimp only at hs1
       try refine sA ?_
       cases hs1
       exact X_backP hk1 (weakA [some 0])
    ·try refine sA ?_
     cases hs1
     cases hk1
     try dsimp only at h
     try refine sA ?_
     obtain rfl:=Option.some.inj h
     exact endsA ⟨[(2,(B true))],[],0,45⟩ []
theorem w_spec_l15OwnEvents {a0 : (List EventT)} {r : (List EventT)} (h : spec_l15OwnEvents a0 = some r) : Fn Tryz.prog 82 [(.lf true (.sl (a0.map eEvent)))] [] 0 (.os 0 4 0 r.length r.length false) [(0,some (true,.arr false 4 (r.map eEvent)))] 1 := by
 unfold spec_l15OwnEvents at h
 refine fn_code tab_ok mixed [] Tryz.func82 rfl rfl (by simp [Tryz.f82]) (by kernel_rfl) ?_
 simp only [Tryz.f82]
 refine sA ?_
 obtain ⟨hp1,h⟩ := guard_some h
 try refine sA ?_
 try refine andA ?_
 obtain rfl:=Option.some.inj h
 exact endsA ⟨[(2,(.os 0 4 0 ((([]) ++ a0).length) ((([]) ++ a0).length) false))],[(0,some (true,.arr false 4 ((([]) ++ a0).map eEvent)))],1,6⟩ [some 1]
theorem w_spec_l15Add {a0 : (List BranchT)} {a1 : (List EventT)} {r : (List BranchT)} (h : spec_l15Add a0 a1 = some r) : Fn Tryz.prog 116 [(.lf true (.sl (a0.map eBranch))),(.lf true (.sl (a1.map eEvent)))] [] 0 (.lf true (.sl (r.map eBranch))) [] 0 := by
 unfold spec_l15Add at h
 refine fn_code tab_ok mixed [(1000,[(0,0),(1,0)]),(1001,[(0,0),(1,0),(5,0)]),(1002,[(0,0),(1,0),(5,0),(6,0)]),(1003,[(0,0),(1,0),(5,0),(6,0),(13,0),(14,0),(15,0)]),(1004,[(0,0),(1,0),(5,0),(6,0),(13,0),(14,0),(15,0),(16,0)]),(1005,[(0,0),(1,0),(5,0),(6,0),(8,0),(13,0),(14,0),(15,0)]),(1006,[(0,0),(1,0),(5,0),(6,0),(13,0),(14,0),(15,0),(22,0)]),(1007,[(4,0)]),(1008,[(0,0),(1,0),(5,0),(6,0),(13,0),(14,0),(15,0)]),(1009,[(1,0),(5,0),(6,0),(25,0),(26,0),(27,0)]),(1010,[(1,0),(5,0),(6,0),(25,0),(26,0),(27,0),(28,0)]),(1011,[(1,0),(5,0),(6,0),(10,0),(25,0),(26,0),(27,0)]),(1012,[(1,0),(5,0),(6,0),(10,0),(25,0),(26,0),(27,0),(34,0)]),(1013,[(1,0),(5,0),(6,0),(10,0),(11,0),(25,0),(26,0),(27,0)]),(1014,[(1,0),(5,0),(6,0),(10,0),(25,0),(26,0),(27,0),(47,0)]),(1015,[(1,0),(5,0),(10,0),(25,0),(26,0),(27,0)]),(1016,[(1,0),(5,0),(6,0),(10,0),(25,0),(26,0),(27,0)]),(1017,[(1,0),(5,0),(6,0),(25,0),(26,0),(27,0)]),(1018,[(1,0),(5,0),(6,0),(25,0),(26,0),(27,0)]),(1019,[(1,0),(5,0),(63,0)]),(1020,[(5,0)]),(1021,[(4,0)]),(4014,[]),(5017,[])] Tryz.func116 rfl rfl (by simp [Tryz.f116]) (by kernel_rfl) ?_
 simp only [Tryz.f116]
 refine sA ?_
 obtain ⟨y172,hl1,h⟩ := bind_ok h
 refine W_loopP (fun g169 : spec_l15Add_G1 => ⟨[(0,(.lf true (.sl (a0.map eBranch)))),(1,(.lf true (.sl (a1.map eEvent)))),(5,.nl),(6,(B false)),(13,(.lf true (.sl (a0.map eBranch)))),(14,(I ((a0.length : Nat) : Int))),(15,(I g169.t15))],[],0,71⟩) (spec_l15Add_L1 a0 a1) _ _ hl1 (weakA []) ?_
 ·intro n1 g169 z1 hs1 hk1
  unfold spec_l15Add_L1 at hs1
  try dsimp only at hs1
  refine sA ?_
  refine Bs_if hs1 (fun hs1 hc2 => ?_) (fun hs1 hc2 => ?_)
  ·try refine sA ?_
   obtain ⟨hp3,hs1⟩ := guard_some hs1
   have hn3 : g169.t15.toNat < a0.length := by first | omega | (simp only [List.length_set,List.length_append,List.length_replicate,List.length_map]; omega)
   try refine sA ?_
   try refine andA ?_
   obtain ⟨c171,hr4,hs1⟩ := bind_ok hs1
   refine Cl_sA (w_spec_l15Begins hr4) ?_
   try refine sA ?_
   refine Bs_if hs1 (fun hs1 hc5 => ?_) (fun hs1 hc5 => ?_)
   ·try refine sA ?_
    cases hs1
    cases hk1
    try dsimp only at h
    try refine sA ?_
    obtain rfl:=Option.some.inj h
    exact endsA ⟨[(4,(.lf true (.sl (a0.map eBranch))))],[],0,71⟩ []
   ·try refine sA ?_
    cases hs1
    exact X_backP hk1 (weakA [])
  ·try refine sA ?_
   cases hs1
   cases hk1
   try dsimp only at h
   try refine sA ?_
   obtain ⟨y208,hl6,h⟩ := bind_ok h
   refine W_loopP (fun g193 : spec_l15Add_G2 => ⟨[(1,(.lf true (.sl (a1.map eEvent)))),(5,(.os 0 1 0 g193.c0.length g193.c0.length false)),(6,(B g193.t6)),(25,(.lf true (.sl (a0.map eBranch)))),(26,(I ((a0.length : Nat) : Int))),(27,(I g193.t27))],[(0,some (true,.deep [.sl [.sc,.sc,.sc,.sc]] (g193.c0.map eBranch)))],1,71⟩) (_) _ _ hl6 (weakA [none]) ?_
   ·intro n3 g193 z3 hs3 hk3
    unfold spec_l15Add_L2 at hs3
    try dsimp only at hs3
    refine sA ?_
    refine Bs_if hs3 (fun hs3 hc7 => ?_) (fun hs3 hc7 => ?_)
    ·try refine sA ?_
     obtain ⟨hp8,hs3⟩ := guard_some hs3
     have hn8 : g193.t27.toNat < a0.length := by first | omega | (simp only [List.length_set,List.length_append,List.length_replicate,List.length_map]; omega)
     try refine sA ?_
     try refine andA ?_
     obtain ⟨c201,hr9,hs3⟩ := bind_ok hs3
     refine Cl_sA (w_spec_l15Begins hr9) ?_
     try refine sA ?_
     refine Bs_if hs3 (fun hs3 hc10 => ?_) (fun hs3 hc10 => ?_)
     ·try refine sA ?_
      cases hs3
      exact X_backP hk3 (weakA [some 0])
     ·try refine sA ?_
      obtain ⟨c202,hr11,hs3⟩ := bind_ok hs3
      refine Cl_sA (w_spec_l15Compare hr11) ?_
      try refine sA ?_
      obtain ⟨p203,hq12,hs3⟩ := bind_ok hs3
      refine Sq_cut (fun s2 => s2 = ⟨[(1,(.lf true (.sl (a1.map eEvent)))),(5,(.os 0 1 0 g193.c0.length g193.c0.length false)),(6,(B g193.t6)),(10,(.pb 1 0)),(25,(.lf true (.sl (a0.map eBranch)))),(26,(I ((a0.length : Nat) : Int))),(27,(I g193.t27)),(47,(B p203.t47))],[(0,some (true,.deep [.sl [.sc,.sc,.sc,.sc]] (g193.c0.map eBranch))),(1,some (true,.box [(.lf true (.sl (((nth a0 g193.t27.toNat).Events).map eEvent)))]))],2,71⟩) ?_ ?_
      ·try refine sA ?_
       refine Sp_if hq12 (fun hq12 hc13 => ?_) (fun hq12 hc13 => ?_)
       ·try refine sA ?_
        cases hq12
        exact X_cut rfl (weakA [some 0,some 1])
       ·try refine sA ?_
        cases hq12
        exact X_cut rfl (weakA [some 0,some 1])
      ·intro s2 hJ; subst hJ
       try dsimp only at hs3
       try refine sA ?_
       refine Bs_if hs3 (fun hs3 hc14 => ?_) (fun hs3 hc14 => ?_)
       ·try refine sA ?_
        obtain ⟨c204,hr15,hs3⟩ := bind_ok hs3
        refine Cl_sA (w_spec_l15OwnEvents hr15) ?_
        try refine sA ?_
        obtain ⟨hp16,hs3⟩ := guard_some hs3
        try refine sA ?_
        try refine andA ?_
        refine Gh_pack 4 ?_
        try refine sA ?_
        obtain ⟨c206,hr17,hs3⟩ := bind_ok hs3
        refine Cl_sA (w_spec_l15OwnEvents hr17) ?_
        try refine sA ?_
        obtain ⟨hp18,hs3⟩ := guard_some hs3
        try refine sA ?_
        try refine andA ?_
        cases hs3
        exact X_backP hk3 (packW 7 (weakA [some 7]))
       ·try refine sA ?_
        refine Gh_id ?_
        try refine sA ?_
        obtain ⟨c207,hr19,hs3⟩ := bind_ok hs3
        refine Cl_sA (w_spec_l15OwnEvents hr19) ?_
        try refine sA ?_
        obtain ⟨hp20,hs3⟩ := guard_some hs3
        try refine sA ?_
        try refine andA ?_
        cases hs3
        exact X_backP hk3 (packW 4 (weakA [some 4]))
    ·try refine sA ?_
     cases hs3
     cases hk3
     try dsimp only at h
     try refine sA ?_
     refine Bs_if h (fun h hc21 => ?_) (fun h hc21 => ?_)
     ·try refine sA ?_
      obtain ⟨c210,hr22,h⟩ := bind_ok h
      refine Cl_sA (w_spec_l15OwnEvents hr22) ?_
      try refine sA ?_
      obtain ⟨hp23,h⟩ := guard_some h
      try refine sA ?_
      try refine andA ?_
      obtain rfl:=Option.some.inj h
      refine ends_pack 3 ?_
      try refine sA ?_
      refine ends_frz 3 ?_
      try refine sA ?_
      exact endsA ⟨[(4,(.lf true (.sl ((g193.c0 ++ [(⟨c210⟩ : BranchT)]).map eBranch))))],[],0,71⟩ []
     ·try refine sA ?_
      obtain rfl:=Option.some.inj h
      refine ends_frz 0 ?_
      try refine sA ?_
      exact endsA ⟨[(4,(.lf true (.sl (g193.c0.map eBranch))))],[],0,71⟩ []
theorem w_spec_l15Own {a0 : TellingsT} {r : TellingsT} (h : spec_l15Own a0 = some r) : Fn Tryz.prog 91 [(.ag [(.lf true (.sl (a0.Branches.map eBranch)))])] [] 0 (.ag [(.os 0 1 0 r.Branches.length r.Branches.length false)]) [(0,some (true,.deep [.sl [.sc,.sc,.sc,.sc]] (r.Branches.map eBranch)))] 2 := by
 unfold spec_l15Own at h
 refine fn_code tab_ok mixed [(1000,[(1,0),(2,0)]),(1001,[(1,0),(2,0),(3,0)]),(1002,[(2,0),(3,0),(7,0),(8,0),(9,0)]),(1003,[(2,0),(3,0),(7,0),(8,0),(9,0),(10,0)]),(1004,[(2,0),(3,0),(5,0),(7,0),(8,0),(9,0)]),(1005,[(2,0),(3,0),(7,0),(8,0),(9,0)]),(1006,[(2,0),(3,0),(7,0),(8,0),(9,0)]),(1007,[(2,0)])] Tryz.func91 rfl rfl (by simp [Tryz.f91]) (by kernel_rfl) ?_
 simp only [Tryz.f91]
 refine sA ?_
 obtain ⟨y217,hl1,h⟩ := bind_ok h
 refine W_loopP (fun g214 : spec_l15Own_G1 => ⟨[(2,(.pb 0 0)),(3,(.os 1 1 0 g214.c1.length g214.c1.length false)),(7,(.lf true (.sl (a0.Branches.map eBranch)))),(8,(I ((a0.Branches.length : Nat) : Int))),(9,(I g214.t9))],[(0,some (true,.box [.nl])),(1,some (true,.deep [.sl [.sc,.sc,.sc,.sc]] (g214.c1.map eBranch)))],2,23⟩) (spec_l15Own_L1 a0) _ _ hl1 (weakA [some 1,none]) ?_
 ·intro n1 g214 z1 hs1 hk1
  unfold spec_l15Own_L1 at hs1
  try dsimp only at hs1
  refine sA ?_
  refine Bs_if hs1 (fun hs1 hc2 => ?_) (fun hs1 hc2 => ?_)
  ·try refine sA ?_
   obtain ⟨hp3,hs1⟩ := guard_some hs1
   have hn3 : g214.t9.toNat < a0.Branches.length := by first | omega | (simp only [List.length_set,List.length_append,List.length_replicate,List.length_map]; omega)
   try refine sA ?_
   try refine andA ?_
   obtain ⟨c216,hr4,hs1⟩ := bind_ok hs1
   refine Cl_sA (w_spec_l15OwnEvents hr4) ?_
   try refine sA ?_
   obtain ⟨hp5,hs1⟩ := guard_some hs1
   try refine sA ?_
   try refine andA ?_
   cases hs1
   exact X_backP hk1 (packW 5 (weakA [some 0,some 5]))
  ·try refine sA ?_
   cases hs1
   cases hk1
   try dsimp only at h
   try refine sA ?_
   obtain rfl:=Option.some.inj h
   exact endsA ⟨[(2,(.pb 1 0))],[(0,some (true,.deep [.sl [.sc,.sc,.sc,.sc]] (g214.c1.map eBranch))),(1,some (true,.box [(.os 0 1 0 g214.c1.length g214.c1.length false)]))],2,23⟩ [some 1,some 0]
theorem w_spec_l15Merge {a0 : TellingsT} {a1 : TellingsT} {r : TellingsT} (h : spec_l15Merge a0 a1 = some r) : Fn Tryz.prog 124 [(.ag [(.lf true (.sl (a0.Branches.map eBranch)))]),(.ag [(.lf true (.sl (a1.Branches.map eBranch)))])] [] 0 (.ag [(.os 0 1 0 r.Branches.length r.Branches.length false)]) [(0,some (true,.deep [.sl [.sc,.sc,.sc,.sc]] (r.Branches.map eBranch)))] 2 := by
 unfold spec_l15Merge at h
 refine fn_code tab_ok mixed [(1000,[(2,0),(3,0),(4,0)]),(1001,[(3,0),(4,0),(5,0)]),(1002,[(4,0),(5,0),(11,0),(12,0),(13,0)]),(1003,[(4,0),(5,0),(11,0),(12,0),(13,0),(14,0)]),(1004,[(4,0),(5,0),(7,0),(11,0),(12,0),(13,0)]),(1005,[(4,0),(5,0),(11,0),(12,0),(13,0)]),(1006,[(4,0),(5,0),(11,0),(12,0),(13,0)]),(1007,[(4,0)])] Tryz.func124 rfl rfl (by simp [Tryz.f124]) (by kernel_rfl) ?_
 simp only [Tryz.f124]
 refine sA ?_
 obtain ⟨y213,hl1,h⟩ := bind_ok h
 refine W_loopP (fun g156 : spec_l15Merge_G1 => ⟨[(4,(.pb 0 0)),(5,(.lf true (.sl (g156.t5.map eBranch)))),(11,(.lf true (.sl (a1.Branches.map eBranch)))),(12,(I ((a1.Branches.length : Nat) : Int))),(13,(I g156.t13))],[(0,some (true,.box [.nl]))],1,25⟩) (spec_l15Merge_L1 a1) _ _ hl1 (weakA [some 2]) ?_
 ·intro n1 g156 z1 hs1 hk1
  unfold spec_l15Merge_L1 at hs1
  try dsimp only at hs1
  refine sA ?_
  refine Bs_if hs1 (fun hs1 hc2 => ?_) (fun hs1 hc2 => ?_)
  ·try refine sA ?_
   obtain ⟨hp3,hs1⟩ := guard_some hs1
   have hn3 : g156.t13.toNat < a1.Branches.length := by first | omega | (simp only [List.length_set,List.length_append,List.length_replicate,List.length_map]; omega)
   try refine sA ?_
   try refine andA ?_
   obtain ⟨c212,hr4,hs1⟩ := bind_ok hs1
   refine Cl_sA (w_spec_l15Add hr4) ?_
   try refine sA ?_
   cases hs1
   exact X_backP hk1 (weakA [some 0])
  ·try refine sA ?_
   cases hs1
   cases hk1
   try dsimp only at h
   try refine sA ?_
   obtain ⟨c219,hr5,h⟩ := bind_ok h
   refine Cl_sA (w_spec_l15Own hr5) ?_
   try refine sA ?_
   obtain rfl:=Option.some.inj h
   exact endsA ⟨[(4,(.pb 1 0))],[(0,some (true,.deep [.sl [.sc,.sc,.sc,.sc]] (c219.Branches.map eBranch))),(1,some (true,.box [(.os 0 1 0 c219.Branches.length c219.Branches.length false)]))],2,25⟩ [some 1,some 0]
theorem w_spec_MergeTellings {a0 : TellingsT} {a1 : TellingsT} {r : (TellingsT × Bool)} (h : spec_MergeTellings a0 a1 = some r) : Fn Tryz.prog 56 [(.ag [(.lf true (.sl (a0.Branches.map eBranch)))]),(.ag [(.lf true (.sl (a1.Branches.map eBranch)))])] [] 0 (.tu [(.ag [(.os 0 1 0 r.1.Branches.length r.1.Branches.length false)]),(B r.2)]) [(0,some (true,.deep [.sl [.sc,.sc,.sc,.sc]] (r.1.Branches.map eBranch)))] 2 := by
 unfold spec_MergeTellings at h
 refine fn_code tab_ok mixed [(1000,[(2,0),(3,0),(4,0)]),(1001,[(2,0),(3,0),(4,0),(14,0)]),(1002,[(4,0),(5,0)]),(1003,[(4,0),(6,0)]),(1004,[(4,0),(6,0),(21,0)]),(1005,[(4,0),(5,0)]),(1006,[(4,0),(5,0)]),(4001,[])] Tryz.func56 rfl rfl (by simp [Tryz.f56]) (by kernel_rfl) ?_
 simp only [Tryz.f56]
 refine sA ?_
 obtain ⟨p155,hq1,h⟩ := bind_ok h
 refine Sq_cut (fun s2 => s2 = ⟨[(2,(.pb 0 0)),(3,(.pb 1 0)),(4,(.pb 2 0)),(14,(B p155.t14))],[(0,some (true,.box [(.lf true (.sl (a0.Branches.map eBranch)))])),(1,some (true,.box [(.lf true (.sl (a1.Branches.map eBranch)))])),(2,some (true,.box [.nl]))],3,24⟩) ?_ ?_
 ·try refine sA ?_
  obtain ⟨c153,hr2,hq1⟩ := bind_ok hq1
  refine Cl_sA (w_spec_GoodTellings hr2) ?_
  try refine sA ?_
  refine Sp_if hq1 (fun hq1 hc3 => ?_) (fun hq1 hc3 => ?_)
  ·try refine sA ?_
   cases hq1
   exact X_cut rfl (weakA [some 0,some 1,some 2])
  ·try refine sA ?_
   obtain ⟨c154,hr4,hq1⟩ := bind_ok hq1
   refine Cl_sA (w_spec_GoodTellings hr4) ?_
   try refine sA ?_
   cases hq1
   exact X_cut rfl (weakA [some 0,some 1,some 2])
 ·intro s2 hJ; subst hJ
  try dsimp only at h
  try refine sA ?_
  refine Bs_if h (fun h hc5 => ?_) (fun h hc5 => ?_)
  ·try refine sA ?_
   obtain rfl:=Option.some.inj h
   exact endsA ⟨[(4,(.pb 1 0)),(5,(B false))],[(0,some (true,.deep [.sl [.sc,.sc,.sc,.sc]] (([] : List BranchT).map eBranch))),(1,some (true,.box [(.os 0 1 0 (([] : List BranchT).length) (([] : List BranchT).length) false)]))],2,24⟩ [none,some 2]
  ·try refine sA ?_
   obtain ⟨c220,hr6,h⟩ := bind_ok h
   refine Cl_sA (w_spec_l15Merge hr6) ?_
   try refine sA ?_
   obtain ⟨c221,hr7,h⟩ := bind_ok h
   refine Cl_sA (w_spec_GoodTellings hr7) ?_
   try refine sA ?_
   refine Bs_if h (fun h hc8 => ?_) (fun h hc8 => ?_)
   ·try refine sA ?_
    obtain rfl:=Option.some.inj h
    exact endsA ⟨[(4,(.pb 1 0)),(5,(B false))],[(0,some (true,.deep [.sl [.sc,.sc,.sc,.sc]] (([] : List BranchT).map eBranch))),(1,some (true,.box [(.os 0 1 0 (([] : List BranchT).length) (([] : List BranchT).length) false)]))],2,24⟩ [none,some 2]
   ·try refine sA ?_
    obtain rfl:=Option.some.inj h
    exact endsA ⟨[(4,(.pb 1 0)),(5,(B true))],[(0,some (true,.deep [.sl [.sc,.sc,.sc,.sc]] (c220.Branches.map eBranch))),(1,some (true,.box [(.os 0 1 0 c220.Branches.length c220.Branches.length false)]))],2,24⟩ [some 3,some 2]
theorem w_spec_HearWord {a0 : RegionT} {a1 : WordT} {r : (RegionT × Bool)} (h : spec_HearWord a0 a1 = some r) : Fn Tryz.prog 77 [(.ag [(I a0.Id),(I a0.Version),(.lf true (.sl (a0.Tellings.Branches.map eBranch)))]),(.ag [(I a1.Version),(.lf true (.sl (a1.Tellings.Branches.map eBranch)))])] [] 0 (.tu [(.ag [(I r.1.Id),(I r.1.Version),(.os 0 1 0 r.1.Tellings.Branches.length r.1.Tellings.Branches.length false)]),(B r.2)]) [(0,some (true,.deep [.sl [.sc,.sc,.sc,.sc]] (r.1.Tellings.Branches.map eBranch)))] 2 := by
 unfold spec_HearWord at h
 refine fn_code tab_ok mixed [(1000,[(2,0),(3,0),(4,0)]),(1001,[(2,0),(3,0),(4,0),(19,0)]),(1002,[(4,0),(5,0)]),(1003,[(2,0),(3,0),(4,0),(6,0),(7,0)]),(1004,[(2,0),(3,0),(4,0),(6,0),(30,0)]),(1005,[(4,0),(5,0)]),(1006,[(2,0),(3,0),(4,0),(6,0),(36,0)]),(1007,[(2,0),(4,0),(6,0)]),(1008,[(2,0),(4,0)]),(1009,[(4,0),(5,0)]),(2036,[]),(4001,[])] Tryz.func77 rfl rfl (by simp [Tryz.f77]) (by kernel_rfl) ?_
 simp only [Tryz.f77]
 refine sA ?_
 obtain ⟨p152,hq1,h⟩ := bind_ok h
 refine Sq_cut (fun s2 => s2 = ⟨[(2,(.pb 0 0)),(3,(.pb 1 0)),(4,(.pb 2 0)),(19,(B p152.t19))],[(0,some (true,.box [(I a0.Id),(I a0.Version),(.lf true (.sl (a0.Tellings.Branches.map eBranch)))])),(1,some (true,.box [(I a1.Version),(.lf true (.sl (a1.Tellings.Branches.map eBranch)))])),(2,some (true,.box [(I 0),(I 0),.nl]))],3,43⟩) ?_ ?_
 ·try refine sA ?_
  obtain ⟨c150,hr2,hq1⟩ := bind_ok hq1
  refine Cl_sA (w_spec_GoodRegion hr2) ?_
  try refine sA ?_
  refine Sp_if hq1 (fun hq1 hc3 => ?_) (fun hq1 hc3 => ?_)
  ·try refine sA ?_
   cases hq1
   exact X_cut rfl (weakA [some 0,some 1,some 2])
  ·try refine sA ?_
   obtain ⟨c151,hr4,hq1⟩ := bind_ok hq1
   refine Cl_sA (w_spec_GoodRegion hr4) ?_
   try refine sA ?_
   cases hq1
   exact X_cut rfl (weakA [some 0,some 1,some 2])
 ·intro s2 hJ; subst hJ
  try dsimp only at h
  try refine sA ?_
  refine Bs_if h (fun h hc5 => ?_) (fun h hc5 => ?_)
  ·try refine sA ?_
   obtain rfl:=Option.some.inj h
   exact endsA ⟨[(4,(.pb 1 0)),(5,(B false))],[(0,some (true,.deep [.sl [.sc,.sc,.sc,.sc]] (([] : List BranchT).map eBranch))),(1,some (true,.box [(I 0),(I 0),(.os 0 1 0 (([] : List BranchT).length) (([] : List BranchT).length) false)]))],2,43⟩ [none,some 2]
  ·try refine sA ?_
   obtain ⟨c222,hr6,h⟩ := bind_ok h
   refine Cl_sA (w_spec_MergeTellings hr6) ?_
   try refine sA ?_
   refine Bs_if h (fun h hc7 => ?_) (fun h hc7 => ?_)
   ·try refine sA ?_
    obtain rfl:=Option.some.inj h
    exact endsA ⟨[(4,(.pb 1 0)),(5,(B false))],[(0,some (true,.deep [.sl [.sc,.sc,.sc,.sc]] (([] : List BranchT).map eBranch))),(1,some (true,.box [(I 0),(I 0),(.os 0 1 0 (([] : List BranchT).length) (([] : List BranchT).length) false)]))],2,43⟩ [none,some 2]
   ·try refine sA ?_
    obtain ⟨p223,hq8,h⟩ := bind_ok h
    refine Sq_cut (fun s2 => s2 = ⟨[(2,(.pb 0 0)),(4,(.pb 1 0)),(6,(.pb 2 0))],[(0,some (true,.box [(I a0.Id),(I p223.b0_1),(.lf true (.sl (a0.Tellings.Branches.map eBranch)))])),(1,some (true,.box [(I 0),(I 0),.nl])),(2,some (true,.box [(.os 3 1 0 c222.1.Branches.length c222.1.Branches.length false)])),(3,some (true,.deep [.sl [.sc,.sc,.sc,.sc]] (c222.1.Branches.map eBranch)))],4,43⟩) ?_ ?_
    ·try refine sA ?_
     refine Bs_if hq8 (fun hq8 hc9 => ?_) (fun hq8 hc9 => ?_)
     ·try refine sA ?_
      cases hq8
      exact X_cut rfl (weakA [some 0,some 2,some 5,some 3])
     ·try refine sA ?_
      cases hq8
      exact X_cut rfl (weakA [some 0,some 2,some 5,some 3])
    ·intro s2 hJ; subst hJ
     try dsimp only at h
     try refine sA ?_
     obtain rfl:=Option.some.inj h
     exact endsA ⟨[(4,(.pb 1 0)),(5,(B true))],[(0,some (true,.deep [.sl [.sc,.sc,.sc,.sc]] (c222.1.Branches.map eBranch))),(1,some (true,.box [(I a0.Id),(I p223.b0_1),(.os 0 1 0 c222.1.Branches.length c222.1.Branches.length false)]))],2,43⟩ [some 3,some 1]
theorem w_impl_in {a0 : Int} {a1 : Int} {a2 : Int} {r : Bool} (h : impl_in a0 a1 a2 = some r) : Fn Tryz.prog 190 [(I a0),(I a1),(I a2)] [] 0 (B r) [] 0 := by
 unfold impl_in at h
 refine fn_code tab_ok mixed [] Tryz.func190 rfl rfl (by simp [Tryz.f190]) (by kernel_rfl) ?_
 simp only [Tryz.f190]
 refine sA ?_
 refine Sp_if h (fun h hc1 => ?_) (fun h hc1 => ?_)
 ·try refine sA ?_
  obtain rfl:=Option.some.inj h
  exact endsA ⟨[(6,(B (decide (a0 ≤ a2))))],[],0,15⟩ []
 ·try refine sA ?_
  obtain rfl:=Option.some.inj h
  exact endsA ⟨[(6,(B false))],[],0,15⟩ []
theorem w_impl_isRegion {a0 : Int} {r : Bool} (h : impl_isRegion a0 = some r) : Fn Tryz.prog 150 [(I a0)] [] 0 (B r) [] 0 := by
 unfold impl_isRegion at h
 refine fn_code tab_ok mixed [] Tryz.func150 rfl rfl (by simp [Tryz.f150]) (by kernel_rfl) ?_
 simp only [Tryz.f150]
 refine sA ?_
 obtain ⟨c227,hr1,h⟩ := bind_ok h
 refine Cl_sA (w_impl_in hr1) ?_
 try refine sA ?_
 obtain rfl:=Option.some.inj h
 exact endsA ⟨[(2,(B c227))],[],0,5⟩ []
theorem w_impl_isVersion {a0 : Int} {r : Bool} (h : impl_isVersion a0 = some r) : Fn Tryz.prog 185 [(I a0)] [] 0 (B r) [] 0 := by
 unfold impl_isVersion at h
 refine fn_code tab_ok mixed [] Tryz.func185 rfl rfl (by simp [Tryz.f185]) (by kernel_rfl) ?_
 simp only [Tryz.f185]
 refine sA ?_
 obtain ⟨c229,hr1,h⟩ := bind_ok h
 refine Cl_sA (w_impl_in hr1) ?_
 try refine sA ?_
 obtain rfl:=Option.some.inj h
 exact endsA ⟨[(2,(B c229))],[],0,5⟩ []
theorem w_impl_NewState {r : StateT} (h : impl_NewState = some r) : Fn Tryz.prog 183 [] [] 0 (.ag [(I r.Status),(I r.Next),(B r.Cancel),(I r.Done),.nl,.nl]) [] 1 := by
 unfold impl_NewState at h
 refine fn_code tab_ok mixed [] Tryz.func183 rfl rfl (by simp [Tryz.f183]) (by kernel_rfl) ?_
 simp only [Tryz.f183]
 refine sA ?_
 obtain rfl:=Option.some.inj h
 exact endsA ⟨[(0,(.pb 0 0))],[(0,some (true,.box [(I 0),(I 1),(B false),(I 0),.nl,.nl]))],1,2⟩ [some 0]
theorem w_strings_Trim {a0 a1 : ByteArray} {r : ByteArray} (h : strings_Trim a0 a1 = some r) : Fn Tryz.prog 246 [.lf false (.sc (.string a0)),.lf false (.sc (.string a1))] [] 0 (.lf false (.sc (.string r))) [] 0 := by
 unfold strings_Trim at h
 obtain ⟨⟨hp1,hp2,hp3⟩,h⟩ := guard_some h
 have he := Option.some.inj h; subst he
 exact fn_str2 (Ent.of Tryz.func246 rfl (by simp [Tryz.f246])) fun w => trim_dr Go.Proofs.Tryz.lays160 (by kernel_rfl) a0 a1 w hp1 hp2 (ascii_of_all hp3)
theorem w_impl_goodName {a0 : ByteArray} {r : Bool} (h : impl_goodName a0 = some r) : Fn Tryz.prog 233 [(.lf false (.sc (.string a0)))] [] 0 (B r) [] 0 := by
 unfold impl_goodName at h
 refine fn_code tab_ok mixed [] Tryz.func233 rfl rfl (by simp [Tryz.f233]) (by kernel_rfl) ?_
 simp only [Tryz.f233]
 refine sA ?_
 refine Sp_if h (fun h hc1 => ?_) (fun h hc1 => ?_)
 ·try refine sA ?_
  obtain ⟨c245,hr2,h⟩ := bind_ok h
  refine Cl_sA (w_strings_Trim hr2) ?_
  try refine sA ?_
  obtain rfl:=Option.some.inj h
  exact endsA ⟨[(2,(B (c245.toList == ByteArray.empty.toList)))],[],0,11⟩ []
 ·try refine sA ?_
  obtain rfl:=Option.some.inj h
  exact endsA ⟨[(2,(B false))],[],0,11⟩ []
theorem w_impl_namesOk_c1 {a0 : ByteArray} {r : Bool} (h : impl_namesOk_c1 a0 = some r) : Fn Tryz.prog 245 [(.lf false (.sc (.string a0)))] [] 0 (B r) [] 0 := by
 unfold impl_namesOk_c1 at h
 refine fn_code tab_ok mixed [] Tryz.func245 rfl rfl (by simp [Tryz.f245]) (by kernel_rfl) ?_
 simp only [Tryz.f245]
 refine sA ?_
 obtain ⟨c246,hr1,h⟩ := bind_ok h
 refine Cl_sA (w_impl_goodName hr1) ?_
 try refine sA ?_
 obtain rfl:=Option.some.inj h
 exact endsA ⟨[(2,(B (!c246)))],[],0,6⟩ []
theorem w_slices_IndexFunc_string_impl_namesOk_c1 {a0 : (List ByteArray)} {r : Int} (h : slices_IndexFunc_string_impl_namesOk_c1 a0 = some r) : Fn Tryz.prog 252 [(.lf true (.sl (a0.map eS))),(.fn 245 [])] [] 0 (I r) [] 0 := by
 unfold slices_IndexFunc_string_impl_namesOk_c1 at h
 refine fn_code tab_ok mixed [(1000,[(0,0),(1,0)]),(1001,[(0,0),(1,0),(7,0),(8,0)]),(1002,[(0,0),(1,0),(7,0),(8,0),(9,0)]),(1003,[(0,0),(1,0),(5,0),(7,0),(8,0)]),(1004,[(0,0),(1,0),(5,0),(7,0),(8,0),(16,0)]),(1005,[(4,0)]),(1006,[(0,0),(1,0),(7,0),(8,0)]),(1007,[(4,0)])] Tryz.func252 rfl rfl (by simp [Tryz.f252]) (by kernel_rfl) ?_
 simp only [Tryz.f252]
 refine sA ?_
 obtain ⟨y249,hl1,h⟩ := bind_ok h
 refine W_loopP (fun g244 : slices_IndexFunc_string_impl_namesOk_c1_G1 => ⟨[(0,(.lf true (.sl (a0.map eS)))),(1,(.fn 245 [])),(7,(I ((a0.length : Nat) : Int))),(8,(I g244.t8))],[],0,19⟩) (slices_IndexFunc_string_impl_namesOk_c1_L1 a0) _ _ hl1 (weakA []) ?_
 ·intro n1 g244 z1 hs1 hk1
  unfold slices_IndexFunc_string_impl_namesOk_c1_L1 at hs1
  try dsimp only at hs1
  refine sA ?_
  refine Bs_if hs1 (fun hs1 hc2 => ?_) (fun hs1 hc2 => ?_)
  ·try refine sA ?_
   obtain ⟨hp3,hs1⟩ := guard_some hs1
   have hn3 : g244.t8.toNat < a0.length := by first | omega | (simp only [List.length_set,List.length_append,List.length_replicate,List.length_map]; omega)
   try refine sA ?_
   try refine andA ?_
   obtain ⟨c248,hr4,hs1⟩ := bind_ok hs1
   refine Cl_sA (w_impl_namesOk_c1 hr4) ?_
   try refine sA ?_
   refine Bs_if hs1 (fun hs1 hc5 => ?_) (fun hs1 hc5 => ?_)
   ·try refine sA ?_
    cases hs1
    cases hk1
    try dsimp only at h
    try refine sA ?_
    obtain rfl:=Option.some.inj h
    exact endsA ⟨[(4,(I g244.t8))],[],0,19⟩ []
   ·try refine sA ?_
    cases hs1
    exact X_backP hk1 (weakA [])
  ·try refine sA ?_
   cases hs1
   cases hk1
   try dsimp only at h
   try refine sA ?_
   obtain rfl:=Option.some.inj h
   exact endsA ⟨[(4,(I (-1)))],[],0,19⟩ []
theorem w_slices_ContainsFunc_string_impl_namesOk_c1 {a0 : (List ByteArray)} {r : Bool} (h : slices_ContainsFunc_string_impl_namesOk_c1 a0 = some r) : Fn Tryz.prog 244 [(.lf true (.sl (a0.map eS))),(.fn 245 [])] [] 0 (B r) [] 0 := by
 unfold slices_ContainsFunc_string_impl_namesOk_c1 at h
 refine fn_code tab_ok mixed [] Tryz.func244 rfl rfl (by simp [Tryz.f244]) (by kernel_rfl) ?_
 simp only [Tryz.f244]
 refine sA ?_
 obtain ⟨c252,hr1,h⟩ := bind_ok h
 refine Cl_sA (w_slices_IndexFunc_string_impl_namesOk_c1 hr1) ?_
 try refine sA ?_
 obtain rfl:=Option.some.inj h
 exact endsA ⟨[(4,(B (decide (c252 ≥ 0))))],[],0,9⟩ []
theorem w_impl_namesOk {a0 : (List ByteArray)} {a1 : Int} {r : Bool} (h : impl_namesOk a0 a1 = some r) : Fn Tryz.prog 229 [(.lf true (.sl (a0.map eS))),(I a1)] [] 0 (B r) [] 0 := by
 unfold impl_namesOk at h
 refine fn_code tab_ok mixed [] Tryz.func229 rfl rfl (by simp [Tryz.f229]) (by kernel_rfl) ?_
 simp only [Tryz.f229]
 refine sA ?_
 refine Sp_if h (fun h hc1 => ?_) (fun h hc1 => ?_)
 ·try refine sA ?_
  obtain ⟨c253,hr2,h⟩ := bind_ok h
  refine Cl_sA (w_slices_ContainsFunc_string_impl_namesOk_c1 hr2) ?_
  try refine sA ?_
  obtain rfl:=Option.some.inj h
  exact endsA ⟨[(4,(B (!c253)))],[],0,14⟩ []
 ·try refine sA ?_
  obtain rfl:=Option.some.inj h
  exact endsA ⟨[(4,(B false))],[],0,14⟩ []
theorem w_slices_Index_string {a0 : (List ByteArray)} {a1 : ByteArray} {r : Int} (h : slices_Index_string a0 a1 = some r) : Fn Tryz.prog 200 [(.lf true (.sl (a0.map eS))),(.lf false (.sc (.string a1)))] [] 0 (I r) [] 0 := by
 unfold slices_Index_string at h
 refine fn_code tab_ok mixed [(1000,[(0,0),(1,0)]),(1001,[(0,0),(1,0),(7,0),(8,0)]),(1002,[(0,0),(1,0),(7,0),(8,0),(9,0)]),(1003,[(0,0),(1,0),(5,0),(7,0),(8,0)]),(1004,[(0,0),(1,0),(5,0),(7,0),(8,0),(16,0)]),(1005,[(4,0)]),(1006,[(0,0),(1,0),(7,0),(8,0)]),(1007,[(4,0)])] Tryz.func200 rfl rfl (by simp [Tryz.f200]) (by kernel_rfl) ?_
 simp only [Tryz.f200]
 refine sA ?_
 obtain ⟨y257,hl1,h⟩ := bind_ok h
 refine W_loopP (fun g256 : slices_Index_string_G1 => ⟨[(0,(.lf true (.sl (a0.map eS)))),(1,(.lf false (.sc (.string a1)))),(7,(I ((a0.length : Nat) : Int))),(8,(I g256.t8))],[],0,19⟩) (slices_Index_string_L1 a0 a1) _ _ hl1 (weakA []) ?_
 ·intro n1 g256 z1 hs1 hk1
  unfold slices_Index_string_L1 at hs1
  try dsimp only at hs1
  refine sA ?_
  refine Bs_if hs1 (fun hs1 hc2 => ?_) (fun hs1 hc2 => ?_)
  ·try refine sA ?_
   obtain ⟨hp3,hs1⟩ := guard_some hs1
   have hn3 : g256.t8.toNat < a0.length := by first | omega | (simp only [List.length_set,List.length_append,List.length_replicate,List.length_map]; omega)
   try refine sA ?_
   try refine andA ?_
   refine Bs_if hs1 (fun hs1 hc4 => ?_) (fun hs1 hc4 => ?_)
   ·try refine sA ?_
    cases hs1
    cases hk1
    try dsimp only at h
    try refine sA ?_
    obtain rfl:=Option.some.inj h
    exact endsA ⟨[(4,(I g256.t8))],[],0,19⟩ []
   ·try refine sA ?_
    cases hs1
    exact X_backP hk1 (weakA [])
  ·try refine sA ?_
   cases hs1
   cases hk1
   try dsimp only at h
   try refine sA ?_
   obtain rfl:=Option.some.inj h
   exact endsA ⟨[(4,(I (-1)))],[],0,19⟩ []
theorem w_slices_Contains_string {a0 : (List ByteArray)} {a1 : ByteArray} {r : Bool} (h : slices_Contains_string a0 a1 = some r) : Fn Tryz.prog 180 [(.lf true (.sl (a0.map eS))),(.lf false (.sc (.string a1)))] [] 0 (B r) [] 0 := by
 unfold slices_Contains_string at h
 refine fn_code tab_ok mixed [] Tryz.func180 rfl rfl (by simp [Tryz.f180]) (by kernel_rfl) ?_
 simp only [Tryz.f180]
 refine sA ?_
 obtain ⟨c260,hr1,h⟩ := bind_ok h
 refine Cl_sA (w_slices_Index_string hr1) ?_
 try refine sA ?_
 obtain rfl:=Option.some.inj h
 exact endsA ⟨[(4,(B (decide (c260 ≥ 0))))],[],0,9⟩ []
theorem w_impl_distinct {a0 : (List ByteArray)} {r : Bool} (h : impl_distinct a0 = some r) : Fn Tryz.prog 230 [(.lf true (.sl (a0.map eS)))] [] 0 (B r) [] 0 := by
 unfold impl_distinct at h
 refine fn_code tab_ok mixed [(1000,[(0,0)]),(1001,[(0,0),(5,0),(6,0),(7,0)]),(1002,[(0,0),(5,0),(6,0),(7,0),(8,0)]),(1003,[(0,0),(3,0),(4,0),(5,0),(6,0),(7,0)]),(1004,[(0,0),(5,0),(6,0),(7,0),(16,0)]),(1005,[(2,0)]),(1006,[(0,0),(5,0),(6,0),(7,0)]),(1007,[(2,0)])] Tryz.func230 rfl rfl (by simp [Tryz.f230]) (by kernel_rfl) ?_
 simp only [Tryz.f230]
 refine sA ?_
 obtain ⟨y263,hl1,h⟩ := bind_ok h
 refine W_loopP (fun g255 : impl_distinct_G1 => ⟨[(0,(.lf true (.sl (a0.map eS)))),(5,(.lf true (.sl (a0.map eS)))),(6,(I ((a0.length : Nat) : Int))),(7,(I g255.t7))],[],0,18⟩) (impl_distinct_L1 a0) _ _ hl1 (weakA []) ?_
 ·intro n1 g255 z1 hs1 hk1
  unfold impl_distinct_L1 at hs1
  try dsimp only at hs1
  refine sA ?_
  refine Bs_if hs1 (fun hs1 hc2 => ?_) (fun hs1 hc2 => ?_)
  ·try refine sA ?_
   obtain ⟨hp3,hs1⟩ := guard_some hs1
   have hn3 : g255.t7.toNat < a0.length := by first | omega | (simp only [List.length_set,List.length_append,List.length_replicate,List.length_map]; omega)
   try refine sA ?_
   try refine andA ?_
   obtain ⟨hp4,hs1⟩ := guard_some hs1
   try refine sA ?_
   try refine andA ?_
   obtain ⟨c262,hr5,hs1⟩ := bind_ok hs1
   refine Cl_sA (w_slices_Contains_string hr5) ?_
   try refine sA ?_
   refine Bs_if hs1 (fun hs1 hc6 => ?_) (fun hs1 hc6 => ?_)
   ·try refine sA ?_
    cases hs1
    cases hk1
    try dsimp only at h
    try refine sA ?_
    obtain rfl:=Option.some.inj h
    exact endsA ⟨[(2,(B false))],[],0,18⟩ []
   ·try refine sA ?_
    cases hs1
    exact X_backP hk1 (weakA [])
  ·try refine sA ?_
   cases hs1
   cases hk1
   try dsimp only at h
   try refine sA ?_
   obtain rfl:=Option.some.inj h
   exact endsA ⟨[(2,(B true))],[],0,18⟩ []
theorem w_cmp_isNaN_string {a0 : ByteArray} {r : Bool} (h : cmp_isNaN_string a0 = some r) : Fn Tryz.prog 219 [(.lf false (.sc (.string a0)))] [] 0 (B r) [] 0 := by
 unfold cmp_isNaN_string at h
 refine fn_code tab_ok mixed [] Tryz.func219 rfl rfl (by simp [Tryz.f219]) (by kernel_rfl) ?_
 simp only [Tryz.f219]
 refine sA ?_
 obtain rfl:=Option.some.inj h
 exact endsA ⟨[(2,(B (!(a0.toList == a0.toList))))],[],0,6⟩ []
theorem w_cmp_Less_string {a0 : ByteArray} {a1 : ByteArray} {r : Bool} (h : cmp_Less_string a0 a1 = some r) : Fn Tryz.prog 226 [(.lf false (.sc (.string a0))),(.lf false (.sc (.string a1)))] [] 0 (B r) [] 0 := by
 unfold cmp_Less_string at h
 refine fn_code tab_ok mixed [] Tryz.func226 rfl rfl (by simp [Tryz.f226]) (by kernel_rfl) ?_
 simp only [Tryz.f226]
 refine sA ?_
 obtain ⟨c269,hr1,h⟩ := bind_ok h
 refine Cl_sA (w_cmp_isNaN_string hr1) ?_
 try refine sA ?_
 refine Sp_if h (fun h hc2 => ?_) (fun h hc2 => ?_)
 ·try refine sA ?_
  obtain ⟨c270,hr3,h⟩ := bind_ok h
  refine Cl_sA (w_cmp_isNaN_string hr3) ?_
  try refine sA ?_
  refine Sp_if h (fun h hc4 => ?_) (fun h hc4 => ?_)
  ·try refine sA ?_
   obtain rfl:=Option.some.inj h
   exact endsA ⟨[(4,(B true))],[],0,17⟩ []
  ·try refine sA ?_
   obtain rfl:=Option.some.inj h
   exact endsA ⟨[(4,(B (sLt a0 a1)))],[],0,17⟩ []
 ·try refine sA ?_
  obtain rfl:=Option.some.inj h
  exact endsA ⟨[(4,(B (sLt a0 a1)))],[],0,17⟩ []
theorem w_slices_IsSorted_string {a0 : (List ByteArray)} {r : Bool} (h : slices_IsSorted_string a0 = some r) : Fn Tryz.prog 231 [(.lf true (.sl (a0.map eS)))] [] 0 (B r) [] 0 := by
 unfold slices_IsSorted_string at h
 refine fn_code tab_ok mixed [(1000,[(0,0)]),(1001,[(0,0),(3,0)]),(1002,[(0,0),(3,0),(8,0)]),(1003,[(0,0),(3,0)]),(1004,[(0,0),(3,0),(20,0)]),(1005,[(2,0)]),(1006,[(2,0)])] Tryz.func231 rfl rfl (by simp [Tryz.f231]) (by kernel_rfl) ?_
 simp only [Tryz.f231]
 refine sA ?_
 obtain ⟨y273,hl1,h⟩ := bind_ok h
 refine W_loopP (fun g268 : slices_IsSorted_string_G1 => ⟨[(0,(.lf true (.sl (a0.map eS)))),(3,(I g268.t3))],[],0,21⟩) (slices_IsSorted_string_L1 a0) _ _ hl1 (weakA []) ?_
 ·intro n1 g268 z1 hs1 hk1
  unfold slices_IsSorted_string_L1 at hs1
  try dsimp only at hs1
  refine sA ?_
  refine Bs_if hs1 (fun hs1 hc2 => ?_) (fun hs1 hc2 => ?_)
  ·try refine sA ?_
   obtain ⟨hp3,hs1⟩ := guard_some hs1
   have hn3 : g268.t3.toNat < a0.length := by first | omega | (simp only [List.length_set,List.length_append,List.length_replicate,List.length_map]; omega)
   try refine sA ?_
   try refine andA ?_
   obtain ⟨hp4,hs1⟩ := guard_some hs1
   have hn4 : (wI (g268.t3 - 1)).toNat < a0.length := by first | omega | (simp only [List.length_set,List.length_append,List.length_replicate,List.length_map]; omega)
   try refine sA ?_
   try refine andA ?_
   obtain ⟨c272,hr5,hs1⟩ := bind_ok hs1
   refine Cl_sA (w_cmp_Less_string hr5) ?_
   try refine sA ?_
   refine Bs_if hs1 (fun hs1 hc6 => ?_) (fun hs1 hc6 => ?_)
   ·try refine sA ?_
    cases hs1
    cases hk1
    try dsimp only at h
    try refine sA ?_
    obtain rfl:=Option.some.inj h
    exact endsA ⟨[(2,(B false))],[],0,21⟩ []
   ·try refine sA ?_
    cases hs1
    exact X_backP hk1 (weakA [])
  ·try refine sA ?_
   cases hs1
   cases hk1
   try dsimp only at h
   try refine sA ?_
   obtain rfl:=Option.some.inj h
   exact endsA ⟨[(2,(B true))],[],0,21⟩ []
theorem w_impl_GoodState {a0 : StateT} {r : Bool} (h : impl_GoodState a0 = some r) : Fn Tryz.prog 202 [(.ag [(I a0.Status),(I a0.Next),(B a0.Cancel),(I a0.Done),(.lf true (.sl (a0.Signals.map eS))),(.lf true (.sl (a0.Timers.map eS)))])] [] 0 (B r) [] 0 := by
 unfold impl_GoodState at h
 refine fn_code tab_ok mixed [(1000,[(1,0)]),(1001,[(1,0),(18,0)]),(1002,[(2,0)]),(1003,[(1,0),(46,0)]),(1004,[(2,0)]),(1005,[(1,0),(49,0)]),(1006,[(2,0)]),(1007,[(2,0)]),(4001,[]),(4003,[])] Tryz.func202 rfl rfl (by simp [Tryz.f202]) (by kernel_rfl) ?_
 simp only [Tryz.f202]
 refine sA ?_
 obtain ⟨p243,hq1,h⟩ := bind_ok h
 refine Sq_cut (fun s2 => s2 = ⟨[(1,(.pb 0 0)),(18,(B p243.t18))],[(0,some (true,.box [(I a0.Status),(I a0.Next),(B a0.Cancel),(I a0.Done),(.lf true (.sl (a0.Signals.map eS))),(.lf true (.sl (a0.Timers.map eS)))]))],1,78⟩) ?_ ?_
 ·try refine sA ?_
  obtain ⟨c240,hr2,hq1⟩ := bind_ok hq1
  refine Cl_sA (w_impl_in hr2) ?_
  try refine sA ?_
  refine Sp_if hq1 (fun hq1 hc3 => ?_) (fun hq1 hc3 => ?_)
  ·try refine sA ?_
   cases hq1
   exact X_cut rfl (weakA [some 0])
  ·try refine sA ?_
   obtain ⟨c241,hr4,hq1⟩ := bind_ok hq1
   refine Cl_sA (w_impl_in hr4) ?_
   try refine sA ?_
   refine Sp_if hq1 (fun hq1 hc5 => ?_) (fun hq1 hc5 => ?_)
   ·try refine sA ?_
    cases hq1
    exact X_cut rfl (weakA [some 0])
   ·try refine sA ?_
    obtain ⟨c242,hr6,hq1⟩ := bind_ok hq1
    refine Cl_sA (w_impl_in hr6) ?_
    try refine sA ?_
    cases hq1
    exact X_cut rfl (weakA [some 0])
 ·intro s2 hJ; subst hJ
  try dsimp only at h
  try refine sA ?_
  refine Bs_if h (fun h hc7 => ?_) (fun h hc7 => ?_)
  ·try refine sA ?_
   obtain rfl:=Option.some.inj h
   exact endsA ⟨[(2,(B false))],[],0,78⟩ []
  ·try refine sA ?_
   obtain ⟨p278,hq8,h⟩ := bind_ok h
   refine Sq_cut (fun s2 => s2 = ⟨[(1,(.pb 0 0)),(46,(B p278.t46))],[(0,some (true,.box [(I a0.Status),(I a0.Next),(B a0.Cancel),(I a0.Done),(.lf true (.sl (a0.Signals.map eS))),(.lf true (.sl (a0.Timers.map eS)))]))],1,78⟩) ?_ ?_
   ·try refine sA ?_
    obtain ⟨c254,hr9,hq8⟩ := bind_ok hq8
    refine Cl_sA (w_impl_namesOk hr9) ?_
    try refine sA ?_
    refine Sp_if hq8 (fun hq8 hc10 => ?_) (fun hq8 hc10 => ?_)
    ·try refine sA ?_
     cases hq8
     exact X_cut rfl (weakA [some 0])
    ·try refine sA ?_
     obtain ⟨c266,hr11,hq8⟩ := bind_ok hq8
     refine Cl_sA (w_impl_distinct hr11) ?_
     try refine sA ?_
     refine Sp_if hq8 (fun hq8 hc12 => ?_) (fun hq8 hc12 => ?_)
     ·try refine sA ?_
      cases hq8
      exact X_cut rfl (weakA [some 0])
     ·try refine sA ?_
      obtain ⟨c267,hr13,hq8⟩ := bind_ok hq8
      refine Cl_sA (w_impl_namesOk hr13) ?_
      try refine sA ?_
      refine Sp_if hq8 (fun hq8 hc14 => ?_) (fun hq8 hc14 => ?_)
      ·try refine sA ?_
       cases hq8
       exact X_cut rfl (weakA [some 0])
      ·try refine sA ?_
       obtain ⟨c276,hr15,hq8⟩ := bind_ok hq8
       refine Cl_sA (w_slices_IsSorted_string hr15) ?_
       try refine sA ?_
       refine Sp_if hq8 (fun hq8 hc16 => ?_) (fun hq8 hc16 => ?_)
       ·try refine sA ?_
        cases hq8
        exact X_cut rfl (weakA [some 0])
       ·try refine sA ?_
        obtain ⟨c277,hr17,hq8⟩ := bind_ok hq8
        refine Cl_sA (w_impl_distinct hr17) ?_
        try refine sA ?_
        cases hq8
        exact X_cut rfl (weakA [some 0])
   ·intro s2 hJ; subst hJ
    try dsimp only at h
    try refine sA ?_
    refine Bs_if h (fun h hc18 => ?_) (fun h hc18 => ?_)
    ·try refine sA ?_
     obtain rfl:=Option.some.inj h
     exact endsA ⟨[(2,(B false))],[],0,78⟩ []
    ·try refine sA ?_
     refine Bs_if h (fun h hc19 => ?_) (fun h hc19 => ?_)
     ·try refine sA ?_
      obtain rfl:=Option.some.inj h
      exact endsA ⟨[(2,(B (decide (a0.Next > 1))))],[],0,78⟩ []
     ·try refine sA ?_
      refine Sp_if h (fun h hc20 => ?_) (fun h hc20 => ?_)
      ·try refine sA ?_
       refine Sp_if h (fun h hc21 => ?_) (fun h hc21 => ?_)
       ·try refine sA ?_
        refine Sp_if h (fun h hc22 => ?_) (fun h hc22 => ?_)
        ·try refine sA ?_
         refine Sp_if h (fun h hc23 => ?_) (fun h hc23 => ?_)
         ·try refine sA ?_
          obtain rfl:=Option.some.inj h
          exact endsA ⟨[(2,(B (((a0.Timers.length : Nat) : Int) == 0)))],[],0,78⟩ []
         ·try refine sA ?_
          obtain rfl:=Option.some.inj h
          exact endsA ⟨[(2,(B false))],[],0,78⟩ []
        ·try refine sA ?_
         obtain rfl:=Option.some.inj h
         exact endsA ⟨[(2,(B false))],[],0,78⟩ []
       ·try refine sA ?_
        obtain rfl:=Option.some.inj h
        exact endsA ⟨[(2,(B false))],[],0,78⟩ []
      ·try refine sA ?_
       obtain rfl:=Option.some.inj h
       exact endsA ⟨[(2,(B false))],[],0,78⟩ []
theorem w_impl_goodKind {a0 : Int} {r : Bool} (h : impl_goodKind a0 = some r) : Fn Tryz.prog 232 [(I a0)] [] 0 (B r) [] 0 := by
 unfold impl_goodKind at h
 refine fn_code tab_ok mixed [] Tryz.func232 rfl rfl (by simp [Tryz.f232]) (by kernel_rfl) ?_
 simp only [Tryz.f232]
 refine sA ?_
 obtain ⟨c282,hr1,h⟩ := bind_ok h
 refine Cl_sA (w_impl_in hr1) ?_
 try refine sA ?_
 obtain rfl:=Option.some.inj h
 exact endsA ⟨[(2,(B c282))],[],0,5⟩ []
theorem w_impl_GoodEvent {a0 : EventT} {r : Bool} (h : impl_GoodEvent a0 = some r) : Fn Tryz.prog 203 [(.ag [(I a0.Id),(I a0.Version),(I a0.Kind),(.lf false (.sc (.string a0.Name)))])] [] 0 (B r) [] 0 := by
 unfold impl_GoodEvent at h
 refine fn_code tab_ok mixed [] Tryz.func203 rfl rfl (by simp [Tryz.f203]) (by kernel_rfl) ?_
 simp only [Tryz.f203]
 refine sA ?_
 obtain ⟨c280,hr1,h⟩ := bind_ok h
 refine Cl_sA (w_impl_in hr1) ?_
 try refine sA ?_
 refine Sp_if h (fun h hc2 => ?_) (fun h hc2 => ?_)
 ·try refine sA ?_
  obtain ⟨c281,hr3,h⟩ := bind_ok h
  refine Cl_sA (w_impl_isVersion hr3) ?_
  try refine sA ?_
  refine Sp_if h (fun h hc4 => ?_) (fun h hc4 => ?_)
  ·try refine sA ?_
   obtain ⟨c283,hr5,h⟩ := bind_ok h
   refine Cl_sA (w_impl_goodKind hr5) ?_
   try refine sA ?_
   refine Sp_if h (fun h hc6 => ?_) (fun h hc6 => ?_)
   ·try refine sA ?_
    obtain ⟨c284,hr7,h⟩ := bind_ok h
    refine Cl_sA (w_impl_goodName hr7) ?_
    try refine sA ?_
    obtain rfl:=Option.some.inj h
    exact endsA ⟨[(2,(B c284))],[],0,21⟩ []
   ·try refine sA ?_
    obtain rfl:=Option.some.inj h
    exact endsA ⟨[(2,(B false))],[],0,21⟩ []
  ·try refine sA ?_
   obtain rfl:=Option.some.inj h
   exact endsA ⟨[(2,(B false))],[],0,21⟩ []
 ·try refine sA ?_
  obtain rfl:=Option.some.inj h
  exact endsA ⟨[(2,(B false))],[],0,21⟩ []
theorem w_slices_Clone_string {a0 : (List ByteArray)} {r : (List ByteArray)} (h : slices_Clone_string a0 = some r) : Fn Tryz.prog 234 [(.lf true (.sl (a0.map eS)))] [] 0 (.os 0 1 0 r.length r.length false) [(0,some (true,.arr false 1 (r.map eS)))] 1 := by
 unfold slices_Clone_string at h
 obtain ⟨hp,h⟩ := guard_some h
 have he := Option.some.inj h; subst he
 refine fn_code tab_ok mixed [] Tryz.func234 rfl rfl (by simp [Tryz.f234]) (by kernel_rfl) ?_
 simp only [Tryz.f234]
 simp (disch := assumption) only [go_sem,Nat.reduceAdd,Nat.reduceMul,Nat.reduceSub,Nat.reduceEqDiff,↓reduceIte,Nat.reduceLT,reduceCtorEq,Nat.reduceLeDiff,Int.reduceToNat,Int.reduceEq,Int.reduceLE,Int.reduceLT,Nat.reduceBEq]
 intro b hb
 refine Bs_splitC (b = true) (by simp) (fun hc => ?_) (fun hc => ?_)
 ·have h0 : a0 = [] := by simpa using hb (by simpa using hc)
  subst h0
  try simp (disch := assumption) only [go_sem,Nat.reduceAdd,Nat.reduceMul,Nat.reduceSub,Nat.reduceEqDiff,↓reduceIte,Nat.reduceLT,reduceCtorEq,Nat.reduceLeDiff,Int.reduceToNat,Int.reduceEq,Int.reduceLE,Int.reduceLT,Nat.reduceBEq]
  refine ends_weak ⟨[(2,(.os 0 1 0 0 0 false))],[(0,some (true,.arr false 1 (([] : List ByteArray).map eS)))],1,8⟩ (weak_of (m := 0) [none] rfl rfl rfl (by rfl) ?_ ?_) ?_
  all_goals ((try simp (disch := assumption) only [go_sem,Nat.reduceAdd,Nat.reduceMul,Nat.reduceSub,Nat.reduceEqDiff,↓reduceIte,Nat.reduceLT,reduceCtorEq,Nat.reduceLeDiff,Int.reduceToNat,Int.reduceEq,Int.reduceLE,Int.reduceLT,Nat.reduceBEq]); (repeat' first | done | rfl | omega | refine And.intro ?_ ?_ | (simp; done) | (simp; omega)))
 ·try simp (disch := assumption) only [go_sem,Nat.reduceAdd,Nat.reduceMul,Nat.reduceSub,Nat.reduceEqDiff,↓reduceIte,Nat.reduceLT,reduceCtorEq,Nat.reduceLeDiff,Int.reduceToNat,Int.reduceEq,Int.reduceLE,Int.reduceLT,Nat.reduceBEq]
  first | refine And.intro (by first | omega | exact ⟨by omega,fun _ => mapLen fun _ => rfl⟩ | (refine ⟨?_,by omega⟩; first | exact mapLen fun _ => rfl | simp)) ?_ | skip
  try simp (disch := assumption) only [go_sem,Nat.reduceAdd,Nat.reduceMul,Nat.reduceSub,Nat.reduceEqDiff,↓reduceIte,Nat.reduceLT,reduceCtorEq,Nat.reduceLeDiff,Int.reduceToNat,Int.reduceEq,Int.reduceLE,Int.reduceLT,Nat.reduceBEq]
  refine ends_weak ⟨[(2,(.os 0 1 0 a0.length a0.length false))],[(0,some (true,.arr false 1 (a0.map eS)))],1,8⟩ (weak_of (m := 0) [some 1] rfl rfl rfl (by rfl) ?_ ?_) ?_
  all_goals ((try simp (disch := assumption) only [go_sem,Nat.reduceAdd,Nat.reduceMul,Nat.reduceSub,Nat.reduceEqDiff,↓reduceIte,Nat.reduceLT,reduceCtorEq,Nat.reduceLeDiff,Int.reduceToNat,Int.reduceEq,Int.reduceLE,Int.reduceLT,Nat.reduceBEq]); (repeat' first | done | rfl | omega | refine And.intro ?_ ?_ | (simp; done) | (simp; omega)))
theorem w_impl_cloneState {a0 : StateT} {r : StateT} (h : impl_cloneState a0 = some r) : Fn Tryz.prog 204 [(.ag [(I a0.Status),(I a0.Next),(B a0.Cancel),(I a0.Done),(.lf true (.sl (a0.Signals.map eS))),(.lf true (.sl (a0.Timers.map eS)))])] [] 0 (.ag [(I r.Status),(I r.Next),(B r.Cancel),(I r.Done),(.os 0 1 0 r.Signals.length r.Signals.length false),(.os 1 1 0 r.Timers.length r.Timers.length false)]) [(0,some (true,.arr false 1 (r.Signals.map eS))),(1,some (true,.arr false 1 (r.Timers.map eS)))] 3 := by
 unfold impl_cloneState at h
 refine fn_code tab_ok mixed [(1,[(4,2)]),(1000,[(1,0),(2,0)]),(1001,[(1,0),(2,0)]),(1002,[(2,0)])] Tryz.func204 rfl rfl (by simp [Tryz.f204]) (by kernel_rfl) ?_
 simp only [Tryz.f204]
 refine sA ?_
 obtain ⟨c287,hr1,h⟩ := bind_ok h
 refine Cl_sA (w_slices_Clone_string hr1) ?_
 try refine sA ?_
 obtain ⟨c288,hr2,h⟩ := bind_ok h
 refine Cl_sA (w_slices_Clone_string hr2) ?_
 try refine sA ?_
 obtain rfl:=Option.some.inj h
 exact endsA ⟨[(2,(.pb 2 0))],[(0,some (true,.arr false 1 (c287.map eS))),(1,some (true,.arr false 1 (c288.map eS))),(2,some (true,.box [(I a0.Status),(I a0.Next),(B a0.Cancel),(I a0.Done),(.os 0 1 0 c287.length c287.length false),(.os 1 1 0 c288.length c288.length false)]))],3,12⟩ [some 2,some 3,some 1]
theorem w_slices_isNaN_string {a0 : ByteArray} {r : Bool} (h : slices_isNaN_string a0 = some r) : Fn Tryz.prog 260 [(.lf false (.sc (.string a0)))] [] 0 (B r) [] 0 := by
 unfold slices_isNaN_string at h
 refine fn_code tab_ok mixed [] Tryz.func260 rfl rfl (by simp [Tryz.f260]) (by kernel_rfl) ?_
 simp only [Tryz.f260]
 refine sA ?_
 obtain rfl:=Option.some.inj h
 exact endsA ⟨[(2,(B (!(a0.toList == a0.toList))))],[],0,6⟩ []
theorem w_slices_BinarySearch_string {a0 : (List ByteArray)} {a1 : ByteArray} {r : (Int × Bool)} (h : slices_BinarySearch_string a0 a1 = some r) : Fn Tryz.prog 247 [(.lf true (.sl (a0.map eS))),(.lf false (.sc (.string a1)))] [] 0 (.tu [(I r.1),(B r.2)]) [] 0 := by
 unfold slices_BinarySearch_string at h
 refine fn_code tab_ok mixed [(1000,[(0,0),(1,0)]),(1001,[(0,0),(1,0),(6,0)]),(1002,[(0,0),(1,0),(6,0),(7,0),(8,0)]),(1003,[(0,0),(1,0),(6,0),(7,0),(8,0),(15,0)]),(1004,[(0,0),(1,0),(6,0),(7,0),(8,0),(9,0)]),(1005,[(0,0),(1,0),(6,0),(7,0),(8,0),(9,0),(27,0)]),(1006,[(0,0),(1,0),(6,0),(7,0),(8,0)]),(1007,[(0,0),(1,0),(6,0),(7,0),(8,0)]),(1008,[(4,0),(5,0)])] Tryz.func247 rfl rfl (by simp [Tryz.f247]) (by kernel_rfl) ?_
 simp only [Tryz.f247]
 refine sA ?_
 obtain ⟨y296,hl1,h⟩ := bind_ok h
 refine W_loopP (fun g293 : slices_BinarySearch_string_G1 => ⟨[(0,(.lf true (.sl (a0.map eS)))),(1,(.lf false (.sc (.string a1)))),(6,(I ((a0.length : Nat) : Int))),(7,(I g293.t7)),(8,(I g293.t8))],[],0,54⟩) (slices_BinarySearch_string_L1 a0 a1) _ _ hl1 (weakA []) ?_
 ·intro n1 g293 z1 hs1 hk1
  unfold slices_BinarySearch_string_L1 at hs1
  try dsimp only at hs1
  refine sA ?_
  refine Bs_if hs1 (fun hs1 hc2 => ?_) (fun hs1 hc2 => ?_)
  ·try refine sA ?_
   obtain ⟨hp3,hs1⟩ := guard_some hs1
   have hn3 : (wI (shR 64 (wU (wI (g293.t7 + g293.t8))) 1)).toNat < a0.length := by first | omega | (simp only [List.length_set,List.length_append,List.length_replicate,List.length_map]; omega)
   try refine sA ?_
   try refine andA ?_
   obtain ⟨c295,hr4,hs1⟩ := bind_ok hs1
   refine Cl_sA (w_cmp_Less_string hr4) ?_
   try refine sA ?_
   refine Bs_if hs1 (fun hs1 hc5 => ?_) (fun hs1 hc5 => ?_)
   ·try refine sA ?_
    cases hs1
    exact X_backP hk1 (weakA [])
   ·try refine sA ?_
    cases hs1
    exact X_backP hk1 (weakA [])
  ·try refine sA ?_
   cases hs1
   cases hk1
   try dsimp only at h
   try refine sA ?_
   refine Sp_if h (fun h hc6 => ?_) (fun h hc6 => ?_)
   ·try refine sA ?_
    obtain ⟨hp7,h⟩ := guard_some h
    have hn7 : g293.t7.toNat < a0.length := by first | omega | (simp only [List.length_set,List.length_append,List.length_replicate,List.length_map]; omega)
    try refine sA ?_
    try refine andA ?_
    refine Sp_if h (fun h hc8 => ?_) (fun h hc8 => ?_)
    ·try refine sA ?_
     obtain rfl:=Option.some.inj h
     exact endsA ⟨[(4,(I g293.t7)),(5,(B true))],[],0,54⟩ []
    ·try refine sA ?_
     obtain ⟨hp9,h⟩ := guard_some h
     have hn9 : g293.t7.toNat < a0.length := by first | omega | (simp only [List.length_set,List.length_append,List.length_replicate,List.length_map]; omega)
     try refine sA ?_
     try refine andA ?_
     obtain ⟨c299,hr10,h⟩ := bind_ok h
     refine Cl_sA (w_slices_isNaN_string hr10) ?_
     try refine sA ?_
     refine Sp_if h (fun h hc11 => ?_) (fun h hc11 => ?_)
     ·try refine sA ?_
      obtain ⟨c300,hr12,h⟩ := bind_ok h
      refine Cl_sA (w_slices_isNaN_string hr12) ?_
      try refine sA ?_
      obtain rfl:=Option.some.inj h
      exact endsA ⟨[(4,(I g293.t7)),(5,(B c300))],[],0,54⟩ []
     ·try refine sA ?_
      obtain rfl:=Option.some.inj h
      exact endsA ⟨[(4,(I g293.t7)),(5,(B false))],[],0,54⟩ []
   ·try refine sA ?_
    obtain rfl:=Option.some.inj h
    exact endsA ⟨[(4,(I g293.t7)),(5,(B false))],[],0,54⟩ []
theorem w_slices_Delete_string_w {a0 : List ByteArray} {a1 a2 : Int} {m0 : Nat} {x0 : Bool} {r : List ByteArray} (h : slices_Delete_string_w a0 a1 a2 = some r) : Fn Tryz.prog 248 [(.os 0 1 0 a0.length m0 x0),(I a1),(I a2)] [(0,some (false,.arr true 1 (a0.map eS)))] 1 (.os 1 1 0 r.length r.length false) [(0,none),(1,some (false,.arr false 1 (r.map eS)))] 2 := by
 unfold slices_Delete_string_w at h
 obtain ⟨⟨hp1,hp2,hp3,hp4⟩,h⟩ := guard_some h
 have he := Option.some.inj h; subst he
 refine fn_code tab_ok mixed [] Tryz.func248 rfl rfl (by simp [Tryz.f248]) (by kernel_rfl) ?_
 simp only [Tryz.f248]
 simp (disch := assumption) only [go_sem,Nat.reduceAdd,Nat.reduceMul,Nat.reduceSub,Nat.reduceEqDiff,↓reduceIte,Nat.reduceLT,reduceCtorEq,Nat.reduceLeDiff,Int.reduceToNat,Int.reduceEq,Int.reduceLE,Int.reduceLT,Nat.reduceBEq]
 refine And.intro (by omega) ?_
 try simp (disch := assumption) only [go_sem,Nat.reduceAdd,Nat.reduceMul,Nat.reduceSub,Nat.reduceEqDiff,↓reduceIte,Nat.reduceLT,reduceCtorEq,Nat.reduceLeDiff,Int.reduceToNat,Int.reduceEq,Int.reduceLE,Int.reduceLT,Nat.reduceBEq]
 refine Bs_splitC (a1 == a2) (by first | rfl | simp) (fun hc => ?_) (fun hc => ?_)
 ·try simp (disch := assumption) only [go_sem,Nat.reduceAdd,Nat.reduceMul,Nat.reduceSub,Nat.reduceEqDiff,↓reduceIte,Nat.reduceLT,reduceCtorEq,Nat.reduceLeDiff,Int.reduceToNat,Int.reduceEq,Int.reduceLE,Int.reduceLT,Nat.reduceBEq]
  have he : a1 = a2 := by simpa using hc
  have hr : a0.take a1.toNat ++ a0.drop a2.toNat = a0 := by rw [he]; exact List.take_append_drop _ _
  rw [hr]
  refine ends_weak ⟨[(6,(.os 1 1 0 a0.length a0.length false))],[(0,none),(1,some (false,.arr false 1 (a0.map eS)))],2,33⟩ (weak_of (m := 1) [some 0,some 0] rfl rfl rfl (by rfl) ?_ ?_) ?_
  all_goals ((try simp (disch := assumption) only [go_sem,Nat.reduceAdd,Nat.reduceMul,Nat.reduceSub,Nat.reduceEqDiff,↓reduceIte,Nat.reduceLT,reduceCtorEq,Nat.reduceLeDiff,Int.reduceToNat,Int.reduceEq,Int.reduceLE,Int.reduceLT,Nat.reduceBEq]); (repeat' first | done | rfl | omega | refine And.intro ?_ ?_ | (simp; done) | (simp; omega)))
 ·try simp (disch := assumption) only [go_sem,Nat.reduceAdd,Nat.reduceMul,Nat.reduceSub,Nat.reduceEqDiff,↓reduceIte,Nat.reduceLT,reduceCtorEq,Nat.reduceLeDiff,Int.reduceToNat,Int.reduceEq,Int.reduceLE,Int.reduceLT,Nat.reduceBEq]
  refine And.intro (by omega) (And.intro (by omega) ?_)
  have hs : a2.toNat + (a0.length - a2.toNat) ≤ a0.length := by omega
  simp (disch := assumption) only [go_sem,Nat.reduceAdd,Nat.reduceMul,Nat.reduceSub,Nat.reduceEqDiff,↓reduceIte,Nat.reduceLT,reduceCtorEq,Nat.reduceLeDiff,Int.reduceToNat,Int.reduceEq,Int.reduceLE,Int.reduceLT,Nat.reduceBEq,hs]
  have hd : (a0.drop a2.toNat).length = a0.length - a2.toNat := List.length_drop
  have ht : (a0.take a1.toNat).length = a1.toNat := by rw [List.length_take]; omega
  have hR : (a0.take a1.toNat ++ a0.drop a2.toNat).length = a1.toNat + (a0.drop a2.toNat).length := by rw [List.length_append,ht]
  refine And.intro ⟨by omega,(by first | exact mapLen fun _ => rfl | simp),by omega⟩ (And.intro ⟨by omega,by omega,by omega⟩ (And.intro (by omega) ?_))
  refine ends_weak ⟨[(6,(.os 1 1 0 (a0.take a1.toNat ++ a0.drop a2.toNat).length (a0.take a1.toNat ++ a0.drop a2.toNat).length false))],[(0,none),(1,some (false,.arr false 1 ((a0.take a1.toNat ++ a0.drop a2.toNat).map eS)))],2,33⟩ (weak_of (m := 1) [some 0,some 1] rfl rfl rfl (by rfl) ?_ ?_) ?_
  all_goals ((try simp (disch := assumption) only [go_sem,Nat.reduceAdd,Nat.reduceMul,Nat.reduceSub,Nat.reduceEqDiff,↓reduceIte,Nat.reduceLT,reduceCtorEq,Nat.reduceLeDiff,Int.reduceToNat,Int.reduceEq,Int.reduceLE,Int.reduceLT,Nat.reduceBEq]); (repeat' first | done | rfl | omega | refine And.intro ?_ ?_ | (simp; done) | (simp; omega)))
theorem w_slices_Insert_string_w {a0 : List ByteArray} {a1 : Int} {a2 : List ByteArray} {m0 m2 : Nat} {x0 x2 : Bool} {r : List ByteArray} (h : slices_Insert_string_w a0 a1 a2 = some r) : Fn Tryz.prog 249 [(.os 0 1 0 a0.length m0 x0),(I a1),(.os 1 1 0 a2.length m2 x2)] [(0,some (false,.arr true 1 (a0.map eS))),(1,some (false,.arr true 1 (a2.map eS)))] 2 (.os 2 1 0 r.length r.length false) [(0,none),(1,none),(2,some (false,.arr false 1 (r.map eS)))] 3 := by
 unfold slices_Insert_string_w at h
 obtain ⟨⟨hp1,hp2,hp3,hp4⟩,h⟩ := guard_some h
 have he := Option.some.inj h; subst he
 obtain ⟨x,rfl⟩ := List.length_eq_one_iff.1 hp1
 rw [List.append_assoc,List.singleton_append]
 exact fn_insert Go.Proofs.Tryz.lays22 (Ent.of Tryz.func249 rfl (by simp [Tryz.f249])) (fun _ => rfl) hp2 hp3 hp4
theorem w_impl_State_turnTimer_o {a0 : StateT} {a1 : ByteArray} {m1 : Nat} {x1 : Bool} {m2 : Nat} {x2 : Bool} {r : (Bool × StateT)} (h : impl_State_turnTimer_o a0 a1 = some r) : Fn Tryz.prog 235 [(.pb 0 0),(.lf false (.sc (.string a1)))] [(0,some (false,.box [(I a0.Status),(I a0.Next),(B a0.Cancel),(I a0.Done),(.os 1 1 0 a0.Signals.length m1 x1),(.os 2 1 0 a0.Timers.length m2 x2)])),(1,some (false,.arr true 1 (a0.Signals.map eS))),(2,some (false,.arr true 1 (a0.Timers.map eS)))] 3 (B r.1) [(0,some (false,.box [(I r.2.Status),(I r.2.Next),(B r.2.Cancel),(I r.2.Done),(.os 1 1 0 a0.Signals.length a0.Signals.length false),(.os 3 1 0 r.2.Timers.length r.2.Timers.length false)])),(1,some (false,.arr false 1 (a0.Signals.map eS))),(2,none),(3,some (false,.arr false 1 (r.2.Timers.map eS)))] 4 := by
 unfold impl_State_turnTimer_o at h
 refine fn_code tab_ok mixed [(1000,[(0,0),(1,0)]),(1001,[(0,0),(1,0),(5,0),(6,0)]),(1002,[]),(1003,[(0,0),(1,0),(5,0),(27,0)]),(1004,[]),(1005,[(0,0),(1,0),(5,0),(40,0)]),(1006,[(4,0)]),(1007,[(4,0)])] Tryz.func235 rfl rfl (by simp [Tryz.f235]) (by kernel_rfl) ?_
 simp only [Tryz.f235]
 refine sA ?_
 obtain ⟨c301,hr1,h⟩ := bind_ok h
 refine Cl_sA (w_slices_BinarySearch_string hr1) ?_
 try refine sA ?_
 refine Bs_if h (fun h hc2 => ?_) (fun h hc2 => ?_)
 ·try refine sA ?_
  obtain ⟨c302,hr3,h⟩ := bind_ok h
  refine Cl_hA [2] (w_slices_Delete_string_w hr3) ?_
  try refine sA ?_
  obtain rfl:=Option.some.inj h
  exact endsA ⟨[(4,(B true))],[(0,some (false,.box [(I a0.Status),(I a0.Next),(B a0.Cancel),(I a0.Done),(.os 1 1 0 a0.Signals.length a0.Signals.length false),(.os 3 1 0 c302.length c302.length false)])),(1,some (false,.arr false 1 (a0.Signals.map eS))),(2,none),(3,some (false,.arr false 1 (c302.map eS)))],4,47⟩ [some 0,some 1,some 2,some 3]
 ·try refine sA ?_
  refine Bs_if h (fun h hc4 => ?_) (fun h hc4 => ?_)
  ·try refine sA ?_
   obtain rfl:=Option.some.inj h
   exact endsA ⟨[(4,(B false))],[(0,some (false,.box [(I a0.Status),(I a0.Next),(B a0.Cancel),(I a0.Done),(.os 1 1 0 a0.Signals.length a0.Signals.length false),(.os 3 1 0 a0.Timers.length a0.Timers.length false)])),(1,some (false,.arr false 1 (a0.Signals.map eS))),(2,none),(3,some (false,.arr false 1 (a0.Timers.map eS)))],4,47⟩ [some 0,some 1,some 2,some 2]
  ·try refine sA ?_
   obtain ⟨c303,hr5,h⟩ := bind_ok h
   refine Cl_hA [2,3] (w_slices_Insert_string_w hr5) ?_
   try refine sA ?_
   obtain rfl:=Option.some.inj h
   exact endsA ⟨[(4,(B true))],[(0,some (false,.box [(I a0.Status),(I a0.Next),(B a0.Cancel),(I a0.Done),(.os 1 1 0 a0.Signals.length a0.Signals.length false),(.os 3 1 0 c303.length c303.length false)])),(1,some (false,.arr false 1 (a0.Signals.map eS))),(2,none),(3,some (false,.arr false 1 (c303.map eS)))],4,47⟩ [some 0,some 1,some 2,some 4]
theorem w_impl_State_apply_o {a0 : StateT} {a1 : Int} {a2 : ByteArray} {m1 : Nat} {x1 : Bool} {m2 : Nat} {x2 : Bool} {r : (Bool × StateT)} (h : impl_State_apply_o a0 a1 a2 = some r) : Fn Tryz.prog 205 [(.pb 0 0),(I a1),(.lf false (.sc (.string a2)))] [(0,some (false,.box [(I a0.Status),(I a0.Next),(B a0.Cancel),(I a0.Done),(.os 1 1 0 a0.Signals.length m1 x1),(.os 2 1 0 a0.Timers.length m2 x2)])),(1,some (false,.arr true 1 (a0.Signals.map eS))),(2,some (false,.arr true 1 (a0.Timers.map eS)))] 3 (B r.1) [(0,some (false,.box [(I r.2.Status),(I r.2.Next),(B r.2.Cancel),(I r.2.Done),(.os 3 1 0 r.2.Signals.length r.2.Signals.length false),(.os 4 1 0 r.2.Timers.length r.2.Timers.length false)])),(1,none),(2,none),(3,some (false,.arr false 1 (r.2.Signals.map eS))),(4,some (false,.arr false 1 (r.2.Timers.map eS)))] 5 := by
 unfold impl_State_apply_o at h
 refine fn_code tab_ok mixed [(1000,[(0,0),(1,0),(2,0)]),(1001,[(0,0),(1,0),(2,0),(32,0)]),(1002,[(6,0)]),(1003,[(0,0),(2,0),(33,0)]),(1004,[(0,0),(2,0),(33,0),(34,0)]),(1005,[(0,0)]),(1006,[(0,0),(2,0),(33,0),(39,0)]),(1007,[(0,0),(2,0),(54,0)]),(1008,[(6,0)]),(1009,[(0,0)]),(1010,[(0,0),(2,0),(33,0),(65,0)]),(1011,[(0,0)]),(1012,[(0,0),(2,0),(33,0),(74,0)]),(1013,[(0,0),(79,0)]),(1014,[(6,0)]),(1015,[(0,0),(33,0),(80,0)]),(1016,[(0,0),(85,0)]),(1017,[(6,0)]),(1018,[(0,0)]),(1019,[(0,0),(89,0)]),(1020,[(0,0)]),(1021,[]),(1022,[(6,0)]),(4001,[]),(4007,[])] Tryz.func205 rfl rfl (by simp [Tryz.f205]) (by kernel_rfl) ?_
 simp only [Tryz.f205]
 refine sA ?_
 obtain ⟨p290,hq1,h⟩ := bind_ok h
 refine Sq_cut (fun s2 => s2 = ⟨[(0,(.pb 0 0)),(1,(I a1)),(2,(.lf false (.sc (.string a2)))),(32,(B p290.t32))],[(0,some (false,.box [(I a0.Status),(I a0.Next),(B a0.Cancel),(I a0.Done),(.os 1 1 0 a0.Signals.length m1 x1),(.os 2 1 0 a0.Timers.length m2 x2)])),(1,some (false,.arr true 1 (a0.Signals.map eS))),(2,some (false,.arr true 1 (a0.Timers.map eS)))],3,104⟩) ?_ ?_
 ·try refine sA ?_
  refine Sp_if hq1 (fun hq1 hc2 => ?_) (fun hq1 hc2 => ?_)
  ·try refine sA ?_
   cases hq1
   exact X_cut rfl (weakA [some 0,some 1,some 2])
  ·try refine sA ?_
   refine Sp_if hq1 (fun hq1 hc3 => ?_) (fun hq1 hc3 => ?_)
   ·try refine sA ?_
    cases hq1
    exact X_cut rfl (weakA [some 0,some 1,some 2])
   ·try refine sA ?_
    refine Sp_if hq1 (fun hq1 hc4 => ?_) (fun hq1 hc4 => ?_)
    ·try refine sA ?_
     cases hq1
     exact X_cut rfl (weakA [some 0,some 1,some 2])
    ·try refine sA ?_
     cases hq1
     exact X_cut rfl (weakA [some 0,some 1,some 2])
 ·intro s2 hJ; subst hJ
  try dsimp only at h
  try refine sA ?_
  refine Bs_if h (fun h hc5 => ?_) (fun h hc5 => ?_)
  ·try refine sA ?_
   obtain rfl:=Option.some.inj h
   exact endsA ⟨[(6,(B false))],[(0,some (false,.box [(I a0.Status),(I a0.Next),(B a0.Cancel),(I a0.Done),(.os 3 1 0 a0.Signals.length a0.Signals.length false),(.os 4 1 0 a0.Timers.length a0.Timers.length false)])),(1,none),(2,none),(3,some (false,.arr false 1 (a0.Signals.map eS))),(4,some (false,.arr false 1 (a0.Timers.map eS)))],5,104⟩ [some 0,some 1,some 2,some 1,some 2]
  ·try refine sA ?_
   refine Bs_if h (fun h hc6 => ?_) (fun h hc6 => ?_)
   ·try refine sA ?_
    obtain rfl:=Option.some.inj h
    exact endsA ⟨[(6,(B true))],[(0,some (false,.box [(I 1),(I (wI (a0.Next + 1))),(B a0.Cancel),(I a0.Done),(.os 3 1 0 a0.Signals.length a0.Signals.length false),(.os 4 1 0 a0.Timers.length a0.Timers.length false)])),(1,none),(2,none),(3,some (false,.arr false 1 (a0.Signals.map eS))),(4,some (false,.arr false 1 (a0.Timers.map eS)))],5,104⟩ [some 0,some 1,some 2,some 1,some 2]
   ·try refine sA ?_
    refine Bs_if h (fun h hc7 => ?_) (fun h hc7 => ?_)
    ·try refine sA ?_
     obtain ⟨p292,hq8,h⟩ := bind_ok h
     refine Sq_cut (fun s2 => s2 = ⟨[(0,(.pb 0 0)),(2,(.lf false (.sc (.string a2)))),(54,(B p292.t54))],[(0,some (false,.box [(I a0.Status),(I a0.Next),(B a0.Cancel),(I a0.Done),(.os 1 1 0 a0.Signals.length m1 x1),(.os 2 1 0 a0.Timers.length m2 x2)])),(1,some (false,.arr true 1 (a0.Signals.map eS))),(2,some (false,.arr true 1 (a0.Timers.map eS)))],3,104⟩) ?_ ?_
     ·try refine sA ?_
      obtain ⟨c291,hr9,hq8⟩ := bind_ok hq8
      refine Cl_sA (w_slices_Contains_string hr9) ?_
      try refine sA ?_
      refine Sp_if hq8 (fun hq8 hc10 => ?_) (fun hq8 hc10 => ?_)
      ·try refine sA ?_
       cases hq8
       exact X_cut rfl (weakA [some 0,some 1,some 2])
      ·try refine sA ?_
       cases hq8
       exact X_cut rfl (weakA [some 0,some 1,some 2])
     ·intro s2 hJ; subst hJ
      try dsimp only at h
      try refine sA ?_
      refine Bs_if h (fun h hc11 => ?_) (fun h hc11 => ?_)
      ·try refine sA ?_
       obtain rfl:=Option.some.inj h
       exact endsA ⟨[(6,(B false))],[(0,some (false,.box [(I a0.Status),(I a0.Next),(B a0.Cancel),(I a0.Done),(.os 3 1 0 a0.Signals.length a0.Signals.length false),(.os 4 1 0 a0.Timers.length a0.Timers.length false)])),(1,none),(2,none),(3,some (false,.arr false 1 (a0.Signals.map eS))),(4,some (false,.arr false 1 (a0.Timers.map eS)))],5,104⟩ [some 0,some 1,some 2,some 1,some 2]
      ·try refine sA ?_
       obtain ⟨hp12,h⟩ := guard_some h
       try refine sA ?_
       try refine andA ?_
       obtain rfl:=Option.some.inj h
       exact endsA ⟨[(6,(B true))],[(0,some (false,.box [(I a0.Status),(I (wI (a0.Next + 1))),(B a0.Cancel),(I a0.Done),(.os 3 1 0 ((a0.Signals ++ ([a2])).length) ((a0.Signals ++ ([a2])).length) false),(.os 4 1 0 a0.Timers.length a0.Timers.length false)])),(1,none),(2,none),(3,some (false,.arr false 1 ((a0.Signals ++ ([a2])).map eS))),(4,some (false,.arr false 1 (a0.Timers.map eS)))],5,104⟩ [some 0,some 1,some 2,some 4,some 2]
    ·try refine sA ?_
     refine Bs_if h (fun h hc13 => ?_) (fun h hc13 => ?_)
     ·try refine sA ?_
      obtain rfl:=Option.some.inj h
      exact endsA ⟨[(6,(B true))],[(0,some (false,.box [(I a0.Status),(I (wI (a0.Next + 1))),(B a0.Cancel),(I (wI (a0.Done + 1))),(.os 3 1 0 a0.Signals.length a0.Signals.length false),(.os 4 1 0 a0.Timers.length a0.Timers.length false)])),(1,none),(2,none),(3,some (false,.arr false 1 (a0.Signals.map eS))),(4,some (false,.arr false 1 (a0.Timers.map eS)))],5,104⟩ [some 0,some 1,some 2,some 1,some 2]
     ·try refine sA ?_
      refine Bs_if h (fun h hc14 => ?_) (fun h hc14 => ?_)
      ·try refine sA ?_
       obtain ⟨c304,hr15,h⟩ := bind_ok h
       refine Cl_hA [0,1,2] (w_impl_State_turnTimer_o hr15) ?_
       try refine sA ?_
       refine Bs_if h (fun h hc16 => ?_) (fun h hc16 => ?_)
       ·try refine sA ?_
        obtain rfl:=Option.some.inj h
        exact endsA ⟨[(6,(B false))],[(0,some (false,.box [(I c304.2.Status),(I c304.2.Next),(B c304.2.Cancel),(I c304.2.Done),(.os 3 1 0 a0.Signals.length a0.Signals.length false),(.os 4 1 0 c304.2.Timers.length c304.2.Timers.length false)])),(1,none),(2,none),(3,some (false,.arr false 1 (a0.Signals.map eS))),(4,some (false,.arr false 1 (c304.2.Timers.map eS)))],5,104⟩ [some 0,some 1,some 2,some 1,some 3]
       ·try refine sA ?_
        obtain rfl:=Option.some.inj h
        exact endsA ⟨[(6,(B true))],[(0,some (false,.box [(I c304.2.Status),(I (wI (c304.2.Next + 1))),(B c304.2.Cancel),(I c304.2.Done),(.os 3 1 0 a0.Signals.length a0.Signals.length false),(.os 4 1 0 c304.2.Timers.length c304.2.Timers.length false)])),(1,none),(2,none),(3,some (false,.arr false 1 (a0.Signals.map eS))),(4,some (false,.arr false 1 (c304.2.Timers.map eS)))],5,104⟩ [some 0,some 1,some 2,some 1,some 3]
      ·try refine sA ?_
       refine Bs_if h (fun h hc17 => ?_) (fun h hc17 => ?_)
       ·try refine sA ?_
        refine Bs_if h (fun h hc18 => ?_) (fun h hc18 => ?_)
        ·try refine sA ?_
         obtain rfl:=Option.some.inj h
         exact endsA ⟨[(6,(B false))],[(0,some (false,.box [(I a0.Status),(I a0.Next),(B a0.Cancel),(I a0.Done),(.os 3 1 0 a0.Signals.length a0.Signals.length false),(.os 4 1 0 a0.Timers.length a0.Timers.length false)])),(1,none),(2,none),(3,some (false,.arr false 1 (a0.Signals.map eS))),(4,some (false,.arr false 1 (a0.Timers.map eS)))],5,104⟩ [some 0,some 1,some 2,some 1,some 2]
        ·try refine sA ?_
         obtain rfl:=Option.some.inj h
         exact endsA ⟨[(6,(B true))],[(0,some (false,.box [(I a0.Status),(I (wI (a0.Next + 1))),(B true),(I a0.Done),(.os 3 1 0 a0.Signals.length a0.Signals.length false),(.os 4 1 0 a0.Timers.length a0.Timers.length false)])),(1,none),(2,none),(3,some (false,.arr false 1 (a0.Signals.map eS))),(4,some (false,.arr false 1 (a0.Timers.map eS)))],5,104⟩ [some 0,some 1,some 2,some 1,some 2]
       ·try refine sA ?_
        refine Bs_if h (fun h hc19 => ?_) (fun h hc19 => ?_)
        ·try refine sA ?_
         obtain rfl:=Option.some.inj h
         exact endsA ⟨[(6,(B true))],[(0,some (false,.box [(I 2),(I (wI (a0.Next + 1))),(B a0.Cancel),(I a0.Done),(.os 3 1 0 a0.Signals.length a0.Signals.length false),(.os 4 1 0 (([] : List ByteArray).length) (([] : List ByteArray).length) false)])),(1,none),(2,none),(3,some (false,.arr false 1 (a0.Signals.map eS))),(4,some (false,.arr false 1 (([] : List ByteArray).map eS)))],5,104⟩ [some 0,some 1,some 2,some 1,none]
        ·try refine sA ?_
         obtain rfl:=Option.some.inj h
         exact endsA ⟨[(6,(B true))],[(0,some (false,.box [(I a0.Status),(I (wI (a0.Next + 1))),(B a0.Cancel),(I a0.Done),(.os 3 1 0 a0.Signals.length a0.Signals.length false),(.os 4 1 0 a0.Timers.length a0.Timers.length false)])),(1,none),(2,none),(3,some (false,.arr false 1 (a0.Signals.map eS))),(4,some (false,.arr false 1 (a0.Timers.map eS)))],5,104⟩ [some 0,some 1,some 2,some 1,some 2]
theorem w_impl_ApplyEvent {a0 : StateT} {a1 : EventT} {r : (StateT × Bool)} (h : impl_ApplyEvent a0 a1 = some r) : Fn Tryz.prog 184 [(.ag [(I a0.Status),(I a0.Next),(B a0.Cancel),(I a0.Done),(.lf true (.sl (a0.Signals.map eS))),(.lf true (.sl (a0.Timers.map eS)))]),(.ag [(I a1.Id),(I a1.Version),(I a1.Kind),(.lf false (.sc (.string a1.Name)))])] [] 0 (.tu [(.ag [(I r.1.Status),(I r.1.Next),(B r.1.Cancel),(I r.1.Done),(.os 0 1 0 r.1.Signals.length r.1.Signals.length false),(.os 1 1 0 r.1.Timers.length r.1.Timers.length false)]),(B r.2)]) [(0,some (false,.arr false 1 (r.1.Signals.map eS))),(1,some (false,.arr false 1 (r.1.Timers.map eS)))] 3 := by
 unfold impl_ApplyEvent at h
 refine fn_code tab_ok mixed [(1000,[(2,0),(3,0),(4,0)]),(1001,[(2,0),(3,0),(4,0),(21,0)]),(1002,[(4,0),(5,0)]),(1003,[(3,0),(4,0),(6,0)]),(1004,[(4,0),(6,0),(35,0)]),(1005,[(4,0),(5,0)]),(1006,[(4,0),(5,0)]),(4001,[]),(4004,[])] Tryz.func184 rfl rfl (by simp [Tryz.f184]) (by kernel_rfl) ?_
 simp only [Tryz.f184]
 refine sA ?_
 obtain ⟨p286,hq1,h⟩ := bind_ok h
 refine Sq_cut (fun s2 => s2 = ⟨[(2,(.pb 0 0)),(3,(.pb 1 0)),(4,(.pb 2 0)),(21,(B p286.t21))],[(0,some (true,.box [(I a0.Status),(I a0.Next),(B a0.Cancel),(I a0.Done),(.lf true (.sl (a0.Signals.map eS))),(.lf true (.sl (a0.Timers.map eS)))])),(1,some (true,.box [(I a1.Id),(I a1.Version),(I a1.Kind),(.lf false (.sc (.string a1.Name)))])),(2,some (true,.box [(I 0),(I 0),(B false),(I 0),.nl,.nl]))],3,38⟩) ?_ ?_
 ·try refine sA ?_
  obtain ⟨c279,hr2,hq1⟩ := bind_ok hq1
  refine Cl_sA (w_impl_GoodState hr2) ?_
  try refine sA ?_
  refine Sp_if hq1 (fun hq1 hc3 => ?_) (fun hq1 hc3 => ?_)
  ·try refine sA ?_
   cases hq1
   exact X_cut rfl (weakA [some 0,some 1,some 2])
  ·try refine sA ?_
   obtain ⟨c285,hr4,hq1⟩ := bind_ok hq1
   refine Cl_sA (w_impl_GoodEvent hr4) ?_
   try refine sA ?_
   refine Sp_if hq1 (fun hq1 hc5 => ?_) (fun hq1 hc5 => ?_)
   ·try refine sA ?_
    cases hq1
    exact X_cut rfl (weakA [some 0,some 1,some 2])
   ·try refine sA ?_
    cases hq1
    exact X_cut rfl (weakA [some 0,some 1,some 2])
 ·intro s2 hJ; subst hJ
  try dsimp only at h
  try refine sA ?_
  refine Bs_if h (fun h hc6 => ?_) (fun h hc6 => ?_)
  ·try refine sA ?_
   obtain rfl:=Option.some.inj h
   exact endsA ⟨[(4,(.pb 2 0)),(5,(B false))],[(0,some (false,.arr false 1 (([] : List ByteArray).map eS))),(1,some (false,.arr false 1 (([] : List ByteArray).map eS))),(2,some (true,.box [(I 0),(I 0),(B false),(I 0),(.os 0 1 0 (([] : List ByteArray).length) (([] : List ByteArray).length) false),(.os 1 1 0 (([] : List ByteArray).length) (([] : List ByteArray).length) false)]))],3,38⟩ [none,none,some 2]
  ·try refine sA ?_
   obtain ⟨c289,hr7,h⟩ := bind_ok h
   refine Cl_sA (w_impl_cloneState hr7) ?_
   try refine sA ?_
   obtain ⟨p307,hq8,h⟩ := bind_ok h
   refine Sq_cut (fun s2 => s2 = ⟨[(4,(.pb 0 0)),(6,(.pb 1 0)),(35,(B p307.t35))],[(0,some (true,.box [(I 0),(I 0),(B false),(I 0),.nl,.nl])),(1,some (true,.box [(I p307.b1_0),(I p307.b1_1),(B p307.b1_2),(I p307.b1_3),(.os 2 1 0 p307.c2.length p307.c2.length false),(.os 3 1 0 p307.c3.length p307.c3.length false)])),(2,some (false,.arr false 1 (p307.c2.map eS))),(3,some (false,.arr false 1 (p307.c3.map eS)))],4,38⟩) ?_ ?_
   ·try refine sA ?_
    obtain ⟨c305,hr9,hq8⟩ := bind_ok hq8
    refine Cl_hA [6,3,4] (w_impl_State_apply_o hr9) ?_
    try refine sA ?_
    refine Sp_if hq8 (fun hq8 hc10 => ?_) (fun hq8 hc10 => ?_)
    ·try refine sA ?_
     cases hq8
     exact X_cut rfl (weakA [some 2,some 6,some 7,some 8])
    ·try refine sA ?_
     obtain ⟨c306,hr11,hq8⟩ := bind_ok hq8
     refine Cl_sA (w_impl_GoodState hr11) ?_
     try refine sA ?_
     cases hq8
     exact X_cut rfl (weakA [some 2,some 6,some 7,some 8])
   ·intro s2 hJ; subst hJ
    try dsimp only at h
    try refine sA ?_
    refine Bs_if h (fun h hc12 => ?_) (fun h hc12 => ?_)
    ·try refine sA ?_
     obtain rfl:=Option.some.inj h
     exact endsA ⟨[(4,(.pb 2 0)),(5,(B false))],[(0,some (false,.arr false 1 (([] : List ByteArray).map eS))),(1,some (false,.arr false 1 (([] : List ByteArray).map eS))),(2,some (true,.box [(I 0),(I 0),(B false),(I 0),(.os 0 1 0 (([] : List ByteArray).length) (([] : List ByteArray).length) false),(.os 1 1 0 (([] : List ByteArray).length) (([] : List ByteArray).length) false)]))],3,38⟩ [none,none,some 0]
    ·try refine sA ?_
     obtain rfl:=Option.some.inj h
     exact endsA ⟨[(4,(.pb 2 0)),(5,(B true))],[(0,some (false,.arr false 1 (p307.c2.map eS))),(1,some (false,.arr false 1 (p307.c3.map eS))),(2,some (true,.box [(I p307.b1_0),(I p307.b1_1),(B p307.b1_2),(I p307.b1_3),(.os 0 1 0 p307.c2.length p307.c2.length false),(.os 1 1 0 p307.c3.length p307.c3.length false)]))],3,38⟩ [some 2,some 3,some 0]
theorem w_impl_FoldEvents {a0 : (List EventT)} {r : (StateT × Int)} (h : impl_FoldEvents a0 = some r) : Fn Tryz.prog 137 [(.lf true (.sl (a0.map eEvent)))] [] 0 (.tu [(.ag [(I r.1.Status),(I r.1.Next),(B r.1.Cancel),(I r.1.Done),(.os 0 1 0 r.1.Signals.length r.1.Signals.length false),(.os 1 1 0 r.1.Timers.length r.1.Timers.length false)]),(I r.2)]) [(0,some (false,.arr false 1 (r.1.Signals.map eS))),(1,some (false,.arr false 1 (r.1.Timers.map eS)))] 3 := by
 unfold impl_FoldEvents at h
 refine fn_code tab_ok mixed [(1000,[(0,0),(2,0)]),(1001,[(0,0),(2,0),(4,0)]),(1002,[(0,0),(2,0),(4,0),(10,0),(11,0),(12,0)]),(1003,[(0,0),(2,0),(4,0),(10,0),(11,0),(12,0),(13,0)]),(1004,[(0,0),(2,0),(4,0),(5,0),(6,0),(10,0),(11,0),(12,0)]),(1005,[(0,0),(2,0),(4,0),(5,0),(7,0),(8,0),(10,0),(11,0),(12,0)]),(1006,[(0,0),(2,0),(4,0),(5,0),(7,0),(10,0),(11,0),(12,0),(24,0)]),(1007,[(2,0),(3,0)]),(1008,[(0,0),(2,0),(4,0),(10,0),(11,0),(12,0)]),(1009,[(0,0),(2,0),(4,0),(10,0),(11,0),(12,0)]),(1010,[(2,0),(3,0)])] Tryz.func137 rfl rfl (by simp [Tryz.f137]) (by kernel_rfl) ?_
 simp only [Tryz.f137]
 refine sA ?_
 obtain ⟨c238,hr1,h⟩ := bind_ok h
 refine Cl_sA (w_impl_NewState hr1) ?_
 try refine sA ?_
 obtain ⟨y310,hl2,h⟩ := bind_ok h
 refine W_loopP (fun g239 : impl_FoldEvents_G1 => ⟨[(0,(.lf true (.sl (a0.map eEvent)))),(2,(.pb 0 0)),(4,(.pb 1 0)),(10,(.lf true (.sl (a0.map eEvent)))),(11,(I ((a0.length : Nat) : Int))),(12,(I g239.t12))],[(0,some (true,.box [(I 0),(I 0),(B false),(I 0),.nl,.nl])),(1,some (true,.box [(I g239.b1_0),(I g239.b1_1),(B g239.b1_2),(I g239.b1_3),(.os 2 1 0 g239.c2.length g239.c2.length false),(.os 3 1 0 g239.c3.length g239.c3.length false)])),(2,some (false,.arr false 1 (g239.c2.map eS))),(3,some (false,.arr false 1 (g239.c3.map eS)))],4,32⟩) (impl_FoldEvents_L1 a0) _ _ hl2 (weakA [some 0,some 2,none,none]) ?_
 ·intro n1 g239 z1 hs1 hk1
  unfold impl_FoldEvents_L1 at hs1
  try dsimp only at hs1
  refine sA ?_
  refine Bs_if hs1 (fun hs1 hc3 => ?_) (fun hs1 hc3 => ?_)
  ·try refine sA ?_
   obtain ⟨hp4,hs1⟩ := guard_some hs1
   have hn4 : g239.t12.toNat < a0.length := by first | omega | (simp only [List.length_set,List.length_append,List.length_replicate,List.length_map]; omega)
   try refine sA ?_
   try refine andA ?_
   obtain ⟨c309,hr5,hs1⟩ := bind_ok hs1
   refine Cl_sA (w_impl_ApplyEvent hr5) ?_
   try refine sA ?_
   refine Bs_if hs1 (fun hs1 hc6 => ?_) (fun hs1 hc6 => ?_)
   ·try refine sA ?_
    cases hs1
    cases hk1
    try dsimp only at h
    try refine sA ?_
    obtain rfl:=Option.some.inj h
    exact endsA ⟨[(2,(.pb 2 0)),(3,(I g239.t12))],[(0,some (false,.arr false 1 (g239.c2.map eS))),(1,some (false,.arr false 1 (g239.c3.map eS))),(2,some (true,.box [(I g239.b1_0),(I g239.b1_1),(B g239.b1_2),(I g239.b1_3),(.os 0 1 0 g239.c2.length g239.c2.length false),(.os 1 1 0 g239.c3.length g239.c3.length false)]))],3,32⟩ [some 2,some 3,some 0]
   ·try refine sA ?_
    cases hs1
    exact X_backP hk1 (weakA [some 0,some 1,some 5,some 6])
  ·try refine sA ?_
   cases hs1
   cases hk1
   try dsimp only at h
   try refine sA ?_
   obtain rfl:=Option.some.inj h
   exact endsA ⟨[(2,(.pb 2 0)),(3,(I ((a0.length : Nat) : Int)))],[(0,some (false,.arr false 1 (g239.c2.map eS))),(1,some (false,.arr false 1 (g239.c3.map eS))),(2,some (true,.box [(I g239.b1_0),(I g239.b1_1),(B g239.b1_2),(I g239.b1_3),(.os 0 1 0 g239.c2.length g239.c2.length false),(.os 1 1 0 g239.c3.length g239.c3.length false)]))],3,32⟩ [some 2,some 3,some 0]
theorem w_impl_IsHistory {a0 : (List EventT)} {r : Bool} (h : impl_IsHistory a0 = some r) : Fn Tryz.prog 136 [(.lf true (.sl (a0.map eEvent)))] [] 0 (B r) [] 0 := by
 unfold impl_IsHistory at h
 refine fn_code tab_ok mixed [(1000,[(0,0)]),(1001,[(0,0),(9,0)]),(1002,[(2,0)]),(1003,[(0,0),(10,0),(11,0),(12,0)]),(1004,[(0,0),(10,0),(11,0),(12,0),(13,0)]),(1005,[(0,0),(3,0),(4,0),(10,0),(11,0),(12,0)]),(1006,[(0,0),(10,0),(11,0),(12,0),(29,0)]),(1007,[(2,0)]),(1008,[(0,0),(10,0),(11,0),(12,0)]),(1009,[(0,0),(6,0)]),(1010,[(2,0)]),(4006,[])] Tryz.func136 rfl rfl (by simp [Tryz.f136]) (by kernel_rfl) ?_
 simp only [Tryz.f136]
 refine sA ?_
 refine Bs_if h (fun h hc1 => ?_) (fun h hc1 => ?_)
 ·try refine sA ?_
  obtain rfl:=Option.some.inj h
  exact endsA ⟨[(2,(B false))],[],0,40⟩ []
 ·try refine sA ?_
  obtain ⟨y235,hl2,h⟩ := bind_ok h
  refine W_loopP (fun g232 : impl_IsHistory_G1 => ⟨[(0,(.lf true (.sl (a0.map eEvent)))),(10,(.lf true (.sl (a0.map eEvent)))),(11,(I ((a0.length : Nat) : Int))),(12,(I g232.t12))],[],0,40⟩) (impl_IsHistory_L1 a0) _ _ hl2 (weakA []) ?_
  ·intro n1 g232 z1 hs1 hk1
   unfold impl_IsHistory_L1 at hs1
   try dsimp only at hs1
   refine sA ?_
   refine Bs_if hs1 (fun hs1 hc3 => ?_) (fun hs1 hc3 => ?_)
   ·try refine sA ?_
    obtain ⟨hp4,hs1⟩ := guard_some hs1
    have hn4 : g232.t12.toNat < a0.length := by first | omega | (simp only [List.length_set,List.length_append,List.length_replicate,List.length_map]; omega)
    try refine sA ?_
    try refine andA ?_
    obtain ⟨p234,hq5,hs1⟩ := bind_ok hs1
    refine Sq_cut (fun s2 => s2 = ⟨[(0,(.lf true (.sl (a0.map eEvent)))),(10,(.lf true (.sl (a0.map eEvent)))),(11,(I ((a0.length : Nat) : Int))),(12,(I g232.t12)),(29,(B p234.t29))],[],0,40⟩) ?_ ?_
    ·try refine sA ?_
     refine Sp_if hq5 (fun hq5 hc6 => ?_) (fun hq5 hc6 => ?_)
     ·try refine sA ?_
      obtain ⟨hp7,hq5⟩ := guard_some hq5
      have hn7 : (wI (g232.t12 - 1)).toNat < a0.length := by first | omega | (simp only [List.length_set,List.length_append,List.length_replicate,List.length_map]; omega)
      try refine sA ?_
      try refine andA ?_
      cases hq5
      exact X_cut rfl (weakA [])
     ·try refine sA ?_
      cases hq5
      exact X_cut rfl (weakA [])
    ·intro s2 hJ; subst hJ
     try dsimp only at hs1
     try refine sA ?_
     refine Bs_if hs1 (fun hs1 hc8 => ?_) (fun hs1 hc8 => ?_)
     ·try refine sA ?_
      cases hs1
      cases hk1
      try dsimp only at h
      try refine sA ?_
      obtain rfl:=Option.some.inj h
      exact endsA ⟨[(2,(B false))],[],0,40⟩ []
     ·try refine sA ?_
      cases hs1
      exact X_backP hk1 (weakA [])
   ·try refine sA ?_
    cases hs1
    cases hk1
    try dsimp only at h
    try refine sA ?_
    obtain ⟨c314,hr9,h⟩ := bind_ok h
    refine Cl_sA (w_impl_FoldEvents hr9) ?_
    try refine sA ?_
    obtain rfl:=Option.some.inj h
    exact endsA ⟨[(2,(B (c314.2 == ((a0.length : Nat) : Int))))],[],0,40⟩ []
theorem w_impl_isTelling {a0 : (List EventT)} {r : Bool} (h : impl_isTelling a0 = some r) : Fn Tryz.prog 118 [(.lf true (.sl (a0.map eEvent)))] [] 0 (B r) [] 0 := by
 unfold impl_isTelling at h
 refine fn_code tab_ok mixed [] Tryz.func118 rfl rfl (by simp [Tryz.f118]) (by kernel_rfl) ?_
 simp only [Tryz.f118]
 refine sA ?_
 refine Sp_if h (fun h hc1 => ?_) (fun h hc1 => ?_)
 ·try refine sA ?_
  obtain ⟨c315,hr2,h⟩ := bind_ok h
  refine Cl_sA (w_impl_IsHistory hr2) ?_
  try refine sA ?_
  obtain rfl:=Option.some.inj h
  exact endsA ⟨[(2,(B c315))],[],0,10⟩ []
 ·try refine sA ?_
  obtain rfl:=Option.some.inj h
  exact endsA ⟨[(2,(B false))],[],0,10⟩ []
theorem w_cmp_isNaN_int {a0 : Int} {r : Bool} (h : cmp_isNaN_int a0 = some r) : Fn Tryz.prog 189 [(I a0)] [] 0 (B r) [] 0 := by
 unfold cmp_isNaN_int at h
 refine fn_code tab_ok mixed [] Tryz.func189 rfl rfl (by simp [Tryz.f189]) (by kernel_rfl) ?_
 simp only [Tryz.f189]
 refine sA ?_
 obtain rfl:=Option.some.inj h
 exact endsA ⟨[(2,(B (a0 != a0)))],[],0,6⟩ []
theorem w_cmp_Compare_int {a0 : Int} {a1 : Int} {r : Int} (h : cmp_Compare_int a0 a1 = some r) : Fn Tryz.prog 145 [(I a0),(I a1)] [] 0 (I r) [] 0 := by
 unfold cmp_Compare_int at h
 refine fn_code tab_ok mixed [(1000,[(0,0),(1,0)]),(1001,[(0,0),(1,0),(5,0)]),(1002,[(0,0),(1,0),(5,0),(6,0)]),(1003,[(0,0),(1,0),(6,0),(11,0)]),(1004,[(12,0)]),(1005,[(4,0)]),(1006,[(4,0)]),(1007,[(0,0),(1,0),(13,0)]),(1008,[(4,0)]),(1009,[(0,0),(1,0),(16,0)]),(1010,[(4,0)]),(1011,[(19,0)]),(1012,[(4,0)]),(1013,[(4,0)])] Tryz.func145 rfl rfl (by simp [Tryz.f145]) (by kernel_rfl) ?_
 simp only [Tryz.f145]
 refine sA ?_
 obtain ⟨c319,hr1,h⟩ := bind_ok h
 refine Cl_sA (w_cmp_isNaN_int hr1) ?_
 try refine sA ?_
 obtain ⟨c320,hr2,h⟩ := bind_ok h
 refine Cl_sA (w_cmp_isNaN_int hr2) ?_
 try refine sA ?_
 refine Bs_if h (fun h hc3 => ?_) (fun h hc3 => ?_)
 ·try refine sA ?_
  refine Bs_if h (fun h hc4 => ?_) (fun h hc4 => ?_)
  ·try refine sA ?_
   obtain rfl:=Option.some.inj h
   exact endsA ⟨[(4,(I 0))],[],0,20⟩ []
  ·try refine sA ?_
   obtain rfl:=Option.some.inj h
   exact endsA ⟨[(4,(I (-1)))],[],0,20⟩ []
 ·try refine sA ?_
  refine Bs_if h (fun h hc5 => ?_) (fun h hc5 => ?_)
  ·try refine sA ?_
   obtain rfl:=Option.some.inj h
   exact endsA ⟨[(4,(I 1))],[],0,20⟩ []
  ·try refine sA ?_
   refine Bs_if h (fun h hc6 => ?_) (fun h hc6 => ?_)
   ·try refine sA ?_
    obtain rfl:=Option.some.inj h
    exact endsA ⟨[(4,(I (-1)))],[],0,20⟩ []
   ·try refine sA ?_
    refine Bs_if h (fun h hc7 => ?_) (fun h hc7 => ?_)
    ·try refine sA ?_
     obtain rfl:=Option.some.inj h
     exact endsA ⟨[(4,(I 1))],[],0,20⟩ []
    ·try refine sA ?_
     obtain rfl:=Option.some.inj h
     exact endsA ⟨[(4,(I 0))],[],0,20⟩ []
theorem w_cmp_Compare_string {a0 : ByteArray} {a1 : ByteArray} {r : Int} (h : cmp_Compare_string a0 a1 = some r) : Fn Tryz.prog 199 [(.lf false (.sc (.string a0))),(.lf false (.sc (.string a1)))] [] 0 (I r) [] 0 := by
 unfold cmp_Compare_string at h
 refine fn_code tab_ok mixed [(1000,[(0,0),(1,0)]),(1001,[(0,0),(1,0),(5,0)]),(1002,[(0,0),(1,0),(5,0),(6,0)]),(1003,[(0,0),(1,0),(6,0),(11,0)]),(1004,[(12,0)]),(1005,[(4,0)]),(1006,[(4,0)]),(1007,[(0,0),(1,0),(13,0)]),(1008,[(4,0)]),(1009,[(0,0),(1,0),(16,0)]),(1010,[(4,0)]),(1011,[(19,0)]),(1012,[(4,0)]),(1013,[(4,0)])] Tryz.func199 rfl rfl (by simp [Tryz.f199]) (by kernel_rfl) ?_
 simp only [Tryz.f199]
 refine sA ?_
 obtain ⟨c323,hr1,h⟩ := bind_ok h
 refine Cl_sA (w_cmp_isNaN_string hr1) ?_
 try refine sA ?_
 obtain ⟨c324,hr2,h⟩ := bind_ok h
 refine Cl_sA (w_cmp_isNaN_string hr2) ?_
 try refine sA ?_
 refine Bs_if h (fun h hc3 => ?_) (fun h hc3 => ?_)
 ·try refine sA ?_
  refine Bs_if h (fun h hc4 => ?_) (fun h hc4 => ?_)
  ·try refine sA ?_
   obtain rfl:=Option.some.inj h
   exact endsA ⟨[(4,(I 0))],[],0,20⟩ []
  ·try refine sA ?_
   obtain rfl:=Option.some.inj h
   exact endsA ⟨[(4,(I (-1)))],[],0,20⟩ []
 ·try refine sA ?_
  refine Bs_if h (fun h hc5 => ?_) (fun h hc5 => ?_)
  ·try refine sA ?_
   obtain rfl:=Option.some.inj h
   exact endsA ⟨[(4,(I 1))],[],0,20⟩ []
  ·try refine sA ?_
   refine Bs_if h (fun h hc6 => ?_) (fun h hc6 => ?_)
   ·try refine sA ?_
    obtain rfl:=Option.some.inj h
    exact endsA ⟨[(4,(I (-1)))],[],0,20⟩ []
   ·try refine sA ?_
    refine Bs_if h (fun h hc7 => ?_) (fun h hc7 => ?_)
    ·try refine sA ?_
     obtain rfl:=Option.some.inj h
     exact endsA ⟨[(4,(I 1))],[],0,20⟩ []
    ·try refine sA ?_
     obtain rfl:=Option.some.inj h
     exact endsA ⟨[(4,(I 0))],[],0,20⟩ []
theorem w_cmp_Or_int {a0 : (List Int)} {r : Int} (h : cmp_Or_int a0 = some r) : Fn Tryz.prog 144 [(.lf true (.sl (a0.map eI)))] [] 0 (I r) [] 0 := by
 unfold cmp_Or_int at h
 refine fn_code tab_ok mixed [(1000,[(0,0)]),(1001,[(0,0),(3,0)]),(1002,[(3,0),(6,0),(7,0),(8,0)]),(1003,[(3,0),(6,0),(7,0),(8,0),(9,0)]),(1004,[(3,0),(5,0),(6,0),(7,0),(8,0)]),(1005,[(3,0),(5,0),(6,0),(7,0),(8,0),(14,0)]),(1006,[(2,0)]),(1007,[(3,0),(6,0),(7,0),(8,0)]),(1008,[(2,0)])] Tryz.func144 rfl rfl (by simp [Tryz.f144]) (by kernel_rfl) ?_
 simp only [Tryz.f144]
 refine sA ?_
 obtain ⟨y327,hl1,h⟩ := bind_ok h
 refine W_loopP (fun g326 : cmp_Or_int_G1 => ⟨[(3,(I 0)),(6,(.lf true (.sl (a0.map eI)))),(7,(I ((a0.length : Nat) : Int))),(8,(I g326.t8))],[],0,18⟩) (cmp_Or_int_L1 a0) _ _ hl1 (weakA []) ?_
 ·intro n1 g326 z1 hs1 hk1
  unfold cmp_Or_int_L1 at hs1
  try dsimp only at hs1
  refine sA ?_
  refine Bs_if hs1 (fun hs1 hc2 => ?_) (fun hs1 hc2 => ?_)
  ·try refine sA ?_
   obtain ⟨hp3,hs1⟩ := guard_some hs1
   have hn3 : g326.t8.toNat < a0.length := by first | omega | (simp only [List.length_set,List.length_append,List.length_replicate,List.length_map]; omega)
   try refine sA ?_
   try refine andA ?_
   refine Bs_if hs1 (fun hs1 hc4 => ?_) (fun hs1 hc4 => ?_)
   ·try refine sA ?_
    cases hs1
    cases hk1
    try dsimp only at h
    try refine sA ?_
    obtain rfl:=Option.some.inj h
    exact endsA ⟨[(2,(I (nth a0 g326.t8.toNat)))],[],0,18⟩ []
   ·try refine sA ?_
    cases hs1
    exact X_backP hk1 (weakA [])
  ·try refine sA ?_
   cases hs1
   cases hk1
   try dsimp only at h
   try refine sA ?_
   obtain rfl:=Option.some.inj h
   exact endsA ⟨[(2,(I 0))],[],0,18⟩ []
theorem w_impl_eventOrder {a0 : EventT} {a1 : EventT} {r : Int} (h : impl_eventOrder a0 a1 = some r) : Fn Tryz.prog 171 [(.ag [(I a0.Id),(I a0.Version),(I a0.Kind),(.lf false (.sc (.string a0.Name)))]),(.ag [(I a1.Id),(I a1.Version),(I a1.Kind),(.lf false (.sc (.string a1.Name)))])] [] 0 (I r) [] 0 := by
 unfold impl_eventOrder at h
 refine fn_code tab_ok mixed [(1,[(6,4),(8,4),(11,4),(11,9),(13,4),(13,9)])] Tryz.func171 rfl rfl (by simp [Tryz.f171]) (by kernel_rfl) ?_
 simp only [Tryz.f171]
 refine sA ?_
 obtain ⟨c321,hr1,h⟩ := bind_ok h
 refine Cl_sA (w_cmp_Compare_int hr1) ?_
 try refine sA ?_
 obtain ⟨c322,hr2,h⟩ := bind_ok h
 refine Cl_sA (w_cmp_Compare_int hr2) ?_
 try refine sA ?_
 obtain ⟨c325,hr3,h⟩ := bind_ok h
 refine Cl_sA (w_cmp_Compare_string hr3) ?_
 try refine sA ?_
 obtain ⟨c330,hr4,h⟩ := bind_ok h
 refine Cl_sA (w_cmp_Or_int hr4) ?_
 try refine sA ?_
 obtain rfl:=Option.some.inj h
 exact endsA ⟨[(4,(I c330))],[],0,22⟩ []
theorem w_slices_CompareFunc_impl_Event_impl_eventOrder {a0 : (List EventT)} {a1 : (List EventT)} {r : Int} (h : slices_CompareFunc_impl_Event_impl_eventOrder a0 a1 = some r) : Fn Tryz.prog 170 [(.lf true (.sl (a0.map eEvent))),(.lf true (.sl (a1.map eEvent))),(.fn 171 [])] [] 0 (I r) [] 0 := by
 unfold slices_CompareFunc_impl_Event_impl_eventOrder at h
 refine fn_code tab_ok mixed [(1000,[(0,0),(1,0),(2,0)]),(1001,[(0,0),(1,0),(2,0),(11,0),(12,0),(13,0)]),(1002,[(0,0),(1,0),(2,0),(11,0),(12,0),(13,0),(14,0)]),(1003,[(0,0),(1,0),(2,0),(7,0),(8,0),(11,0),(12,0),(13,0)]),(1004,[(0,0),(1,0),(2,0),(7,0),(8,0),(11,0),(12,0),(13,0),(21,0)]),(1005,[(6,0)]),(1006,[(0,0),(1,0),(2,0),(8,0),(9,0),(11,0),(12,0),(13,0)]),(1007,[(0,0),(1,0),(2,0),(10,0),(11,0),(12,0),(13,0)]),(1008,[(0,0),(1,0),(2,0),(10,0),(11,0),(12,0),(13,0),(31,0)]),(1009,[(6,0)]),(1010,[(0,0),(1,0),(2,0),(11,0),(12,0),(13,0)]),(1011,[(38,0)]),(1012,[(6,0)]),(1013,[(6,0)])] Tryz.func170 rfl rfl (by simp [Tryz.f170]) (by kernel_rfl) ?_
 simp only [Tryz.f170]
 refine sA ?_
 obtain ⟨y333,hl1,h⟩ := bind_ok h
 refine W_loopP (fun g318 : slices_CompareFunc_impl_Event_impl_eventOrder_G1 => ⟨[(0,(.lf true (.sl (a0.map eEvent)))),(1,(.lf true (.sl (a1.map eEvent)))),(2,(.fn 171 [])),(11,(.lf true (.sl (a0.map eEvent)))),(12,(I ((a0.length : Nat) : Int))),(13,(I g318.t13))],[],0,39⟩) (slices_CompareFunc_impl_Event_impl_eventOrder_L1 a0 a1) _ _ hl1 (weakA []) ?_
 ·intro n1 g318 z1 hs1 hk1
  unfold slices_CompareFunc_impl_Event_impl_eventOrder_L1 at hs1
  try dsimp only at hs1
  refine sA ?_
  refine Bs_if hs1 (fun hs1 hc2 => ?_) (fun hs1 hc2 => ?_)
  ·try refine sA ?_
   obtain ⟨hp3,hs1⟩ := guard_some hs1
   have hn3 : g318.t13.toNat < a0.length := by first | omega | (simp only [List.length_set,List.length_append,List.length_replicate,List.length_map]; omega)
   try refine sA ?_
   try refine andA ?_
   refine Bs_if hs1 (fun hs1 hc4 => ?_) (fun hs1 hc4 => ?_)
   ·try refine sA ?_
    cases hs1
    cases hk1
    try dsimp only at h
    try refine sA ?_
    obtain rfl:=Option.some.inj h
    exact endsA ⟨[(6,(I 1))],[],0,39⟩ []
   ·try refine sA ?_
    obtain ⟨hp5,hs1⟩ := guard_some hs1
    have hn5 : g318.t13.toNat < a1.length := by first | omega | (simp only [List.length_set,List.length_append,List.length_replicate,List.length_map]; omega)
    try refine sA ?_
    try refine andA ?_
    obtain ⟨c332,hr6,hs1⟩ := bind_ok hs1
    refine Cl_sA (w_impl_eventOrder hr6) ?_
    try refine sA ?_
    refine Bs_if hs1 (fun hs1 hc7 => ?_) (fun hs1 hc7 => ?_)
    ·try refine sA ?_
     cases hs1
     cases hk1
     try dsimp only at h
     try refine sA ?_
     obtain rfl:=Option.some.inj h
     exact endsA ⟨[(6,(I c332))],[],0,39⟩ []
    ·try refine sA ?_
     cases hs1
     exact X_backP hk1 (weakA [])
  ·try refine sA ?_
   cases hs1
   cases hk1
   try dsimp only at h
   try refine sA ?_
   refine Bs_if h (fun h hc8 => ?_) (fun h hc8 => ?_)
   ·try refine sA ?_
    obtain rfl:=Option.some.inj h
    exact endsA ⟨[(6,(I (-1)))],[],0,39⟩ []
   ·try refine sA ?_
    obtain rfl:=Option.some.inj h
    exact endsA ⟨[(6,(I 0))],[],0,39⟩ []
theorem w_impl_branchOrder {a0 : (List EventT)} {a1 : (List EventT)} {r : Int} (h : impl_branchOrder a0 a1 = some r) : Fn Tryz.prog 125 [(.lf true (.sl (a0.map eEvent))),(.lf true (.sl (a1.map eEvent)))] [] 0 (I r) [] 0 := by
 unfold impl_branchOrder at h
 refine fn_code tab_ok mixed [] Tryz.func125 rfl rfl (by simp [Tryz.f125]) (by kernel_rfl) ?_
 simp only [Tryz.f125]
 refine sA ?_
 obtain ⟨c336,hr1,h⟩ := bind_ok h
 refine Cl_sA (w_slices_CompareFunc_impl_Event_impl_eventOrder hr1) ?_
 try refine sA ?_
 obtain rfl:=Option.some.inj h
 exact endsA ⟨[(4,(I c336))],[],0,8⟩ []
theorem w_slices_Equal_impl_Event {a0 : (List EventT)} {a1 : (List EventT)} {r : Bool} (h : slices_Equal_impl_Event a0 a1 = some r) : Fn Tryz.prog 172 [(.lf true (.sl (a0.map eEvent))),(.lf true (.sl (a1.map eEvent)))] [] 0 (B r) [] 0 := by
 unfold slices_Equal_impl_Event at h
 refine fn_code tab_ok mixed [(1000,[(0,0),(1,0)]),(1001,[(0,0),(1,0),(10,0)]),(1002,[(4,0)]),(1003,[(0,0),(1,0),(12,0),(13,0)]),(1004,[(0,0),(1,0),(12,0),(13,0),(14,0)]),(1005,[(0,0),(1,0),(5,0),(12,0),(13,0)]),(1006,[(0,0),(1,0),(12,0),(13,0),(24,0)]),(1007,[(4,0)]),(1008,[(0,0),(1,0),(12,0),(13,0)]),(1009,[(4,0)])] Tryz.func172 rfl rfl (by simp [Tryz.f172]) (by kernel_rfl) ?_
 simp only [Tryz.f172]
 refine sA ?_
 refine Bs_if h (fun h hc1 => ?_) (fun h hc1 => ?_)
 ·try refine sA ?_
  obtain rfl:=Option.some.inj h
  exact endsA ⟨[(4,(B false))],[],0,26⟩ []
 ·try refine sA ?_
  obtain ⟨y339,hl2,h⟩ := bind_ok h
  refine W_loopP (fun g338 : slices_Equal_impl_Event_G1 => ⟨[(0,(.lf true (.sl (a0.map eEvent)))),(1,(.lf true (.sl (a1.map eEvent)))),(12,(I ((a0.length : Nat) : Int))),(13,(I g338.t13))],[],0,26⟩) (slices_Equal_impl_Event_L1 a0 a1) _ _ hl2 (weakA []) ?_
  ·intro n1 g338 z1 hs1 hk1
   unfold slices_Equal_impl_Event_L1 at hs1
   try dsimp only at hs1
   refine sA ?_
   refine Bs_if hs1 (fun hs1 hc3 => ?_) (fun hs1 hc3 => ?_)
   ·try refine sA ?_
    obtain ⟨hp4,hs1⟩ := guard_some hs1
    have hn4 : g338.t13.toNat < a0.length := by first | omega | (simp only [List.length_set,List.length_append,List.length_replicate,List.length_map]; omega)
    try refine sA ?_
    try refine andA ?_
    obtain ⟨hp5,hs1⟩ := guard_some hs1
    have hn5 : g338.t13.toNat < a1.length := by first | omega | (simp only [List.length_set,List.length_append,List.length_replicate,List.length_map]; omega)
    try refine sA ?_
    try refine andA ?_
    first | refine And.intro ⟨by kernel_rfl,by kernel_rfl,by kernel_rfl⟩ ?_ | skip
    try refine sA ?_
    refine Bs_if hs1 (fun hs1 hc7 => ?_) (fun hs1 hc7 => ?_)
    ·try refine sA ?_
     cases hs1
     cases hk1
     try dsimp only at h
     try refine sA ?_
     obtain rfl:=Option.some.inj h
     exact endsA ⟨[(4,(B false))],[],0,26⟩ []
    ·try refine sA ?_
     cases hs1
     exact X_backP hk1 (weakA [])
   ·try refine sA ?_
    cases hs1
    cases hk1
    try dsimp only at h
    try refine sA ?_
    obtain rfl:=Option.some.inj h
    exact endsA ⟨[(4,(B true))],[],0,26⟩ []
theorem w_impl_begins {a0 : (List EventT)} {a1 : (List EventT)} {r : Bool} (h : impl_begins a0 a1 = some r) : Fn Tryz.prog 126 [(.lf true (.sl (a0.map eEvent))),(.lf true (.sl (a1.map eEvent)))] [] 0 (B r) [] 0 := by
 unfold impl_begins at h
 refine fn_code tab_ok mixed [] Tryz.func126 rfl rfl (by simp [Tryz.f126]) (by kernel_rfl) ?_
 simp only [Tryz.f126]
 refine sA ?_
 refine Sp_if h (fun h hc1 => ?_) (fun h hc1 => ?_)
 ·try refine sA ?_
  obtain ⟨hp2,h⟩ := guard_some h
  try refine sA ?_
  try refine andA ?_
  obtain ⟨c342,hr3,h⟩ := bind_ok h
  refine Cl_sA (w_slices_Equal_impl_Event hr3) ?_
  try refine sA ?_
  obtain rfl:=Option.some.inj h
  exact endsA ⟨[(4,(B c342))],[],0,18⟩ []
 ·try refine sA ?_
  obtain rfl:=Option.some.inj h
  exact endsA ⟨[(4,(B false))],[],0,18⟩ []
theorem w_impl_GoodTellings {a0 : TellingsT} {r : Bool} (h : impl_GoodTellings a0 = some r) : Fn Tryz.prog 58 [(.ag [(.lf true (.sl (a0.Branches.map eBranch)))])] [] 0 (B r) [] 0 := by
 unfold impl_GoodTellings at h
 refine fn_code tab_ok mixed [(1000,[(1,0)]),(1001,[(1,0),(10,0)]),(1002,[(2,0)]),(1003,[(1,0),(12,0),(13,0),(14,0)]),(1004,[(1,0),(12,0),(13,0),(14,0),(15,0)]),(1005,[(1,0),(3,0),(4,0),(12,0),(13,0),(14,0)]),(1006,[(1,0),(3,0),(4,0),(12,0),(13,0),(14,0),(22,0)]),(1007,[(2,0)]),(1008,[(1,0),(4,0),(12,0),(13,0),(14,0),(26,0),(27,0),(28,0)]),(1009,[(1,0),(4,0),(12,0),(13,0),(14,0),(26,0),(27,0),(28,0),(29,0)]),(1010,[(1,0),(4,0),(6,0),(12,0),(13,0),(14,0),(26,0),(27,0),(28,0)]),(1011,[(1,0),(4,0),(12,0),(13,0),(14,0),(26,0),(27,0),(28,0),(44,0)]),(1012,[(2,0)]),(1013,[(1,0),(4,0),(12,0),(13,0),(14,0),(26,0),(27,0),(28,0)]),(1014,[(1,0),(12,0),(13,0),(14,0)]),(1015,[(2,0)]),(4011,[])] Tryz.func58 rfl rfl (by simp [Tryz.f58]) (by kernel_rfl) ?_
 simp only [Tryz.f58]
 refine sA ?_
 refine Bs_if h (fun h hc1 => ?_) (fun h hc1 => ?_)
 ·try refine sA ?_
  obtain rfl:=Option.some.inj h
  exact endsA ⟨[(2,(B false))],[],0,47⟩ []
 ·try refine sA ?_
  obtain ⟨y362,hl2,h⟩ := bind_ok h
  refine W_loopP (fun g231 : impl_GoodTellings_G1 => ⟨[(1,(.pb 0 0)),(12,(.lf true (.sl (a0.Branches.map eBranch)))),(13,(I ((a0.Branches.length : Nat) : Int))),(14,(I g231.t14))],[(0,some (true,.box [(.lf true (.sl (a0.Branches.map eBranch)))]))],1,47⟩) (impl_GoodTellings_L1 a0) _ _ hl2 (weakA [some 0]) ?_
  ·intro n1 g231 z1 hs1 hk1
   unfold impl_GoodTellings_L1 at hs1
   try dsimp only at hs1
   refine sA ?_
   refine Bs_if hs1 (fun hs1 hc3 => ?_) (fun hs1 hc3 => ?_)
   ·try refine sA ?_
    obtain ⟨hp4,hs1⟩ := guard_some hs1
    have hn4 : g231.t14.toNat < a0.Branches.length := by first | omega | (simp only [List.length_set,List.length_append,List.length_replicate,List.length_map]; omega)
    try refine sA ?_
    try refine andA ?_
    obtain ⟨c351,hr5,hs1⟩ := bind_ok hs1
    refine Cl_sA (w_impl_isTelling hr5) ?_
    try refine sA ?_
    refine Bs_if hs1 (fun hs1 hc6 => ?_) (fun hs1 hc6 => ?_)
    ·try refine sA ?_
     cases hs1
     cases hk1
     try dsimp only at h
     try refine sA ?_
     obtain rfl:=Option.some.inj h
     exact endsA ⟨[(2,(B false))],[],0,47⟩ []
    ·try refine sA ?_
     obtain ⟨hp7,hs1⟩ := guard_some hs1
     try refine sA ?_
     try refine andA ?_
     obtain ⟨y359,hl8,hs1⟩ := bind_ok hs1
     refine W_loopP (fun g352 : impl_GoodTellings_G2 => ⟨[(1,(.pb 0 0)),(4,(.pb 1 0)),(12,(.lf true (.sl (a0.Branches.map eBranch)))),(13,(I ((a0.Branches.length : Nat) : Int))),(14,(I g231.t14)),(26,(.lf true (.sl ((a0.Branches.take g231.t14.toNat).map eBranch)))),(27,(I (((a0.Branches.take g231.t14.toNat).length : Nat) : Int))),(28,(I g352.t28))],[(0,some (true,.box [(.lf true (.sl (a0.Branches.map eBranch)))])),(1,some (true,.box [(.lf true (.sl (((nth a0.Branches g231.t14.toNat).Events).map eEvent)))]))],2,47⟩) (impl_GoodTellings_L2 a0 g231) _ _ hl8 (weakA [some 0,some 1]) ?_
     ·intro n2 g352 z2 hs2 hk2
      unfold impl_GoodTellings_L2 at hs2
      try dsimp only at hs2
      refine sA ?_
      refine Bs_if hs2 (fun hs2 hc9 => ?_) (fun hs2 hc9 => ?_)
      ·try refine sA ?_
       obtain ⟨hp10,hs2⟩ := guard_some hs2
       have hn10 : g352.t28.toNat < (a0.Branches.take g231.t14.toNat).length := by first | omega | (simp only [List.length_set,List.length_append,List.length_replicate,List.length_map]; omega)
       try refine sA ?_
       try refine andA ?_
       obtain ⟨p358,hq11,hs2⟩ := bind_ok hs2
       refine Sq_cut (fun s2 => s2 = ⟨[(1,(.pb 0 0)),(4,(.pb 1 0)),(12,(.lf true (.sl (a0.Branches.map eBranch)))),(13,(I ((a0.Branches.length : Nat) : Int))),(14,(I g231.t14)),(26,(.lf true (.sl ((a0.Branches.take g231.t14.toNat).map eBranch)))),(27,(I (((a0.Branches.take g231.t14.toNat).length : Nat) : Int))),(28,(I g352.t28)),(44,(B p358.t44))],[(0,some (true,.box [(.lf true (.sl (a0.Branches.map eBranch)))])),(1,some (true,.box [(.lf true (.sl (((nth a0.Branches g231.t14.toNat).Events).map eEvent)))]))],2,47⟩) ?_ ?_
       ·try refine sA ?_
        obtain ⟨c356,hr12,hq11⟩ := bind_ok hq11
        refine Cl_sA (w_impl_branchOrder hr12) ?_
        try refine sA ?_
        refine Sp_if hq11 (fun hq11 hc13 => ?_) (fun hq11 hc13 => ?_)
        ·try refine sA ?_
         cases hq11
         exact X_cut rfl (weakA [some 0,some 1])
        ·try refine sA ?_
         obtain ⟨c357,hr14,hq11⟩ := bind_ok hq11
         refine Cl_sA (w_impl_begins hr14) ?_
         try refine sA ?_
         cases hq11
         exact X_cut rfl (weakA [some 0,some 1])
       ·intro s2 hJ; subst hJ
        try dsimp only at hs2
        try refine sA ?_
        refine Bs_if hs2 (fun hs2 hc15 => ?_) (fun hs2 hc15 => ?_)
        ·try refine sA ?_
         cases hs2
         cases hk2
         try dsimp only at hs1
         try refine sA ?_
         cases hs1
         cases hk1
         try dsimp only at h
         try refine sA ?_
         obtain rfl:=Option.some.inj h
         exact endsA ⟨[(2,(B false))],[],0,47⟩ []
        ·try refine sA ?_
         cases hs2
         exact X_backP hk2 (weakA [some 0,some 1])
      ·try refine sA ?_
       cases hs2
       cases hk2
       try dsimp only at hs1
       try refine sA ?_
       cases hs1
       exact X_backP hk1 (weakA [some 0])
   ·try refine sA ?_
    cases hs1
    cases hk1
    try dsimp only at h
    try refine sA ?_
    obtain rfl:=Option.some.inj h
    exact endsA ⟨[(2,(B true))],[],0,47⟩ []
theorem w_impl_wordOk_c1_c1_r {a0 : EventT} {a1 : Int} {r : Bool} (h : impl_wordOk_c1_c1_r a0 a1 = some r) : Fn Tryz.prog 188 [(.ag [(I a0.Id),(I a0.Version),(I a0.Kind),(.lf false (.sc (.string a0.Name)))]),(.ra true [.sc (.int .i64 a1)])] [] 0 (B r) [] 0 := by
 unfold impl_wordOk_c1_c1_r at h
 refine fn_code tab_ok mixed [] Tryz.func188 rfl rfl (by simp [Tryz.f188]) (by kernel_rfl) ?_
 simp only [Tryz.f188]
 refine sA ?_
 obtain rfl:=Option.some.inj h
 exact endsA ⟨[(3,(B (decide (a0.Version > a1))))],[],0,8⟩ []
theorem w_slices_IndexFunc_impl_Event_impl_wordOk_c1_c1r {a0 : (List EventT)} {a1 : Int} {r : Int} (h : slices_IndexFunc_impl_Event_impl_wordOk_c1_c1r a0 a1 = some r) : Fn Tryz.prog 206 [(.lf true (.sl (a0.map eEvent))),(.fn 188 [(.ra true [.sc (.int .i64 a1)])])] [] 0 (I r) [] 0 := by
 unfold slices_IndexFunc_impl_Event_impl_wordOk_c1_c1r at h
 refine fn_code tab_ok mixed [(1000,[(0,0),(1,0)]),(1001,[(0,0),(1,0),(7,0),(8,0)]),(1002,[(0,0),(1,0),(7,0),(8,0),(9,0)]),(1003,[(0,0),(1,0),(5,0),(7,0),(8,0)]),(1004,[(0,0),(1,0),(5,0),(7,0),(8,0),(16,0)]),(1005,[(4,0)]),(1006,[(0,0),(1,0),(7,0),(8,0)]),(1007,[(4,0)])] Tryz.func206 rfl rfl (by simp [Tryz.f206]) (by kernel_rfl) ?_
 simp only [Tryz.f206]
 refine sA ?_
 obtain ⟨y371,hl1,h⟩ := bind_ok h
 refine W_loopP (fun g368 : slices_IndexFunc_impl_Event_impl_wordOk_c1_c1r_G1 => ⟨[(0,(.lf true (.sl (a0.map eEvent)))),(1,(.fn 188 [(.ra true [.sc (.int .i64 a1)])])),(7,(I ((a0.length : Nat) : Int))),(8,(I g368.t8))],[],0,19⟩) (slices_IndexFunc_impl_Event_impl_wordOk_c1_c1r_L1 a0 a1) _ _ hl1 (weakA []) ?_
 ·intro n1 g368 z1 hs1 hk1
  unfold slices_IndexFunc_impl_Event_impl_wordOk_c1_c1r_L1 at hs1
  try dsimp only at hs1
  refine sA ?_
  refine Bs_if hs1 (fun hs1 hc2 => ?_) (fun hs1 hc2 => ?_)
  ·try refine sA ?_
   obtain ⟨hp3,hs1⟩ := guard_some hs1
   have hn3 : g368.t8.toNat < a0.length := by first | omega | (simp only [List.length_set,List.length_append,List.length_replicate,List.length_map]; omega)
   try refine sA ?_
   try refine andA ?_
   obtain ⟨c370,hr4,hs1⟩ := bind_ok hs1
   refine Cl_sA (w_impl_wordOk_c1_c1_r hr4) ?_
   try refine sA ?_
   refine Bs_if hs1 (fun hs1 hc5 => ?_) (fun hs1 hc5 => ?_)
   ·try refine sA ?_
    cases hs1
    cases hk1
    try dsimp only at h
    try refine sA ?_
    obtain rfl:=Option.some.inj h
    exact endsA ⟨[(4,(I g368.t8))],[],0,19⟩ []
   ·try refine sA ?_
    cases hs1
    exact X_backP hk1 (weakA [])
  ·try refine sA ?_
   cases hs1
   cases hk1
   try dsimp only at h
   try refine sA ?_
   obtain rfl:=Option.some.inj h
   exact endsA ⟨[(4,(I (-1)))],[],0,19⟩ []
theorem w_slices_ContainsFunc_impl_Event_impl_wordOk_c1_c1r {a0 : (List EventT)} {a1 : Int} {r : Bool} (h : slices_ContainsFunc_impl_Event_impl_wordOk_c1_c1r a0 a1 = some r) : Fn Tryz.prog 187 [(.lf true (.sl (a0.map eEvent))),(.fn 188 [(.ra true [.sc (.int .i64 a1)])])] [] 0 (B r) [] 0 := by
 unfold slices_ContainsFunc_impl_Event_impl_wordOk_c1_c1r at h
 refine fn_code tab_ok mixed [] Tryz.func187 rfl rfl (by simp [Tryz.f187]) (by kernel_rfl) ?_
 simp only [Tryz.f187]
 refine sA ?_
 obtain ⟨c374,hr1,h⟩ := bind_ok h
 refine Cl_sA (w_slices_IndexFunc_impl_Event_impl_wordOk_c1_c1r hr1) ?_
 try refine sA ?_
 obtain rfl:=Option.some.inj h
 exact endsA ⟨[(4,(B (decide (c374 ≥ 0))))],[],0,9⟩ []
theorem w_impl_wordOk_c1_r {a0 : BranchT} {a1 : Int} {r : Bool} (h : impl_wordOk_c1_r a0 a1 = some r) : Fn Tryz.prog 186 [(.ag [(.lf true (.sl (a0.Events.map eEvent)))]),(.ra true [.sc (.int .i64 a1)])] [] 0 (B r) [] 0 := by
 unfold impl_wordOk_c1_r at h
 refine fn_code tab_ok mixed [] Tryz.func186 rfl rfl (by simp [Tryz.f186]) (by kernel_rfl) ?_
 simp only [Tryz.f186]
 refine sA ?_
 obtain ⟨c375,hr1,h⟩ := bind_ok h
 refine Cl_sA (w_slices_ContainsFunc_impl_Event_impl_wordOk_c1_c1r hr1) ?_
 try refine sA ?_
 obtain rfl:=Option.some.inj h
 exact endsA ⟨[(3,(B c375))],[],0,8⟩ []
theorem w_slices_IndexFunc_impl_Branch_impl_wordOk_c1r {a0 : (List BranchT)} {a1 : Int} {r : Int} (h : slices_IndexFunc_impl_Branch_impl_wordOk_c1r a0 a1 = some r) : Fn Tryz.prog 174 [(.lf true (.sl (a0.map eBranch))),(.fn 186 [(.ra true [.sc (.int .i64 a1)])])] [] 0 (I r) [] 0 := by
 unfold slices_IndexFunc_impl_Branch_impl_wordOk_c1r at h
 refine fn_code tab_ok mixed [(1000,[(0,0),(1,0)]),(1001,[(0,0),(1,0),(7,0),(8,0)]),(1002,[(0,0),(1,0),(7,0),(8,0),(9,0)]),(1003,[(0,0),(1,0),(5,0),(7,0),(8,0)]),(1004,[(0,0),(1,0),(5,0),(7,0),(8,0),(16,0)]),(1005,[(4,0)]),(1006,[(0,0),(1,0),(7,0),(8,0)]),(1007,[(4,0)])] Tryz.func174 rfl rfl (by simp [Tryz.f174]) (by kernel_rfl) ?_
 simp only [Tryz.f174]
 refine sA ?_
 obtain ⟨y378,hl1,h⟩ := bind_ok h
 refine W_loopP (fun g367 : slices_IndexFunc_impl_Branch_impl_wordOk_c1r_G1 => ⟨[(0,(.lf true (.sl (a0.map eBranch)))),(1,(.fn 186 [(.ra true [.sc (.int .i64 a1)])])),(7,(I ((a0.length : Nat) : Int))),(8,(I g367.t8))],[],0,19⟩) (slices_IndexFunc_impl_Branch_impl_wordOk_c1r_L1 a0 a1) _ _ hl1 (weakA []) ?_
 ·intro n1 g367 z1 hs1 hk1
  unfold slices_IndexFunc_impl_Branch_impl_wordOk_c1r_L1 at hs1
  try dsimp only at hs1
  refine sA ?_
  refine Bs_if hs1 (fun hs1 hc2 => ?_) (fun hs1 hc2 => ?_)
  ·try refine sA ?_
   obtain ⟨hp3,hs1⟩ := guard_some hs1
   have hn3 : g367.t8.toNat < a0.length := by first | omega | (simp only [List.length_set,List.length_append,List.length_replicate,List.length_map]; omega)
   try refine sA ?_
   try refine andA ?_
   obtain ⟨c377,hr4,hs1⟩ := bind_ok hs1
   refine Cl_sA (w_impl_wordOk_c1_r hr4) ?_
   try refine sA ?_
   refine Bs_if hs1 (fun hs1 hc5 => ?_) (fun hs1 hc5 => ?_)
   ·try refine sA ?_
    cases hs1
    cases hk1
    try dsimp only at h
    try refine sA ?_
    obtain rfl:=Option.some.inj h
    exact endsA ⟨[(4,(I g367.t8))],[],0,19⟩ []
   ·try refine sA ?_
    cases hs1
    exact X_backP hk1 (weakA [])
  ·try refine sA ?_
   cases hs1
   cases hk1
   try dsimp only at h
   try refine sA ?_
   obtain rfl:=Option.some.inj h
   exact endsA ⟨[(4,(I (-1)))],[],0,19⟩ []
theorem w_slices_ContainsFunc_impl_Branch_impl_wordOk_c1r {a0 : (List BranchT)} {a1 : Int} {r : Bool} (h : slices_ContainsFunc_impl_Branch_impl_wordOk_c1r a0 a1 = some r) : Fn Tryz.prog 129 [(.lf true (.sl (a0.map eBranch))),(.fn 186 [(.ra true [.sc (.int .i64 a1)])])] [] 0 (B r) [] 0 := by
 unfold slices_ContainsFunc_impl_Branch_impl_wordOk_c1r at h
 refine fn_code tab_ok mixed [] Tryz.func129 rfl rfl (by simp [Tryz.f129]) (by kernel_rfl) ?_
 simp only [Tryz.f129]
 refine sA ?_
 obtain ⟨c381,hr1,h⟩ := bind_ok h
 refine Cl_sA (w_slices_IndexFunc_impl_Branch_impl_wordOk_c1r hr1) ?_
 try refine sA ?_
 obtain rfl:=Option.some.inj h
 exact endsA ⟨[(4,(B (decide (c381 ≥ 0))))],[],0,9⟩ []
theorem w_impl_wordOk {a0 : Int} {a1 : TellingsT} {r : Bool} (h : impl_wordOk a0 a1 = some r) : Fn Tryz.prog 138 [(I a0),(.ag [(.lf true (.sl (a1.Branches.map eBranch)))])] [] 0 (B r) [] 0 := by
 unfold impl_wordOk at h
 refine fn_code tab_ok mixed [(1000,[(2,0),(3,0)]),(1001,[(2,0),(3,0),(12,0)]),(1002,[(4,0)]),(1003,[(4,0)]),(4001,[])] Tryz.func138 rfl rfl (by simp [Tryz.f138]) (by kernel_rfl) ?_
 simp only [Tryz.f138]
 refine sA ?_
 obtain ⟨p366,hq1,h⟩ := bind_ok h
 refine Sq_cut (fun s2 => s2 = ⟨[(2,(.pb 0 0)),(3,(.pb 1 0)),(12,(B p366.t12))],[(0,some (true,.box [(I a0)])),(1,some (true,.box [(.lf true (.sl (a1.Branches.map eBranch)))]))],2,18⟩) ?_ ?_
 ·try refine sA ?_
  obtain ⟨c230,hr2,hq1⟩ := bind_ok hq1
  refine Cl_sA (w_impl_isVersion hr2) ?_
  try refine sA ?_
  refine Sp_if hq1 (fun hq1 hc3 => ?_) (fun hq1 hc3 => ?_)
  ·try refine sA ?_
   cases hq1
   exact X_cut rfl (weakA [some 0,some 1])
  ·try refine sA ?_
   obtain ⟨c365,hr4,hq1⟩ := bind_ok hq1
   refine Cl_sA (w_impl_GoodTellings hr4) ?_
   try refine sA ?_
   cases hq1
   exact X_cut rfl (weakA [some 0,some 1])
 ·intro s2 hJ; subst hJ
  try dsimp only at h
  try refine sA ?_
  refine Bs_if h (fun h hc5 => ?_) (fun h hc5 => ?_)
  ·try refine sA ?_
   obtain rfl:=Option.some.inj h
   exact endsA ⟨[(4,(B false))],[],0,18⟩ []
  ·try refine sA ?_
   obtain ⟨c382,hr6,h⟩ := bind_ok h
   refine Cl_sA (w_slices_ContainsFunc_impl_Branch_impl_wordOk_c1r hr6) ?_
   try refine sA ?_
   obtain rfl:=Option.some.inj h
   exact endsA ⟨[(4,(B (!c382)))],[],0,18⟩ []
theorem w_impl_GoodRegion {a0 : RegionT} {r : Bool} (h : impl_GoodRegion a0 = some r) : Fn Tryz.prog 92 [(.ag [(I a0.Id),(I a0.Version),(.lf true (.sl (a0.Tellings.Branches.map eBranch)))])] [] 0 (B r) [] 0 := by
 unfold impl_GoodRegion at h
 refine fn_code tab_ok mixed [] Tryz.func92 rfl rfl (by simp [Tryz.f92]) (by kernel_rfl) ?_
 simp only [Tryz.f92]
 refine sA ?_
 obtain ⟨c228,hr1,h⟩ := bind_ok h
 refine Cl_sA (w_impl_isRegion hr1) ?_
 try refine sA ?_
 refine Sp_if h (fun h hc2 => ?_) (fun h hc2 => ?_)
 ·try refine sA ?_
  obtain ⟨c383,hr3,h⟩ := bind_ok h
  refine Cl_sA (w_impl_wordOk hr3) ?_
  try refine sA ?_
  obtain rfl:=Option.some.inj h
  exact endsA ⟨[(2,(B c383))],[],0,13⟩ []
 ·try refine sA ?_
  obtain rfl:=Option.some.inj h
  exact endsA ⟨[(2,(B false))],[],0,13⟩ []
theorem w_slices_Clone_impl_Event {a0 : (List EventT)} {r : (List EventT)} (h : slices_Clone_impl_Event a0 = some r) : Fn Tryz.prog 84 [(.lf true (.sl (a0.map eEvent)))] [] 0 (.os 0 4 0 r.length r.length false) [(0,some (true,.arr false 4 (r.map eEvent)))] 1 := by
 unfold slices_Clone_impl_Event at h
 obtain ⟨hp,h⟩ := guard_some h
 have he := Option.some.inj h; subst he
 refine fn_code tab_ok mixed [] Tryz.func84 rfl rfl (by simp [Tryz.f84]) (by kernel_rfl) ?_
 simp only [Tryz.f84]
 simp (disch := assumption) only [go_sem,Nat.reduceAdd,Nat.reduceMul,Nat.reduceSub,Nat.reduceEqDiff,↓reduceIte,Nat.reduceLT,reduceCtorEq,Nat.reduceLeDiff,Int.reduceToNat,Int.reduceEq,Int.reduceLE,Int.reduceLT,Nat.reduceBEq]
 intro b hb
 refine Bs_splitC (b = true) (by simp) (fun hc => ?_) (fun hc => ?_)
 ·have h0 : a0 = [] := by simpa using hb (by simpa using hc)
  subst h0
  try simp (disch := assumption) only [go_sem,Nat.reduceAdd,Nat.reduceMul,Nat.reduceSub,Nat.reduceEqDiff,↓reduceIte,Nat.reduceLT,reduceCtorEq,Nat.reduceLeDiff,Int.reduceToNat,Int.reduceEq,Int.reduceLE,Int.reduceLT,Nat.reduceBEq]
  refine ends_weak ⟨[(2,(.os 0 4 0 0 0 false))],[(0,some (true,.arr false 4 (([] : List EventT).map eEvent)))],1,8⟩ (weak_of (m := 0) [none] rfl rfl rfl (by rfl) ?_ ?_) ?_
  all_goals ((try simp (disch := assumption) only [go_sem,Nat.reduceAdd,Nat.reduceMul,Nat.reduceSub,Nat.reduceEqDiff,↓reduceIte,Nat.reduceLT,reduceCtorEq,Nat.reduceLeDiff,Int.reduceToNat,Int.reduceEq,Int.reduceLE,Int.reduceLT,Nat.reduceBEq]); (repeat' first | done | rfl | omega | refine And.intro ?_ ?_ | (simp; done) | (simp; omega)))
 ·try simp (disch := assumption) only [go_sem,Nat.reduceAdd,Nat.reduceMul,Nat.reduceSub,Nat.reduceEqDiff,↓reduceIte,Nat.reduceLT,reduceCtorEq,Nat.reduceLeDiff,Int.reduceToNat,Int.reduceEq,Int.reduceLE,Int.reduceLT,Nat.reduceBEq]
  first | refine And.intro (by first | omega | exact ⟨by omega,fun _ => mapLen fun _ => rfl⟩ | (refine ⟨?_,by omega⟩; first | exact mapLen fun _ => rfl | simp)) ?_ | skip
  try simp (disch := assumption) only [go_sem,Nat.reduceAdd,Nat.reduceMul,Nat.reduceSub,Nat.reduceEqDiff,↓reduceIte,Nat.reduceLT,reduceCtorEq,Nat.reduceLeDiff,Int.reduceToNat,Int.reduceEq,Int.reduceLE,Int.reduceLT,Nat.reduceBEq]
  refine ends_weak ⟨[(2,(.os 0 4 0 a0.length a0.length false))],[(0,some (true,.arr false 4 (a0.map eEvent)))],1,8⟩ (weak_of (m := 0) [some 1] rfl rfl rfl (by rfl) ?_ ?_) ?_
  all_goals ((try simp (disch := assumption) only [go_sem,Nat.reduceAdd,Nat.reduceMul,Nat.reduceSub,Nat.reduceEqDiff,↓reduceIte,Nat.reduceLT,reduceCtorEq,Nat.reduceLeDiff,Int.reduceToNat,Int.reduceEq,Int.reduceLE,Int.reduceLT,Nat.reduceBEq]); (repeat' first | done | rfl | omega | refine And.intro ?_ ?_ | (simp; done) | (simp; omega)))
theorem w_impl_cloneTellings {a0 : TellingsT} {r : TellingsT} (h : impl_cloneTellings a0 = some r) : Fn Tryz.prog 123 [(.ag [(.lf true (.sl (a0.Branches.map eBranch)))])] [] 0 (.ag [(.os 0 1 0 r.Branches.length r.Branches.length false)]) [(0,some (true,.deep [.sl [.sc,.sc,.sc,.sc]] (r.Branches.map eBranch)))] 2 := by
 unfold impl_cloneTellings at h
 refine fn_code tab_ok mixed [(5,[(1,4),(1,6)]),(1000,[(1,0),(2,0)]),(1001,[(1,0),(2,0),(3,0)]),(1002,[(2,0),(3,0),(8,0),(9,0),(10,0)]),(1003,[(2,0),(3,0),(8,0),(9,0),(10,0),(11,0)]),(1004,[(2,0),(3,0),(5,0),(8,0),(9,0),(10,0)]),(1005,[(2,0),(3,0),(8,0),(9,0),(10,0)]),(1006,[(2,0),(3,0),(8,0),(9,0),(10,0)]),(1007,[(2,0)])] Tryz.func123 rfl rfl (by simp [Tryz.f123]) (by kernel_rfl) ?_
 simp only [Tryz.f123]
 refine sA ?_
 obtain ⟨y390,hl1,h⟩ := bind_ok h
 refine W_loopP (fun g387 : impl_cloneTellings_G1 => ⟨[(2,(.pb 0 0)),(3,(.pb 1 0)),(8,(.lf true (.sl (a0.Branches.map eBranch)))),(9,(I ((a0.Branches.length : Nat) : Int))),(10,(I g387.t10))],[(0,some (true,.box [.nl])),(1,some (true,.box [(.os 2 1 0 g387.c2.length g387.c2.length false)])),(2,some (true,.deep [.sl [.sc,.sc,.sc,.sc]] (g387.c2.map eBranch)))],3,25⟩) (impl_cloneTellings_L1 a0) _ _ hl1 (weakA [some 1,some 2,none]) ?_
 ·intro n1 g387 z1 hs1 hk1
  unfold impl_cloneTellings_L1 at hs1
  try dsimp only at hs1
  refine sA ?_
  refine Bs_if hs1 (fun hs1 hc2 => ?_) (fun hs1 hc2 => ?_)
  ·try refine sA ?_
   obtain ⟨hp3,hs1⟩ := guard_some hs1
   have hn3 : g387.t10.toNat < a0.Branches.length := by first | omega | (simp only [List.length_set,List.length_append,List.length_replicate,List.length_map]; omega)
   try refine sA ?_
   try refine andA ?_
   obtain ⟨c389,hr4,hs1⟩ := bind_ok hs1
   refine Cl_sA (w_slices_Clone_impl_Event hr4) ?_
   try refine sA ?_
   obtain ⟨hp5,hs1⟩ := guard_some hs1
   try refine sA ?_
   try refine andA ?_
   cases hs1
   exact X_backP hk1 (packW 6 (weakA [some 0,some 1,some 6]))
  ·try refine sA ?_
   cases hs1
   cases hk1
   try dsimp only at h
   try refine sA ?_
   obtain rfl:=Option.some.inj h
   exact endsA ⟨[(2,(.pb 1 0))],[(0,some (true,.deep [.sl [.sc,.sc,.sc,.sc]] (g387.c2.map eBranch))),(1,some (true,.box [(.os 0 1 0 g387.c2.length g387.c2.length false)]))],2,25⟩ [some 2,some 0]
theorem w_impl_cloneRegion {a0 : RegionT} {r : RegionT} (h : impl_cloneRegion a0 = some r) : Fn Tryz.prog 100 [(.ag [(I a0.Id),(I a0.Version),(.lf true (.sl (a0.Tellings.Branches.map eBranch)))])] [] 0 (.ag [(I r.Id),(I r.Version),(.os 0 1 0 r.Tellings.Branches.length r.Tellings.Branches.length false)]) [(0,some (true,.deep [.sl [.sc,.sc,.sc,.sc]] (r.Tellings.Branches.map eBranch)))] 2 := by
 unfold impl_cloneRegion at h
 refine fn_code tab_ok mixed [(1000,[(1,0),(2,0)]),(1001,[(1,0),(2,0)]),(1002,[(2,0)])] Tryz.func100 rfl rfl (by simp [Tryz.f100]) (by kernel_rfl) ?_
 simp only [Tryz.f100]
 refine sA ?_
 obtain ⟨c391,hr1,h⟩ := bind_ok h
 refine Cl_sA (w_impl_cloneTellings hr1) ?_
 try refine sA ?_
 obtain rfl:=Option.some.inj h
 exact endsA ⟨[(2,(.pb 1 0))],[(0,some (true,.deep [.sl [.sc,.sc,.sc,.sc]] (c391.Branches.map eBranch))),(1,some (true,.box [(I a0.Id),(I a0.Version),(.os 0 1 0 c391.Branches.length c391.Branches.length false)]))],2,8⟩ [some 2,some 1]
theorem w_impl_added_c1_r {a0 : BranchT} {a1 : (List EventT)} {r : Bool} (h : impl_added_c1_r a0 a1 = some r) : Fn Tryz.prog 162 [(.ag [(.lf true (.sl (a0.Events.map eEvent)))]),(.ra true [.sl (a1.map eEvent)])] [] 0 (B r) [] 0 := by
 unfold impl_added_c1_r at h
 refine fn_code tab_ok mixed [] Tryz.func162 rfl rfl (by simp [Tryz.f162]) (by kernel_rfl) ?_
 simp only [Tryz.f162]
 refine sA ?_
 obtain ⟨c400,hr1,h⟩ := bind_ok h
 refine Cl_sA (w_impl_begins hr1) ?_
 try refine sA ?_
 obtain rfl:=Option.some.inj h
 exact endsA ⟨[(3,(B c400))],[],0,8⟩ []
theorem w_slices_IndexFunc_impl_Branch_impl_added_c1r {a0 : (List BranchT)} {a1 : (List EventT)} {r : Int} (h : slices_IndexFunc_impl_Branch_impl_added_c1r a0 a1 = some r) : Fn Tryz.prog 174 [(.lf true (.sl (a0.map eBranch))),(.fn 162 [(.ra true [.sl (a1.map eEvent)])])] [] 0 (I r) [] 0 := by
 unfold slices_IndexFunc_impl_Branch_impl_added_c1r at h
 refine fn_code tab_ok mixed [(1000,[(0,0),(1,0)]),(1001,[(0,0),(1,0),(7,0),(8,0)]),(1002,[(0,0),(1,0),(7,0),(8,0),(9,0)]),(1003,[(0,0),(1,0),(5,0),(7,0),(8,0)]),(1004,[(0,0),(1,0),(5,0),(7,0),(8,0),(16,0)]),(1005,[(4,0)]),(1006,[(0,0),(1,0),(7,0),(8,0)]),(1007,[(4,0)])] Tryz.func174 rfl rfl (by simp [Tryz.f174]) (by kernel_rfl) ?_
 simp only [Tryz.f174]
 refine sA ?_
 obtain ⟨y403,hl1,h⟩ := bind_ok h
 refine W_loopP (fun g399 : slices_IndexFunc_impl_Branch_impl_added_c1r_G1 => ⟨[(0,(.lf true (.sl (a0.map eBranch)))),(1,(.fn 162 [(.ra true [.sl (a1.map eEvent)])])),(7,(I ((a0.length : Nat) : Int))),(8,(I g399.t8))],[],0,19⟩) (slices_IndexFunc_impl_Branch_impl_added_c1r_L1 a0 a1) _ _ hl1 (weakA []) ?_
 ·intro n1 g399 z1 hs1 hk1
  unfold slices_IndexFunc_impl_Branch_impl_added_c1r_L1 at hs1
  try dsimp only at hs1
  refine sA ?_
  refine Bs_if hs1 (fun hs1 hc2 => ?_) (fun hs1 hc2 => ?_)
  ·try refine sA ?_
   obtain ⟨hp3,hs1⟩ := guard_some hs1
   have hn3 : g399.t8.toNat < a0.length := by first | omega | (simp only [List.length_set,List.length_append,List.length_replicate,List.length_map]; omega)
   try refine sA ?_
   try refine andA ?_
   obtain ⟨c402,hr4,hs1⟩ := bind_ok hs1
   refine Cl_sA (w_impl_added_c1_r hr4) ?_
   try refine sA ?_
   refine Bs_if hs1 (fun hs1 hc5 => ?_) (fun hs1 hc5 => ?_)
   ·try refine sA ?_
    cases hs1
    cases hk1
    try dsimp only at h
    try refine sA ?_
    obtain rfl:=Option.some.inj h
    exact endsA ⟨[(4,(I g399.t8))],[],0,19⟩ []
   ·try refine sA ?_
    cases hs1
    exact X_backP hk1 (weakA [])
  ·try refine sA ?_
   cases hs1
   cases hk1
   try dsimp only at h
   try refine sA ?_
   obtain rfl:=Option.some.inj h
   exact endsA ⟨[(4,(I (-1)))],[],0,19⟩ []
theorem w_slices_ContainsFunc_impl_Branch_impl_added_c1r {a0 : (List BranchT)} {a1 : (List EventT)} {r : Bool} (h : slices_ContainsFunc_impl_Branch_impl_added_c1r a0 a1 = some r) : Fn Tryz.prog 129 [(.lf true (.sl (a0.map eBranch))),(.fn 162 [(.ra true [.sl (a1.map eEvent)])])] [] 0 (B r) [] 0 := by
 unfold slices_ContainsFunc_impl_Branch_impl_added_c1r at h
 refine fn_code tab_ok mixed [] Tryz.func129 rfl rfl (by simp [Tryz.f129]) (by kernel_rfl) ?_
 simp only [Tryz.f129]
 refine sA ?_
 obtain ⟨c406,hr1,h⟩ := bind_ok h
 refine Cl_sA (w_slices_IndexFunc_impl_Branch_impl_added_c1r hr1) ?_
 try refine sA ?_
 obtain rfl:=Option.some.inj h
 exact endsA ⟨[(4,(B (decide (c406 ≥ 0))))],[],0,9⟩ []
theorem w_impl_added_c2_r {a0 : BranchT} {a1 : (List EventT)} {r : Bool} (h : impl_added_c2_r a0 a1 = some r) : Fn Tryz.prog 164 [(.ag [(.lf true (.sl (a0.Events.map eEvent)))]),(.ra true [.sl (a1.map eEvent)])] [] 0 (B r) [] 0 := by
 unfold impl_added_c2_r at h
 refine fn_code tab_ok mixed [] Tryz.func164 rfl rfl (by simp [Tryz.f164]) (by kernel_rfl) ?_
 simp only [Tryz.f164]
 refine sA ?_
 obtain ⟨c408,hr1,h⟩ := bind_ok h
 refine Cl_sA (w_impl_begins hr1) ?_
 try refine sA ?_
 obtain rfl:=Option.some.inj h
 exact endsA ⟨[(3,(B c408))],[],0,8⟩ []
theorem w_slices_DeleteFunc_impl_Branch_deep {a0 : List BranchT} {a1 : List EventT} {m0 : Nat} {x0 : Bool} {r : List BranchT} (h : slices_DeleteFunc_impl_Branch_deep a0 a1 = some r) : Fn Tryz.prog 163 [(.os 0 1 0 a0.length m0 x0),(.fn 164 [(.pb 1 0)])] [(0,some (false,.deep [.sl [.sc,.sc,.sc,.sc]] (a0.map eBranch))),(1,some (false,.box [(.lf true (.sl (a1.map eEvent)))]))] 2 (.os 0 1 0 r.length r.length false) [(0,some (false,.deep [.sl [.sc,.sc,.sc,.sc]] (r.map eBranch))),(1,some (false,.box [(.lf true (.sl (a1.map eEvent)))]))] 2 := by
 unfold slices_DeleteFunc_impl_Branch_deep at h
 obtain ⟨⟨hp1,hp2⟩,h⟩ := guard_some h
 have he := Option.some.inj h; subst he
 refine fn_delD (E := eBranch) (X := fun b : BranchT => .sl (b.Events.map eEvent)) (fun _ => rfl) (p := fun b => (impl_added_c2_r b a1).getD false) (fun x y e => by rw [row_inj e]) (enters_of (P := Tryz.prog) Tryz.func164 (by kernel_rfl) rfl) (fun b hb => ?_) hp1
 have hs := List.all_eq_true.1 hp2 b hb
 obtain ⟨v,hv⟩ := Option.isSome_iff_exists.1 hs
 rw [hv]
 exact ⟨_,w_impl_added_c2_r hv⟩
theorem w_impl_added_c3 {a0 : BranchT} {a1 : BranchT} {r : Int} (h : impl_added_c3 a0 a1 = some r) : Fn Tryz.prog 166 [(.ag [(.lf true (.sl (a0.Events.map eEvent)))]),(.ag [(.lf true (.sl (a1.Events.map eEvent)))])] [] 0 (I r) [] 0 := by
 unfold impl_added_c3 at h
 refine fn_code tab_ok mixed [] Tryz.func166 rfl rfl (by simp [Tryz.f166]) (by kernel_rfl) ?_
 simp only [Tryz.f166]
 refine sA ?_
 obtain ⟨c415,hr1,h⟩ := bind_ok h
 refine Cl_sA (w_impl_branchOrder hr1) ?_
 try refine sA ?_
 obtain rfl:=Option.some.inj h
 exact endsA ⟨[(4,(I c415))],[],0,10⟩ []
theorem w_slices_SortFunc_impl_Branch_deep {a0 : List BranchT} {m0 : Nat} {x0 : Bool} {r : List BranchT} (h : slices_SortFunc_impl_Branch_deep a0 = some r) : Fn Tryz.prog 165 [(.os 0 1 0 a0.length m0 x0),(.fn 166 [])] [(0,some (false,.deep [.sl [.sc,.sc,.sc,.sc]] (a0.map eBranch)))] 1 (.tu []) [(0,some (false,.deep [.sl [.sc,.sc,.sc,.sc]] (r.map eBranch)))] 1 := by
 unfold slices_SortFunc_impl_Branch_deep at h
 obtain ⟨⟨hp1,hp2,hp3⟩,h⟩ := guard_some h
 have he := Option.some.inj h; subst he
 have e1 : Ent Tryz.prog (Tryz.sortB_ren.f 6) := (Ent.of Tryz.func165 rfl (by simp [Tryz.f165]) : Ent Tryz.prog 165)
 have e2 := enters_of (P := Tryz.prog) Tryz.func166 (by kernel_rfl) rfl
 have key := fn_sortD (s := .sl [.sc,.sc,.sc,.sc]) (E := eBranch) (X := fun b : BranchT => .sl (b.Events.map eEvent)) Go.Proofs.Tryz.sortB e1 Tryz.sortBAgg Tryz.sortBSize (fun _ => rfl) (cf := fun a b => (cmpL a.Events b.Events).1) branch_swoB e2 (l := a0) (R := sortO brL a0) (fun x hx y hy => ⟨_,w_impl_added_c3 (by have h1 := List.all_eq_true.1 hp2 x hx; have h2 := List.all_eq_true.1 hp2 y hy; exact closureB (of_decide_eq_true h1) (of_decide_eq_true h2))⟩) (x0 := x0) (m0 := m0) hp1 (fun r hp hs => sortB_one hp3 hp hs)
 have e0 : Tryz.sortB_ren.f 6 = 165 := rfl
 rw [e0] at key
 exact key
theorem w_impl_added {a0 : TellingsT} {a1 : (List EventT)} {r : TellingsT} (h : impl_added a0 a1 = some r) : Fn Tryz.prog 119 [(.ag [(.lf true (.sl (a0.Branches.map eBranch)))]),(.lf true (.sl (a1.map eEvent)))] [] 0 (.ag [(.os 0 1 0 r.Branches.length r.Branches.length false)]) [(0,some (true,.deep [.sl [.sc,.sc,.sc,.sc]] (r.Branches.map eBranch)))] 2 := by
 unfold impl_added at h
 refine fn_code tab_ok mixed [(5,[(1,3),(1,5)]),(1000,[(2,0),(3,0),(4,0)]),(1001,[(3,0),(4,0),(5,0)]),(1002,[(3,0),(4,0),(5,0),(11,0)]),(1003,[(4,0)]),(1004,[(3,0),(4,0),(5,0)]),(1005,[(4,0),(5,0)]),(1006,[(4,0),(5,0)]),(1007,[(4,0)]),(5006,[])] Tryz.func119 rfl rfl (by simp [Tryz.f119]) (by kernel_rfl) ?_
 simp only [Tryz.f119]
 refine sA ?_
 obtain ⟨c411,hr1,h⟩ := bind_ok h
 refine Cl_sA (w_impl_cloneTellings hr1) ?_
 try refine sA ?_
 obtain ⟨c412,hr2,h⟩ := bind_ok h
 refine Cl_sA (w_slices_ContainsFunc_impl_Branch_impl_added_c1r hr2) ?_
 try refine sA ?_
 refine Bs_if h (fun h hc3 => ?_) (fun h hc3 => ?_)
 ·try refine sA ?_
  obtain rfl:=Option.some.inj h
  exact endsA ⟨[(4,(.pb 1 0))],[(0,some (true,.deep [.sl [.sc,.sc,.sc,.sc]] (c411.Branches.map eBranch))),(1,some (true,.box [(.os 0 1 0 c411.Branches.length c411.Branches.length false)]))],2,30⟩ [some 3,some 2]
 ·try refine sA ?_
  obtain ⟨c413,hr4,h⟩ := bind_ok h
  refine Cl_hA [3,1] (w_slices_DeleteFunc_impl_Branch_deep hr4) ?_
  try refine sA ?_
  obtain ⟨c414,hr5,h⟩ := bind_ok h
  refine Cl_sA (w_slices_Clone_impl_Event hr5) ?_
  try refine sA ?_
  obtain ⟨hp6,h⟩ := guard_some h
  try refine sA ?_
  try refine andA ?_
  refine Gh_pack 8 ?_
  try refine sA ?_
  obtain ⟨c416,hr7,h⟩ := bind_ok h
  refine Cl_hA [8] (w_slices_SortFunc_impl_Branch_deep hr7) ?_
  try refine sA ?_
  obtain ⟨hp8,h⟩ := guard_some h
  have hl8 : (c413.length + 1) ≤ c416.length := by omega
  have ht8 : List.take ((c413.length + 1)) c416 = c416 := by rw [← hp8]; exact List.take_length
  try rw [← hp8]
  try simp (disch := first | assumption | (simp only [List.length_set]; assumption)) only [go_sem,Nat.reduceAdd,Nat.reduceMul,Nat.reduceSub,Nat.reduceEqDiff,↓reduceIte,Nat.reduceLT,reduceCtorEq,Nat.reduceLeDiff,Int.reduceToNat,Int.reduceEq,Int.reduceLE,Int.reduceLT,Nat.reduceBEq,hl8,ht8]
  obtain rfl:=Option.some.inj h
  refine ends_weak ⟨[(4,(.pb 1 0))],[(0,some (true,.deep [.sl [.sc,.sc,.sc,.sc]] (c416.map eBranch))),(1,some (true,.box [(.os 0 1 0 c416.length c416.length false)]))],2,30⟩ (weak_of (m := 0) [some 8,some 2] rfl rfl rfl (by rfl) ?_ ?_) ?_
  all_goals ((try simp (disch := first | assumption | (simp only [List.length_set]; assumption)) only [go_sem,Nat.reduceAdd,Nat.reduceMul,Nat.reduceSub,Nat.reduceEqDiff,↓reduceIte,Nat.reduceLT,reduceCtorEq,Nat.reduceLeDiff,Int.reduceToNat,Int.reduceEq,Int.reduceLE,Int.reduceLT,Nat.reduceBEq,hl8,ht8]); (repeat' first | done | rfl | omega | refine And.intro ?_ ?_ | (simp; done) | (simp; omega)))
theorem w_impl_MergeTellings {a0 : TellingsT} {a1 : TellingsT} {r : (TellingsT × Bool)} (h : impl_MergeTellings a0 a1 = some r) : Fn Tryz.prog 55 [(.ag [(.lf true (.sl (a0.Branches.map eBranch)))]),(.ag [(.lf true (.sl (a1.Branches.map eBranch)))])] [] 0 (.tu [(.ag [(.os 0 1 0 r.1.Branches.length r.1.Branches.length false)]),(B r.2)]) [(0,some (true,.deep [.sl [.sc,.sc,.sc,.sc]] (r.1.Branches.map eBranch)))] 2 := by
 unfold impl_MergeTellings at h
 refine fn_code tab_ok mixed [(1000,[(2,0),(3,0),(4,0)]),(1001,[(2,0),(3,0),(4,0),(16,0)]),(1002,[(4,0),(5,0)]),(1003,[(3,0),(4,0),(6,0)]),(1004,[(4,0),(6,0),(21,0),(22,0),(23,0)]),(1005,[(4,0),(6,0),(21,0),(22,0),(23,0),(24,0)]),(1006,[(4,0),(6,0),(8,0),(21,0),(22,0),(23,0)]),(1007,[(4,0),(6,0),(21,0),(22,0),(23,0)]),(1008,[(4,0),(6,0),(21,0),(22,0),(23,0)]),(1009,[(4,0),(6,0),(35,0)]),(1010,[(4,0),(5,0)]),(1011,[(4,0),(5,0)]),(4001,[])] Tryz.func55 rfl rfl (by simp [Tryz.f55]) (by kernel_rfl) ?_
 simp only [Tryz.f55]
 refine sA ?_
 obtain ⟨p395,hq1,h⟩ := bind_ok h
 refine Sq_cut (fun s2 => s2 = ⟨[(2,(.pb 0 0)),(3,(.pb 1 0)),(4,(.pb 2 0)),(16,(B p395.t16))],[(0,some (true,.box [(.lf true (.sl (a0.Branches.map eBranch)))])),(1,some (true,.box [(.lf true (.sl (a1.Branches.map eBranch)))])),(2,some (true,.box [.nl]))],3,38⟩) ?_ ?_
 ·try refine sA ?_
  obtain ⟨c393,hr2,hq1⟩ := bind_ok hq1
  refine Cl_sA (w_impl_GoodTellings hr2) ?_
  try refine sA ?_
  refine Sp_if hq1 (fun hq1 hc3 => ?_) (fun hq1 hc3 => ?_)
  ·try refine sA ?_
   cases hq1
   exact X_cut rfl (weakA [some 0,some 1,some 2])
  ·try refine sA ?_
   obtain ⟨c394,hr4,hq1⟩ := bind_ok hq1
   refine Cl_sA (w_impl_GoodTellings hr4) ?_
   try refine sA ?_
   cases hq1
   exact X_cut rfl (weakA [some 0,some 1,some 2])
 ·intro s2 hJ; subst hJ
  try dsimp only at h
  try refine sA ?_
  refine Bs_if h (fun h hc5 => ?_) (fun h hc5 => ?_)
  ·try refine sA ?_
   obtain rfl:=Option.some.inj h
   exact endsA ⟨[(4,(.pb 1 0)),(5,(B false))],[(0,some (true,.deep [.sl [.sc,.sc,.sc,.sc]] (([] : List BranchT).map eBranch))),(1,some (true,.box [(.os 0 1 0 (([] : List BranchT).length) (([] : List BranchT).length) false)]))],2,38⟩ [none,some 2]
  ·try refine sA ?_
   obtain ⟨c396,hr6,h⟩ := bind_ok h
   refine Cl_sA (w_impl_cloneTellings hr6) ?_
   try refine sA ?_
   obtain ⟨y419,hl7,h⟩ := bind_ok h
   refine W_loopP (fun g397 : impl_MergeTellings_G1 => ⟨[(4,(.pb 0 0)),(6,(.pb 1 0)),(21,(.lf true (.sl (a1.Branches.map eBranch)))),(22,(I ((a1.Branches.length : Nat) : Int))),(23,(I g397.t23))],[(0,some (true,.box [.nl])),(1,some (true,.box [(.os 2 1 0 g397.c2.length g397.c2.length false)])),(2,some (true,.deep [.sl [.sc,.sc,.sc,.sc]] (g397.c2.map eBranch)))],3,38⟩) (impl_MergeTellings_L1 a1) _ _ hl7 (weakA [some 2,some 5,some 3]) ?_
   ·intro n1 g397 z1 hs1 hk1
    unfold impl_MergeTellings_L1 at hs1
    try dsimp only at hs1
    refine sA ?_
    refine Bs_if hs1 (fun hs1 hc8 => ?_) (fun hs1 hc8 => ?_)
    ·try refine sA ?_
     obtain ⟨hp9,hs1⟩ := guard_some hs1
     have hn9 : g397.t23.toNat < a1.Branches.length := by first | omega | (simp only [List.length_set,List.length_append,List.length_replicate,List.length_map]; omega)
     try refine sA ?_
     try refine andA ?_
     obtain ⟨c418,hr10,hs1⟩ := bind_ok hs1
     refine Cl_sA (w_impl_added hr10) ?_
     try refine sA ?_
     cases hs1
     exact X_backP hk1 (weakA [some 0,some 1,some 4])
    ·try refine sA ?_
     cases hs1
     cases hk1
     try dsimp only at h
     try refine sA ?_
     refine Bs_if h (fun h hc11 => ?_) (fun h hc11 => ?_)
     ·try refine sA ?_
      obtain rfl:=Option.some.inj h
      exact endsA ⟨[(4,(.pb 1 0)),(5,(B false))],[(0,some (true,.deep [.sl [.sc,.sc,.sc,.sc]] (([] : List BranchT).map eBranch))),(1,some (true,.box [(.os 0 1 0 (([] : List BranchT).length) (([] : List BranchT).length) false)]))],2,38⟩ [none,some 0]
     ·try refine sA ?_
      obtain rfl:=Option.some.inj h
      exact endsA ⟨[(4,(.pb 1 0)),(5,(B true))],[(0,some (true,.deep [.sl [.sc,.sc,.sc,.sc]] (g397.c2.map eBranch))),(1,some (true,.box [(.os 0 1 0 g397.c2.length g397.c2.length false)]))],2,38⟩ [some 2,some 0]
theorem w_impl_Region_hear_od {a0 : RegionT} {a1 : WordT} {m1 : Nat} {x1 : Bool} {r : (Bool × RegionT)} (h : impl_Region_hear_od a0 a1 = some r) : Fn Tryz.prog 139 [(.pb 0 0),(.ag [(I a1.Version),(.lf true (.sl (a1.Tellings.Branches.map eBranch)))])] [(0,some (false,.box [(I a0.Id),(I a0.Version),(.os 1 1 0 a0.Tellings.Branches.length m1 x1)])),(1,some (false,.deep [.sl [.sc,.sc,.sc,.sc]] (a0.Tellings.Branches.map eBranch)))] 2 (B r.1) [(0,some (false,.box [(I r.2.Id),(I r.2.Version),(.os 2 1 0 r.2.Tellings.Branches.length r.2.Tellings.Branches.length false)])),(1,none),(2,some (false,.deep [.sl [.sc,.sc,.sc,.sc]] (r.2.Tellings.Branches.map eBranch)))] 3 := by
 unfold impl_Region_hear_od at h
 refine fn_code tab_ok mixed [(1,[(3,10),(5,10)]),(3,[(9,12)]),(1000,[(0,0),(3,0)]),(1001,[(0,0),(3,0),(5,0),(6,0)]),(1002,[(0,0),(3,0),(5,0),(6,0),(17,0)]),(1003,[(6,0)]),(1004,[(4,0)])] Tryz.func139 rfl rfl (by simp [Tryz.f139]) (by kernel_rfl) ?_
 simp only [Tryz.f139]
 refine sA ?_
 obtain ⟨c420,hr1,h⟩ := bind_ok h
 refine Cl_sA (w_impl_MergeTellings hr1) ?_
 try refine sA ?_
 refine Bs_if h (fun h hc2 => ?_) (fun h hc2 => ?_)
 ·try refine sA ?_
  obtain rfl:=Option.some.inj h
  exact endsA ⟨[(4,(B c420.2))],[(0,some (false,.box [(I a0.Id),(I (max a0.Version a1.Version)),(.os 2 1 0 c420.1.Branches.length c420.1.Branches.length false)])),(1,none),(2,some (false,.deep [.sl [.sc,.sc,.sc,.sc]] (c420.1.Branches.map eBranch)))],3,33⟩ [some 0,some 1,some 3]
 ·try refine sA ?_
  obtain rfl:=Option.some.inj h
  exact endsA ⟨[(4,(B c420.2))],[(0,some (false,.box [(I a0.Id),(I a0.Version),(.os 2 1 0 a0.Tellings.Branches.length a0.Tellings.Branches.length false)])),(1,none),(2,some (false,.deep [.sl [.sc,.sc,.sc,.sc]] (a0.Tellings.Branches.map eBranch)))],3,33⟩ [some 0,some 1,some 1]
end Go.TL.YtjkeoippmlmfbaaGreatDoor

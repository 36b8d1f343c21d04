import Derived.Test.YteonagfnhdlfcaaGreatDoorTlTabr6zD
import Derived.Test.YteonagfnhdlfcaaGreatDoorG30EnR1
import Derived.Test.YteonagfnhdlfcaaGreatDoorTlAuto
import Derived.Test.YteonagfnhdlfcaaGreatDoorG32TlPk
import Derived.Test.YteonagfnhdlfcaaGreatDoorG33TlTrimr6zD
import Derived.Test.YteonagfnhdlfcaaGreatDoorG34TlBelow
import Derived.Test.YteonagfnhdlfcaaGreatDoorTlInsert
import Derived.Test.YteonagfnhdlfcaaGreatDoorTlStrs
import Derived.Test.YteonagfnhdlfcaaGreatDoorG39TlSrLr6zD
import Derived.Test.YteonagfnhdlfcaaGreatDoorTlDelDr6zD
import Derived.Test.YteonagfnhdlfcaaGreatDoorTlSortD
set_option linter.unusedSimpArgs false
set_option linter.unusedVariables false
set_option maxRecDepth 8000
set_option maxHeartbeats 0
namespace Go.TL.YteonagfnhdlfcaaGreatDoor
open Go Go.Proofs Go.TL
theorem zhC {a0 : EventT} {a1 : Int} {r : Int} (h : zdV a0 a1 = some r) : Fn Tryz.prog 266 [(.ag [(I a0.Id),(I a0.Version),(I a0.Kind),(.lf false (.sc (.string a0.Name)))]),(I a1)] [] 0 (I r) [] 0 := by
 unfold zdV at h
 refine fn_code tab_ok mixed [(1000,[(1,0),(2,0)]),(1001,[(1,0)]),(1002,[(1,0),(11,0)]),(1003,[(4,0)]),(1004,[(4,0)])] Tryz.func266 rfl rfl (by simp [Tryz.f266]) (by kernel_rfl) ?_
 simp only [Tryz.f266]
 refine sA ?_
 refine Bs_if h (fun h hc1 => ?_) (fun h hc1 => ?_)
 ·try refine sA ?_
  obtain rfl:=Option.some.inj h
  exact endsA ⟨[(4,(I (-1)))],[],0,13⟩ []
 ·try refine sA ?_
  obtain rfl:=Option.some.inj h
  exact endsA ⟨[(4,(I (wI (a1 - (a0.Name.size : Int)))))],[],0,13⟩ []
theorem zhi {a0 : (List EventT)} {a1 : Int} {r : Int} (h : zdz a0 a1 = some r) : Fn Tryz.prog 242 [(.lf true (.sl (a0.map eEvent))),(I a1)] [] 0 (I r) [] 0 := by
 unfold zdz at h
 refine fn_code tab_ok mixed [(1000,[(0,0),(1,0)]),(1001,[(0,0),(1,0)]),(1002,[(0,0),(1,0),(11,0)]),(1003,[(4,0)]),(1004,[(0,0),(1,0),(5,0)]),(1005,[(0,0),(1,0),(5,0),(15,0)]),(1006,[(0,0),(1,0),(5,0)]),(1007,[(0,0),(1,0),(5,0)]),(1008,[(0,0),(1,0),(5,0),(25,0)]),(1009,[(4,0)]),(1010,[(4,0)])] Tryz.func242 rfl rfl (by simp [Tryz.f242]) (by kernel_rfl) ?_
 simp only [Tryz.f242]
 refine sA ?_
 refine Bs_if h (fun h hc1 => ?_) (fun h hc1 => ?_)
 ·try refine sA ?_
  obtain rfl:=Option.some.inj h
  exact endsA ⟨[(4,(I (-1)))],[],0,27⟩ []
 ·try refine sA ?_
  obtain ⟨y5,hl2,h⟩ := bind_ok h
  refine W_loopP (fun g2 : zdn => ⟨[(0,(.lf true (.sl (a0.map eEvent)))),(1,(I g2.t1)),(5,(I g2.t5))],[],0,27⟩) (zbk a0) _ _ hl2 (weakA []) ?_
  ·intro n1 g2 z1 hs1 hk1
   unfold zbk at hs1
   try dsimp only at hs1
   refine sA ?_
   refine Bs_if hs1 (fun hs1 hc3 => ?_) (fun hs1 hc3 => ?_)
   ·try refine sA ?_
    obtain ⟨hp4,hs1⟩ := guard_some hs1
    have hn4 : g2.t5.toNat < a0.length := by first | omega | (simp only [List.length_set,List.length_append,List.length_replicate,List.length_map]; omega)
    try refine sA ?_
    try refine andA ?_
    obtain ⟨c4,hr5,hs1⟩ := bind_ok hs1
    refine Cl_sA (zhC hr5) ?_
    try refine sA ?_
    refine Bs_if hs1 (fun hs1 hc6 => ?_) (fun hs1 hc6 => ?_)
    ·try refine sA ?_
     cases hs1
     cases hk1
     try dsimp only at h
     try refine sA ?_
     obtain rfl:=Option.some.inj h
     exact endsA ⟨[(4,(I (-1)))],[],0,27⟩ []
    ·try refine sA ?_
     cases hs1
     exact X_backP hk1 (weakA [])
   ·try refine sA ?_
    cases hs1
    cases hk1
    try dsimp only at h
    try refine sA ?_
    obtain rfl:=Option.some.inj h
    exact endsA ⟨[(4,(I g2.t1))],[],0,27⟩ []
theorem zhj {a0 : BranchT} {a1 : Int} {r : Int} (h : zdD a0 a1 = some r) : Fn Tryz.prog 198 [(.ag [(.lf true (.sl (a0.Events.map eEvent)))]),(I a1)] [] 0 (I r) [] 0 := by
 unfold zdD at h
 refine fn_code tab_ok mixed [(1000,[(1,0),(2,0)]),(1001,[(1,0)]),(1002,[(1,0),(10,0)]),(1003,[(4,0)]),(1004,[(4,0)])] Tryz.func198 rfl rfl (by simp [Tryz.f198]) (by kernel_rfl) ?_
 simp only [Tryz.f198]
 refine sA ?_
 obtain ⟨c8,hr1,h⟩ := bind_ok h
 refine Cl_sA (zhi hr1) ?_
 try refine sA ?_
 refine Bs_if h (fun h hc2 => ?_) (fun h hc2 => ?_)
 ·try refine sA ?_
  obtain rfl:=Option.some.inj h
  exact endsA ⟨[(4,(I (-1)))],[],0,12⟩ []
 ·try refine sA ?_
  obtain rfl:=Option.some.inj h
  exact endsA ⟨[(4,(I c8))],[],0,12⟩ []
theorem zg3 {a0 : (List BranchT)} {a1 : Int} {r : Int} (h : zdd a0 a1 = some r) : Fn Tryz.prog 145 [(.lf true (.sl (a0.map eBranch))),(I a1)] [] 0 (I r) [] 0 := by
 unfold zdd at h
 refine fn_code tab_ok mixed [(1000,[(0,0),(1,0)]),(1001,[(0,0),(1,0)]),(1002,[(0,0),(1,0),(11,0)]),(1003,[(4,0)]),(1004,[(0,0),(1,0),(5,0)]),(1005,[(0,0),(1,0),(5,0),(15,0)]),(1006,[(0,0),(1,0),(5,0)]),(1007,[(0,0),(1,0),(5,0)]),(1008,[(0,0),(1,0),(5,0),(25,0)]),(1009,[(4,0)]),(1010,[(4,0)])] Tryz.func145 rfl rfl (by simp [Tryz.f145]) (by kernel_rfl) ?_
 simp only [Tryz.f145]
 refine sA ?_
 refine Bs_if h (fun h hc1 => ?_) (fun h hc1 => ?_)
 ·try refine sA ?_
  obtain rfl:=Option.some.inj h
  exact endsA ⟨[(4,(I (-1)))],[],0,27⟩ []
 ·try refine sA ?_
  obtain ⟨y11,hl2,h⟩ := bind_ok h
  refine W_loopP (fun g1 : zcZ => ⟨[(0,(.lf true (.sl (a0.map eBranch)))),(1,(I g1.t1)),(5,(I g1.t5))],[],0,27⟩) (za9 a0) _ _ hl2 (weakA []) ?_
  ·intro n1 g1 z1 hs1 hk1
   unfold za9 at hs1
   try dsimp only at hs1
   refine sA ?_
   refine Bs_if hs1 (fun hs1 hc3 => ?_) (fun hs1 hc3 => ?_)
   ·try refine sA ?_
    obtain ⟨hp4,hs1⟩ := guard_some hs1
    have hn4 : g1.t5.toNat < a0.length := by first | omega | (simp only [List.length_set,List.length_append,List.length_replicate,List.length_map]; omega)
    try refine sA ?_
    try refine andA ?_
    obtain ⟨c10,hr5,hs1⟩ := bind_ok hs1
    refine Cl_sA (zhj hr5) ?_
    try refine sA ?_
    refine Bs_if hs1 (fun hs1 hc6 => ?_) (fun hs1 hc6 => ?_)
    ·try refine sA ?_
     cases hs1
     cases hk1
     try dsimp only at h
     try refine sA ?_
     obtain rfl:=Option.some.inj h
     exact endsA ⟨[(4,(I (-1)))],[],0,27⟩ []
    ·try refine sA ?_
     cases hs1
     exact X_backP hk1 (weakA [])
   ·try refine sA ?_
    cases hs1
    cases hk1
    try dsimp only at h
    try refine sA ?_
    obtain rfl:=Option.some.inj h
    exact endsA ⟨[(4,(I g1.t1))],[],0,27⟩ []
theorem zgB {a0 : TellingsT} {a1 : Int} {r : Int} (h : zcy a0 a1 = some r) : Fn Tryz.prog 73 [(.ag [(.lf true (.sl (a0.Branches.map eBranch)))]),(I a1)] [] 0 (I r) [] 0 := by
 unfold zcy at h
 refine fn_code tab_ok mixed [(1000,[(1,0),(2,0)]),(1001,[(1,0)]),(1002,[(1,0),(10,0)]),(1003,[(4,0)]),(1004,[(4,0)])] Tryz.func73 rfl rfl (by simp [Tryz.f73]) (by kernel_rfl) ?_
 simp only [Tryz.f73]
 refine sA ?_
 obtain ⟨c14,hr1,h⟩ := bind_ok h
 refine Cl_sA (zg3 hr1) ?_
 try refine sA ?_
 refine Bs_if h (fun h hc2 => ?_) (fun h hc2 => ?_)
 ·try refine sA ?_
  obtain rfl:=Option.some.inj h
  exact endsA ⟨[(4,(I (-1)))],[],0,12⟩ []
 ·try refine sA ?_
  obtain rfl:=Option.some.inj h
  exact endsA ⟨[(4,(I c14))],[],0,12⟩ []
theorem zhk {a0 : RegionT} {a1 : Int} {r : Int} (h : zdF a0 a1 = some r) : Fn Tryz.prog 19 [(.ag [(I a0.Id),(I a0.Version),(.lf true (.sl (a0.Tellings.Branches.map eBranch)))]),(I a1)] [] 0 (I r) [] 0 := by
 unfold zdF at h
 refine fn_code tab_ok mixed [(1000,[(1,0),(2,0)]),(1001,[(1,0)]),(1002,[(1,0),(10,0)]),(1003,[(4,0)]),(1004,[(4,0)])] Tryz.func19 rfl rfl (by simp [Tryz.f19]) (by kernel_rfl) ?_
 simp only [Tryz.f19]
 refine sA ?_
 obtain ⟨c15,hr1,h⟩ := bind_ok h
 refine Cl_sA (zgB hr1) ?_
 try refine sA ?_
 refine Bs_if h (fun h hc2 => ?_) (fun h hc2 => ?_)
 ·try refine sA ?_
  obtain rfl:=Option.some.inj h
  exact endsA ⟨[(4,(I (-1)))],[],0,12⟩ []
 ·try refine sA ?_
  obtain rfl:=Option.some.inj h
  exact endsA ⟨[(4,(I c15))],[],0,12⟩ []
theorem zhD {a0 : EventT} {r : EventT} (h : zdW a0 = some r) : Fn Tryz.prog 267 [(.ag [(I a0.Id),(I a0.Version),(I a0.Kind),(.lf false (.sc (.string a0.Name)))])] [] 0 (.ag [(I r.Id),(I r.Version),(I r.Kind),(.lf false (.sc (.string r.Name)))]) [] 1 := by
 unfold zdW at h
 refine fn_code tab_ok mixed [(1000,[(1,0),(2,0)]),(1001,[(1,0),(2,0),(3,0)]),(1002,[(1,0),(2,0),(3,0)]),(1003,[(1,0),(2,0),(3,0)]),(1004,[(1,0),(2,0),(3,0)]),(1005,[(2,0),(3,0)]),(1006,[(2,0)])] Tryz.func267 rfl rfl (by simp [Tryz.f267]) (by kernel_rfl) ?_
 simp only [Tryz.f267]
 refine sA ?_
 obtain rfl:=Option.some.inj h
 exact endsA ⟨[(2,(.pb 0 0))],[(0,some (true,.box [(I a0.Id),(I a0.Version),(I a0.Kind),(.lf false (.sc (.string a0.Name)))]))],1,17⟩ [some 1]
theorem zhl {a0 : (List EventT)} {r : (List EventT)} (h : zdA a0 = some r) : Fn Tryz.prog 243 [(.lf true (.sl (a0.map eEvent)))] [] 0 (.os 0 4 0 r.length r.length false) [(0,some (true,.arr false 4 (r.map eEvent)))] 1 := by
 unfold zdA at h
 refine fn_code tab_ok mixed [(1000,[(0,0)]),(1001,[(0,0),(3,0)]),(1002,[(0,0),(3,0),(4,0)]),(1003,[(0,0),(3,0),(4,0),(11,0)]),(1004,[(0,0),(3,0),(4,0)]),(1005,[(0,0),(3,0),(4,0)]),(1006,[(2,0)])] Tryz.func243 rfl rfl (by simp [Tryz.f243]) (by kernel_rfl) ?_
 simp only [Tryz.f243]
 simp (disch := first | assumption | (simp only [List.length_set]; assumption)) only [go_sem,Nat.reduceAdd,Nat.reduceMul,Nat.reduceSub,Nat.reduceEqDiff,↓reduceIte,Nat.reduceLT,reduceCtorEq,Nat.reduceLeDiff,Int.reduceToNat,Int.reduceEq,Int.reduceLE,Int.reduceLT,Nat.reduceBEq,fold_eEvent_rep]
 obtain ⟨hp1,h⟩ := guard_some h
 try simp (disch := first | assumption | (simp only [List.length_set]; assumption)) only [go_sem,Nat.reduceAdd,Nat.reduceMul,Nat.reduceSub,Nat.reduceEqDiff,↓reduceIte,Nat.reduceLT,reduceCtorEq,Nat.reduceLeDiff,Int.reduceToNat,Int.reduceEq,Int.reduceLE,Int.reduceLT,Nat.reduceBEq,fold_eEvent_rep]
 try refine andA ?_
 obtain ⟨y21,hl2,h⟩ := bind_ok h
 refine W_loopP (fun g18 : zdo => ⟨[(0,(.lf true (.sl (a0.map eEvent)))),(3,(.os 0 4 0 g18.c0.length g18.c0.length false)),(4,(I g18.t4))],[(0,some (true,.arr false 4 (g18.c0.map eEvent)))],1,23⟩) (zbl a0) _ _ hl2 (weak_of (m := 0) [some 0] rfl rfl rfl (by rfl) (by ((try simp (disch := first | assumption | (simp only [List.length_set]; assumption)) only [go_sem,Nat.reduceAdd,Nat.reduceMul,Nat.reduceSub,Nat.reduceEqDiff,↓reduceIte,Nat.reduceLT,reduceCtorEq,Nat.reduceLeDiff,Int.reduceToNat,Int.reduceEq,Int.reduceLE,Int.reduceLT,Nat.reduceBEq,fold_eEvent_rep]); (repeat' first | done | rfl | omega | refine And.intro ?_ ?_ | (simp; done) | (simp; omega)))) (by ((try simp (disch := first | assumption | (simp only [List.length_set]; assumption)) only [go_sem,Nat.reduceAdd,Nat.reduceMul,Nat.reduceSub,Nat.reduceEqDiff,↓reduceIte,Nat.reduceLT,reduceCtorEq,Nat.reduceLeDiff,Int.reduceToNat,Int.reduceEq,Int.reduceLE,Int.reduceLT,Nat.reduceBEq,fold_eEvent_rep]); (repeat' first | done | rfl | omega | refine And.intro ?_ ?_ | (simp; done) | (simp; omega))))) ?_
 ·intro n1 g18 z1 hs1 hk1
  unfold zbl at hs1
  try dsimp only at hs1
  simp (disch := first | assumption | (simp only [List.length_set]; assumption)) only [go_sem,Nat.reduceAdd,Nat.reduceMul,Nat.reduceSub,Nat.reduceEqDiff,↓reduceIte,Nat.reduceLT,reduceCtorEq,Nat.reduceLeDiff,Int.reduceToNat,Int.reduceEq,Int.reduceLE,Int.reduceLT,Nat.reduceBEq,fold_eEvent_rep]
  refine Bs_if hs1 (fun hs1 hc3 => ?_) (fun hs1 hc3 => ?_)
  ·try simp (disch := first | assumption | (simp only [List.length_set]; assumption)) only [go_sem,Nat.reduceAdd,Nat.reduceMul,Nat.reduceSub,Nat.reduceEqDiff,↓reduceIte,Nat.reduceLT,reduceCtorEq,Nat.reduceLeDiff,Int.reduceToNat,Int.reduceEq,Int.reduceLE,Int.reduceLT,Nat.reduceBEq,fold_eEvent_rep]
   obtain ⟨hp4,hs1⟩ := guard_some hs1
   have hn4 : g18.t4.toNat < a0.length := by first | omega | (simp only [List.length_set,List.length_append,List.length_replicate,List.length_map]; omega)
   try simp (disch := first | assumption | (simp only [List.length_set]; assumption)) only [go_sem,Nat.reduceAdd,Nat.reduceMul,Nat.reduceSub,Nat.reduceEqDiff,↓reduceIte,Nat.reduceLT,reduceCtorEq,Nat.reduceLeDiff,Int.reduceToNat,Int.reduceEq,Int.reduceLE,Int.reduceLT,Nat.reduceBEq,fold_eEvent_rep]
   try refine andA ?_
   obtain ⟨c20,hr5,hs1⟩ := bind_ok hs1
   refine Cl_shown (zhD hr5) (by first | rfl | (simp (disch := first | assumption | (simp only [List.length_set]; assumption)) only [go_sem,Nat.reduceAdd,Nat.reduceMul,Nat.reduceSub,Nat.reduceEqDiff,↓reduceIte,Nat.reduceLT,reduceCtorEq,Nat.reduceLeDiff,Int.reduceToNat,Int.reduceEq,Int.reduceLE,Int.reduceLT,Nat.reduceBEq,fold_eEvent_rep]; first | done | rfl) | (simp only [List.length_append,List.length_cons,List.length_nil,List.length_map,List.length_set,List.length_replicate,Nat.zero_add,Nat.reduceAdd]; rfl) | (simp (disch := first | assumption | (simp only [List.length_set]; assumption)) only [go_sem,Nat.reduceAdd,Nat.reduceMul,Nat.reduceSub,Nat.reduceEqDiff,↓reduceIte,Nat.reduceLT,reduceCtorEq,Nat.reduceLeDiff,Int.reduceToNat,Int.reduceEq,Int.reduceLE,Int.reduceLT,Nat.reduceBEq,fold_eEvent_rep]; simp only [List.length_append,List.length_cons,List.length_nil,List.length_map,List.length_set,List.length_replicate,Nat.zero_add,Nat.reduceAdd]; rfl)) (FitAll.refl _) (.inl (by first | rfl | (simp (disch := first | assumption | (simp only [List.length_set]; assumption)) only [go_sem,Nat.reduceAdd,Nat.reduceMul,Nat.reduceSub,Nat.reduceEqDiff,↓reduceIte,Nat.reduceLT,reduceCtorEq,Nat.reduceLeDiff,Int.reduceToNat,Int.reduceEq,Int.reduceLE,Int.reduceLT,Nat.reduceBEq,fold_eEvent_rep]; done))) ?_
   try simp (disch := first | assumption | (simp only [List.length_set]; assumption)) only [go_sem,Nat.reduceAdd,Nat.reduceMul,Nat.reduceSub,Nat.reduceEqDiff,↓reduceIte,Nat.reduceLT,reduceCtorEq,Nat.reduceLeDiff,Int.reduceToNat,Int.reduceEq,Int.reduceLE,Int.reduceLT,Nat.reduceBEq,fold_eEvent_rep]
   obtain ⟨hp6,hs1⟩ := guard_some hs1
   have hn6 : g18.t4.toNat < g18.c0.length := by first | omega | (simp only [List.length_set,List.length_append,List.length_replicate,List.length_map]; omega)
   try simp (disch := first | assumption | (simp only [List.length_set]; assumption)) only [go_sem,Nat.reduceAdd,Nat.reduceMul,Nat.reduceSub,Nat.reduceEqDiff,↓reduceIte,Nat.reduceLT,reduceCtorEq,Nat.reduceLeDiff,Int.reduceToNat,Int.reduceEq,Int.reduceLE,Int.reduceLT,Nat.reduceBEq,fold_eEvent_rep]
   try refine andA ?_
   try refine andB ?_
   try simp (disch := first | assumption | (simp only [List.length_set]; assumption)) only [go_sem,Nat.reduceAdd,Nat.reduceMul,Nat.reduceSub,Nat.reduceEqDiff,↓reduceIte,Nat.reduceLT,reduceCtorEq,Nat.reduceLeDiff,Int.reduceToNat,Int.reduceEq,Int.reduceLE,Int.reduceLT,Nat.reduceBEq,fold_eEvent_rep]
   cases hs1
   refine X_backP hk1 ?_
   refine weak_of (m := 0) [some 0] rfl rfl rfl (by rfl) ?_ ?_
   all_goals ((try simp (disch := first | assumption | (simp only [List.length_set]; assumption)) only [go_sem,Nat.reduceAdd,Nat.reduceMul,Nat.reduceSub,Nat.reduceEqDiff,↓reduceIte,Nat.reduceLT,reduceCtorEq,Nat.reduceLeDiff,Int.reduceToNat,Int.reduceEq,Int.reduceLE,Int.reduceLT,Nat.reduceBEq,fold_eEvent_rep]); (repeat' first | done | rfl | omega | refine And.intro ?_ ?_ | (simp; done) | (simp; omega)))
  ·try simp (disch := first | assumption | (simp only [List.length_set]; assumption)) only [go_sem,Nat.reduceAdd,Nat.reduceMul,Nat.reduceSub,Nat.reduceEqDiff,↓reduceIte,Nat.reduceLT,reduceCtorEq,Nat.reduceLeDiff,Int.reduceToNat,Int.reduceEq,Int.reduceLE,Int.reduceLT,Nat.reduceBEq,fold_eEvent_rep]
   cases hs1
   cases hk1
   try dsimp only at h
   try simp (disch := first | assumption | (simp only [List.length_set]; assumption)) only [go_sem,Nat.reduceAdd,Nat.reduceMul,Nat.reduceSub,Nat.reduceEqDiff,↓reduceIte,Nat.reduceLT,reduceCtorEq,Nat.reduceLeDiff,Int.reduceToNat,Int.reduceEq,Int.reduceLE,Int.reduceLT,Nat.reduceBEq,fold_eEvent_rep]
   obtain rfl:=Option.some.inj h
   refine ends_weak ⟨[(2,(.os 0 4 0 g18.c0.length g18.c0.length false))],[(0,some (true,.arr false 4 (g18.c0.map eEvent)))],1,23⟩ (weak_of (m := 0) [some 0] rfl rfl rfl (by rfl) ?_ ?_) ?_
   all_goals ((try simp (disch := first | assumption | (simp only [List.length_set]; assumption)) only [go_sem,Nat.reduceAdd,Nat.reduceMul,Nat.reduceSub,Nat.reduceEqDiff,↓reduceIte,Nat.reduceLT,reduceCtorEq,Nat.reduceLeDiff,Int.reduceToNat,Int.reduceEq,Int.reduceLE,Int.reduceLT,Nat.reduceBEq,fold_eEvent_rep]); (repeat' first | done | rfl | omega | refine And.intro ?_ ?_ | (simp; done) | (simp; omega)))
theorem zfT {a0 : BranchT} {r : BranchT} (h : zcz a0 = some r) : Fn Tryz.prog 199 [(.ag [(.lf true (.sl (a0.Events.map eEvent)))])] [] 0 (.ag [(.os 0 4 0 r.Events.length r.Events.length false)]) [(0,some (true,.arr false 4 (r.Events.map eEvent)))] 2 := by
 unfold zcz at h
 refine fn_code tab_ok mixed [(1000,[(1,0),(2,0)]),(1001,[(1,0),(2,0),(3,0)]),(1002,[(2,0),(3,0)]),(1003,[(2,0)])] Tryz.func199 rfl rfl (by simp [Tryz.f199]) (by kernel_rfl) ?_
 simp only [Tryz.f199]
 refine sA ?_
 obtain ⟨c22,hr1,h⟩ := bind_ok h
 refine Cl_sA (zhl hr1) ?_
 try refine sA ?_
 obtain rfl:=Option.some.inj h
 exact endsA ⟨[(2,(.pb 1 0))],[(0,some (true,.arr false 4 (c22.map eEvent))),(1,some (true,.box [(.os 0 4 0 c22.length c22.length false)]))],2,9⟩ [some 3,some 1]
theorem zg4 {a0 : (List BranchT)} {r : (List BranchT)} (h : zde a0 = some r) : Fn Tryz.prog 146 [(.lf true (.sl (a0.map eBranch)))] [] 0 (.os 0 1 0 r.length r.length false) [(0,some (true,.deep [.sl [.sc,.sc,.sc,.sc]] (r.map eBranch)))] 1 := by
 unfold zde at h
 refine fn_code tab_ok mixed [(1000,[(0,0)]),(1001,[(0,0),(3,0)]),(1002,[(0,0),(3,0),(4,0)]),(1003,[(0,0),(3,0),(4,0),(11,0)]),(1004,[(0,0),(3,0),(4,0)]),(1005,[(0,0),(3,0),(4,0)]),(1006,[(2,0)])] Tryz.func146 rfl rfl (by simp [Tryz.f146]) (by kernel_rfl) ?_
 simp only [Tryz.f146]
 simp (disch := first | assumption | (simp only [List.length_set]; assumption)) only [go_sem,Nat.reduceAdd,Nat.reduceMul,Nat.reduceSub,Nat.reduceEqDiff,↓reduceIte,Nat.reduceLT,reduceCtorEq,Nat.reduceLeDiff,Int.reduceToNat,Int.reduceEq,Int.reduceLE,Int.reduceLT,Nat.reduceBEq,fold_eBranch_rep]
 obtain ⟨hp1,h⟩ := guard_some h
 try simp (disch := first | assumption | (simp only [List.length_set]; assumption)) only [go_sem,Nat.reduceAdd,Nat.reduceMul,Nat.reduceSub,Nat.reduceEqDiff,↓reduceIte,Nat.reduceLT,reduceCtorEq,Nat.reduceLeDiff,Int.reduceToNat,Int.reduceEq,Int.reduceLE,Int.reduceLT,Nat.reduceBEq,fold_eBranch_rep]
 try refine andA ?_
 obtain ⟨y25,hl2,h⟩ := bind_ok h
 refine W_loopP (fun g17 : zc0 => ⟨[(0,(.lf true (.sl (a0.map eBranch)))),(3,(.os 0 1 0 g17.c0.length g17.c0.length false)),(4,(I g17.t4))],[(0,some (true,.deep [.sl [.sc,.sc,.sc,.sc]] (g17.c0.map eBranch)))],1,23⟩) (zba a0) _ _ hl2 (weak_of (m := 0) [some 0] rfl rfl rfl (by rfl) (by ((try simp (disch := first | assumption | (simp only [List.length_set]; assumption)) only [go_sem,Nat.reduceAdd,Nat.reduceMul,Nat.reduceSub,Nat.reduceEqDiff,↓reduceIte,Nat.reduceLT,reduceCtorEq,Nat.reduceLeDiff,Int.reduceToNat,Int.reduceEq,Int.reduceLE,Int.reduceLT,Nat.reduceBEq,fold_eBranch_rep]); (repeat' first | done | rfl | omega | refine And.intro ?_ ?_ | (simp; done) | (simp; omega)))) (by ((try simp (disch := first | assumption | (simp only [List.length_set]; assumption)) only [go_sem,Nat.reduceAdd,Nat.reduceMul,Nat.reduceSub,Nat.reduceEqDiff,↓reduceIte,Nat.reduceLT,reduceCtorEq,Nat.reduceLeDiff,Int.reduceToNat,Int.reduceEq,Int.reduceLE,Int.reduceLT,Nat.reduceBEq,fold_eBranch_rep]); (repeat' first | done | rfl | omega | refine And.intro ?_ ?_ | (simp; done) | (simp; omega))))) ?_
 ·intro n1 g17 z1 hs1 hk1
  unfold zba at hs1
  try dsimp only at hs1
  simp (disch := first | assumption | (simp only [List.length_set]; assumption)) only [go_sem,Nat.reduceAdd,Nat.reduceMul,Nat.reduceSub,Nat.reduceEqDiff,↓reduceIte,Nat.reduceLT,reduceCtorEq,Nat.reduceLeDiff,Int.reduceToNat,Int.reduceEq,Int.reduceLE,Int.reduceLT,Nat.reduceBEq,fold_eBranch_rep]
  refine Bs_if hs1 (fun hs1 hc3 => ?_) (fun hs1 hc3 => ?_)
  ·try simp (disch := first | assumption | (simp only [List.length_set]; assumption)) only [go_sem,Nat.reduceAdd,Nat.reduceMul,Nat.reduceSub,Nat.reduceEqDiff,↓reduceIte,Nat.reduceLT,reduceCtorEq,Nat.reduceLeDiff,Int.reduceToNat,Int.reduceEq,Int.reduceLE,Int.reduceLT,Nat.reduceBEq,fold_eBranch_rep]
   obtain ⟨hp4,hs1⟩ := guard_some hs1
   have hn4 : g17.t4.toNat < a0.length := by first | omega | (simp only [List.length_set,List.length_append,List.length_replicate,List.length_map]; omega)
   try simp (disch := first | assumption | (simp only [List.length_set]; assumption)) only [go_sem,Nat.reduceAdd,Nat.reduceMul,Nat.reduceSub,Nat.reduceEqDiff,↓reduceIte,Nat.reduceLT,reduceCtorEq,Nat.reduceLeDiff,Int.reduceToNat,Int.reduceEq,Int.reduceLE,Int.reduceLT,Nat.reduceBEq,fold_eBranch_rep]
   try refine andA ?_
   obtain ⟨c24,hr5,hs1⟩ := bind_ok hs1
   refine Cl_shown (zfT hr5) (by first | rfl | (simp (disch := first | assumption | (simp only [List.length_set]; assumption)) only [go_sem,Nat.reduceAdd,Nat.reduceMul,Nat.reduceSub,Nat.reduceEqDiff,↓reduceIte,Nat.reduceLT,reduceCtorEq,Nat.reduceLeDiff,Int.reduceToNat,Int.reduceEq,Int.reduceLE,Int.reduceLT,Nat.reduceBEq,fold_eBranch_rep]; first | done | rfl) | (simp only [List.length_append,List.length_cons,List.length_nil,List.length_map,List.length_set,List.length_replicate,Nat.zero_add,Nat.reduceAdd]; rfl) | (simp (disch := first | assumption | (simp only [List.length_set]; assumption)) only [go_sem,Nat.reduceAdd,Nat.reduceMul,Nat.reduceSub,Nat.reduceEqDiff,↓reduceIte,Nat.reduceLT,reduceCtorEq,Nat.reduceLeDiff,Int.reduceToNat,Int.reduceEq,Int.reduceLE,Int.reduceLT,Nat.reduceBEq,fold_eBranch_rep]; simp only [List.length_append,List.length_cons,List.length_nil,List.length_map,List.length_set,List.length_replicate,Nat.zero_add,Nat.reduceAdd]; rfl)) (FitAll.refl _) (.inl (by first | rfl | (simp (disch := first | assumption | (simp only [List.length_set]; assumption)) only [go_sem,Nat.reduceAdd,Nat.reduceMul,Nat.reduceSub,Nat.reduceEqDiff,↓reduceIte,Nat.reduceLT,reduceCtorEq,Nat.reduceLeDiff,Int.reduceToNat,Int.reduceEq,Int.reduceLE,Int.reduceLT,Nat.reduceBEq,fold_eBranch_rep]; done))) ?_
   try simp (disch := first | assumption | (simp only [List.length_set]; assumption)) only [go_sem,Nat.reduceAdd,Nat.reduceMul,Nat.reduceSub,Nat.reduceEqDiff,↓reduceIte,Nat.reduceLT,reduceCtorEq,Nat.reduceLeDiff,Int.reduceToNat,Int.reduceEq,Int.reduceLE,Int.reduceLT,Nat.reduceBEq,fold_eBranch_rep]
   obtain ⟨hp6,hs1⟩ := guard_some hs1
   have hn6 : g17.t4.toNat < g17.c0.length := by first | omega | (simp only [List.length_set,List.length_append,List.length_replicate,List.length_map]; omega)
   try simp (disch := first | assumption | (simp only [List.length_set]; assumption)) only [go_sem,Nat.reduceAdd,Nat.reduceMul,Nat.reduceSub,Nat.reduceEqDiff,↓reduceIte,Nat.reduceLT,reduceCtorEq,Nat.reduceLeDiff,Int.reduceToNat,Int.reduceEq,Int.reduceLE,Int.reduceLT,Nat.reduceBEq,fold_eBranch_rep]
   try refine andA ?_
   try refine andB ?_
   try simp (disch := first | assumption | (simp only [List.length_set]; assumption)) only [go_sem,Nat.reduceAdd,Nat.reduceMul,Nat.reduceSub,Nat.reduceEqDiff,↓reduceIte,Nat.reduceLT,reduceCtorEq,Nat.reduceLeDiff,Int.reduceToNat,Int.reduceEq,Int.reduceLE,Int.reduceLT,Nat.reduceBEq,fold_eBranch_rep]
   cases hs1
   refine X_backP hk1 ?_
   refine packW 0 ?_
   refine weak_of (m := 0) [some 0] rfl rfl rfl (by rfl) ?_ ?_
   all_goals ((try simp (disch := first | assumption | (simp only [List.length_set]; assumption)) only [go_sem,Nat.reduceAdd,Nat.reduceMul,Nat.reduceSub,Nat.reduceEqDiff,↓reduceIte,Nat.reduceLT,reduceCtorEq,Nat.reduceLeDiff,Int.reduceToNat,Int.reduceEq,Int.reduceLE,Int.reduceLT,Nat.reduceBEq,fold_eBranch_rep]); (repeat' first | done | rfl | omega | refine And.intro ?_ ?_ | (simp; done) | (simp; omega)))
  ·try simp (disch := first | assumption | (simp only [List.length_set]; assumption)) only [go_sem,Nat.reduceAdd,Nat.reduceMul,Nat.reduceSub,Nat.reduceEqDiff,↓reduceIte,Nat.reduceLT,reduceCtorEq,Nat.reduceLeDiff,Int.reduceToNat,Int.reduceEq,Int.reduceLE,Int.reduceLT,Nat.reduceBEq,fold_eBranch_rep]
   cases hs1
   cases hk1
   try dsimp only at h
   try simp (disch := first | assumption | (simp only [List.length_set]; assumption)) only [go_sem,Nat.reduceAdd,Nat.reduceMul,Nat.reduceSub,Nat.reduceEqDiff,↓reduceIte,Nat.reduceLT,reduceCtorEq,Nat.reduceLeDiff,Int.reduceToNat,Int.reduceEq,Int.reduceLE,Int.reduceLT,Nat.reduceBEq,fold_eBranch_rep]
   obtain rfl:=Option.some.inj h
   refine ends_weak ⟨[(2,(.os 0 1 0 g17.c0.length g17.c0.length false))],[(0,some (true,.deep [.sl [.sc,.sc,.sc,.sc]] (g17.c0.map eBranch)))],1,23⟩ (weak_of (m := 0) [some 0] rfl rfl rfl (by rfl) ?_ ?_) ?_
   all_goals ((try simp (disch := first | assumption | (simp only [List.length_set]; assumption)) only [go_sem,Nat.reduceAdd,Nat.reduceMul,Nat.reduceSub,Nat.reduceEqDiff,↓reduceIte,Nat.reduceLT,reduceCtorEq,Nat.reduceLeDiff,Int.reduceToNat,Int.reduceEq,Int.reduceLE,Int.reduceLT,Nat.reduceBEq,fold_eBranch_rep]); (repeat' first | done | rfl | omega | refine And.intro ?_ ?_ | (simp; done) | (simp; omega)))
theorem ze6 {a0 : TellingsT} {r : TellingsT} (h : zbF a0 = some r) : Fn Tryz.prog 74 [(.ag [(.lf true (.sl (a0.Branches.map eBranch)))])] [] 0 (.ag [(.os 0 1 0 r.Branches.length r.Branches.length false)]) [(0,some (true,.deep [.sl [.sc,.sc,.sc,.sc]] (r.Branches.map eBranch)))] 2 := by
 unfold zbF at h
 refine fn_code tab_ok mixed [(1000,[(1,0),(2,0)]),(1001,[(1,0),(2,0),(3,0)]),(1002,[(2,0),(3,0)]),(1003,[(2,0)])] Tryz.func74 rfl rfl (by simp [Tryz.f74]) (by kernel_rfl) ?_
 simp only [Tryz.f74]
 refine sA ?_
 obtain ⟨c26,hr1,h⟩ := bind_ok h
 refine Cl_sA (zg4 hr1) ?_
 try refine sA ?_
 obtain rfl:=Option.some.inj h
 exact endsA ⟨[(2,(.pb 1 0))],[(0,some (true,.deep [.sl [.sc,.sc,.sc,.sc]] (c26.map eBranch))),(1,some (true,.box [(.os 0 1 0 c26.length c26.length false)]))],2,9⟩ [some 3,some 1]
theorem zeN {a0 : RegionT} {r : RegionT} (h : zbP a0 = some r) : Fn Tryz.prog 20 [(.ag [(I a0.Id),(I a0.Version),(.lf true (.sl (a0.Tellings.Branches.map eBranch)))])] [] 0 (.ag [(I r.Id),(I r.Version),(.os 0 1 0 r.Tellings.Branches.length r.Tellings.Branches.length false)]) [(0,some (true,.deep [.sl [.sc,.sc,.sc,.sc]] (r.Tellings.Branches.map eBranch)))] 2 := by
 unfold zbP at h
 refine fn_code tab_ok mixed [(1000,[(1,0),(2,0)]),(1001,[(1,0),(2,0),(3,0)]),(1002,[(1,0),(2,0),(3,0)]),(1003,[(1,0),(2,0),(3,0)]),(1004,[(2,0),(3,0)]),(1005,[(2,0)])] Tryz.func20 rfl rfl (by simp [Tryz.f20]) (by kernel_rfl) ?_
 simp only [Tryz.f20]
 refine sA ?_
 obtain ⟨c27,hr1,h⟩ := bind_ok h
 refine Cl_sA (ze6 hr1) ?_
 try refine sA ?_
 obtain rfl:=Option.some.inj h
 exact endsA ⟨[(2,(.pb 1 0))],[(0,some (true,.deep [.sl [.sc,.sc,.sc,.sc]] (c27.Branches.map eBranch))),(1,some (true,.box [(I a0.Id),(I a0.Version),(.os 0 1 0 c27.Branches.length c27.Branches.length false)]))],2,15⟩ [some 3,some 1]
theorem zby {a0 : Int} {a1 : Int} {a2 : Int} {r : Bool} (h : zaE a0 a1 a2 = some r) : Fn Tryz.prog 96 [(I a0),(I a1),(I a2)] [] 0 (B r) [] 0 := by
 unfold zaE at h
 refine fn_code tab_ok mixed [] Tryz.func96 rfl rfl (by simp [Tryz.f96]) (by kernel_rfl) ?_
 simp only [Tryz.f96]
 refine sA ?_
 refine Sp_if h (fun h hc1 => ?_) (fun h hc1 => ?_)
 ·try refine sA ?_
  obtain rfl:=Option.some.inj h
  exact endsA ⟨[(6,(B (decide (a0 ≤ a2))))],[],0,15⟩ []
 ·try refine sA ?_
  obtain rfl:=Option.some.inj h
  exact endsA ⟨[(6,(B false))],[],0,15⟩ []
theorem zgC {a0 : Int} {r : Bool} (h : zdL a0 = some r) : Fn Tryz.prog 129 [(I a0)] [] 0 (B r) [] 0 := by
 unfold zdL at h
 refine fn_code tab_ok mixed [] Tryz.func129 rfl rfl (by simp [Tryz.f129]) (by kernel_rfl) ?_
 simp only [Tryz.f129]
 refine sA ?_
 obtain ⟨c30,hr1,h⟩ := bind_ok h
 refine Cl_sA (zby hr1) ?_
 try refine sA ?_
 obtain rfl:=Option.some.inj h
 exact endsA ⟨[(2,(B c30))],[],0,5⟩ []
theorem zhm {r : StateT} (h : zes = some r) : Fn Tryz.prog 227 [] [] 0 (.ag [(I r.Status),(I r.Next),(B r.Cancel),(I r.Done),.nl,.nl]) [] 1 := by
 unfold zes at h
 refine fn_code tab_ok mixed [] Tryz.func227 rfl rfl (by simp [Tryz.f227]) (by kernel_rfl) ?_
 simp only [Tryz.f227]
 refine sA ?_
 obtain rfl:=Option.some.inj h
 exact endsA ⟨[(0,(.pb 0 0))],[(0,some (true,.box [(I 0),(I 1),(B false),(I 0),.nl,.nl]))],1,2⟩ [some 0]
theorem ze1 {a0 : ByteArray} {r : Bool} (h : zcS a0 = some r) : Fn Tryz.prog 158 [(.lf false (.sc (.string a0)))] [] 0 (B r) [] 0 := by
 unfold zcS at h
 refine fn_code tab_ok mixed [(1000,[(0,0)]),(1001,[(0,0),(3,0)]),(1002,[(0,0),(3,0),(7,0)]),(1003,[(0,0),(3,0)]),(1004,[(0,0),(3,0),(32,0)]),(1005,[(2,0)]),(1006,[(2,0)]),(4004,[])] Tryz.func158 rfl rfl (by simp [Tryz.f158]) (by kernel_rfl) ?_
 simp only [Tryz.f158]
 refine sA ?_
 obtain ⟨y47,hl1,h⟩ := bind_ok h
 refine W_loopP (fun g44 : zec => ⟨[(0,(.lf false (.sc (.string a0)))),(3,(I g44.t3))],[],0,36⟩) (zb2 a0) _ _ hl1 (weakA []) ?_
 ·intro n1 g44 z1 hs1 hk1
  unfold zb2 at hs1
  try dsimp only at hs1
  refine sA ?_
  refine Bs_if hs1 (fun hs1 hc2 => ?_) (fun hs1 hc2 => ?_)
  ·try refine sA ?_
   obtain ⟨p46,hq3,hs1⟩ := bind_ok hs1
   refine Sq_cut (fun s2 => s2 = ⟨[(0,(.lf false (.sc (.string a0)))),(3,(I g44.t3)),(32,(B p46.t32))],[],0,36⟩) ?_ ?_
   ·try refine sA ?_
    obtain ⟨hp4,hq3⟩ := guard_some hq3
    try refine sA ?_
    try refine andA ?_
    refine Sp_if hq3 (fun hq3 hc5 => ?_) (fun hq3 hc5 => ?_)
    ·try refine sA ?_
     obtain ⟨hp6,hq3⟩ := guard_some hq3
     try refine sA ?_
     try refine andA ?_
     refine Sp_if hq3 (fun hq3 hc7 => ?_) (fun hq3 hc7 => ?_)
     ·try refine sA ?_
      cases hq3
      exact X_cut rfl (weakA [])
     ·try refine sA ?_
      obtain ⟨hp8,hq3⟩ := guard_some hq3
      try refine sA ?_
      try refine andA ?_
      refine Sp_if hq3 (fun hq3 hc9 => ?_) (fun hq3 hc9 => ?_)
      ·try refine sA ?_
       obtain ⟨hp10,hq3⟩ := guard_some hq3
       try refine sA ?_
       try refine andA ?_
       cases hq3
       exact X_cut rfl (weakA [])
      ·try refine sA ?_
       cases hq3
       exact X_cut rfl (weakA [])
    ·try refine sA ?_
     obtain ⟨hp11,hq3⟩ := guard_some hq3
     try refine sA ?_
     try refine andA ?_
     refine Sp_if hq3 (fun hq3 hc12 => ?_) (fun hq3 hc12 => ?_)
     ·try refine sA ?_
      obtain ⟨hp13,hq3⟩ := guard_some hq3
      try refine sA ?_
      try refine andA ?_
      cases hq3
      exact X_cut rfl (weakA [])
     ·try refine sA ?_
      cases hq3
      exact X_cut rfl (weakA [])
   ·intro s2 hJ; subst hJ
    try dsimp only at hs1
    try refine sA ?_
    refine Bs_if hs1 (fun hs1 hc14 => ?_) (fun hs1 hc14 => ?_)
    ·try refine sA ?_
     cases hs1
     cases hk1
     try dsimp only at h
     try refine sA ?_
     obtain rfl:=Option.some.inj h
     exact endsA ⟨[(2,(B false))],[],0,36⟩ []
    ·try refine sA ?_
     cases hs1
     exact X_backP hk1 (weakA [])
  ·try refine sA ?_
   cases hs1
   cases hk1
   try dsimp only at h
   try refine sA ?_
   obtain rfl:=Option.some.inj h
   exact endsA ⟨[(2,(B (decide ((a0.size : Int) ≤ 12))))],[],0,36⟩ []
theorem zg5 {a0 : EventT} {r : Bool} (h : zc4 a0 = some r) : Fn Tryz.prog 85 [(.ag [(I a0.Id),(I a0.Version),(I a0.Kind),(.lf false (.sc (.string a0.Name)))])] [] 0 (B r) [] 0 := by
 unfold zc4 at h
 refine fn_code tab_ok mixed [] Tryz.func85 rfl rfl (by simp [Tryz.f85]) (by kernel_rfl) ?_
 simp only [Tryz.f85]
 refine sA ?_
 obtain ⟨c41,hr1,h⟩ := bind_ok h
 refine Cl_sA (zby hr1) ?_
 try refine sA ?_
 refine Sp_if h (fun h hc2 => ?_) (fun h hc2 => ?_)
 ·try refine sA ?_
  obtain ⟨c42,hr3,h⟩ := bind_ok h
  refine Cl_sA (zby hr3) ?_
  try refine sA ?_
  refine Sp_if h (fun h hc4 => ?_) (fun h hc4 => ?_)
  ·try refine sA ?_
   obtain ⟨c43,hr5,h⟩ := bind_ok h
   refine Cl_sA (zby hr5) ?_
   try refine sA ?_
   refine Sp_if h (fun h hc6 => ?_) (fun h hc6 => ?_)
   ·try refine sA ?_
    obtain ⟨c50,hr7,h⟩ := bind_ok h
    refine Cl_sA (ze1 hr7) ?_
    try refine sA ?_
    obtain rfl:=Option.some.inj h
    exact endsA ⟨[(2,(B c50))],[],0,21⟩ []
   ·try refine sA ?_
    obtain rfl:=Option.some.inj h
    exact endsA ⟨[(2,(B false))],[],0,21⟩ []
  ·try refine sA ?_
   obtain rfl:=Option.some.inj h
   exact endsA ⟨[(2,(B false))],[],0,21⟩ []
 ·try refine sA ?_
  obtain rfl:=Option.some.inj h
  exact endsA ⟨[(2,(B false))],[],0,21⟩ []
theorem zhM {a0 : StateT} {r : StateT} (h : zem a0 = some r) : Fn Tryz.prog 228 [(.ag [(I a0.Status),(I a0.Next),(B a0.Cancel),(I a0.Done),(.lf true (.sl (a0.Signals.map eS))),(.lf true (.sl (a0.Timers.map eS)))])] [] 0 (.ag [(I r.Status),(I r.Next),(B r.Cancel),(I r.Done),(.os 0 1 0 r.Signals.length r.Signals.length false),(.os 1 1 0 r.Timers.length r.Timers.length false)]) [(0,some (true,.arr false 1 (r.Signals.map eS))),(1,some (true,.arr false 1 (r.Timers.map eS)))] 3 := by
 unfold zem at h
 refine fn_code tab_ok mixed [(1000,[(1,0),(2,0)]),(1001,[(1,0),(2,0)]),(1002,[(1,0),(2,0)]),(1003,[(2,0)])] Tryz.func228 rfl rfl (by simp [Tryz.f228]) (by kernel_rfl) ?_
 simp only [Tryz.f228]
 refine sA ?_
 obtain ⟨hp1,h⟩ := guard_some h
 try refine sA ?_
 try refine andA ?_
 obtain ⟨hp2,h⟩ := guard_some h
 try refine sA ?_
 try refine andA ?_
 obtain rfl:=Option.some.inj h
 exact endsA ⟨[(2,(.pb 2 0))],[(0,some (true,.arr false 1 ((([]) ++ a0.Signals).map eS))),(1,some (true,.arr false 1 ((([]) ++ a0.Timers).map eS))),(2,some (true,.box [(I a0.Status),(I a0.Next),(B a0.Cancel),(I a0.Done),(.os 0 1 0 ((([]) ++ a0.Signals).length) ((([]) ++ a0.Signals).length) false),(.os 1 1 0 ((([]) ++ a0.Timers).length) ((([]) ++ a0.Timers).length) false)]))],3,14⟩ [some 3,some 5,some 1]
theorem zd8 {a0 : (List ByteArray)} {a1 : ByteArray} {r : Int} (h : zaW a0 a1 = some r) : Fn Tryz.prog 186 [(.lf true (.sl (a0.map eS))),(.lf false (.sc (.string a1)))] [] 0 (I r) [] 0 := by
 unfold zaW at h
 refine fn_code tab_ok mixed [(1000,[(0,0),(1,0)]),(1001,[(1,0),(7,0),(8,0),(9,0)]),(1002,[(1,0),(7,0),(8,0),(9,0),(10,0)]),(1003,[(1,0),(5,0),(6,0),(7,0),(8,0),(9,0)]),(1004,[(1,0),(5,0),(7,0),(8,0),(9,0),(16,0)]),(1005,[(4,0)]),(1006,[(1,0),(7,0),(8,0),(9,0)]),(1007,[(4,0)])] Tryz.func186 rfl rfl (by simp [Tryz.f186]) (by kernel_rfl) ?_
 simp only [Tryz.f186]
 refine sA ?_
 obtain ⟨y55,hl1,h⟩ := bind_ok h
 refine W_loopP (fun g54 : zet => ⟨[(1,(.lf false (.sc (.string a1)))),(7,(.lf true (.sl (a0.map eS)))),(8,(I ((a0.length : Nat) : Int))),(9,(I g54.t9))],[],0,19⟩) (zcp a0 a1) _ _ hl1 (weakA []) ?_
 ·intro n1 g54 z1 hs1 hk1
  unfold zcp at hs1
  try dsimp only at hs1
  refine sA ?_
  refine Bs_if hs1 (fun hs1 hc2 => ?_) (fun hs1 hc2 => ?_)
  ·try refine sA ?_
   obtain ⟨hp3,hs1⟩ := guard_some hs1
   have hn3 : g54.t9.toNat < a0.length := by first | omega | (simp only [List.length_set,List.length_append,List.length_replicate,List.length_map]; omega)
   try refine sA ?_
   try refine andA ?_
   refine Bs_if hs1 (fun hs1 hc4 => ?_) (fun hs1 hc4 => ?_)
   ·try refine sA ?_
    cases hs1
    cases hk1
    try dsimp only at h
    try refine sA ?_
    obtain rfl:=Option.some.inj h
    exact endsA ⟨[(4,(I g54.t9))],[],0,19⟩ []
   ·try refine sA ?_
    cases hs1
    exact X_backP hk1 (weakA [])
  ·try refine sA ?_
   cases hs1
   cases hk1
   try dsimp only at h
   try refine sA ?_
   obtain rfl:=Option.some.inj h
   exact endsA ⟨[(4,(I (-1)))],[],0,19⟩ []
theorem zfv {a0 : (List ByteArray)} {a1 : ByteArray} {r : (List ByteArray)} (h : zbc a0 a1 = some r) : Fn Tryz.prog 187 [(.lf true (.sl (a0.map eS))),(.lf false (.sc (.string a1)))] [] 0 (.os 0 1 0 r.length r.length false) [(0,some (true,.arr false 1 (r.map eS)))] 1 := by
 unfold zbc at h
 refine fn_code tab_ok mixed [(1000,[(0,0),(1,0)]),(1001,[(0,0),(1,0),(5,0)]),(1002,[(0,0),(1,0),(5,0),(6,0)]),(1003,[(1,0),(5,0),(6,0),(13,0),(14,0),(15,0)]),(1004,[(1,0),(5,0),(6,0),(13,0),(14,0),(15,0),(16,0)]),(1005,[(1,0),(5,0),(6,0),(8,0),(13,0),(14,0),(15,0)]),(1006,[(1,0),(5,0),(6,0),(8,0),(13,0),(14,0),(15,0),(21,0)]),(1007,[(1,0),(5,0),(6,0),(8,0),(13,0),(14,0),(15,0),(28,0)]),(1008,[(1,0),(5,0),(8,0),(13,0),(14,0),(15,0)]),(1009,[(1,0),(5,0),(6,0),(8,0),(13,0),(14,0),(15,0)]),(1010,[(1,0),(5,0),(6,0),(13,0),(14,0),(15,0)]),(1011,[(1,0),(5,0),(6,0),(13,0),(14,0),(15,0)]),(1012,[(1,0),(5,0),(39,0)]),(1013,[(5,0)]),(1014,[(4,0)]),(4007,[])] Tryz.func187 rfl rfl (by simp [Tryz.f187]) (by kernel_rfl) ?_
 simp only [Tryz.f187]
 refine sA ?_
 obtain ⟨c60,hr1,h⟩ := bind_ok h
 refine Cl_sA (zd8 hr1) ?_
 try refine sA ?_
 obtain ⟨y64,hl2,h⟩ := bind_ok h
 refine W_loopP (fun g61 : zey => ⟨[(1,(.lf false (.sc (.string a1)))),(5,(.os 0 1 0 g61.c0.length g61.c0.length false)),(6,(B g61.t6)),(13,(.lf true (.sl (a0.map eS)))),(14,(I ((a0.length : Nat) : Int))),(15,(I g61.t15))],[(0,some (true,.arr false 1 (g61.c0.map eS)))],1,45⟩) (zF a0 a1) _ _ hl2 (weakA [none]) ?_
 ·intro n1 g61 z1 hs1 hk1
  unfold zF at hs1
  try dsimp only at hs1
  refine sA ?_
  refine Bs_if hs1 (fun hs1 hc3 => ?_) (fun hs1 hc3 => ?_)
  ·try refine sA ?_
   obtain ⟨hp4,hs1⟩ := guard_some hs1
   have hn4 : g61.t15.toNat < a0.length := by first | omega | (simp only [List.length_set,List.length_append,List.length_replicate,List.length_map]; omega)
   try refine sA ?_
   try refine andA ?_
   refine Bs_if hs1 (fun hs1 hc5 => ?_) (fun hs1 hc5 => ?_)
   ·try refine sA ?_
    cases hs1
    exact X_backP hk1 (weakA [some 0])
   ·try refine sA ?_
    obtain ⟨p63,hq6,hs1⟩ := bind_ok hs1
    refine Sq_cut (fun s2 => s2 = ⟨[(1,(.lf false (.sc (.string a1)))),(5,(.os 0 1 0 g61.c0.length g61.c0.length false)),(6,(B g61.t6)),(8,(.lf false (.sc (.string (nth a0 g61.t15.toNat))))),(13,(.lf true (.sl (a0.map eS)))),(14,(I ((a0.length : Nat) : Int))),(15,(I g61.t15)),(28,(B p63.t28))],[(0,some (true,.arr false 1 (g61.c0.map eS)))],1,45⟩) ?_ ?_
    ·try refine sA ?_
     refine Sp_if hq6 (fun hq6 hc7 => ?_) (fun hq6 hc7 => ?_)
     ·try refine sA ?_
      cases hq6
      exact X_cut rfl (weakA [some 0])
     ·try refine sA ?_
      cases hq6
      exact X_cut rfl (weakA [some 0])
    ·intro s2 hJ; subst hJ
     try dsimp only at hs1
     try refine sA ?_
     refine Bs_if hs1 (fun hs1 hc8 => ?_) (fun hs1 hc8 => ?_)
     ·try refine sA ?_
      obtain ⟨hp9,hs1⟩ := guard_some hs1
      try refine sA ?_
      try refine andA ?_
      obtain ⟨hp10,hs1⟩ := guard_some hs1
      try refine sA ?_
      try refine andA ?_
      cases hs1
      exact X_backP hk1 (weakA [some 4])
     ·try refine sA ?_
      obtain ⟨hp11,hs1⟩ := guard_some hs1
      try refine sA ?_
      try refine andA ?_
      cases hs1
      exact X_backP hk1 (weakA [some 2])
  ·try refine sA ?_
   cases hs1
   cases hk1
   try dsimp only at h
   try refine sA ?_
   refine Bs_if h (fun h hc12 => ?_) (fun h hc12 => ?_)
   ·try refine sA ?_
    obtain ⟨hp13,h⟩ := guard_some h
    try refine sA ?_
    try refine andA ?_
    obtain rfl:=Option.some.inj h
    exact endsA ⟨[(4,(.os 0 1 0 ((g61.c0 ++ ([a1])).length) ((g61.c0 ++ ([a1])).length) false))],[(0,some (true,.arr false 1 ((g61.c0 ++ ([a1])).map eS)))],1,45⟩ [some 2]
   ·try refine sA ?_
    obtain rfl:=Option.some.inj h
    exact endsA ⟨[(4,(.os 0 1 0 g61.c0.length g61.c0.length false))],[(0,some (true,.arr false 1 (g61.c0.map eS)))],1,45⟩ [some 0]
theorem zfw {a0 : (List ByteArray)} {a1 : Bool} {r : Bool} (h : zcq a0 a1 = some r) : Fn Tryz.prog 260 [(.lf true (.sl (a0.map eS))),(B a1)] [] 0 (B r) [] 0 := by
 unfold zcq at h
 refine fn_code tab_ok mixed [(1000,[(0,0),(1,0)]),(1001,[(0,0),(1,0),(9,0),(10,0),(11,0)]),(1002,[(0,0),(1,0),(9,0),(10,0),(11,0),(12,0)]),(1003,[(0,0),(1,0),(5,0),(6,0),(9,0),(10,0),(11,0)]),(1004,[(0,0),(1,0),(5,0),(6,0),(9,0),(10,0),(11,0),(18,0)]),(1005,[(4,0)]),(1006,[(0,0),(1,0),(5,0),(6,0),(9,0),(10,0),(11,0),(21,0),(22,0),(23,0)]),(1007,[(0,0),(1,0),(5,0),(6,0),(9,0),(10,0),(11,0),(21,0),(22,0),(23,0),(24,0)]),(1008,[(0,0),(1,0),(5,0),(6,0),(7,0),(8,0),(9,0),(10,0),(11,0),(21,0),(22,0),(23,0)]),(1009,[(0,0),(1,0),(5,0),(6,0),(9,0),(10,0),(11,0),(21,0),(22,0),(23,0),(44,0)]),(1010,[(4,0)]),(1011,[(0,0),(1,0),(5,0),(6,0),(9,0),(10,0),(11,0),(21,0),(22,0),(23,0)]),(1012,[(0,0),(1,0),(9,0),(10,0),(11,0)]),(1013,[(4,0)]),(4009,[])] Tryz.func260 rfl rfl (by simp [Tryz.f260]) (by kernel_rfl) ?_
 simp only [Tryz.f260]
 refine sA ?_
 obtain ⟨y84,hl1,h⟩ := bind_ok h
 refine W_loopP (fun g69 : zbm => ⟨[(0,(.lf true (.sl (a0.map eS)))),(1,(B a1)),(9,(.lf true (.sl (a0.map eS)))),(10,(I ((a0.length : Nat) : Int))),(11,(I g69.t11))],[],0,50⟩) (zbo a0 a1) _ _ hl1 (weakA []) ?_
 ·intro n1 g69 z1 hs1 hk1
  unfold zbo at hs1
  try dsimp only at hs1
  refine sA ?_
  refine Bs_if hs1 (fun hs1 hc2 => ?_) (fun hs1 hc2 => ?_)
  ·try refine sA ?_
   obtain ⟨hp3,hs1⟩ := guard_some hs1
   have hn3 : g69.t11.toNat < a0.length := by first | omega | (simp only [List.length_set,List.length_append,List.length_replicate,List.length_map]; omega)
   try refine sA ?_
   try refine andA ?_
   obtain ⟨c77,hr4,hs1⟩ := bind_ok hs1
   refine Cl_sA (ze1 hr4) ?_
   try refine sA ?_
   refine Bs_if hs1 (fun hs1 hc5 => ?_) (fun hs1 hc5 => ?_)
   ·try refine sA ?_
    cases hs1
    cases hk1
    try dsimp only at h
    try refine sA ?_
    obtain rfl:=Option.some.inj h
    exact endsA ⟨[(4,(B false))],[],0,50⟩ []
   ·try refine sA ?_
    obtain ⟨hp6,hs1⟩ := guard_some hs1
    try refine sA ?_
    try refine andA ?_
    obtain ⟨y81,hl7,hs1⟩ := bind_ok hs1
    refine W_loopP (fun g78 : zdq => ⟨[(0,(.lf true (.sl (a0.map eS)))),(1,(B a1)),(5,(I g69.t11)),(6,(.lf false (.sc (.string (nth a0 g69.t11.toNat))))),(9,(.lf true (.sl (a0.map eS)))),(10,(I ((a0.length : Nat) : Int))),(11,(I g69.t11)),(21,(.lf true (.sl ((a0.take g69.t11.toNat).map eS)))),(22,(I (((a0.take g69.t11.toNat).length : Nat) : Int))),(23,(I g78.t23))],[],0,50⟩) (zbn a0 g69 a1) _ _ hl7 (weakA []) ?_
    ·intro n2 g78 z2 hs2 hk2
     unfold zbn at hs2
     try dsimp only at hs2
     refine sA ?_
     refine Bs_if hs2 (fun hs2 hc8 => ?_) (fun hs2 hc8 => ?_)
     ·try refine sA ?_
      obtain ⟨hp9,hs2⟩ := guard_some hs2
      have hn9 : g78.t23.toNat < (a0.take g69.t11.toNat).length := by first | omega | (simp only [List.length_set,List.length_append,List.length_replicate,List.length_map]; omega)
      try refine sA ?_
      try refine andA ?_
      obtain ⟨p80,hq10,hs2⟩ := bind_ok hs2
      refine Sq_cut (fun s2 => s2 = ⟨[(0,(.lf true (.sl (a0.map eS)))),(1,(B a1)),(5,(I g69.t11)),(6,(.lf false (.sc (.string (nth a0 g69.t11.toNat))))),(9,(.lf true (.sl (a0.map eS)))),(10,(I ((a0.length : Nat) : Int))),(11,(I g69.t11)),(21,(.lf true (.sl ((a0.take g69.t11.toNat).map eS)))),(22,(I (((a0.take g69.t11.toNat).length : Nat) : Int))),(23,(I g78.t23)),(44,(B p80.t44))],[],0,50⟩) ?_ ?_
      ·try refine sA ?_
       refine Sp_if hq10 (fun hq10 hc11 => ?_) (fun hq10 hc11 => ?_)
       ·try refine sA ?_
        cases hq10
        exact X_cut rfl (weakA [])
       ·try refine sA ?_
        refine Sp_if hq10 (fun hq10 hc12 => ?_) (fun hq10 hc12 => ?_)
        ·try refine sA ?_
         refine Sp_if hq10 (fun hq10 hc13 => ?_) (fun hq10 hc13 => ?_)
         ·try refine sA ?_
          cases hq10
          exact X_cut rfl (weakA [])
         ·try refine sA ?_
          cases hq10
          exact X_cut rfl (weakA [])
        ·try refine sA ?_
         cases hq10
         exact X_cut rfl (weakA [])
      ·intro s2 hJ; subst hJ
       try dsimp only at hs2
       try refine sA ?_
       refine Bs_if hs2 (fun hs2 hc14 => ?_) (fun hs2 hc14 => ?_)
       ·try refine sA ?_
        cases hs2
        cases hk2
        try dsimp only at hs1
        try refine sA ?_
        cases hs1
        cases hk1
        try dsimp only at h
        try refine sA ?_
        obtain rfl:=Option.some.inj h
        exact endsA ⟨[(4,(B false))],[],0,50⟩ []
       ·try refine sA ?_
        cases hs2
        exact X_backP hk2 (weakA [])
     ·try refine sA ?_
      cases hs2
      cases hk2
      try dsimp only at hs1
      try refine sA ?_
      cases hs1
      exact X_backP hk1 (weakA [])
  ·try refine sA ?_
   cases hs1
   cases hk1
   try dsimp only at h
   try refine sA ?_
   obtain rfl:=Option.some.inj h
   exact endsA ⟨[(4,(B (decide (((a0.length : Nat) : Int) ≤ 30))))],[],0,50⟩ []
theorem zg6 {a0 : StateT} {r : Bool} (h : zb4 a0 = some r) : Fn Tryz.prog 229 [(.ag [(I a0.Status),(I a0.Next),(B a0.Cancel),(I a0.Done),(.lf true (.sl (a0.Signals.map eS))),(.lf true (.sl (a0.Timers.map eS)))])] [] 0 (B r) [] 0 := by
 unfold zb4 at h
 refine fn_code tab_ok mixed [(1000,[(1,0)]),(1001,[(1,0),(30,0)]),(1002,[(2,0)]),(1003,[(1,0),(33,0)]),(1004,[(2,0)]),(1005,[(2,0)]),(4001,[])] Tryz.func229 rfl rfl (by simp [Tryz.f229]) (by kernel_rfl) ?_
 simp only [Tryz.f229]
 refine sA ?_
 obtain ⟨p90,hq1,h⟩ := bind_ok h
 refine Sq_cut (fun s2 => s2 = ⟨[(1,(.pb 0 0)),(30,(B p90.t30))],[(0,some (true,.box [(I a0.Status),(I a0.Next),(B a0.Cancel),(I a0.Done),(.lf true (.sl (a0.Signals.map eS))),(.lf true (.sl (a0.Timers.map eS)))]))],1,62⟩) ?_ ?_
 ·try refine sA ?_
  obtain ⟨c67,hr2,hq1⟩ := bind_ok hq1
  refine Cl_sA (zby hr2) ?_
  try refine sA ?_
  refine Sp_if hq1 (fun hq1 hc3 => ?_) (fun hq1 hc3 => ?_)
  ·try refine sA ?_
   cases hq1
   exact X_cut rfl (weakA [some 0])
  ·try refine sA ?_
   obtain ⟨c68,hr4,hq1⟩ := bind_ok hq1
   refine Cl_sA (zby hr4) ?_
   try refine sA ?_
   refine Sp_if hq1 (fun hq1 hc5 => ?_) (fun hq1 hc5 => ?_)
   ·try refine sA ?_
    cases hq1
    exact X_cut rfl (weakA [some 0])
   ·try refine sA ?_
    obtain ⟨c87,hr6,hq1⟩ := bind_ok hq1
    refine Cl_sA (zfw hr6) ?_
    try refine sA ?_
    refine Sp_if hq1 (fun hq1 hc7 => ?_) (fun hq1 hc7 => ?_)
    ·try refine sA ?_
     cases hq1
     exact X_cut rfl (weakA [some 0])
    ·try refine sA ?_
     obtain ⟨c88,hr8,hq1⟩ := bind_ok hq1
     refine Cl_sA (zfw hr8) ?_
     try refine sA ?_
     refine Sp_if hq1 (fun hq1 hc9 => ?_) (fun hq1 hc9 => ?_)
     ·try refine sA ?_
      cases hq1
      exact X_cut rfl (weakA [some 0])
     ·try refine sA ?_
      obtain ⟨c89,hr10,hq1⟩ := bind_ok hq1
      refine Cl_sA (zby hr10) ?_
      try refine sA ?_
      cases hq1
      exact X_cut rfl (weakA [some 0])
 ·intro s2 hJ; subst hJ
  try dsimp only at h
  try refine sA ?_
  refine Bs_if h (fun h hc11 => ?_) (fun h hc11 => ?_)
  ·try refine sA ?_
   obtain rfl:=Option.some.inj h
   exact endsA ⟨[(2,(B false))],[],0,62⟩ []
  ·try refine sA ?_
   refine Bs_if h (fun h hc12 => ?_) (fun h hc12 => ?_)
   ·try refine sA ?_
    refine Sp_if h (fun h hc13 => ?_) (fun h hc13 => ?_)
    ·try refine sA ?_
     refine Sp_if h (fun h hc14 => ?_) (fun h hc14 => ?_)
     ·try refine sA ?_
      refine Sp_if h (fun h hc15 => ?_) (fun h hc15 => ?_)
      ·try refine sA ?_
       refine Sp_if h (fun h hc16 => ?_) (fun h hc16 => ?_)
       ·try refine sA ?_
        obtain rfl:=Option.some.inj h
        exact endsA ⟨[(2,(B (((a0.Timers.length : Nat) : Int) == 0)))],[],0,62⟩ []
       ·try refine sA ?_
        obtain rfl:=Option.some.inj h
        exact endsA ⟨[(2,(B false))],[],0,62⟩ []
      ·try refine sA ?_
       obtain rfl:=Option.some.inj h
       exact endsA ⟨[(2,(B false))],[],0,62⟩ []
     ·try refine sA ?_
      obtain rfl:=Option.some.inj h
      exact endsA ⟨[(2,(B false))],[],0,62⟩ []
    ·try refine sA ?_
     obtain rfl:=Option.some.inj h
     exact endsA ⟨[(2,(B false))],[],0,62⟩ []
   ·try refine sA ?_
    obtain rfl:=Option.some.inj h
    exact endsA ⟨[(2,(B (decide (a0.Next > 1))))],[],0,62⟩ []
theorem zfx {a0 : StateT} {a1 : EventT} {r : (StateT × Bool)} (h : zbd a0 a1 = some r) : Fn Tryz.prog 189 [(.ag [(I a0.Status),(I a0.Next),(B a0.Cancel),(I a0.Done),(.lf true (.sl (a0.Signals.map eS))),(.lf true (.sl (a0.Timers.map eS)))]),(.ag [(I a1.Id),(I a1.Version),(I a1.Kind),(.lf false (.sc (.string a1.Name)))])] [] 0 (.tu [(.ag [(I r.1.Status),(I r.1.Next),(B r.1.Cancel),(I r.1.Done),(.lf true (.sl (r.1.Signals.map eS))),(.lf true (.sl (r.1.Timers.map eS)))]),(B r.2)]) [] 1 := by
 unfold zbd at h
 refine fn_code tab_ok mixed [(22,[(0,2)]),(1000,[(2,0),(3,0),(4,0)]),(1001,[(2,0),(3,0),(4,0),(29,0)]),(1002,[(4,0),(5,0)]),(1003,[(2,0),(3,0),(4,0)]),(1004,[(2,0),(3,0),(4,0),(34,0)]),(1005,[(2,0),(4,0)]),(1006,[(2,0),(4,0)]),(1007,[(2,0),(3,0),(4,0),(34,0),(37,0)]),(1008,[(2,0),(4,0)]),(1009,[(2,0),(3,0),(4,0),(34,0),(40,0)]),(1010,[(2,0),(3,0),(4,0),(53,0)]),(1011,[(4,0),(5,0)]),(1012,[(2,0),(4,0)]),(1013,[(2,0),(3,0),(4,0),(34,0),(62,0)]),(1014,[(2,0),(4,0)]),(1015,[(2,0),(3,0),(4,0),(34,0),(68,0)]),(1016,[(2,0),(4,0)]),(1017,[(2,0),(4,0),(76,0)]),(1018,[(2,0),(4,0),(79,0)]),(1019,[(4,0),(5,0)]),(1020,[(2,0),(4,0)]),(1021,[(2,0),(4,0)]),(1022,[(4,0),(5,0)]),(3000,[]),(4001,[]),(4010,[])] Tryz.func189 rfl rfl (by simp [Tryz.f189]) (by kernel_rfl) ?_
 simp only [Tryz.f189]
 refine sA ?_
 obtain ⟨p52,hq1,h⟩ := bind_ok h
 refine Sq_cut (fun s2 => s2 = ⟨[(2,(.pb 0 0)),(3,(.pb 1 0)),(4,(.pb 2 0)),(29,(B p52.t29))],[(0,some (true,.box [(I a0.Status),(I a0.Next),(B a0.Cancel),(I a0.Done),(.lf true (.sl (a0.Signals.map eS))),(.lf true (.sl (a0.Timers.map eS)))])),(1,some (true,.box [(I a1.Id),(I a1.Version),(I a1.Kind),(.lf false (.sc (.string a1.Name)))])),(2,some (true,.box [(I 0),(I 0),(B false),(I 0),.nl,.nl]))],3,89⟩) ?_ ?_
 ·try refine sA ?_
  obtain ⟨c51,hr2,hq1⟩ := bind_ok hq1
  refine Cl_sA (zg5 hr2) ?_
  try refine sA ?_
  refine Sp_if hq1 (fun hq1 hc3 => ?_) (fun hq1 hc3 => ?_)
  ·try refine sA ?_
   cases hq1
   exact X_cut rfl (weakA [some 0,some 1,some 2])
  ·try refine sA ?_
   refine Sp_if hq1 (fun hq1 hc4 => ?_) (fun hq1 hc4 => ?_)
   ·try refine sA ?_
    cases hq1
    exact X_cut rfl (weakA [some 0,some 1,some 2])
   ·try refine sA ?_
    refine Sp_if hq1 (fun hq1 hc5 => ?_) (fun hq1 hc5 => ?_)
    ·try refine sA ?_
     cases hq1
     exact X_cut rfl (weakA [some 0,some 1,some 2])
    ·try refine sA ?_
     cases hq1
     exact X_cut rfl (weakA [some 0,some 1,some 2])
 ·intro s2 hJ; subst hJ
  try dsimp only at h
  try refine sA ?_
  refine Bs_if h (fun h hc6 => ?_) (fun h hc6 => ?_)
  ·try refine sA ?_
   obtain rfl:=Option.some.inj h
   exact endsA ⟨[(4,(.pb 0 0)),(5,(B false))],[(0,some (true,.box [(I a0.Status),(I a0.Next),(B a0.Cancel),(I a0.Done),(.lf true (.sl (a0.Signals.map eS))),(.lf true (.sl (a0.Timers.map eS)))]))],1,89⟩ [some 2]
  ·try refine sA ?_
   obtain ⟨c53,hr7,h⟩ := bind_ok h
   refine Cl_sA (zhM hr7) ?_
   try refine sA ?_
   obtain ⟨q8,hq8,h⟩ := bind_ok h
   refine Sq_cut (fun s2 => ∃ p66 : zM,q8 = .inl p66 ∧ s2 = ⟨[(2,(.pb 0 0)),(4,(.pb 1 0))],[(0,some (true,.box [(I p66.b0_0),(I c53.Next),(B p66.b0_2),(I p66.b0_3),(.os 2 1 0 p66.c2.length p66.c2.length false),(.os 3 1 0 p66.c3.length p66.c3.length false)])),(1,some (true,.box [(I 0),(I 0),(B false),(I 0),.nl,.nl])),(2,some (true,.arr false 1 (p66.c2.map eS))),(3,some (true,.arr false 1 (p66.c3.map eS)))],4,89⟩) ?_ ?_
   ·try refine sA ?_
    refine Bs_if hq8 (fun hq8 hc9 => ?_) (fun hq8 hc9 => ?_)
    ·try refine sA ?_
     cases hq8
     exact X_cut ⟨_,rfl,rfl⟩ (weakA [some 0,some 2,some 3,some 4])
    ·try refine sA ?_
     refine Bs_if hq8 (fun hq8 hc10 => ?_) (fun hq8 hc10 => ?_)
     ·try refine sA ?_
      obtain ⟨p59,hq11,hq8⟩ := bind_ok hq8
      refine Sq_cut (fun s2 => s2 = ⟨[(2,(.pb 0 0)),(3,(.pb 1 0)),(4,(.pb 2 0)),(53,(B p59.t53))],[(0,some (true,.box [(I c53.Status),(I c53.Next),(B c53.Cancel),(I c53.Done),(.os 3 1 0 c53.Signals.length c53.Signals.length false),(.os 4 1 0 c53.Timers.length c53.Timers.length false)])),(1,some (true,.box [(I a1.Id),(I a1.Version),(I a1.Kind),(.lf false (.sc (.string a1.Name)))])),(2,some (true,.box [(I 0),(I 0),(B false),(I 0),.nl,.nl])),(3,some (true,.arr false 1 (c53.Signals.map eS))),(4,some (true,.arr false 1 (c53.Timers.map eS)))],5,89⟩) ?_ ?_
      ·try refine sA ?_
       obtain ⟨c58,hr12,hq11⟩ := bind_ok hq11
       refine Cl_sA (zd8 hr12) ?_
       try refine sA ?_
       refine Sp_if hq11 (fun hq11 hc13 => ?_) (fun hq11 hc13 => ?_)
       ·try refine sA ?_
        cases hq11
        exact X_cut rfl (weakA [some 0,some 1,some 2,some 3,some 4])
       ·try refine sA ?_
        cases hq11
        exact X_cut rfl (weakA [some 0,some 1,some 2,some 3,some 4])
      ·intro s2 hJ; subst hJ
       try dsimp only at hq8
       try refine sA ?_
       refine Bs_if hq8 (fun hq8 hc14 => ?_) (fun hq8 hc14 => ?_)
       ·try refine sA ?_
        cases hq8
        try dsimp only at h
        obtain rfl:=Option.some.inj h
        refine ends_frz 3 ?_
        refine ends_frz 4 ?_
        try refine sA ?_
        exact endsA ⟨[(4,(.pb 0 0)),(5,(B false))],[(0,some (true,.box [(I c53.Status),(I c53.Next),(B c53.Cancel),(I c53.Done),(.lf true (.sl (c53.Signals.map eS))),(.lf true (.sl (c53.Timers.map eS)))]))],1,89⟩ [some 2]
       ·try refine sA ?_
        obtain ⟨hp15,hq8⟩ := guard_some hq8
        try refine sA ?_
        try refine andA ?_
        cases hq8
        exact X_cut ⟨_,rfl,rfl⟩ (weakA [some 0,some 2,some 6,some 4])
     ·try refine sA ?_
      refine Bs_if hq8 (fun hq8 hc16 => ?_) (fun hq8 hc16 => ?_)
      ·try refine sA ?_
       cases hq8
       exact X_cut ⟨_,rfl,rfl⟩ (weakA [some 0,some 2,some 3,some 4])
      ·try refine sA ?_
       refine Bs_if hq8 (fun hq8 hc17 => ?_) (fun hq8 hc17 => ?_)
       ·try refine sA ?_
        obtain ⟨c65,hr18,hq8⟩ := bind_ok hq8
        refine Cl_sA (zfv hr18) ?_
        try refine sA ?_
        cases hq8
        exact X_cut ⟨_,rfl,rfl⟩ (weakA [some 0,some 2,some 3,some 6])
       ·try refine sA ?_
        refine Bs_if hq8 (fun hq8 hc19 => ?_) (fun hq8 hc19 => ?_)
        ·try refine sA ?_
         refine Bs_if hq8 (fun hq8 hc20 => ?_) (fun hq8 hc20 => ?_)
         ·try refine sA ?_
          cases hq8
          try dsimp only at h
          obtain rfl:=Option.some.inj h
          refine ends_frz 3 ?_
          refine ends_frz 4 ?_
          try refine sA ?_
          exact endsA ⟨[(4,(.pb 0 0)),(5,(B false))],[(0,some (true,.box [(I c53.Status),(I c53.Next),(B c53.Cancel),(I c53.Done),(.lf true (.sl (c53.Signals.map eS))),(.lf true (.sl (c53.Timers.map eS)))]))],1,89⟩ [some 2]
         ·try refine sA ?_
          cases hq8
          exact X_cut ⟨_,rfl,rfl⟩ (weakA [some 0,some 2,some 3,some 4])
        ·try refine sA ?_
         cases hq8
         exact X_cut ⟨_,rfl,rfl⟩ (weakA [some 0,some 2,some 3,none])
   ·intro s2 hJ; obtain ⟨p66,e,rfl⟩ := hJ; subst e
    try dsimp only at h
    try refine sA ?_
    obtain ⟨c91,hr21,h⟩ := bind_ok h
    refine Cl_sA (zg6 hr21) ?_
    try refine sA ?_
    obtain rfl:=Option.some.inj h
    refine ends_frz 2 ?_
    refine ends_frz 3 ?_
    try refine sA ?_
    exact endsA ⟨[(4,(.pb 0 0)),(5,(B c91))],[(0,some (true,.box [(I p66.b0_0),(I (wI (c53.Next + 1))),(B p66.b0_2),(I p66.b0_3),(.lf true (.sl (p66.c2.map eS))),(.lf true (.sl (p66.c3.map eS)))]))],1,89⟩ [some 1]
theorem zef {a0 : (List EventT)} {r : (StateT × Int)} (h : zbA a0 = some r) : Fn Tryz.prog 185 [(.lf true (.sl (a0.map eEvent)))] [] 0 (.tu [(.ag [(I r.1.Status),(I r.1.Next),(B r.1.Cancel),(I r.1.Done),(.lf true (.sl (r.1.Signals.map eS))),(.lf true (.sl (r.1.Timers.map eS)))]),(I r.2)]) [] 1 := by
 unfold zbA at h
 refine fn_code tab_ok mixed [(1000,[(0,0),(2,0)]),(1001,[(0,0),(2,0),(4,0)]),(1002,[(0,0),(2,0),(4,0),(10,0),(11,0),(12,0)]),(1003,[(0,0),(2,0),(4,0),(10,0),(11,0),(12,0),(13,0)]),(1004,[(0,0),(2,0),(4,0),(5,0),(6,0),(10,0),(11,0),(12,0)]),(1005,[(0,0),(2,0),(4,0),(5,0),(7,0),(8,0),(10,0),(11,0),(12,0)]),(1006,[(0,0),(2,0),(4,0),(5,0),(7,0),(10,0),(11,0),(12,0),(24,0)]),(1007,[(2,0),(3,0)]),(1008,[(0,0),(2,0),(4,0),(10,0),(11,0),(12,0)]),(1009,[(0,0),(2,0),(4,0),(10,0),(11,0),(12,0)]),(1010,[(2,0),(3,0)])] Tryz.func185 rfl rfl (by simp [Tryz.f185]) (by kernel_rfl) ?_
 simp only [Tryz.f185]
 refine sA ?_
 obtain ⟨c39,hr1,h⟩ := bind_ok h
 refine Cl_sA (zhm hr1) ?_
 try refine sA ?_
 obtain ⟨y94,hl2,h⟩ := bind_ok h
 refine W_loopP (fun g40 : zeJ => ⟨[(0,(.lf true (.sl (a0.map eEvent)))),(2,(.pb 0 0)),(4,(.pb 1 0)),(10,(.lf true (.sl (a0.map eEvent)))),(11,(I ((a0.length : Nat) : Int))),(12,(I g40.t12))],[(0,some (true,.box [(I 0),(I 0),(B false),(I 0),.nl,.nl])),(1,some (true,.box [(I g40.b1_0),(I g40.b1_1),(B g40.b1_2),(I g40.b1_3),(.lf true (.sl (g40.b1_4.map eS))),(.lf true (.sl (g40.b1_5.map eS)))]))],2,32⟩) (zam a0) _ _ hl2 (weakA [some 0,some 2]) ?_
 ·intro n1 g40 z1 hs1 hk1
  unfold zam at hs1
  try dsimp only at hs1
  refine sA ?_
  refine Bs_if hs1 (fun hs1 hc3 => ?_) (fun hs1 hc3 => ?_)
  ·try refine sA ?_
   obtain ⟨hp4,hs1⟩ := guard_some hs1
   have hn4 : g40.t12.toNat < a0.length := by first | omega | (simp only [List.length_set,List.length_append,List.length_replicate,List.length_map]; omega)
   try refine sA ?_
   try refine andA ?_
   obtain ⟨c93,hr5,hs1⟩ := bind_ok hs1
   refine Cl_sA (zfx hr5) ?_
   try refine sA ?_
   refine Bs_if hs1 (fun hs1 hc6 => ?_) (fun hs1 hc6 => ?_)
   ·try refine sA ?_
    cases hs1
    cases hk1
    try dsimp only at h
    try refine sA ?_
    obtain rfl:=Option.some.inj h
    exact endsA ⟨[(2,(.pb 0 0)),(3,(I g40.t12))],[(0,some (true,.box [(I g40.b1_0),(I g40.b1_1),(B g40.b1_2),(I g40.b1_3),(.lf true (.sl (g40.b1_4.map eS))),(.lf true (.sl (g40.b1_5.map eS)))]))],1,32⟩ [some 0]
   ·try refine sA ?_
    cases hs1
    exact X_backP hk1 (weakA [some 0,some 1])
  ·try refine sA ?_
   cases hs1
   cases hk1
   try dsimp only at h
   try refine sA ?_
   obtain rfl:=Option.some.inj h
   exact endsA ⟨[(2,(.pb 0 0)),(3,(I ((a0.length : Nat) : Int)))],[(0,some (true,.box [(I g40.b1_0),(I g40.b1_1),(B g40.b1_2),(I g40.b1_3),(.lf true (.sl (g40.b1_4.map eS))),(.lf true (.sl (g40.b1_5.map eS)))]))],1,32⟩ [some 0]
theorem zg7 {a0 : (List EventT)} {r : Bool} (h : zc6 a0 = some r) : Fn Tryz.prog 221 [(.lf true (.sl (a0.map eEvent)))] [] 0 (B r) [] 0 := by
 unfold zc6 at h
 refine fn_code tab_ok mixed [(1000,[(0,0)]),(1001,[(0,0),(7,0),(8,0)]),(1002,[(0,0),(7,0),(8,0),(9,0)]),(1003,[(0,0),(3,0),(7,0),(8,0)]),(1004,[(0,0),(7,0),(8,0),(26,0)]),(1005,[(2,0)]),(1006,[(0,0),(7,0),(8,0)]),(1007,[(0,0),(5,0)]),(1008,[(2,0)]),(4004,[])] Tryz.func221 rfl rfl (by simp [Tryz.f221]) (by kernel_rfl) ?_
 simp only [Tryz.f221]
 refine sA ?_
 obtain ⟨y36,hl1,h⟩ := bind_ok h
 refine W_loopP (fun g33 : zcX => ⟨[(0,(.lf true (.sl (a0.map eEvent)))),(7,(I ((a0.length : Nat) : Int))),(8,(I g33.t8))],[],0,42⟩) (za7 a0) _ _ hl1 (weakA []) ?_
 ·intro n1 g33 z1 hs1 hk1
  unfold za7 at hs1
  try dsimp only at hs1
  refine sA ?_
  refine Bs_if hs1 (fun hs1 hc2 => ?_) (fun hs1 hc2 => ?_)
  ·try refine sA ?_
   obtain ⟨p35,hq3,hs1⟩ := bind_ok hs1
   refine Sq_cut (fun s2 => s2 = ⟨[(0,(.lf true (.sl (a0.map eEvent)))),(7,(I ((a0.length : Nat) : Int))),(8,(I g33.t8)),(26,(B p35.t26))],[],0,42⟩) ?_ ?_
   ·try refine sA ?_
    refine Sp_if hq3 (fun hq3 hc4 => ?_) (fun hq3 hc4 => ?_)
    ·try refine sA ?_
     obtain ⟨hp5,hq3⟩ := guard_some hq3
     have hn5 : (wI (g33.t8 - 1)).toNat < a0.length := by first | omega | (simp only [List.length_set,List.length_append,List.length_replicate,List.length_map]; omega)
     try refine sA ?_
     try refine andA ?_
     obtain ⟨hp6,hq3⟩ := guard_some hq3
     have hn6 : g33.t8.toNat < a0.length := by first | omega | (simp only [List.length_set,List.length_append,List.length_replicate,List.length_map]; omega)
     try refine sA ?_
     try refine andA ?_
     cases hq3
     exact X_cut rfl (weakA [])
    ·try refine sA ?_
     cases hq3
     exact X_cut rfl (weakA [])
   ·intro s2 hJ; subst hJ
    try dsimp only at hs1
    try refine sA ?_
    refine Bs_if hs1 (fun hs1 hc7 => ?_) (fun hs1 hc7 => ?_)
    ·try refine sA ?_
     cases hs1
     cases hk1
     try dsimp only at h
     try refine sA ?_
     obtain rfl:=Option.some.inj h
     exact endsA ⟨[(2,(B false))],[],0,42⟩ []
    ·try refine sA ?_
     cases hs1
     exact X_backP hk1 (weakA [])
  ·try refine sA ?_
   cases hs1
   cases hk1
   try dsimp only at h
   try refine sA ?_
   obtain ⟨c98,hr8,h⟩ := bind_ok h
   refine Cl_sA (zef hr8) ?_
   try refine sA ?_
   refine Sp_if h (fun h hc9 => ?_) (fun h hc9 => ?_)
   ·try refine sA ?_
    obtain rfl:=Option.some.inj h
    exact endsA ⟨[(2,(B (decide (((a0.length : Nat) : Int) ≤ 60))))],[],0,42⟩ []
   ·try refine sA ?_
    obtain rfl:=Option.some.inj h
    exact endsA ⟨[(2,(B false))],[],0,42⟩ []
theorem zgD {a0 : (List EventT)} {r : Bool} (h : zcu a0 = some r) : Fn Tryz.prog 176 [(.lf true (.sl (a0.map eEvent)))] [] 0 (B r) [] 0 := by
 unfold zcu at h
 refine fn_code tab_ok mixed [] Tryz.func176 rfl rfl (by simp [Tryz.f176]) (by kernel_rfl) ?_
 simp only [Tryz.f176]
 refine sA ?_
 refine Sp_if h (fun h hc1 => ?_) (fun h hc1 => ?_)
 ·try refine sA ?_
  obtain ⟨c99,hr2,h⟩ := bind_ok h
  refine Cl_sA (zg7 hr2) ?_
  try refine sA ?_
  obtain rfl:=Option.some.inj h
  exact endsA ⟨[(2,(B c99))],[],0,10⟩ []
 ·try refine sA ?_
  obtain rfl:=Option.some.inj h
  exact endsA ⟨[(2,(B false))],[],0,10⟩ []
theorem zhn {a0 : EventT} {a1 : EventT} {r : Int} (h : zdB a0 a1 = some r) : Fn Tryz.prog 222 [(.ag [(I a0.Id),(I a0.Version),(I a0.Kind),(.lf false (.sc (.string a0.Name)))]),(.ag [(I a1.Id),(I a1.Version),(I a1.Kind),(.lf false (.sc (.string a1.Name)))])] [] 0 (I r) [] 0 := by
 unfold zdB at h
 refine fn_code tab_ok mixed [(1000,[(2,0),(3,0)]),(1001,[(2,0),(3,0),(5,0)]),(1002,[(15,0)]),(1003,[(4,0)]),(1004,[(4,0)]),(1005,[(2,0),(3,0),(16,0)]),(1006,[(26,0)]),(1007,[(4,0)]),(1008,[(4,0)]),(1009,[(2,0),(3,0),(27,0)]),(1010,[(4,0)]),(1011,[(33,0)]),(1012,[(4,0)]),(1013,[(4,0)])] Tryz.func222 rfl rfl (by simp [Tryz.f222]) (by kernel_rfl) ?_
 simp only [Tryz.f222]
 refine sA ?_
 refine Bs_if h (fun h hc1 => ?_) (fun h hc1 => ?_)
 ·try refine sA ?_
  refine Bs_if h (fun h hc2 => ?_) (fun h hc2 => ?_)
  ·try refine sA ?_
   obtain rfl:=Option.some.inj h
   exact endsA ⟨[(4,(I (-1)))],[],0,39⟩ []
  ·try refine sA ?_
   obtain rfl:=Option.some.inj h
   exact endsA ⟨[(4,(I 1))],[],0,39⟩ []
 ·try refine sA ?_
  refine Bs_if h (fun h hc3 => ?_) (fun h hc3 => ?_)
  ·try refine sA ?_
   refine Bs_if h (fun h hc4 => ?_) (fun h hc4 => ?_)
   ·try refine sA ?_
    obtain rfl:=Option.some.inj h
    exact endsA ⟨[(4,(I (-1)))],[],0,39⟩ []
   ·try refine sA ?_
    obtain rfl:=Option.some.inj h
    exact endsA ⟨[(4,(I 1))],[],0,39⟩ []
  ·try refine sA ?_
   refine Bs_if h (fun h hc5 => ?_) (fun h hc5 => ?_)
   ·try refine sA ?_
    obtain rfl:=Option.some.inj h
    exact endsA ⟨[(4,(I (-1)))],[],0,39⟩ []
   ·try refine sA ?_
    refine Bs_if h (fun h hc6 => ?_) (fun h hc6 => ?_)
    ·try refine sA ?_
     obtain rfl:=Option.some.inj h
     exact endsA ⟨[(4,(I 1))],[],0,39⟩ []
    ·try refine sA ?_
     obtain rfl:=Option.some.inj h
     exact endsA ⟨[(4,(I 0))],[],0,39⟩ []
theorem zek {a0 : (List EventT)} {a1 : (List EventT)} {r : (Int × Int)} (h : zaY a0 a1 = some r) : Fn Tryz.prog 177 [(.lf true (.sl (a0.map eEvent))),(.lf true (.sl (a1.map eEvent)))] [] 0 (.tu [(I r.1),(I r.2)]) [] 0 := by
 unfold zaY at h
 refine fn_code tab_ok mixed [(1000,[(0,0),(1,0)]),(1001,[(0,0),(1,0),(6,0)]),(1002,[(0,0),(1,0),(6,0),(17,0)]),(1003,[(0,0),(1,0),(6,0)]),(1004,[(0,0),(1,0),(6,0),(7,0)]),(1005,[(0,0),(1,0),(6,0),(7,0),(30,0)]),(1006,[(4,0),(5,0)]),(1007,[(0,0),(1,0),(33,0)]),(1008,[(4,0),(5,0)]),(1009,[(0,0),(1,0),(41,0)]),(1010,[(4,0),(5,0)]),(1011,[(4,0),(5,0)])] Tryz.func177 rfl rfl (by simp [Tryz.f177]) (by kernel_rfl) ?_
 simp only [Tryz.f177]
 refine sA ?_
 obtain ⟨y105,hl1,h⟩ := bind_ok h
 refine W_loopP (fun g102 : zcv => ⟨[(0,(.lf true (.sl (a0.map eEvent)))),(1,(.lf true (.sl (a1.map eEvent)))),(6,(I g102.t6))],[],0,51⟩) (zaG a0 a1) _ _ hl1 (weakA []) ?_
 ·intro n1 g102 z1 hs1 hk1
  unfold zaG at hs1
  try dsimp only at hs1
  refine sA ?_
  refine Sp_if hs1 (fun hs1 hc2 => ?_) (fun hs1 hc2 => ?_)
  ·try refine sA ?_
   refine Bs_if hs1 (fun hs1 hc3 => ?_) (fun hs1 hc3 => ?_)
   ·try refine sA ?_
    obtain ⟨hp4,hs1⟩ := guard_some hs1
    have hn4 : g102.t6.toNat < a0.length := by first | omega | (simp only [List.length_set,List.length_append,List.length_replicate,List.length_map]; omega)
    try refine sA ?_
    try refine andA ?_
    obtain ⟨hp5,hs1⟩ := guard_some hs1
    have hn5 : g102.t6.toNat < a1.length := by first | omega | (simp only [List.length_set,List.length_append,List.length_replicate,List.length_map]; omega)
    try refine sA ?_
    try refine andA ?_
    obtain ⟨c104,hr6,hs1⟩ := bind_ok hs1
    refine Cl_sA (zhn hr6) ?_
    try refine sA ?_
    refine Bs_if hs1 (fun hs1 hc7 => ?_) (fun hs1 hc7 => ?_)
    ·try refine sA ?_
     cases hs1
     cases hk1
     try dsimp only at h
     try refine sA ?_
     obtain rfl:=Option.some.inj h
     exact endsA ⟨[(4,(I c104)),(5,(I g102.t6))],[],0,51⟩ []
    ·try refine sA ?_
     cases hs1
     exact X_backP hk1 (weakA [])
   ·try refine sA ?_
    cases hs1
    cases hk1
    try dsimp only at h
    try refine sA ?_
    refine Bs_if h (fun h hc8 => ?_) (fun h hc8 => ?_)
    ·try refine sA ?_
     obtain rfl:=Option.some.inj h
     exact endsA ⟨[(4,(I (-1))),(5,(I ((a0.length : Nat) : Int)))],[],0,51⟩ []
    ·try refine sA ?_
     refine Bs_if h (fun h hc9 => ?_) (fun h hc9 => ?_)
     ·try refine sA ?_
      obtain rfl:=Option.some.inj h
      exact endsA ⟨[(4,(I 1)),(5,(I ((a1.length : Nat) : Int)))],[],0,51⟩ []
     ·try refine sA ?_
      obtain rfl:=Option.some.inj h
      exact endsA ⟨[(4,(I 0)),(5,(I ((a0.length : Nat) : Int)))],[],0,51⟩ []
  ·try refine sA ?_
   cases hs1
   cases hk1
   try dsimp only at h
   try refine sA ?_
   refine Bs_if h (fun h hc10 => ?_) (fun h hc10 => ?_)
   ·try refine sA ?_
    obtain rfl:=Option.some.inj h
    exact endsA ⟨[(4,(I (-1))),(5,(I ((a0.length : Nat) : Int)))],[],0,51⟩ []
   ·try refine sA ?_
    refine Bs_if h (fun h hc11 => ?_) (fun h hc11 => ?_)
    ·try refine sA ?_
     obtain rfl:=Option.some.inj h
     exact endsA ⟨[(4,(I 1)),(5,(I ((a1.length : Nat) : Int)))],[],0,51⟩ []
    ·try refine sA ?_
     obtain rfl:=Option.some.inj h
     exact endsA ⟨[(4,(I 0)),(5,(I ((a0.length : Nat) : Int)))],[],0,51⟩ []
theorem zeA {a0 : (List EventT)} {a1 : (List EventT)} {r : Bool} (h : zbr a0 a1 = some r) : Fn Tryz.prog 178 [(.lf true (.sl (a0.map eEvent))),(.lf true (.sl (a1.map eEvent)))] [] 0 (B r) [] 0 := by
 unfold zbr at h
 refine fn_code tab_ok mixed [(1000,[(0,0),(1,0)]),(1001,[(1,0),(6,0)]),(1002,[(4,0)])] Tryz.func178 rfl rfl (by simp [Tryz.f178]) (by kernel_rfl) ?_
 simp only [Tryz.f178]
 refine sA ?_
 obtain ⟨c109,hr1,h⟩ := bind_ok h
 refine Cl_sA (zek hr1) ?_
 try refine sA ?_
 obtain rfl:=Option.some.inj h
 exact endsA ⟨[(4,(B (c109.2 == ((a1.length : Nat) : Int))))],[],0,17⟩ []
theorem zf1 {a0 : TellingsT} {r : Bool} (h : zbR a0 = some r) : Fn Tryz.prog 130 [(.ag [(.lf true (.sl (a0.Branches.map eBranch)))])] [] 0 (B r) [] 0 := by
 unfold zbR at h
 refine fn_code tab_ok mixed [(1000,[(1,0)]),(1001,[(1,0),(10,0),(11,0),(12,0)]),(1002,[(1,0),(10,0),(11,0),(12,0),(13,0)]),(1003,[(1,0),(3,0),(4,0),(10,0),(11,0),(12,0)]),(1004,[(1,0),(3,0),(4,0),(10,0),(11,0),(12,0),(20,0)]),(1005,[(2,0)]),(1006,[(1,0),(3,0),(4,0),(10,0),(11,0),(12,0),(24,0),(25,0),(26,0)]),(1007,[(1,0),(3,0),(4,0),(10,0),(11,0),(12,0),(24,0),(25,0),(26,0),(27,0)]),(1008,[(1,0),(3,0),(4,0),(5,0),(6,0),(10,0),(11,0),(12,0),(24,0),(25,0),(26,0)]),(1009,[(1,0),(3,0),(4,0),(5,0),(6,0),(7,0),(10,0),(11,0),(12,0),(24,0),(25,0),(26,0)]),(1010,[(1,0),(3,0),(4,0),(10,0),(11,0),(12,0),(24,0),(25,0),(26,0),(52,0)]),(1011,[(2,0)]),(1012,[(1,0),(3,0),(4,0),(10,0),(11,0),(12,0),(24,0),(25,0),(26,0)]),(1013,[(1,0),(10,0),(11,0),(12,0)]),(1014,[(2,0)]),(4010,[])] Tryz.func130 rfl rfl (by simp [Tryz.f130]) (by kernel_rfl) ?_
 simp only [Tryz.f130]
 refine sA ?_
 obtain ⟨y129,hl1,h⟩ := bind_ok h
 refine W_loopP (fun g32 : zaf => ⟨[(1,(.pb 0 0)),(10,(.lf true (.sl (a0.Branches.map eBranch)))),(11,(I ((a0.Branches.length : Nat) : Int))),(12,(I g32.t12))],[(0,some (true,.box [(.lf true (.sl (a0.Branches.map eBranch)))]))],1,59⟩) (zah a0) _ _ hl1 (weakA [some 0]) ?_
 ·intro n1 g32 z1 hs1 hk1
  unfold zah at hs1
  try dsimp only at hs1
  refine sA ?_
  refine Bs_if hs1 (fun hs1 hc2 => ?_) (fun hs1 hc2 => ?_)
  ·try refine sA ?_
   obtain ⟨hp3,hs1⟩ := guard_some hs1
   have hn3 : g32.t12.toNat < a0.Branches.length := by first | omega | (simp only [List.length_set,List.length_append,List.length_replicate,List.length_map]; omega)
   try refine sA ?_
   try refine andA ?_
   obtain ⟨c118,hr4,hs1⟩ := bind_ok hs1
   refine Cl_sA (zgD hr4) ?_
   try refine sA ?_
   refine Bs_if hs1 (fun hs1 hc5 => ?_) (fun hs1 hc5 => ?_)
   ·try refine sA ?_
    cases hs1
    cases hk1
    try dsimp only at h
    try refine sA ?_
    obtain rfl:=Option.some.inj h
    exact endsA ⟨[(2,(B false))],[],0,59⟩ []
   ·try refine sA ?_
    obtain ⟨hp6,hs1⟩ := guard_some hs1
    try refine sA ?_
    try refine andA ?_
    obtain ⟨y126,hl7,hs1⟩ := bind_ok hs1
    refine W_loopP (fun g119 : zbZ => ⟨[(1,(.pb 0 0)),(3,(I g32.t12)),(4,(.pb 1 0)),(10,(.lf true (.sl (a0.Branches.map eBranch)))),(11,(I ((a0.Branches.length : Nat) : Int))),(12,(I g32.t12)),(24,(.lf true (.sl ((a0.Branches.take g32.t12.toNat).map eBranch)))),(25,(I (((a0.Branches.take g32.t12.toNat).length : Nat) : Int))),(26,(I g119.t26))],[(0,some (true,.box [(.lf true (.sl (a0.Branches.map eBranch)))])),(1,some (true,.box [(.lf true (.sl (((nth a0.Branches g32.t12.toNat).Events).map eEvent)))]))],2,59⟩) (zag a0 g32) _ _ hl7 (weakA [some 0,some 1]) ?_
    ·intro n2 g119 z2 hs2 hk2
     unfold zag at hs2
     try dsimp only at hs2
     refine sA ?_
     refine Bs_if hs2 (fun hs2 hc8 => ?_) (fun hs2 hc8 => ?_)
     ·try refine sA ?_
      obtain ⟨hp9,hs2⟩ := guard_some hs2
      have hn9 : g119.t26.toNat < (a0.Branches.take g32.t12.toNat).length := by first | omega | (simp only [List.length_set,List.length_append,List.length_replicate,List.length_map]; omega)
      try refine sA ?_
      try refine andA ?_
      obtain ⟨c123,hr10,hs2⟩ := bind_ok hs2
      refine Cl_sA (zek hr10) ?_
      try refine sA ?_
      obtain ⟨p125,hq11,hs2⟩ := bind_ok hs2
      refine Sq_cut (fun s2 => s2 = ⟨[(1,(.pb 0 0)),(3,(I g32.t12)),(4,(.pb 1 0)),(10,(.lf true (.sl (a0.Branches.map eBranch)))),(11,(I ((a0.Branches.length : Nat) : Int))),(12,(I g32.t12)),(24,(.lf true (.sl ((a0.Branches.take g32.t12.toNat).map eBranch)))),(25,(I (((a0.Branches.take g32.t12.toNat).length : Nat) : Int))),(26,(I g119.t26)),(52,(B p125.t52))],[(0,some (true,.box [(.lf true (.sl (a0.Branches.map eBranch)))])),(1,some (true,.box [(.lf true (.sl (((nth a0.Branches g32.t12.toNat).Events).map eEvent)))]))],2,59⟩) ?_ ?_
      ·try refine sA ?_
       refine Sp_if hq11 (fun hq11 hc12 => ?_) (fun hq11 hc12 => ?_)
       ·try refine sA ?_
        cases hq11
        exact X_cut rfl (weakA [some 0,some 1])
       ·try refine sA ?_
        obtain ⟨c124,hr13,hq11⟩ := bind_ok hq11
        refine Cl_sA (zeA hr13) ?_
        try refine sA ?_
        refine Sp_if hq11 (fun hq11 hc14 => ?_) (fun hq11 hc14 => ?_)
        ·try refine sA ?_
         cases hq11
         exact X_cut rfl (weakA [some 0,some 1])
        ·try refine sA ?_
         cases hq11
         exact X_cut rfl (weakA [some 0,some 1])
      ·intro s2 hJ; subst hJ
       try dsimp only at hs2
       try refine sA ?_
       refine Bs_if hs2 (fun hs2 hc15 => ?_) (fun hs2 hc15 => ?_)
       ·try refine sA ?_
        cases hs2
        cases hk2
        try dsimp only at hs1
        try refine sA ?_
        cases hs1
        cases hk1
        try dsimp only at h
        try refine sA ?_
        obtain rfl:=Option.some.inj h
        exact endsA ⟨[(2,(B false))],[],0,59⟩ []
       ·try refine sA ?_
        cases hs2
        exact X_backP hk2 (weakA [some 0,some 1])
     ·try refine sA ?_
      cases hs2
      cases hk2
      try dsimp only at hs1
      try refine sA ?_
      cases hs1
      exact X_backP hk1 (weakA [some 0])
  ·try refine sA ?_
   cases hs1
   cases hk1
   try dsimp only at h
   try refine sA ?_
   obtain rfl:=Option.some.inj h
   exact endsA ⟨[(2,(B (decide (((a0.Branches.length : Nat) : Int) ≤ 12))))],[],0,59⟩ []
theorem zgE {a0 : RegionT} {r : Bool} (h : zcC a0 = some r) : Fn Tryz.prog 56 [(.ag [(I a0.Id),(I a0.Version),(.lf true (.sl (a0.Tellings.Branches.map eBranch)))])] [] 0 (B r) [] 0 := by
 unfold zcC at h
 refine fn_code tab_ok mixed [(1000,[(1,0)]),(1001,[(1,0),(22,0)]),(1002,[(2,0)]),(1003,[(1,0),(25,0),(26,0),(27,0)]),(1004,[(1,0),(25,0),(26,0),(27,0),(28,0)]),(1005,[(1,0),(4,0),(25,0),(26,0),(27,0)]),(1006,[(1,0),(25,0),(26,0),(27,0),(32,0),(33,0),(34,0)]),(1007,[(1,0),(25,0),(26,0),(27,0),(32,0),(33,0),(34,0),(35,0)]),(1008,[(1,0),(6,0),(25,0),(26,0),(27,0),(32,0),(33,0),(34,0)]),(1009,[(1,0),(25,0),(26,0),(27,0),(32,0),(33,0),(34,0),(42,0)]),(1010,[(2,0)]),(1011,[(1,0),(25,0),(26,0),(27,0),(32,0),(33,0),(34,0)]),(1012,[(1,0),(25,0),(26,0),(27,0)]),(1013,[(2,0)]),(4001,[])] Tryz.func56 rfl rfl (by simp [Tryz.f56]) (by kernel_rfl) ?_
 simp only [Tryz.f56]
 refine sA ?_
 obtain ⟨p133,hq1,h⟩ := bind_ok h
 refine Sq_cut (fun s2 => s2 = ⟨[(1,(.pb 0 0)),(22,(B p133.t22))],[(0,some (true,.box [(I a0.Id),(I a0.Version),(.lf true (.sl (a0.Tellings.Branches.map eBranch)))]))],1,45⟩) ?_ ?_
 ·try refine sA ?_
  obtain ⟨c29,hr2,hq1⟩ := bind_ok hq1
  refine Cl_sA (zby hr2) ?_
  try refine sA ?_
  refine Sp_if hq1 (fun hq1 hc3 => ?_) (fun hq1 hc3 => ?_)
  ·try refine sA ?_
   cases hq1
   exact X_cut rfl (weakA [some 0])
  ·try refine sA ?_
   obtain ⟨c31,hr4,hq1⟩ := bind_ok hq1
   refine Cl_sA (zgC hr4) ?_
   try refine sA ?_
   refine Sp_if hq1 (fun hq1 hc5 => ?_) (fun hq1 hc5 => ?_)
   ·try refine sA ?_
    cases hq1
    exact X_cut rfl (weakA [some 0])
   ·try refine sA ?_
    obtain ⟨c132,hr6,hq1⟩ := bind_ok hq1
    refine Cl_sA (zf1 hr6) ?_
    try refine sA ?_
    cases hq1
    exact X_cut rfl (weakA [some 0])
 ·intro s2 hJ; subst hJ
  try dsimp only at h
  try refine sA ?_
  refine Bs_if h (fun h hc7 => ?_) (fun h hc7 => ?_)
  ·try refine sA ?_
   obtain rfl:=Option.some.inj h
   exact endsA ⟨[(2,(B false))],[],0,45⟩ []
  ·try refine sA ?_
   obtain ⟨y143,hl8,h⟩ := bind_ok h
   refine W_loopP (fun g134 : zaL => ⟨[(1,(.pb 0 0)),(25,(.lf true (.sl (a0.Tellings.Branches.map eBranch)))),(26,(I ((a0.Tellings.Branches.length : Nat) : Int))),(27,(I g134.t27))],[(0,some (true,.box [(I a0.Id),(I a0.Version),(.lf true (.sl (a0.Tellings.Branches.map eBranch)))]))],1,45⟩) (zaN a0) _ _ hl8 (weakA [some 0]) ?_
   ·intro n1 g134 z1 hs1 hk1
    unfold zaN at hs1
    try dsimp only at hs1
    refine sA ?_
    refine Bs_if hs1 (fun hs1 hc9 => ?_) (fun hs1 hc9 => ?_)
    ·try refine sA ?_
     obtain ⟨hp10,hs1⟩ := guard_some hs1
     have hn10 : g134.t27.toNat < a0.Tellings.Branches.length := by first | omega | (simp only [List.length_set,List.length_append,List.length_replicate,List.length_map]; omega)
     try refine sA ?_
     try refine andA ?_
     obtain ⟨y140,hl11,hs1⟩ := bind_ok hs1
     refine W_loopP (fun g139 : zcB => ⟨[(1,(.pb 0 0)),(25,(.lf true (.sl (a0.Tellings.Branches.map eBranch)))),(26,(I ((a0.Tellings.Branches.length : Nat) : Int))),(27,(I g134.t27)),(32,(.lf true (.sl (((nth a0.Tellings.Branches g134.t27.toNat).Events).map eEvent)))),(33,(I ((((nth a0.Tellings.Branches g134.t27.toNat).Events).length : Nat) : Int))),(34,(I g139.t34))],[(0,some (true,.box [(I a0.Id),(I a0.Version),(.lf true (.sl (a0.Tellings.Branches.map eBranch)))]))],1,45⟩) (zaM a0 g134) _ _ hl11 (weakA [some 0]) ?_
     ·intro n2 g139 z2 hs2 hk2
      unfold zaM at hs2
      try dsimp only at hs2
      refine sA ?_
      refine Bs_if hs2 (fun hs2 hc12 => ?_) (fun hs2 hc12 => ?_)
      ·try refine sA ?_
       obtain ⟨hp13,hs2⟩ := guard_some hs2
       have hn13 : g139.t34.toNat < ((nth a0.Tellings.Branches g134.t27.toNat).Events).length := by first | omega | (simp only [List.length_set,List.length_append,List.length_replicate,List.length_map]; omega)
       try refine sA ?_
       try refine andA ?_
       refine Bs_if hs2 (fun hs2 hc14 => ?_) (fun hs2 hc14 => ?_)
       ·try refine sA ?_
        cases hs2
        cases hk2
        try dsimp only at hs1
        try refine sA ?_
        cases hs1
        cases hk1
        try dsimp only at h
        try refine sA ?_
        obtain rfl:=Option.some.inj h
        exact endsA ⟨[(2,(B false))],[],0,45⟩ []
       ·try refine sA ?_
        cases hs2
        exact X_backP hk2 (weakA [some 0])
      ·try refine sA ?_
       cases hs2
       cases hk2
       try dsimp only at hs1
       try refine sA ?_
       cases hs1
       exact X_backP hk1 (weakA [some 0])
    ·try refine sA ?_
     cases hs1
     cases hk1
     try dsimp only at h
     try refine sA ?_
     obtain rfl:=Option.some.inj h
     exact endsA ⟨[(2,(B true))],[],0,45⟩ []
theorem zfj {a0 : RegionT} {r : Bool} (h : zb5 a0 = some r) : Fn Tryz.prog 68 [(.ag [(I a0.Id),(I a0.Version),(.lf true (.sl (a0.Tellings.Branches.map eBranch)))])] [] 0 (B r) [] 0 := by
 unfold zb5 at h
 refine fn_code tab_ok mixed [] Tryz.func68 rfl rfl (by simp [Tryz.f68]) (by kernel_rfl) ?_
 simp only [Tryz.f68]
 refine sA ?_
 obtain rfl:=Option.some.inj h
 exact endsA ⟨[(2,(B ((a0.Version.tmod 10) == a0.Id)))],[],0,9⟩ []
theorem zau {a0 : (List EventT)} {r : (List EventT)} (h : zH a0 = some r) : Fn Tryz.prog 172 [(.lf true (.sl (a0.map eEvent)))] [] 0 (.os 0 4 0 r.length r.length false) [(0,some (true,.arr false 4 (r.map eEvent)))] 1 := by
 unfold zH at h
 refine fn_code tab_ok mixed [] Tryz.func172 rfl rfl (by simp [Tryz.f172]) (by kernel_rfl) ?_
 simp only [Tryz.f172]
 refine sA ?_
 obtain ⟨hp1,h⟩ := guard_some h
 try refine sA ?_
 try refine andA ?_
 obtain rfl:=Option.some.inj h
 exact endsA ⟨[(2,(.os 0 4 0 ((([]) ++ a0).length) ((([]) ++ a0).length) false))],[(0,some (true,.arr false 4 ((([]) ++ a0).map eEvent)))],1,6⟩ [some 1]
theorem zfY {a0 : TellingsT} {r : TellingsT} (h : zdH a0 = some r) : Fn Tryz.prog 121 [(.ag [(.lf true (.sl (a0.Branches.map eBranch)))])] [] 0 (.ag [(.os 0 1 0 r.Branches.length r.Branches.length false)]) [(0,some (true,.deep [.sl [.sc,.sc,.sc,.sc]] (r.Branches.map eBranch)))] 2 := by
 unfold zdH at h
 refine fn_code tab_ok mixed [(1000,[(1,0),(2,0)]),(1001,[(1,0),(2,0),(3,0)]),(1002,[(2,0),(3,0),(7,0),(8,0),(9,0)]),(1003,[(2,0),(3,0),(7,0),(8,0),(9,0),(10,0)]),(1004,[(2,0),(3,0),(5,0),(7,0),(8,0),(9,0)]),(1005,[(2,0),(3,0),(7,0),(8,0),(9,0)]),(1006,[(2,0),(3,0),(7,0),(8,0),(9,0)]),(1007,[(2,0)])] Tryz.func121 rfl rfl (by simp [Tryz.f121]) (by kernel_rfl) ?_
 simp only [Tryz.f121]
 refine sA ?_
 obtain ⟨y152,hl1,h⟩ := bind_ok h
 refine W_loopP (fun g149 : zee => ⟨[(2,(.pb 0 0)),(3,(.os 1 1 0 g149.c1.length g149.c1.length false)),(7,(.lf true (.sl (a0.Branches.map eBranch)))),(8,(I ((a0.Branches.length : Nat) : Int))),(9,(I g149.t9))],[(0,some (true,.box [.nl])),(1,some (true,.deep [.sl [.sc,.sc,.sc,.sc]] (g149.c1.map eBranch)))],2,23⟩) (zb6 a0) _ _ hl1 (weakA [some 1,none]) ?_
 ·intro n1 g149 z1 hs1 hk1
  unfold zb6 at hs1
  try dsimp only at hs1
  refine sA ?_
  refine Bs_if hs1 (fun hs1 hc2 => ?_) (fun hs1 hc2 => ?_)
  ·try refine sA ?_
   obtain ⟨hp3,hs1⟩ := guard_some hs1
   have hn3 : g149.t9.toNat < a0.Branches.length := by first | omega | (simp only [List.length_set,List.length_append,List.length_replicate,List.length_map]; omega)
   try refine sA ?_
   try refine andA ?_
   obtain ⟨c151,hr4,hs1⟩ := bind_ok hs1
   refine Cl_sA (zau hr4) ?_
   try refine sA ?_
   obtain ⟨hp5,hs1⟩ := guard_some hs1
   try refine sA ?_
   try refine andA ?_
   cases hs1
   exact X_backP hk1 (packW 5 (weakA [some 0,some 5]))
  ·try refine sA ?_
   cases hs1
   cases hk1
   try dsimp only at h
   try refine sA ?_
   obtain rfl:=Option.some.inj h
   exact endsA ⟨[(2,(.pb 1 0))],[(0,some (true,.deep [.sl [.sc,.sc,.sc,.sc]] (g149.c1.map eBranch))),(1,some (true,.box [(.os 0 1 0 g149.c1.length g149.c1.length false)]))],2,23⟩ [some 1,some 0]
theorem zho {a0 : RegionT} {r : RegionT} (h : zew a0 = some r) : Fn Tryz.prog 70 [(.ag [(I a0.Id),(I a0.Version),(.lf true (.sl (a0.Tellings.Branches.map eBranch)))])] [] 0 (.ag [(I r.Id),(I r.Version),(.lf false (.sl (r.Tellings.Branches.map eBranch)))]) [] 1 := by
 unfold zew at h
 refine fn_code tab_ok mixed [(1000,[(1,0),(2,0)]),(1001,[(1,0),(2,0)]),(1002,[(2,0)])] Tryz.func70 rfl rfl (by simp [Tryz.f70]) (by kernel_rfl) ?_
 simp only [Tryz.f70]
 refine sA ?_
 obtain ⟨c153,hr1,h⟩ := bind_ok h
 refine Cl_sA (zfY hr1) ?_
 try refine sA ?_
 obtain rfl:=Option.some.inj h
 refine ends_frz 2 ?_
 try refine sA ?_
 exact endsA ⟨[(2,(.pb 0 0))],[(0,some (true,.box [(I a0.Id),(I a0.Version),(.lf false (.sl (c153.Branches.map eBranch)))]))],1,8⟩ [some 1]
theorem ze7 {a0 : (List BranchT)} {r : Int} (h : zbJ a0 = some r) : Fn Tryz.prog 184 [(.lf true (.sl (a0.map eBranch)))] [] 0 (I r) [] 0 := by
 unfold zbJ at h
 refine fn_code tab_ok mixed [(1000,[(0,0)]),(1001,[(0,0),(3,0)]),(1002,[(0,0),(3,0),(9,0),(10,0),(11,0)]),(1003,[(0,0),(3,0),(9,0),(10,0),(11,0),(12,0)]),(1004,[(0,0),(3,0),(4,0),(5,0),(9,0),(10,0),(11,0)]),(1005,[(0,0),(3,0),(4,0),(5,0),(9,0),(10,0),(11,0),(17,0)]),(1006,[(0,0),(3,0),(9,0),(10,0),(11,0)]),(1007,[(0,0),(3,0),(4,0),(5,0),(6,0),(9,0),(10,0),(11,0)]),(1008,[(0,0),(3,0),(4,0),(5,0),(6,0),(7,0),(9,0),(10,0),(11,0)]),(1009,[(0,0),(3,0),(4,0),(5,0),(6,0),(7,0),(8,0),(9,0),(10,0),(11,0)]),(1010,[(0,0),(3,0),(4,0),(9,0),(10,0),(11,0),(55,0)]),(1011,[(0,0),(3,0),(9,0),(10,0),(11,0)]),(1012,[(0,0),(3,0),(9,0),(10,0),(11,0)]),(1013,[(2,0)]),(4010,[])] Tryz.func184 rfl rfl (by simp [Tryz.f184]) (by kernel_rfl) ?_
 simp only [Tryz.f184]
 refine sA ?_
 obtain ⟨y157,hl1,h⟩ := bind_ok h
 refine W_loopP (fun g155 : zd0 => ⟨[(0,(.lf true (.sl (a0.map eBranch)))),(3,(I g155.t3)),(9,(.lf true (.sl (a0.map eBranch)))),(10,(I ((a0.length : Nat) : Int))),(11,(I g155.t11))],[],0,59⟩) (zx a0) _ _ hl1 (weakA []) ?_
 ·intro n1 g155 z1 hs1 hk1
  unfold zx at hs1
  try dsimp only at hs1
  refine sA ?_
  refine Bs_if hs1 (fun hs1 hc2 => ?_) (fun hs1 hc2 => ?_)
  ·try refine sA ?_
   obtain ⟨hp3,hs1⟩ := guard_some hs1
   have hn3 : g155.t11.toNat < a0.length := by first | omega | (simp only [List.length_set,List.length_append,List.length_replicate,List.length_map]; omega)
   try refine sA ?_
   try refine andA ?_
   refine Bs_if hs1 (fun hs1 hc4 => ?_) (fun hs1 hc4 => ?_)
   ·try refine sA ?_
    cases hs1
    exact X_backP hk1 (weakA [])
   ·try refine sA ?_
    obtain ⟨hp5,hs1⟩ := guard_some hs1
    have hn5 : g155.t3.toNat < a0.length := by first | omega | (simp only [List.length_set,List.length_append,List.length_replicate,List.length_map]; omega)
    try refine sA ?_
    try refine andA ?_
    obtain ⟨hp6,hs1⟩ := guard_some hs1
    have hn6 : (wI (((((nth a0 g155.t11.toNat).Events).length : Nat) : Int) - 1)).toNat < ((nth a0 g155.t11.toNat).Events).length := by first | omega | (simp only [List.length_set,List.length_append,List.length_replicate,List.length_map]; omega)
    try refine sA ?_
    try refine andA ?_
    obtain ⟨hp7,hs1⟩ := guard_some hs1
    have hn7 : (wI (((((nth a0 g155.t3.toNat).Events).length : Nat) : Int) - 1)).toNat < ((nth a0 g155.t3.toNat).Events).length := by first | omega | (simp only [List.length_set,List.length_append,List.length_replicate,List.length_map]; omega)
    try refine sA ?_
    try refine andA ?_
    obtain ⟨p156,hq8,hs1⟩ := bind_ok hs1
    refine Sq_cut (fun s2 => s2 = ⟨[(0,(.lf true (.sl (a0.map eBranch)))),(3,(I g155.t3)),(4,(I g155.t11)),(9,(.lf true (.sl (a0.map eBranch)))),(10,(I ((a0.length : Nat) : Int))),(11,(I g155.t11)),(55,(B p156.t55))],[],0,59⟩) ?_ ?_
    ·try refine sA ?_
     refine Sp_if hq8 (fun hq8 hc9 => ?_) (fun hq8 hc9 => ?_)
     ·try refine sA ?_
      cases hq8
      exact X_cut rfl (weakA [])
     ·try refine sA ?_
      refine Sp_if hq8 (fun hq8 hc10 => ?_) (fun hq8 hc10 => ?_)
      ·try refine sA ?_
       cases hq8
       exact X_cut rfl (weakA [])
      ·try refine sA ?_
       cases hq8
       exact X_cut rfl (weakA [])
    ·intro s2 hJ; subst hJ
     try dsimp only at hs1
     try refine sA ?_
     refine Bs_if hs1 (fun hs1 hc11 => ?_) (fun hs1 hc11 => ?_)
     ·try refine sA ?_
      cases hs1
      exact X_backP hk1 (weakA [])
     ·try refine sA ?_
      cases hs1
      exact X_backP hk1 (weakA [])
  ·try refine sA ?_
   cases hs1
   cases hk1
   try dsimp only at h
   try refine sA ?_
   obtain rfl:=Option.some.inj h
   exact endsA ⟨[(2,(I g155.t3))],[],0,59⟩ []
theorem zhE {a0 : (List BranchT)} {r : (List ByteArray)} (h : zd2 a0 = some r) : Fn Tryz.prog 138 [(.lf true (.sl (a0.map eBranch)))] [] 0 (.os 0 1 0 r.length r.length false) [(0,some (true,.arr false 1 (r.map eS)))] 1 := by
 unfold zd2 at h
 refine fn_code tab_ok mixed [(1000,[(0,0)]),(1001,[(0,0),(3,0)]),(1002,[(0,0),(3,0),(16,0)]),(1003,[(2,0)]),(1004,[(0,0),(4,0)]),(1005,[(0,0),(4,0),(6,0)]),(1006,[(4,0),(6,0),(26,0),(27,0),(28,0)]),(1007,[(4,0),(6,0),(26,0),(27,0),(28,0),(29,0)]),(1008,[(4,0),(6,0),(8,0),(26,0),(27,0),(28,0)]),(1009,[(4,0),(6,0),(9,0),(26,0),(27,0),(28,0)]),(1010,[(4,0),(6,0),(26,0),(27,0),(28,0),(39,0),(40,0),(41,0)]),(1011,[(4,0),(6,0),(26,0),(27,0),(28,0),(39,0),(40,0),(41,0),(42,0)]),(1012,[(4,0),(6,0),(12,0),(26,0),(27,0),(28,0),(39,0),(40,0),(41,0)]),(1013,[(4,0),(6,0),(12,0),(26,0),(27,0),(28,0),(39,0),(40,0),(41,0),(55,0)]),(1014,[(4,0),(6,0),(26,0),(27,0),(28,0),(39,0),(40,0),(41,0)]),(1015,[(4,0),(6,0),(26,0),(27,0),(28,0),(39,0),(40,0),(41,0)]),(1016,[(4,0),(6,0),(26,0),(27,0),(28,0)]),(1017,[(2,0)]),(4013,[])] Tryz.func138 rfl rfl (by simp [Tryz.f138]) (by kernel_rfl) ?_
 simp only [Tryz.f138]
 refine sA ?_
 obtain ⟨c158,hr1,h⟩ := bind_ok h
 refine Cl_sA (ze7 hr1) ?_
 try refine sA ?_
 refine Bs_if h (fun h hc2 => ?_) (fun h hc2 => ?_)
 ·try refine sA ?_
  obtain rfl:=Option.some.inj h
  exact endsA ⟨[(2,(.os 0 1 0 (([] : List ByteArray).length) (([] : List ByteArray).length) false))],[(0,some (true,.arr false 1 (([] : List ByteArray).map eS)))],1,62⟩ [none]
 ·try refine sA ?_
  obtain ⟨hp3,h⟩ := guard_some h
  have hn3 : c158.toNat < a0.length := by first | omega | (simp only [List.length_set,List.length_append,List.length_replicate,List.length_map]; omega)
  try refine sA ?_
  try refine andA ?_
  obtain ⟨c159,hr4,h⟩ := bind_ok h
  refine Cl_sA (zef hr4) ?_
  try refine sA ?_
  obtain ⟨y183,hl5,h⟩ := bind_ok h
  refine W_loopP (fun g160 : zdN => ⟨[(4,(.pb 0 0)),(6,(.os 1 1 0 g160.c1.length g160.c1.length false)),(26,(.lf true (.sl (a0.map eBranch)))),(27,(I ((a0.length : Nat) : Int))),(28,(I g160.t28))],[(0,some (true,.box [(I c159.1.Status),(I c159.1.Next),(B c159.1.Cancel),(I c159.1.Done),(.lf true (.sl (c159.1.Signals.map eS))),(.lf true (.sl (c159.1.Timers.map eS)))])),(1,some (true,.arr false 1 (g160.c1.map eS)))],2,62⟩) (zbN a0 c159) _ _ hl5 (weakA [some 1,none]) ?_
  ·intro n1 g160 z1 hs1 hk1
   unfold zbN at hs1
   try dsimp only at hs1
   refine sA ?_
   refine Bs_if hs1 (fun hs1 hc6 => ?_) (fun hs1 hc6 => ?_)
   ·try refine sA ?_
    obtain ⟨hp7,hs1⟩ := guard_some hs1
    have hn7 : g160.t28.toNat < a0.length := by first | omega | (simp only [List.length_set,List.length_append,List.length_replicate,List.length_map]; omega)
    try refine sA ?_
    try refine andA ?_
    obtain ⟨c172,hr8,hs1⟩ := bind_ok hs1
    refine Cl_sA (zef hr8) ?_
    try refine sA ?_
    obtain ⟨y182,hl9,hs1⟩ := bind_ok hs1
    refine W_loopP (fun g173 : zdO => ⟨[(4,(.pb 0 0)),(6,(.os 1 1 0 g173.c1.length g173.c1.length false)),(26,(.lf true (.sl (a0.map eBranch)))),(27,(I ((a0.length : Nat) : Int))),(28,(I g160.t28)),(39,(.lf true (.sl (c172.1.Signals.map eS)))),(40,(I ((c172.1.Signals.length : Nat) : Int))),(41,(I g173.t41))],[(0,some (true,.box [(I c159.1.Status),(I c159.1.Next),(B c159.1.Cancel),(I c159.1.Done),(.lf true (.sl (c159.1.Signals.map eS))),(.lf true (.sl (c159.1.Timers.map eS)))])),(1,some (true,.arr false 1 (g173.c1.map eS)))],2,62⟩) (za3 c172 c159) _ _ hl9 (weakA [some 0,some 1]) ?_
    ·intro n2 g173 z2 hs2 hk2
     unfold za3 at hs2
     try dsimp only at hs2
     refine sA ?_
     refine Bs_if hs2 (fun hs2 hc10 => ?_) (fun hs2 hc10 => ?_)
     ·try refine sA ?_
      obtain ⟨hp11,hs2⟩ := guard_some hs2
      have hn11 : g173.t41.toNat < c172.1.Signals.length := by first | omega | (simp only [List.length_set,List.length_append,List.length_replicate,List.length_map]; omega)
      try refine sA ?_
      try refine andA ?_
      obtain ⟨p180,hq12,hs2⟩ := bind_ok hs2
      refine Sq_cut (fun s2 => s2 = ⟨[(4,(.pb 0 0)),(6,(.os 1 1 0 g173.c1.length g173.c1.length false)),(12,(.lf false (.sc (.string (nth c172.1.Signals g173.t41.toNat))))),(26,(.lf true (.sl (a0.map eBranch)))),(27,(I ((a0.length : Nat) : Int))),(28,(I g160.t28)),(39,(.lf true (.sl (c172.1.Signals.map eS)))),(40,(I ((c172.1.Signals.length : Nat) : Int))),(41,(I g173.t41)),(55,(B p180.t55))],[(0,some (true,.box [(I c159.1.Status),(I c159.1.Next),(B c159.1.Cancel),(I c159.1.Done),(.lf true (.sl (c159.1.Signals.map eS))),(.lf true (.sl (c159.1.Timers.map eS)))])),(1,some (true,.arr false 1 (g173.c1.map eS)))],2,62⟩) ?_ ?_
      ·try refine sA ?_
       obtain ⟨c178,hr13,hq12⟩ := bind_ok hq12
       refine Cl_sA (zd8 hr13) ?_
       try refine sA ?_
       refine Sp_if hq12 (fun hq12 hc14 => ?_) (fun hq12 hc14 => ?_)
       ·try refine sA ?_
        obtain ⟨c179,hr15,hq12⟩ := bind_ok hq12
        refine Cl_sA (zd8 hr15) ?_
        try refine sA ?_
        cases hq12
        exact X_cut rfl (weakA [some 0,some 1])
       ·try refine sA ?_
        cases hq12
        exact X_cut rfl (weakA [some 0,some 1])
      ·intro s2 hJ; subst hJ
       try dsimp only at hs2
       try refine sA ?_
       refine Bs_if hs2 (fun hs2 hc16 => ?_) (fun hs2 hc16 => ?_)
       ·try refine sA ?_
        obtain ⟨c181,hr17,hs2⟩ := bind_ok hs2
        refine Cl_sA (zfv hr17) ?_
        try refine sA ?_
        cases hs2
        exact X_backP hk2 (weakA [some 0,some 2])
       ·try refine sA ?_
        cases hs2
        exact X_backP hk2 (weakA [some 0,some 1])
     ·try refine sA ?_
      cases hs2
      cases hk2
      try dsimp only at hs1
      try refine sA ?_
      cases hs1
      exact X_backP hk1 (weakA [some 0,some 1])
   ·try refine sA ?_
    cases hs1
    cases hk1
    try dsimp only at h
    try refine sA ?_
    obtain rfl:=Option.some.inj h
    exact endsA ⟨[(2,(.os 0 1 0 g160.c1.length g160.c1.length false))],[(0,some (true,.arr false 1 (g160.c1.map eS)))],1,62⟩ [some 1]
theorem zgF {a0 : RegionT} {r : (List EventT)} (h : zcJ a0 = some r) : Fn Tryz.prog 188 [(.ag [(I a0.Id),(I a0.Version),(.lf true (.sl (a0.Tellings.Branches.map eBranch)))])] [] 0 (.lf true (.sl (r.map eEvent))) [] 0 := by
 unfold zcJ at h
 refine fn_code tab_ok mixed [(1000,[(1,0)]),(1001,[(1,0),(3,0)]),(1002,[(1,0),(3,0),(9,0)]),(1003,[(2,0)]),(1004,[(2,0)])] Tryz.func188 rfl rfl (by simp [Tryz.f188]) (by kernel_rfl) ?_
 simp only [Tryz.f188]
 refine sA ?_
 obtain ⟨c190,hr1,h⟩ := bind_ok h
 refine Cl_sA (ze7 hr1) ?_
 try refine sA ?_
 refine Bs_if h (fun h hc2 => ?_) (fun h hc2 => ?_)
 ·try refine sA ?_
  obtain rfl:=Option.some.inj h
  exact endsA ⟨[(2,(.lf true (.sl (([]).map eEvent))))],[],0,17⟩ []
 ·try refine sA ?_
  obtain ⟨hp3,h⟩ := guard_some h
  have hn3 : c190.toNat < a0.Tellings.Branches.length := by first | omega | (simp only [List.length_set,List.length_append,List.length_replicate,List.length_map]; omega)
  try refine sA ?_
  try refine andA ?_
  obtain rfl:=Option.some.inj h
  exact endsA ⟨[(2,(.lf true (.sl (((nth a0.Tellings.Branches c190.toNat).Events).map eEvent))))],[],0,17⟩ []
theorem zhp {a0 : (List BranchT)} {a1 : (List EventT)} {m0 : Nat} {x0 : Bool} {r : (List BranchT)} (h : zct a0 a1 = some r) : Fn Tryz.prog 179 [(.lf true (.sl (a0.map eBranch))),(.os 0 4 0 a1.length m0 x0)] [(0,some (false,.arr true 4 (a1.map eEvent)))] 1 (.lf true (.sl (r.map eBranch))) [(0,some (false,.arr false 4 (a1.map eEvent)))] 1 := by
 unfold zct at h
 refine fn_code tab_ok mixed [(1000,[(0,0),(1,0)]),(1001,[(0,0),(1,0),(5,0)]),(1002,[(0,0),(1,0),(5,0),(6,0)]),(1003,[(0,0),(1,0),(5,0),(6,0),(13,0),(14,0),(15,0)]),(1004,[(0,0),(1,0),(5,0),(6,0),(13,0),(14,0),(15,0),(16,0)]),(1005,[(0,0),(1,0),(5,0),(6,0),(8,0),(13,0),(14,0),(15,0)]),(1006,[(0,0),(1,0),(5,0),(6,0),(13,0),(14,0),(15,0),(22,0)]),(1007,[(4,0)]),(1008,[(0,0),(1,0),(5,0),(6,0),(13,0),(14,0),(15,0)]),(1009,[(1,0),(5,0),(6,0),(25,0),(26,0),(27,0)]),(1010,[(1,0),(5,0),(6,0),(25,0),(26,0),(27,0),(28,0)]),(1011,[(1,0),(5,0),(6,0),(10,0),(25,0),(26,0),(27,0)]),(1012,[(1,0),(5,0),(6,0),(10,0),(25,0),(26,0),(27,0),(34,0)]),(1013,[(1,0),(5,0),(6,0),(10,0),(11,0),(25,0),(26,0),(27,0)]),(1014,[(1,0),(5,0),(6,0),(10,0),(25,0),(26,0),(27,0),(47,0)]),(1015,[(1,0),(5,0),(10,0),(25,0),(26,0),(27,0)]),(1016,[(1,0),(5,0),(6,0),(10,0),(25,0),(26,0),(27,0)]),(1017,[(1,0),(5,0),(6,0),(25,0),(26,0),(27,0)]),(1018,[(1,0),(5,0),(6,0),(25,0),(26,0),(27,0)]),(1019,[(1,0),(5,0),(63,0)]),(1020,[(5,0)]),(1021,[(4,0)]),(4014,[]),(5017,[])] Tryz.func179 rfl rfl (by simp [Tryz.f179]) (by kernel_rfl) ?_
 simp only [Tryz.f179]
 refine sA ?_
 obtain ⟨y254,hl1,h⟩ := bind_ok h
 refine W_loopP (fun g251 : zdv => ⟨[(0,(.lf true (.sl (a0.map eBranch)))),(1,(.os 0 4 0 a1.length m0 x0)),(5,.nl),(6,(B false)),(13,(.lf true (.sl (a0.map eBranch)))),(14,(I ((a0.length : Nat) : Int))),(15,(I g251.t15))],[(0,some (false,.arr true 4 (a1.map eEvent)))],1,71⟩) (zaD a0 a1) _ _ hl1 (weakA [some 0]) ?_
 ·intro n1 g251 z1 hs1 hk1
  unfold zaD at hs1
  try dsimp only at hs1
  refine sA ?_
  refine Bs_if hs1 (fun hs1 hc2 => ?_) (fun hs1 hc2 => ?_)
  ·try refine sA ?_
   obtain ⟨hp3,hs1⟩ := guard_some hs1
   have hn3 : g251.t15.toNat < a0.length := by first | omega | (simp only [List.length_set,List.length_append,List.length_replicate,List.length_map]; omega)
   try refine sA ?_
   try refine andA ?_
   obtain ⟨c253,hr4,hs1⟩ := bind_ok hs1
   refine Cl_sA (zeA hr4) ?_
   try refine sA ?_
   refine Bs_if hs1 (fun hs1 hc5 => ?_) (fun hs1 hc5 => ?_)
   ·try refine sA ?_
    cases hs1
    cases hk1
    try dsimp only at h
    try refine sA ?_
    obtain rfl:=Option.some.inj h
    exact endsA ⟨[(4,(.lf true (.sl (a0.map eBranch))))],[(0,some (false,.arr false 4 (a1.map eEvent)))],1,71⟩ [some 0]
   ·try refine sA ?_
    cases hs1
    exact X_backP hk1 (weakA [some 0])
  ·try refine sA ?_
   cases hs1
   cases hk1
   try dsimp only at h
   try refine sA ?_
   obtain ⟨y290,hl6,h⟩ := bind_ok h
   refine W_loopP (fun g275 : zez => ⟨[(1,(.os 0 4 0 a1.length m0 x0)),(5,(.os 1 1 0 g275.c1.length g275.c1.length false)),(6,(B g275.t6)),(25,(.lf true (.sl (a0.map eBranch)))),(26,(I ((a0.length : Nat) : Int))),(27,(I g275.t27))],[(0,some (false,.arr true 4 (a1.map eEvent))),(1,some (true,.deep [.sl [.sc,.sc,.sc,.sc]] (g275.c1.map eBranch)))],2,71⟩) (_) _ _ hl6 (weakA [some 0,none]) ?_
   ·intro n3 g275 z3 hs3 hk3
    unfold zbt at hs3
    try dsimp only at hs3
    refine sA ?_
    refine Bs_if hs3 (fun hs3 hc7 => ?_) (fun hs3 hc7 => ?_)
    ·try refine sA ?_
     obtain ⟨hp8,hs3⟩ := guard_some hs3
     have hn8 : g275.t27.toNat < a0.length := by first | omega | (simp only [List.length_set,List.length_append,List.length_replicate,List.length_map]; omega)
     try refine sA ?_
     try refine andA ?_
     obtain ⟨c283,hr9,hs3⟩ := bind_ok hs3
     refine Cl_sA (zeA hr9) ?_
     try refine sA ?_
     refine Bs_if hs3 (fun hs3 hc10 => ?_) (fun hs3 hc10 => ?_)
     ·try refine sA ?_
      cases hs3
      exact X_backP hk3 (weakA [some 0,some 1])
     ·try refine sA ?_
      obtain ⟨c284,hr11,hs3⟩ := bind_ok hs3
      refine Cl_sA (zek hr11) ?_
      try refine sA ?_
      obtain ⟨p285,hq12,hs3⟩ := bind_ok hs3
      refine Sq_cut (fun s2 => s2 = ⟨[(1,(.os 0 4 0 a1.length m0 x0)),(5,(.os 1 1 0 g275.c1.length g275.c1.length false)),(6,(B g275.t6)),(10,(.pb 2 0)),(25,(.lf true (.sl (a0.map eBranch)))),(26,(I ((a0.length : Nat) : Int))),(27,(I g275.t27)),(47,(B p285.t47))],[(0,some (false,.arr true 4 (a1.map eEvent))),(1,some (true,.deep [.sl [.sc,.sc,.sc,.sc]] (g275.c1.map eBranch))),(2,some (true,.box [(.lf true (.sl (((nth a0 g275.t27.toNat).Events).map eEvent)))]))],3,71⟩) ?_ ?_
      ·try refine sA ?_
       refine Sp_if hq12 (fun hq12 hc13 => ?_) (fun hq12 hc13 => ?_)
       ·try refine sA ?_
        cases hq12
        exact X_cut rfl (weakA [some 0,some 1,some 2])
       ·try refine sA ?_
        cases hq12
        exact X_cut rfl (weakA [some 0,some 1,some 2])
      ·intro s2 hJ; subst hJ
       try dsimp only at hs3
       try refine sA ?_
       refine Bs_if hs3 (fun hs3 hc14 => ?_) (fun hs3 hc14 => ?_)
       ·try refine sA ?_
        obtain ⟨c286,hr15,hs3⟩ := bind_ok hs3
        refine Cl_sA (zau hr15) ?_
        try refine sA ?_
        obtain ⟨hp16,hs3⟩ := guard_some hs3
        try refine sA ?_
        try refine andA ?_
        refine Gh_pack 5 ?_
        try refine sA ?_
        obtain ⟨c288,hr17,hs3⟩ := bind_ok hs3
        refine Cl_sA (zau hr17) ?_
        try refine sA ?_
        obtain ⟨hp18,hs3⟩ := guard_some hs3
        try refine sA ?_
        try refine andA ?_
        cases hs3
        exact X_backP hk3 (packW 8 (weakA [some 0,some 8]))
       ·try refine sA ?_
        refine Gh_id ?_
        try refine sA ?_
        obtain ⟨c289,hr19,hs3⟩ := bind_ok hs3
        refine Cl_sA (zau hr19) ?_
        try refine sA ?_
        obtain ⟨hp20,hs3⟩ := guard_some hs3
        try refine sA ?_
        try refine andA ?_
        cases hs3
        exact X_backP hk3 (packW 5 (weakA [some 0,some 5]))
    ·try refine sA ?_
     cases hs3
     cases hk3
     try dsimp only at h
     try refine sA ?_
     refine Bs_if h (fun h hc21 => ?_) (fun h hc21 => ?_)
     ·try refine sA ?_
      obtain ⟨c292,hr22,h⟩ := bind_ok h
      refine Cl_sA (zau hr22) ?_
      try refine sA ?_
      obtain ⟨hp23,h⟩ := guard_some h
      try refine sA ?_
      try refine andA ?_
      obtain rfl:=Option.some.inj h
      refine ends_pack 4 ?_
      try refine sA ?_
      refine ends_frz 4 ?_
      try refine sA ?_
      exact endsA ⟨[(4,(.lf true (.sl ((g275.c1 ++ [(⟨c292⟩ : BranchT)]).map eBranch))))],[(0,some (false,.arr false 4 (a1.map eEvent)))],1,71⟩ [some 0]
     ·try refine sA ?_
      obtain rfl:=Option.some.inj h
      refine ends_frz 1 ?_
      try refine sA ?_
      exact endsA ⟨[(4,(.lf true (.sl (g275.c1.map eBranch))))],[(0,some (false,.arr false 4 (a1.map eEvent)))],1,71⟩ [some 0]
theorem zhF {a0 : RegionT} {a1 : Int} {a2 : ByteArray} {r : (RegionT × Int)} (h : zdi a0 a1 a2 = some r) : Fn Tryz.prog 139 [(.ag [(I a0.Id),(I a0.Version),(.lf true (.sl (a0.Tellings.Branches.map eBranch)))]),(I a1),(.lf false (.sc (.string a2)))] [] 0 (.tu [(.ag [(I r.1.Id),(I r.1.Version),(.lf true (.sl (r.1.Tellings.Branches.map eBranch)))]),(I r.2)]) [] 1 := by
 unfold zdi at h
 refine fn_code tab_ok mixed [(15,[(2,4),(5,4),(2,6),(2,7),(6,6)]),(1000,[(1,0),(2,0),(3,0),(6,0)]),(1001,[(1,0),(2,0),(3,0),(6,0),(21,0)]),(1002,[(6,0),(7,0)]),(1003,[(1,0),(2,0),(3,0),(6,0),(25,0)]),(1004,[(6,0),(7,0)]),(1005,[(1,0),(2,0),(3,0),(6,0),(8,0)]),(1006,[(1,0),(2,0),(3,0),(6,0),(8,0),(9,0)]),(1007,[(1,0),(2,0),(3,0),(6,0),(8,0),(9,0),(42,0)]),(1008,[(6,0),(7,0)]),(1009,[(3,0),(6,0),(8,0),(9,0),(11,0)]),(1010,[(3,0),(6,0),(8,0),(11,0),(13,0)]),(1011,[(3,0),(6,0),(8,0),(11,0),(58,0)]),(1012,[(6,0),(7,0)]),(1013,[(3,0),(6,0),(8,0),(11,0),(62,0)]),(1014,[(6,0),(7,0)]),(1015,[(3,0),(6,0)]),(1016,[(6,0),(7,0)]),(4001,[]),(4007,[])] Tryz.func139 rfl rfl (by simp [Tryz.f139]) (by kernel_rfl) ?_
 simp only [Tryz.f139]
 refine sA ?_
 obtain ⟨p188,hq1,h⟩ := bind_ok h
 refine Sq_cut (fun s2 => s2 = ⟨[(1,(I a1)),(2,(.lf false (.sc (.string a2)))),(3,(.pb 0 0)),(6,(.pb 1 0)),(21,(B p188.t21))],[(0,some (true,.box [(I a0.Id),(I a0.Version),(.lf true (.sl (a0.Tellings.Branches.map eBranch)))])),(1,some (true,.box [(I 0),(I 0),.nl]))],2,77⟩) ?_ ?_
 ·try refine sA ?_
  obtain ⟨c186,hr2,hq1⟩ := bind_ok hq1
  refine Cl_sA (zby hr2) ?_
  try refine sA ?_
  refine Sp_if hq1 (fun hq1 hc3 => ?_) (fun hq1 hc3 => ?_)
  ·try refine sA ?_
   cases hq1
   exact X_cut rfl (weakA [some 0,some 1])
  ·try refine sA ?_
   obtain ⟨c187,hr4,hq1⟩ := bind_ok hq1
   refine Cl_sA (ze1 hr4) ?_
   try refine sA ?_
   cases hq1
   exact X_cut rfl (weakA [some 0,some 1])
 ·intro s2 hJ; subst hJ
  try dsimp only at h
  try refine sA ?_
  refine Bs_if h (fun h hc5 => ?_) (fun h hc5 => ?_)
  ·try refine sA ?_
   obtain rfl:=Option.some.inj h
   exact endsA ⟨[(6,(.pb 0 0)),(7,(I 1))],[(0,some (true,.box [(I a0.Id),(I a0.Version),(.lf true (.sl (a0.Tellings.Branches.map eBranch)))]))],1,77⟩ [some 1]
  ·try refine sA ?_
   obtain ⟨c189,hr6,h⟩ := bind_ok h
   refine Cl_sA (zfj hr6) ?_
   try refine sA ?_
   refine Bs_if h (fun h hc7 => ?_) (fun h hc7 => ?_)
   ·try refine sA ?_
    obtain rfl:=Option.some.inj h
    exact endsA ⟨[(6,(.pb 0 0)),(7,(I 2))],[(0,some (true,.box [(I a0.Id),(I a0.Version),(.lf true (.sl (a0.Tellings.Branches.map eBranch)))]))],1,77⟩ [some 1]
   ·try refine sA ?_
    obtain ⟨c191,hr8,h⟩ := bind_ok h
    refine Cl_sA (zgF hr8) ?_
    try refine sA ?_
    obtain ⟨c192,hr9,h⟩ := bind_ok h
    refine Cl_sA (zef hr9) ?_
    try refine sA ?_
    obtain ⟨p194,hq10,h⟩ := bind_ok h
    refine Sq_cut (fun s2 => s2 = ⟨[(1,(I a1)),(2,(.lf false (.sc (.string a2)))),(3,(.pb 0 0)),(6,(.pb 1 0)),(8,(.lf true (.sl (c191.map eEvent)))),(9,(.pb 2 0)),(42,(B p194.t42))],[(0,some (true,.box [(I a0.Id),(I a0.Version),(.lf true (.sl (a0.Tellings.Branches.map eBranch)))])),(1,some (true,.box [(I 0),(I 0),.nl])),(2,some (true,.box [(I c192.1.Status),(I c192.1.Next),(B c192.1.Cancel),(I c192.1.Done),(.lf true (.sl (c192.1.Signals.map eS))),(.lf true (.sl (c192.1.Timers.map eS)))]))],3,77⟩) ?_ ?_
    ·try refine sA ?_
     refine Sp_if hq10 (fun hq10 hc11 => ?_) (fun hq10 hc11 => ?_)
     ·try refine sA ?_
      obtain ⟨c193,hr12,hq10⟩ := bind_ok hq10
      refine Cl_sA (zd8 hr12) ?_
      try refine sA ?_
      cases hq10
      exact X_cut rfl (weakA [some 0,some 1,some 3])
     ·try refine sA ?_
      cases hq10
      exact X_cut rfl (weakA [some 0,some 1,some 3])
    ·intro s2 hJ; subst hJ
     try dsimp only at h
     try refine sA ?_
     refine Bs_if h (fun h hc13 => ?_) (fun h hc13 => ?_)
     ·try refine sA ?_
      obtain rfl:=Option.some.inj h
      exact endsA ⟨[(6,(.pb 0 0)),(7,(I 5))],[(0,some (true,.box [(I a0.Id),(I a0.Version),(.lf true (.sl (a0.Tellings.Branches.map eBranch)))]))],1,77⟩ [some 1]
     ·try refine sA ?_
      obtain ⟨c195,hr14,h⟩ := bind_ok h
      refine Cl_sA (zfx hr14) ?_
      try refine sA ?_
      refine Bs_if h (fun h hc15 => ?_) (fun h hc15 => ?_)
      ·try refine sA ?_
       obtain rfl:=Option.some.inj h
       exact endsA ⟨[(6,(.pb 0 0)),(7,(I 3))],[(0,some (true,.box [(I a0.Id),(I a0.Version),(.lf true (.sl (a0.Tellings.Branches.map eBranch)))]))],1,77⟩ [some 1]
      ·try refine sA ?_
       refine Bs_if h (fun h hc16 => ?_) (fun h hc16 => ?_)
       ·try refine sA ?_
        obtain rfl:=Option.some.inj h
        exact endsA ⟨[(6,(.pb 0 0)),(7,(I 4))],[(0,some (true,.box [(I a0.Id),(I a0.Version),(.lf true (.sl (a0.Tellings.Branches.map eBranch)))]))],1,77⟩ [some 1]
       ·try refine sA ?_
        obtain ⟨c196,hr17,h⟩ := bind_ok h
        refine Cl_sA (zau hr17) ?_
        try refine sA ?_
        obtain ⟨hp18,h⟩ := guard_some h
        try refine sA ?_
        try refine andA ?_
        obtain ⟨c293,hr19,h⟩ := bind_ok h
        refine Cl_hA [8] (zhp hr19) ?_
        try refine sA ?_
        obtain ⟨c294,hr20,h⟩ := bind_ok h
        refine Cl_sA (zfY hr20) ?_
        try refine sA ?_
        obtain rfl:=Option.some.inj h
        refine ends_frz 9 ?_
        try refine sA ?_
        exact endsA ⟨[(6,(.pb 0 0)),(7,(I 0))],[(0,some (true,.box [(I a0.Id),(I a0.Version),(.lf true (.sl (c294.Branches.map eBranch)))]))],1,77⟩ [some 1]
theorem zgG {a0 : RegionT} {r : (RegionT × Int)} (h : zcO a0 = some r) : Fn Tryz.prog 69 [(.ag [(I a0.Id),(I a0.Version),(.lf true (.sl (a0.Tellings.Branches.map eBranch)))])] [] 0 (.tu [(.ag [(I r.1.Id),(I r.1.Version),(.lf true (.sl (r.1.Tellings.Branches.map eBranch)))]),(I r.2)]) [] 1 := by
 unfold zcO at h
 refine fn_code tab_ok mixed [(1000,[(1,0),(2,0)]),(1001,[(1,0),(2,0),(4,0)]),(1002,[(1,0),(2,0),(4,0),(12,0),(13,0),(14,0)]),(1003,[(1,0),(2,0),(4,0),(12,0),(13,0),(14,0),(15,0)]),(1004,[(1,0),(2,0),(4,0),(6,0),(12,0),(13,0),(14,0)]),(1005,[(1,0),(2,0),(4,0),(7,0),(8,0),(12,0),(13,0),(14,0)]),(1006,[(1,0),(2,0),(4,0),(7,0),(12,0),(13,0),(14,0),(25,0)]),(1007,[(1,0),(2,0),(4,0),(12,0),(13,0),(14,0)]),(1008,[(1,0),(2,0),(4,0),(12,0),(13,0),(14,0)]),(1009,[(1,0),(2,0),(4,0),(12,0),(13,0),(14,0)]),(1010,[(2,0),(3,0)])] Tryz.func69 rfl rfl (by simp [Tryz.f69]) (by kernel_rfl) ?_
 simp only [Tryz.f69]
 refine sA ?_
 obtain ⟨c184,hr1,h⟩ := bind_ok h
 refine Cl_sA (zhE hr1) ?_
 try refine sA ?_
 obtain ⟨y297,hl2,h⟩ := bind_ok h
 refine W_loopP (fun g185 : zcN => ⟨[(1,(.pb 0 0)),(2,(.pb 1 0)),(4,(I g185.t4)),(12,(.os 2 1 0 c184.length c184.length false)),(13,(I ((c184.length : Nat) : Int))),(14,(I g185.t14))],[(0,some (true,.box [(I g185.b0_0),(I g185.b0_1),(.lf true (.sl (g185.b0_2.map eBranch)))])),(1,some (true,.box [(I 0),(I 0),.nl])),(2,some (true,.arr false 1 (c184.map eS)))],3,32⟩) (z8 c184) _ _ hl2 (weakA [some 0,some 1,some 2]) ?_
 ·intro n1 g185 z1 hs1 hk1
  unfold z8 at hs1
  try dsimp only at hs1
  refine sA ?_
  refine Bs_if hs1 (fun hs1 hc3 => ?_) (fun hs1 hc3 => ?_)
  ·try refine sA ?_
   obtain ⟨hp4,hs1⟩ := guard_some hs1
   have hn4 : g185.t14.toNat < c184.length := by first | omega | (simp only [List.length_set,List.length_append,List.length_replicate,List.length_map]; omega)
   try refine sA ?_
   try refine andA ?_
   try refine andB ?_
   try refine sA ?_
   obtain ⟨c296,hr6,hs1⟩ := bind_ok hs1
   refine Cl_sA (zhF hr6) ?_
   try refine sA ?_
   refine Bs_if hs1 (fun hs1 hc7 => ?_) (fun hs1 hc7 => ?_)
   ·try refine sA ?_
    cases hs1
    exact X_backP hk1 (weakA [some 0,some 1,some 2])
   ·try refine sA ?_
    cases hs1
    exact X_backP hk1 (weakA [some 0,some 1,some 2])
  ·try refine sA ?_
   cases hs1
   cases hk1
   try dsimp only at h
   try refine sA ?_
   obtain rfl:=Option.some.inj h
   exact endsA ⟨[(2,(.pb 0 0)),(3,(I g185.t4))],[(0,some (true,.box [(I g185.b0_0),(I g185.b0_1),(.lf true (.sl (g185.b0_2.map eBranch)))]))],1,32⟩ [some 1]
theorem zhG {a0 : RegionT} {r : (RegionT × Int × Bool)} (h : zd6 a0 = some r) : Fn Tryz.prog 16 [(.ag [(I a0.Id),(I a0.Version),(.lf true (.sl (a0.Tellings.Branches.map eBranch)))])] [] 0 (.tu [(.ag [(I r.1.Id),(I r.1.Version),(.lf true (.sl (r.1.Tellings.Branches.map eBranch)))]),(I r.2.1),(B r.2.2)]) [] 1 := by
 unfold zd6 at h
 refine fn_code tab_ok mixed [(1000,[(1,0),(2,0)]),(1001,[(1,0),(2,0),(14,0)]),(1002,[(2,0),(3,0),(4,0)]),(1003,[(2,0),(5,0),(6,0)]),(1004,[(2,0),(3,0),(4,0)]),(4001,[])] Tryz.func16 rfl rfl (by simp [Tryz.f16]) (by kernel_rfl) ?_
 simp only [Tryz.f16]
 refine sA ?_
 obtain ⟨p148,hq1,h⟩ := bind_ok h
 refine Sq_cut (fun s2 => s2 = ⟨[(1,(.pb 0 0)),(2,(.pb 1 0)),(14,(B p148.t14))],[(0,some (true,.box [(I a0.Id),(I a0.Version),(.lf true (.sl (a0.Tellings.Branches.map eBranch)))])),(1,some (true,.box [(I 0),(I 0),.nl]))],2,24⟩) ?_ ?_
 ·try refine sA ?_
  obtain ⟨c146,hr2,hq1⟩ := bind_ok hq1
  refine Cl_sA (zgE hr2) ?_
  try refine sA ?_
  refine Sp_if hq1 (fun hq1 hc3 => ?_) (fun hq1 hc3 => ?_)
  ·try refine sA ?_
   cases hq1
   exact X_cut rfl (weakA [some 0,some 1])
  ·try refine sA ?_
   obtain ⟨c147,hr4,hq1⟩ := bind_ok hq1
   refine Cl_sA (zfj hr4) ?_
   try refine sA ?_
   cases hq1
   exact X_cut rfl (weakA [some 0,some 1])
 ·intro s2 hJ; subst hJ
  try dsimp only at h
  try refine sA ?_
  refine Bs_if h (fun h hc5 => ?_) (fun h hc5 => ?_)
  ·try refine sA ?_
   obtain rfl:=Option.some.inj h
   exact endsA ⟨[(2,(.pb 0 0)),(3,(I 0)),(4,(B false))],[(0,some (true,.box [(I 0),(I 0),(.lf true (.sl (([]).map eBranch)))]))],1,24⟩ [some 1]
  ·try refine sA ?_
   obtain ⟨c154,hr6,h⟩ := bind_ok h
   refine Cl_sA (zho hr6) ?_
   try refine sA ?_
   obtain ⟨c298,hr7,h⟩ := bind_ok h
   refine Cl_sA (zgG hr7) ?_
   try refine sA ?_
   obtain rfl:=Option.some.inj h
   exact endsA ⟨[(2,(.pb 0 0)),(3,(I c298.2)),(4,(B true))],[(0,some (true,.box [(I c298.1.Id),(I c298.1.Version),(.lf true (.sl (c298.1.Tellings.Branches.map eBranch)))]))],1,24⟩ [some 1]
theorem zgH {a0 : RegionT} {r : RegionT} (h : zcE a0 = some r) : Fn Tryz.prog 20 [(.ag [(I a0.Id),(I a0.Version),(.lf true (.sl (a0.Tellings.Branches.map eBranch)))])] [] 0 (.ag [(I r.Id),(I r.Version),(.lf false (.sl (r.Tellings.Branches.map eBranch)))]) [] 1 := by
 unfold zcE at h
 refine fn_code tab_ok mixed [(1000,[(1,0),(2,0)]),(1001,[(1,0),(2,0),(3,0)]),(1002,[(1,0),(2,0),(3,0)]),(1003,[(1,0),(2,0),(3,0)]),(1004,[(2,0),(3,0)]),(1005,[(2,0)])] Tryz.func20 rfl rfl (by simp [Tryz.f20]) (by kernel_rfl) ?_
 simp only [Tryz.f20]
 refine sA ?_
 obtain ⟨c300,hr1,h⟩ := bind_ok h
 refine Cl_sA (ze6 hr1) ?_
 try refine sA ?_
 obtain rfl:=Option.some.inj h
 refine ends_frz 3 ?_
 try refine sA ?_
 exact endsA ⟨[(2,(.pb 0 0))],[(0,some (true,.box [(I a0.Id),(I a0.Version),(.lf false (.sl (c300.Branches.map eBranch)))]))],1,15⟩ [some 1]
theorem zd9 {a0 : Int} {a1 : Int} {a2 : Int} {r : Bool} (h : zdG a0 a1 a2 = some r) : Fn Tryz.prog 133 [(I a0),(I a1),(I a2)] [] 0 (B r) [] 0 := by
 unfold zdG at h
 refine fn_code tab_ok mixed [] Tryz.func133 rfl rfl (by simp [Tryz.f133]) (by kernel_rfl) ?_
 simp only [Tryz.f133]
 refine sA ?_
 refine Sp_if h (fun h hc1 => ?_) (fun h hc1 => ?_)
 ·try refine sA ?_
  obtain rfl:=Option.some.inj h
  exact endsA ⟨[(6,(B (decide (a0 ≤ a2))))],[],0,15⟩ []
 ·try refine sA ?_
  obtain rfl:=Option.some.inj h
  exact endsA ⟨[(6,(B false))],[],0,15⟩ []
theorem zhq {a0 : Int} {r : Bool} (h : zeq a0 = some r) : Fn Tryz.prog 59 [(I a0)] [] 0 (B r) [] 0 := by
 unfold zeq at h
 refine fn_code tab_ok mixed [] Tryz.func59 rfl rfl (by simp [Tryz.f59]) (by kernel_rfl) ?_
 simp only [Tryz.f59]
 refine sA ?_
 obtain ⟨c304,hr1,h⟩ := bind_ok h
 refine Cl_sA (zd9 hr1) ?_
 try refine sA ?_
 obtain rfl:=Option.some.inj h
 exact endsA ⟨[(2,(B c304))],[],0,5⟩ []
theorem zfk {a0 : Int} {r : Bool} (h : zb3 a0 = some r) : Fn Tryz.prog 123 [(I a0)] [] 0 (B r) [] 0 := by
 unfold zb3 at h
 refine fn_code tab_ok mixed [] Tryz.func123 rfl rfl (by simp [Tryz.f123]) (by kernel_rfl) ?_
 simp only [Tryz.f123]
 refine sA ?_
 obtain ⟨c306,hr1,h⟩ := bind_ok h
 refine Cl_sA (zd9 hr1) ?_
 try refine sA ?_
 obtain rfl:=Option.some.inj h
 exact endsA ⟨[(2,(B c306))],[],0,5⟩ []
theorem zhr {r : StateT} (h : zeu = some r) : Fn Tryz.prog 208 [] [] 0 (.ag [(I r.Status),(I r.Next),(B r.Cancel),(I r.Done),.nl,.nl]) [] 1 := by
 unfold zeu at h
 refine fn_code tab_ok mixed [] Tryz.func208 rfl rfl (by simp [Tryz.f208]) (by kernel_rfl) ?_
 simp only [Tryz.f208]
 refine sA ?_
 obtain rfl:=Option.some.inj h
 exact endsA ⟨[(0,(.pb 0 0))],[(0,some (true,.box [(I 0),(I 1),(B false),(I 0),.nl,.nl]))],1,2⟩ [some 0]
theorem zhH {a0 a1 : ByteArray} {r : ByteArray} (h : zc3 a0 a1 = some r) : Fn Tryz.prog 207 [.lf false (.sc (.string a0)),.lf false (.sc (.string a1))] [] 0 (.lf false (.sc (.string r))) [] 0 := by
 unfold zc3 at h
 obtain ⟨⟨hp1,hp2,hp3⟩,h⟩ := guard_some h
 have he := Option.some.inj h; subst he
 exact fn_str2 (Ent.of Tryz.func207 rfl (by simp [Tryz.f207])) fun w => trim_dr Go.Proofs.Tryz.lays160 (by kernel_rfl) a0 a1 w hp1 hp2 (ascii_of_all hp3)
theorem zcP {a0 : ByteArray} {r : Bool} (h : zaA a0 = some r) : Fn Tryz.prog 157 [(.lf false (.sc (.string a0)))] [] 0 (B r) [] 0 := by
 unfold zaA at h
 refine fn_code tab_ok mixed [] Tryz.func157 rfl rfl (by simp [Tryz.f157]) (by kernel_rfl) ?_
 simp only [Tryz.f157]
 refine sA ?_
 refine Sp_if h (fun h hc1 => ?_) (fun h hc1 => ?_)
 ·try refine sA ?_
  obtain ⟨c322,hr2,h⟩ := bind_ok h
  refine Cl_sA (zhH hr2) ?_
  try refine sA ?_
  obtain rfl:=Option.some.inj h
  exact endsA ⟨[(2,(B (c322.toList == ByteArray.empty.toList)))],[],0,11⟩ []
 ·try refine sA ?_
  obtain rfl:=Option.some.inj h
  exact endsA ⟨[(2,(B false))],[],0,11⟩ []
theorem zgJ {a0 : ByteArray} {r : Bool} (h : zdM a0 = some r) : Fn Tryz.prog 282 [(.lf false (.sc (.string a0)))] [] 0 (B r) [] 0 := by
 unfold zdM at h
 refine fn_code tab_ok mixed [] Tryz.func282 rfl rfl (by simp [Tryz.f282]) (by kernel_rfl) ?_
 simp only [Tryz.f282]
 refine sA ?_
 obtain ⟨c323,hr1,h⟩ := bind_ok h
 refine Cl_sA (zcP hr1) ?_
 try refine sA ?_
 obtain rfl:=Option.some.inj h
 exact endsA ⟨[(2,(B (!c323)))],[],0,6⟩ []
theorem zdk {a0 : (List ByteArray)} {r : Int} (h : zD a0 = some r) : Fn Tryz.prog 293 [(.lf true (.sl (a0.map eS))),(.fn 282 [])] [] 0 (I r) [] 0 := by
 unfold zD at h
 refine fn_code tab_ok mixed [(1000,[(0,0),(1,0)]),(1001,[(0,0),(1,0),(7,0),(8,0)]),(1002,[(0,0),(1,0),(7,0),(8,0),(9,0)]),(1003,[(0,0),(1,0),(5,0),(7,0),(8,0)]),(1004,[(0,0),(1,0),(5,0),(7,0),(8,0),(16,0)]),(1005,[(4,0)]),(1006,[(0,0),(1,0),(7,0),(8,0)]),(1007,[(4,0)])] Tryz.func293 rfl rfl (by simp [Tryz.f293]) (by kernel_rfl) ?_
 simp only [Tryz.f293]
 refine sA ?_
 obtain ⟨y326,hl1,h⟩ := bind_ok h
 refine W_loopP (fun g321 : zz => ⟨[(0,(.lf true (.sl (a0.map eS)))),(1,(.fn 282 [])),(7,(I ((a0.length : Nat) : Int))),(8,(I g321.t8))],[],0,19⟩) (zf a0) _ _ hl1 (weakA []) ?_
 ·intro n1 g321 z1 hs1 hk1
  unfold zf at hs1
  try dsimp only at hs1
  refine sA ?_
  refine Bs_if hs1 (fun hs1 hc2 => ?_) (fun hs1 hc2 => ?_)
  ·try refine sA ?_
   obtain ⟨hp3,hs1⟩ := guard_some hs1
   have hn3 : g321.t8.toNat < a0.length := by first | omega | (simp only [List.length_set,List.length_append,List.length_replicate,List.length_map]; omega)
   try refine sA ?_
   try refine andA ?_
   obtain ⟨c325,hr4,hs1⟩ := bind_ok hs1
   refine Cl_sA (zgJ hr4) ?_
   try refine sA ?_
   refine Bs_if hs1 (fun hs1 hc5 => ?_) (fun hs1 hc5 => ?_)
   ·try refine sA ?_
    cases hs1
    cases hk1
    try dsimp only at h
    try refine sA ?_
    obtain rfl:=Option.some.inj h
    exact endsA ⟨[(4,(I g321.t8))],[],0,19⟩ []
   ·try refine sA ?_
    cases hs1
    exact X_backP hk1 (weakA [])
  ·try refine sA ?_
   cases hs1
   cases hk1
   try dsimp only at h
   try refine sA ?_
   obtain rfl:=Option.some.inj h
   exact endsA ⟨[(4,(I (-1)))],[],0,19⟩ []
theorem zcU {a0 : (List ByteArray)} {r : Bool} (h : zA a0 = some r) : Fn Tryz.prog 281 [(.lf true (.sl (a0.map eS))),(.fn 282 [])] [] 0 (B r) [] 0 := by
 unfold zA at h
 refine fn_code tab_ok mixed [] Tryz.func281 rfl rfl (by simp [Tryz.f281]) (by kernel_rfl) ?_
 simp only [Tryz.f281]
 refine sA ?_
 obtain ⟨c329,hr1,h⟩ := bind_ok h
 refine Cl_sA (zdk hr1) ?_
 try refine sA ?_
 obtain rfl:=Option.some.inj h
 exact endsA ⟨[(4,(B (decide (c329 ≥ 0))))],[],0,9⟩ []
theorem zfD {a0 : (List ByteArray)} {a1 : Int} {r : Bool} (h : zc7 a0 a1 = some r) : Fn Tryz.prog 255 [(.lf true (.sl (a0.map eS))),(I a1)] [] 0 (B r) [] 0 := by
 unfold zc7 at h
 refine fn_code tab_ok mixed [] Tryz.func255 rfl rfl (by simp [Tryz.f255]) (by kernel_rfl) ?_
 simp only [Tryz.f255]
 refine sA ?_
 refine Sp_if h (fun h hc1 => ?_) (fun h hc1 => ?_)
 ·try refine sA ?_
  obtain ⟨c330,hr2,h⟩ := bind_ok h
  refine Cl_sA (zcU hr2) ?_
  try refine sA ?_
  obtain rfl:=Option.some.inj h
  exact endsA ⟨[(4,(B (!c330)))],[],0,14⟩ []
 ·try refine sA ?_
  obtain rfl:=Option.some.inj h
  exact endsA ⟨[(4,(B false))],[],0,14⟩ []
theorem zfE {a0 : (List ByteArray)} {a1 : ByteArray} {r : Int} (h : zcf a0 a1 = some r) : Fn Tryz.prog 195 [(.lf true (.sl (a0.map eS))),(.lf false (.sc (.string a1)))] [] 0 (I r) [] 0 := by
 unfold zcf at h
 refine fn_code tab_ok mixed [(1000,[(0,0),(1,0)]),(1001,[(0,0),(1,0),(7,0),(8,0)]),(1002,[(0,0),(1,0),(7,0),(8,0),(9,0)]),(1003,[(0,0),(1,0),(5,0),(7,0),(8,0)]),(1004,[(0,0),(1,0),(5,0),(7,0),(8,0),(16,0)]),(1005,[(4,0)]),(1006,[(0,0),(1,0),(7,0),(8,0)]),(1007,[(4,0)])] Tryz.func195 rfl rfl (by simp [Tryz.f195]) (by kernel_rfl) ?_
 simp only [Tryz.f195]
 refine sA ?_
 obtain ⟨y334,hl1,h⟩ := bind_ok h
 refine W_loopP (fun g333 : zbu => ⟨[(0,(.lf true (.sl (a0.map eS)))),(1,(.lf false (.sc (.string a1)))),(7,(I ((a0.length : Nat) : Int))),(8,(I g333.t8))],[],0,19⟩) (zR a0 a1) _ _ hl1 (weakA []) ?_
 ·intro n1 g333 z1 hs1 hk1
  unfold zR at hs1
  try dsimp only at hs1
  refine sA ?_
  refine Bs_if hs1 (fun hs1 hc2 => ?_) (fun hs1 hc2 => ?_)
  ·try refine sA ?_
   obtain ⟨hp3,hs1⟩ := guard_some hs1
   have hn3 : g333.t8.toNat < a0.length := by first | omega | (simp only [List.length_set,List.length_append,List.length_replicate,List.length_map]; omega)
   try refine sA ?_
   try refine andA ?_
   refine Bs_if hs1 (fun hs1 hc4 => ?_) (fun hs1 hc4 => ?_)
   ·try refine sA ?_
    cases hs1
    cases hk1
    try dsimp only at h
    try refine sA ?_
    obtain rfl:=Option.some.inj h
    exact endsA ⟨[(4,(I g333.t8))],[],0,19⟩ []
   ·try refine sA ?_
    cases hs1
    exact X_backP hk1 (weakA [])
  ·try refine sA ?_
   cases hs1
   cases hk1
   try dsimp only at h
   try refine sA ?_
   obtain rfl:=Option.some.inj h
   exact endsA ⟨[(4,(I (-1)))],[],0,19⟩ []
theorem zab {a0 : (List ByteArray)} {a1 : ByteArray} {r : Bool} (h : zv a0 a1 = some r) : Fn Tryz.prog 142 [(.lf true (.sl (a0.map eS))),(.lf false (.sc (.string a1)))] [] 0 (B r) [] 0 := by
 unfold zv at h
 refine fn_code tab_ok mixed [] Tryz.func142 rfl rfl (by simp [Tryz.f142]) (by kernel_rfl) ?_
 simp only [Tryz.f142]
 refine sA ?_
 obtain ⟨c337,hr1,h⟩ := bind_ok h
 refine Cl_sA (zfE hr1) ?_
 try refine sA ?_
 obtain rfl:=Option.some.inj h
 exact endsA ⟨[(4,(B (decide (c337 ≥ 0))))],[],0,9⟩ []
theorem zfy {a0 : (List ByteArray)} {r : Bool} (h : zcr a0 = some r) : Fn Tryz.prog 256 [(.lf true (.sl (a0.map eS)))] [] 0 (B r) [] 0 := by
 unfold zcr at h
 refine fn_code tab_ok mixed [(1000,[(0,0)]),(1001,[(0,0),(5,0),(6,0),(7,0)]),(1002,[(0,0),(5,0),(6,0),(7,0),(8,0)]),(1003,[(0,0),(3,0),(4,0),(5,0),(6,0),(7,0)]),(1004,[(0,0),(5,0),(6,0),(7,0),(16,0)]),(1005,[(2,0)]),(1006,[(0,0),(5,0),(6,0),(7,0)]),(1007,[(2,0)])] Tryz.func256 rfl rfl (by simp [Tryz.f256]) (by kernel_rfl) ?_
 simp only [Tryz.f256]
 refine sA ?_
 obtain ⟨y340,hl1,h⟩ := bind_ok h
 refine W_loopP (fun g332 : zdr => ⟨[(0,(.lf true (.sl (a0.map eS)))),(5,(.lf true (.sl (a0.map eS)))),(6,(I ((a0.length : Nat) : Int))),(7,(I g332.t7))],[],0,18⟩) (zbp a0) _ _ hl1 (weakA []) ?_
 ·intro n1 g332 z1 hs1 hk1
  unfold zbp at hs1
  try dsimp only at hs1
  refine sA ?_
  refine Bs_if hs1 (fun hs1 hc2 => ?_) (fun hs1 hc2 => ?_)
  ·try refine sA ?_
   obtain ⟨hp3,hs1⟩ := guard_some hs1
   have hn3 : g332.t7.toNat < a0.length := by first | omega | (simp only [List.length_set,List.length_append,List.length_replicate,List.length_map]; omega)
   try refine sA ?_
   try refine andA ?_
   obtain ⟨hp4,hs1⟩ := guard_some hs1
   try refine sA ?_
   try refine andA ?_
   obtain ⟨c339,hr5,hs1⟩ := bind_ok hs1
   refine Cl_sA (zab hr5) ?_
   try refine sA ?_
   refine Bs_if hs1 (fun hs1 hc6 => ?_) (fun hs1 hc6 => ?_)
   ·try refine sA ?_
    cases hs1
    cases hk1
    try dsimp only at h
    try refine sA ?_
    obtain rfl:=Option.some.inj h
    exact endsA ⟨[(2,(B false))],[],0,18⟩ []
   ·try refine sA ?_
    cases hs1
    exact X_backP hk1 (weakA [])
  ·try refine sA ?_
   cases hs1
   cases hk1
   try dsimp only at h
   try refine sA ?_
   obtain rfl:=Option.some.inj h
   exact endsA ⟨[(2,(B true))],[],0,18⟩ []
theorem zcQ {a0 : ByteArray} {r : Bool} (h : zZ a0 = some r) : Fn Tryz.prog 254 [(.lf false (.sc (.string a0)))] [] 0 (B r) [] 0 := by
 unfold zZ at h
 refine fn_code tab_ok mixed [] Tryz.func254 rfl rfl (by simp [Tryz.f254]) (by kernel_rfl) ?_
 simp only [Tryz.f254]
 refine sA ?_
 obtain rfl:=Option.some.inj h
 exact endsA ⟨[(2,(B (!(a0.toList == a0.toList))))],[],0,6⟩ []
theorem ze8 {a0 : ByteArray} {a1 : ByteArray} {r : Bool} (h : zbD a0 a1 = some r) : Fn Tryz.prog 237 [(.lf false (.sc (.string a0))),(.lf false (.sc (.string a1)))] [] 0 (B r) [] 0 := by
 unfold zbD at h
 refine fn_code tab_ok mixed [] Tryz.func237 rfl rfl (by simp [Tryz.f237]) (by kernel_rfl) ?_
 simp only [Tryz.f237]
 refine sA ?_
 obtain ⟨c346,hr1,h⟩ := bind_ok h
 refine Cl_sA (zcQ hr1) ?_
 try refine sA ?_
 refine Sp_if h (fun h hc2 => ?_) (fun h hc2 => ?_)
 ·try refine sA ?_
  obtain ⟨c347,hr3,h⟩ := bind_ok h
  refine Cl_sA (zcQ hr3) ?_
  try refine sA ?_
  refine Sp_if h (fun h hc4 => ?_) (fun h hc4 => ?_)
  ·try refine sA ?_
   obtain rfl:=Option.some.inj h
   exact endsA ⟨[(4,(B true))],[],0,17⟩ []
  ·try refine sA ?_
   obtain rfl:=Option.some.inj h
   exact endsA ⟨[(4,(B (sLt a0 a1)))],[],0,17⟩ []
 ·try refine sA ?_
  obtain rfl:=Option.some.inj h
  exact endsA ⟨[(4,(B (sLt a0 a1)))],[],0,17⟩ []
theorem zfl {a0 : (List ByteArray)} {r : Bool} (h : zaw a0 = some r) : Fn Tryz.prog 257 [(.lf true (.sl (a0.map eS)))] [] 0 (B r) [] 0 := by
 unfold zaw at h
 refine fn_code tab_ok mixed [(1000,[(0,0)]),(1001,[(0,0),(3,0)]),(1002,[(0,0),(3,0),(8,0)]),(1003,[(0,0),(3,0)]),(1004,[(0,0),(3,0),(20,0)]),(1005,[(2,0)]),(1006,[(2,0)])] Tryz.func257 rfl rfl (by simp [Tryz.f257]) (by kernel_rfl) ?_
 simp only [Tryz.f257]
 refine sA ?_
 obtain ⟨y350,hl1,h⟩ := bind_ok h
 refine W_loopP (fun g345 : zbW => ⟨[(0,(.lf true (.sl (a0.map eS)))),(3,(I g345.t3))],[],0,21⟩) (zt a0) _ _ hl1 (weakA []) ?_
 ·intro n1 g345 z1 hs1 hk1
  unfold zt at hs1
  try dsimp only at hs1
  refine sA ?_
  refine Bs_if hs1 (fun hs1 hc2 => ?_) (fun hs1 hc2 => ?_)
  ·try refine sA ?_
   obtain ⟨hp3,hs1⟩ := guard_some hs1
   have hn3 : g345.t3.toNat < a0.length := by first | omega | (simp only [List.length_set,List.length_append,List.length_replicate,List.length_map]; omega)
   try refine sA ?_
   try refine andA ?_
   obtain ⟨hp4,hs1⟩ := guard_some hs1
   have hn4 : (wI (g345.t3 - 1)).toNat < a0.length := by first | omega | (simp only [List.length_set,List.length_append,List.length_replicate,List.length_map]; omega)
   try refine sA ?_
   try refine andA ?_
   obtain ⟨c349,hr5,hs1⟩ := bind_ok hs1
   refine Cl_sA (ze8 hr5) ?_
   try refine sA ?_
   refine Bs_if hs1 (fun hs1 hc6 => ?_) (fun hs1 hc6 => ?_)
   ·try refine sA ?_
    cases hs1
    cases hk1
    try dsimp only at h
    try refine sA ?_
    obtain rfl:=Option.some.inj h
    exact endsA ⟨[(2,(B false))],[],0,21⟩ []
   ·try refine sA ?_
    cases hs1
    exact X_backP hk1 (weakA [])
  ·try refine sA ?_
   cases hs1
   cases hk1
   try dsimp only at h
   try refine sA ?_
   obtain rfl:=Option.some.inj h
   exact endsA ⟨[(2,(B true))],[],0,21⟩ []
theorem zdx {a0 : StateT} {r : Bool} (h : zaH a0 = some r) : Fn Tryz.prog 224 [(.ag [(I a0.Status),(I a0.Next),(B a0.Cancel),(I a0.Done),(.lf true (.sl (a0.Signals.map eS))),(.lf true (.sl (a0.Timers.map eS)))])] [] 0 (B r) [] 0 := by
 unfold zaH at h
 refine fn_code tab_ok mixed [(1000,[(1,0)]),(1001,[(1,0),(18,0)]),(1002,[(2,0)]),(1003,[(1,0),(46,0)]),(1004,[(2,0)]),(1005,[(1,0),(49,0)]),(1006,[(2,0)]),(1007,[(2,0)]),(4001,[]),(4003,[])] Tryz.func224 rfl rfl (by simp [Tryz.f224]) (by kernel_rfl) ?_
 simp only [Tryz.f224]
 refine sA ?_
 obtain ⟨p320,hq1,h⟩ := bind_ok h
 refine Sq_cut (fun s2 => s2 = ⟨[(1,(.pb 0 0)),(18,(B p320.t18))],[(0,some (true,.box [(I a0.Status),(I a0.Next),(B a0.Cancel),(I a0.Done),(.lf true (.sl (a0.Signals.map eS))),(.lf true (.sl (a0.Timers.map eS)))]))],1,78⟩) ?_ ?_
 ·try refine sA ?_
  obtain ⟨c317,hr2,hq1⟩ := bind_ok hq1
  refine Cl_sA (zd9 hr2) ?_
  try refine sA ?_
  refine Sp_if hq1 (fun hq1 hc3 => ?_) (fun hq1 hc3 => ?_)
  ·try refine sA ?_
   cases hq1
   exact X_cut rfl (weakA [some 0])
  ·try refine sA ?_
   obtain ⟨c318,hr4,hq1⟩ := bind_ok hq1
   refine Cl_sA (zd9 hr4) ?_
   try refine sA ?_
   refine Sp_if hq1 (fun hq1 hc5 => ?_) (fun hq1 hc5 => ?_)
   ·try refine sA ?_
    cases hq1
    exact X_cut rfl (weakA [some 0])
   ·try refine sA ?_
    obtain ⟨c319,hr6,hq1⟩ := bind_ok hq1
    refine Cl_sA (zd9 hr6) ?_
    try refine sA ?_
    cases hq1
    exact X_cut rfl (weakA [some 0])
 ·intro s2 hJ; subst hJ
  try dsimp only at h
  try refine sA ?_
  refine Bs_if h (fun h hc7 => ?_) (fun h hc7 => ?_)
  ·try refine sA ?_
   obtain rfl:=Option.some.inj h
   exact endsA ⟨[(2,(B false))],[],0,78⟩ []
  ·try refine sA ?_
   obtain ⟨p355,hq8,h⟩ := bind_ok h
   refine Sq_cut (fun s2 => s2 = ⟨[(1,(.pb 0 0)),(46,(B p355.t46))],[(0,some (true,.box [(I a0.Status),(I a0.Next),(B a0.Cancel),(I a0.Done),(.lf true (.sl (a0.Signals.map eS))),(.lf true (.sl (a0.Timers.map eS)))]))],1,78⟩) ?_ ?_
   ·try refine sA ?_
    obtain ⟨c331,hr9,hq8⟩ := bind_ok hq8
    refine Cl_sA (zfD hr9) ?_
    try refine sA ?_
    refine Sp_if hq8 (fun hq8 hc10 => ?_) (fun hq8 hc10 => ?_)
    ·try refine sA ?_
     cases hq8
     exact X_cut rfl (weakA [some 0])
    ·try refine sA ?_
     obtain ⟨c343,hr11,hq8⟩ := bind_ok hq8
     refine Cl_sA (zfy hr11) ?_
     try refine sA ?_
     refine Sp_if hq8 (fun hq8 hc12 => ?_) (fun hq8 hc12 => ?_)
     ·try refine sA ?_
      cases hq8
      exact X_cut rfl (weakA [some 0])
     ·try refine sA ?_
      obtain ⟨c344,hr13,hq8⟩ := bind_ok hq8
      refine Cl_sA (zfD hr13) ?_
      try refine sA ?_
      refine Sp_if hq8 (fun hq8 hc14 => ?_) (fun hq8 hc14 => ?_)
      ·try refine sA ?_
       cases hq8
       exact X_cut rfl (weakA [some 0])
      ·try refine sA ?_
       obtain ⟨c353,hr15,hq8⟩ := bind_ok hq8
       refine Cl_sA (zfl hr15) ?_
       try refine sA ?_
       refine Sp_if hq8 (fun hq8 hc16 => ?_) (fun hq8 hc16 => ?_)
       ·try refine sA ?_
        cases hq8
        exact X_cut rfl (weakA [some 0])
       ·try refine sA ?_
        obtain ⟨c354,hr17,hq8⟩ := bind_ok hq8
        refine Cl_sA (zfy hr17) ?_
        try refine sA ?_
        cases hq8
        exact X_cut rfl (weakA [some 0])
   ·intro s2 hJ; subst hJ
    try dsimp only at h
    try refine sA ?_
    refine Bs_if h (fun h hc18 => ?_) (fun h hc18 => ?_)
    ·try refine sA ?_
     obtain rfl:=Option.some.inj h
     exact endsA ⟨[(2,(B false))],[],0,78⟩ []
    ·try refine sA ?_
     refine Bs_if h (fun h hc19 => ?_) (fun h hc19 => ?_)
     ·try refine sA ?_
      obtain rfl:=Option.some.inj h
      exact endsA ⟨[(2,(B (decide (a0.Next > 1))))],[],0,78⟩ []
     ·try refine sA ?_
      refine Sp_if h (fun h hc20 => ?_) (fun h hc20 => ?_)
      ·try refine sA ?_
       refine Sp_if h (fun h hc21 => ?_) (fun h hc21 => ?_)
       ·try refine sA ?_
        refine Sp_if h (fun h hc22 => ?_) (fun h hc22 => ?_)
        ·try refine sA ?_
         refine Sp_if h (fun h hc23 => ?_) (fun h hc23 => ?_)
         ·try refine sA ?_
          obtain rfl:=Option.some.inj h
          exact endsA ⟨[(2,(B (((a0.Timers.length : Nat) : Int) == 0)))],[],0,78⟩ []
         ·try refine sA ?_
          obtain rfl:=Option.some.inj h
          exact endsA ⟨[(2,(B false))],[],0,78⟩ []
        ·try refine sA ?_
         obtain rfl:=Option.some.inj h
         exact endsA ⟨[(2,(B false))],[],0,78⟩ []
       ·try refine sA ?_
        obtain rfl:=Option.some.inj h
        exact endsA ⟨[(2,(B false))],[],0,78⟩ []
      ·try refine sA ?_
       obtain rfl:=Option.some.inj h
       exact endsA ⟨[(2,(B false))],[],0,78⟩ []
theorem zdT {a0 : Int} {r : Bool} (h : zP a0 = some r) : Fn Tryz.prog 156 [(I a0)] [] 0 (B r) [] 0 := by
 unfold zP at h
 refine fn_code tab_ok mixed [] Tryz.func156 rfl rfl (by simp [Tryz.f156]) (by kernel_rfl) ?_
 simp only [Tryz.f156]
 refine sA ?_
 obtain ⟨c359,hr1,h⟩ := bind_ok h
 refine Cl_sA (zd9 hr1) ?_
 try refine sA ?_
 obtain rfl:=Option.some.inj h
 exact endsA ⟨[(2,(B c359))],[],0,5⟩ []
theorem zg8 {a0 : EventT} {r : Bool} (h : zc8 a0 = some r) : Fn Tryz.prog 84 [(.ag [(I a0.Id),(I a0.Version),(I a0.Kind),(.lf false (.sc (.string a0.Name)))])] [] 0 (B r) [] 0 := by
 unfold zc8 at h
 refine fn_code tab_ok mixed [] Tryz.func84 rfl rfl (by simp [Tryz.f84]) (by kernel_rfl) ?_
 simp only [Tryz.f84]
 refine sA ?_
 obtain ⟨c357,hr1,h⟩ := bind_ok h
 refine Cl_sA (zd9 hr1) ?_
 try refine sA ?_
 refine Sp_if h (fun h hc2 => ?_) (fun h hc2 => ?_)
 ·try refine sA ?_
  obtain ⟨c358,hr3,h⟩ := bind_ok h
  refine Cl_sA (zfk hr3) ?_
  try refine sA ?_
  refine Sp_if h (fun h hc4 => ?_) (fun h hc4 => ?_)
  ·try refine sA ?_
   obtain ⟨c360,hr5,h⟩ := bind_ok h
   refine Cl_sA (zdT hr5) ?_
   try refine sA ?_
   refine Sp_if h (fun h hc6 => ?_) (fun h hc6 => ?_)
   ·try refine sA ?_
    obtain ⟨c361,hr7,h⟩ := bind_ok h
    refine Cl_sA (zcP hr7) ?_
    try refine sA ?_
    obtain rfl:=Option.some.inj h
    exact endsA ⟨[(2,(B c361))],[],0,21⟩ []
   ·try refine sA ?_
    obtain rfl:=Option.some.inj h
    exact endsA ⟨[(2,(B false))],[],0,21⟩ []
  ·try refine sA ?_
   obtain rfl:=Option.some.inj h
   exact endsA ⟨[(2,(B false))],[],0,21⟩ []
 ·try refine sA ?_
  obtain rfl:=Option.some.inj h
  exact endsA ⟨[(2,(B false))],[],0,21⟩ []
theorem zeE {a0 : (List ByteArray)} {r : (List ByteArray)} (h : zap a0 = some r) : Fn Tryz.prog 258 [(.lf true (.sl (a0.map eS)))] [] 0 (.os 0 1 0 r.length r.length false) [(0,some (true,.arr false 1 (r.map eS)))] 1 := by
 unfold zap at h
 obtain ⟨hp,h⟩ := guard_some h
 have he := Option.some.inj h; subst he
 refine fn_code tab_ok mixed [] Tryz.func258 rfl rfl (by simp [Tryz.f258]) (by kernel_rfl) ?_
 simp only [Tryz.f258]
 simp (disch := assumption) only [go_sem,Nat.reduceAdd,Nat.reduceMul,Nat.reduceSub,Nat.reduceEqDiff,↓reduceIte,Nat.reduceLT,reduceCtorEq,Nat.reduceLeDiff,Int.reduceToNat,Int.reduceEq,Int.reduceLE,Int.reduceLT,Nat.reduceBEq]
 intro b hb
 refine Bs_splitC (b = true) (by simp) (fun hc => ?_) (fun hc => ?_)
 ·have h0 : a0 = [] := by simpa using hb (by simpa using hc)
  subst h0
  try simp (disch := assumption) only [go_sem,Nat.reduceAdd,Nat.reduceMul,Nat.reduceSub,Nat.reduceEqDiff,↓reduceIte,Nat.reduceLT,reduceCtorEq,Nat.reduceLeDiff,Int.reduceToNat,Int.reduceEq,Int.reduceLE,Int.reduceLT,Nat.reduceBEq]
  refine ends_weak ⟨[(2,(.os 0 1 0 0 0 false))],[(0,some (true,.arr false 1 (([] : List ByteArray).map eS)))],1,8⟩ (weak_of (m := 0) [none] rfl rfl rfl (by rfl) ?_ ?_) ?_
  all_goals ((try simp (disch := assumption) only [go_sem,Nat.reduceAdd,Nat.reduceMul,Nat.reduceSub,Nat.reduceEqDiff,↓reduceIte,Nat.reduceLT,reduceCtorEq,Nat.reduceLeDiff,Int.reduceToNat,Int.reduceEq,Int.reduceLE,Int.reduceLT,Nat.reduceBEq]); (repeat' first | done | rfl | omega | refine And.intro ?_ ?_ | (simp; done) | (simp; omega)))
 ·try simp (disch := assumption) only [go_sem,Nat.reduceAdd,Nat.reduceMul,Nat.reduceSub,Nat.reduceEqDiff,↓reduceIte,Nat.reduceLT,reduceCtorEq,Nat.reduceLeDiff,Int.reduceToNat,Int.reduceEq,Int.reduceLE,Int.reduceLT,Nat.reduceBEq]
  first | refine And.intro (by first | omega | exact ⟨by omega,fun _ => mapLen fun _ => rfl⟩ | (refine ⟨?_,by omega⟩; first | exact mapLen fun _ => rfl | simp)) ?_ | skip
  try simp (disch := assumption) only [go_sem,Nat.reduceAdd,Nat.reduceMul,Nat.reduceSub,Nat.reduceEqDiff,↓reduceIte,Nat.reduceLT,reduceCtorEq,Nat.reduceLeDiff,Int.reduceToNat,Int.reduceEq,Int.reduceLE,Int.reduceLT,Nat.reduceBEq]
  refine ends_weak ⟨[(2,(.os 0 1 0 a0.length a0.length false))],[(0,some (true,.arr false 1 (a0.map eS)))],1,8⟩ (weak_of (m := 0) [some 1] rfl rfl rfl (by rfl) ?_ ?_) ?_
  all_goals ((try simp (disch := assumption) only [go_sem,Nat.reduceAdd,Nat.reduceMul,Nat.reduceSub,Nat.reduceEqDiff,↓reduceIte,Nat.reduceLT,reduceCtorEq,Nat.reduceLeDiff,Int.reduceToNat,Int.reduceEq,Int.reduceLE,Int.reduceLT,Nat.reduceBEq]); (repeat' first | done | rfl | omega | refine And.intro ?_ ?_ | (simp; done) | (simp; omega)))
theorem ze9 {a0 : StateT} {r : StateT} (h : zan a0 = some r) : Fn Tryz.prog 225 [(.ag [(I a0.Status),(I a0.Next),(B a0.Cancel),(I a0.Done),(.lf true (.sl (a0.Signals.map eS))),(.lf true (.sl (a0.Timers.map eS)))])] [] 0 (.ag [(I r.Status),(I r.Next),(B r.Cancel),(I r.Done),(.os 0 1 0 r.Signals.length r.Signals.length false),(.os 1 1 0 r.Timers.length r.Timers.length false)]) [(0,some (true,.arr false 1 (r.Signals.map eS))),(1,some (true,.arr false 1 (r.Timers.map eS)))] 3 := by
 unfold zan at h
 refine fn_code tab_ok mixed [(1,[(4,2)]),(1000,[(1,0),(2,0)]),(1001,[(1,0),(2,0)]),(1002,[(2,0)])] Tryz.func225 rfl rfl (by simp [Tryz.f225]) (by kernel_rfl) ?_
 simp only [Tryz.f225]
 refine sA ?_
 obtain ⟨c364,hr1,h⟩ := bind_ok h
 refine Cl_sA (zeE hr1) ?_
 try refine sA ?_
 obtain ⟨c365,hr2,h⟩ := bind_ok h
 refine Cl_sA (zeE hr2) ?_
 try refine sA ?_
 obtain rfl:=Option.some.inj h
 exact endsA ⟨[(2,(.pb 2 0))],[(0,some (true,.arr false 1 (c364.map eS))),(1,some (true,.arr false 1 (c365.map eS))),(2,some (true,.box [(I a0.Status),(I a0.Next),(B a0.Cancel),(I a0.Done),(.os 0 1 0 c364.length c364.length false),(.os 1 1 0 c365.length c365.length false)]))],3,12⟩ [some 2,some 3,some 1]
theorem zeF {a0 : ByteArray} {r : Bool} (h : zbi a0 = some r) : Fn Tryz.prog 294 [(.lf false (.sc (.string a0)))] [] 0 (B r) [] 0 := by
 unfold zbi at h
 refine fn_code tab_ok mixed [] Tryz.func294 rfl rfl (by simp [Tryz.f294]) (by kernel_rfl) ?_
 simp only [Tryz.f294]
 refine sA ?_
 obtain rfl:=Option.some.inj h
 exact endsA ⟨[(2,(B (!(a0.toList == a0.toList))))],[],0,6⟩ []
theorem zeV {a0 : (List ByteArray)} {a1 : ByteArray} {r : (Int × Bool)} (h : zQ a0 a1 = some r) : Fn Tryz.prog 283 [(.lf true (.sl (a0.map eS))),(.lf false (.sc (.string a1)))] [] 0 (.tu [(I r.1),(B r.2)]) [] 0 := by
 unfold zQ at h
 refine fn_code tab_ok mixed [(1000,[(0,0),(1,0)]),(1001,[(0,0),(1,0),(6,0)]),(1002,[(0,0),(1,0),(6,0),(7,0),(8,0)]),(1003,[(0,0),(1,0),(6,0),(7,0),(8,0),(15,0)]),(1004,[(0,0),(1,0),(6,0),(7,0),(8,0),(9,0)]),(1005,[(0,0),(1,0),(6,0),(7,0),(8,0),(9,0),(27,0)]),(1006,[(0,0),(1,0),(6,0),(7,0),(8,0)]),(1007,[(0,0),(1,0),(6,0),(7,0),(8,0)]),(1008,[(4,0),(5,0)])] Tryz.func283 rfl rfl (by simp [Tryz.f283]) (by kernel_rfl) ?_
 simp only [Tryz.f283]
 refine sA ?_
 obtain ⟨y374,hl1,h⟩ := bind_ok h
 refine W_loopP (fun g371 : zbf => ⟨[(0,(.lf true (.sl (a0.map eS)))),(1,(.lf false (.sc (.string a1)))),(6,(I ((a0.length : Nat) : Int))),(7,(I g371.t7)),(8,(I g371.t8))],[],0,54⟩) (zp a0 a1) _ _ hl1 (weakA []) ?_
 ·intro n1 g371 z1 hs1 hk1
  unfold zp at hs1
  try dsimp only at hs1
  refine sA ?_
  refine Bs_if hs1 (fun hs1 hc2 => ?_) (fun hs1 hc2 => ?_)
  ·try refine sA ?_
   obtain ⟨hp3,hs1⟩ := guard_some hs1
   have hn3 : (wI (shR 64 (wU (wI (g371.t7 + g371.t8))) 1)).toNat < a0.length := by first | omega | (simp only [List.length_set,List.length_append,List.length_replicate,List.length_map]; omega)
   try refine sA ?_
   try refine andA ?_
   obtain ⟨c373,hr4,hs1⟩ := bind_ok hs1
   refine Cl_sA (ze8 hr4) ?_
   try refine sA ?_
   refine Bs_if hs1 (fun hs1 hc5 => ?_) (fun hs1 hc5 => ?_)
   ·try refine sA ?_
    cases hs1
    exact X_backP hk1 (weakA [])
   ·try refine sA ?_
    cases hs1
    exact X_backP hk1 (weakA [])
  ·try refine sA ?_
   cases hs1
   cases hk1
   try dsimp only at h
   try refine sA ?_
   refine Sp_if h (fun h hc6 => ?_) (fun h hc6 => ?_)
   ·try refine sA ?_
    obtain ⟨hp7,h⟩ := guard_some h
    have hn7 : g371.t7.toNat < a0.length := by first | omega | (simp only [List.length_set,List.length_append,List.length_replicate,List.length_map]; omega)
    try refine sA ?_
    try refine andA ?_
    refine Sp_if h (fun h hc8 => ?_) (fun h hc8 => ?_)
    ·try refine sA ?_
     obtain rfl:=Option.some.inj h
     exact endsA ⟨[(4,(I g371.t7)),(5,(B true))],[],0,54⟩ []
    ·try refine sA ?_
     obtain ⟨hp9,h⟩ := guard_some h
     have hn9 : g371.t7.toNat < a0.length := by first | omega | (simp only [List.length_set,List.length_append,List.length_replicate,List.length_map]; omega)
     try refine sA ?_
     try refine andA ?_
     obtain ⟨c377,hr10,h⟩ := bind_ok h
     refine Cl_sA (zeF hr10) ?_
     try refine sA ?_
     refine Sp_if h (fun h hc11 => ?_) (fun h hc11 => ?_)
     ·try refine sA ?_
      obtain ⟨c378,hr12,h⟩ := bind_ok h
      refine Cl_sA (zeF hr12) ?_
      try refine sA ?_
      obtain rfl:=Option.some.inj h
      exact endsA ⟨[(4,(I g371.t7)),(5,(B c378))],[],0,54⟩ []
     ·try refine sA ?_
      obtain rfl:=Option.some.inj h
      exact endsA ⟨[(4,(I g371.t7)),(5,(B false))],[],0,54⟩ []
   ·try refine sA ?_
    obtain rfl:=Option.some.inj h
    exact endsA ⟨[(4,(I g371.t7)),(5,(B false))],[],0,54⟩ []
theorem zfm {a0 : List ByteArray} {a1 a2 : Int} {m0 : Nat} {x0 : Bool} {r : List ByteArray} (h : zbv a0 a1 a2 = some r) : Fn Tryz.prog 284 [(.os 0 1 0 a0.length m0 x0),(I a1),(I a2)] [(0,some (false,.arr true 1 (a0.map eS)))] 1 (.os 1 1 0 r.length r.length false) [(0,none),(1,some (false,.arr false 1 (r.map eS)))] 2 := by
 unfold zbv at h
 obtain ⟨⟨hp1,hp2,hp3,hp4⟩,h⟩ := guard_some h
 have he := Option.some.inj h; subst he
 refine fn_code tab_ok mixed [] Tryz.func284 rfl rfl (by simp [Tryz.f284]) (by kernel_rfl) ?_
 simp only [Tryz.f284]
 simp (disch := assumption) only [go_sem,Nat.reduceAdd,Nat.reduceMul,Nat.reduceSub,Nat.reduceEqDiff,↓reduceIte,Nat.reduceLT,reduceCtorEq,Nat.reduceLeDiff,Int.reduceToNat,Int.reduceEq,Int.reduceLE,Int.reduceLT,Nat.reduceBEq]
 refine And.intro (by omega) ?_
 try simp (disch := assumption) only [go_sem,Nat.reduceAdd,Nat.reduceMul,Nat.reduceSub,Nat.reduceEqDiff,↓reduceIte,Nat.reduceLT,reduceCtorEq,Nat.reduceLeDiff,Int.reduceToNat,Int.reduceEq,Int.reduceLE,Int.reduceLT,Nat.reduceBEq]
 refine Bs_splitC (a1 == a2) (by first | rfl | simp) (fun hc => ?_) (fun hc => ?_)
 ·try simp (disch := assumption) only [go_sem,Nat.reduceAdd,Nat.reduceMul,Nat.reduceSub,Nat.reduceEqDiff,↓reduceIte,Nat.reduceLT,reduceCtorEq,Nat.reduceLeDiff,Int.reduceToNat,Int.reduceEq,Int.reduceLE,Int.reduceLT,Nat.reduceBEq]
  have he : a1 = a2 := by simpa using hc
  have hr : a0.take a1.toNat ++ a0.drop a2.toNat = a0 := by rw [he]; exact List.take_append_drop _ _
  rw [hr]
  refine ends_weak ⟨[(6,(.os 1 1 0 a0.length a0.length false))],[(0,none),(1,some (false,.arr false 1 (a0.map eS)))],2,33⟩ (weak_of (m := 1) [some 0,some 0] rfl rfl rfl (by rfl) ?_ ?_) ?_
  all_goals ((try simp (disch := assumption) only [go_sem,Nat.reduceAdd,Nat.reduceMul,Nat.reduceSub,Nat.reduceEqDiff,↓reduceIte,Nat.reduceLT,reduceCtorEq,Nat.reduceLeDiff,Int.reduceToNat,Int.reduceEq,Int.reduceLE,Int.reduceLT,Nat.reduceBEq]); (repeat' first | done | rfl | omega | refine And.intro ?_ ?_ | (simp; done) | (simp; omega)))
 ·try simp (disch := assumption) only [go_sem,Nat.reduceAdd,Nat.reduceMul,Nat.reduceSub,Nat.reduceEqDiff,↓reduceIte,Nat.reduceLT,reduceCtorEq,Nat.reduceLeDiff,Int.reduceToNat,Int.reduceEq,Int.reduceLE,Int.reduceLT,Nat.reduceBEq]
  refine And.intro (by omega) (And.intro (by omega) ?_)
  have hs : a2.toNat + (a0.length - a2.toNat) ≤ a0.length := by omega
  simp (disch := assumption) only [go_sem,Nat.reduceAdd,Nat.reduceMul,Nat.reduceSub,Nat.reduceEqDiff,↓reduceIte,Nat.reduceLT,reduceCtorEq,Nat.reduceLeDiff,Int.reduceToNat,Int.reduceEq,Int.reduceLE,Int.reduceLT,Nat.reduceBEq,hs]
  have hd : (a0.drop a2.toNat).length = a0.length - a2.toNat := List.length_drop
  have ht : (a0.take a1.toNat).length = a1.toNat := by rw [List.length_take]; omega
  have hR : (a0.take a1.toNat ++ a0.drop a2.toNat).length = a1.toNat + (a0.drop a2.toNat).length := by rw [List.length_append,ht]
  refine And.intro ⟨by omega,(by first | exact mapLen fun _ => rfl | simp),by omega⟩ (And.intro ⟨by omega,by omega,by omega⟩ (And.intro (by omega) ?_))
  refine ends_weak ⟨[(6,(.os 1 1 0 (a0.take a1.toNat ++ a0.drop a2.toNat).length (a0.take a1.toNat ++ a0.drop a2.toNat).length false))],[(0,none),(1,some (false,.arr false 1 ((a0.take a1.toNat ++ a0.drop a2.toNat).map eS)))],2,33⟩ (weak_of (m := 1) [some 0,some 1] rfl rfl rfl (by rfl) ?_ ?_) ?_
  all_goals ((try simp (disch := assumption) only [go_sem,Nat.reduceAdd,Nat.reduceMul,Nat.reduceSub,Nat.reduceEqDiff,↓reduceIte,Nat.reduceLT,reduceCtorEq,Nat.reduceLeDiff,Int.reduceToNat,Int.reduceEq,Int.reduceLE,Int.reduceLT,Nat.reduceBEq]); (repeat' first | done | rfl | omega | refine And.intro ?_ ?_ | (simp; done) | (simp; omega)))
theorem zfn {a0 : List ByteArray} {a1 : Int} {a2 : List ByteArray} {m0 m2 : Nat} {x0 x2 : Bool} {r : List ByteArray} (h : zbw a0 a1 a2 = some r) : Fn Tryz.prog 285 [(.os 0 1 0 a0.length m0 x0),(I a1),(.os 1 1 0 a2.length m2 x2)] [(0,some (false,.arr true 1 (a0.map eS))),(1,some (false,.arr true 1 (a2.map eS)))] 2 (.os 2 1 0 r.length r.length false) [(0,none),(1,none),(2,some (false,.arr false 1 (r.map eS)))] 3 := by
 unfold zbw at h
 obtain ⟨⟨hp1,hp2,hp3,hp4⟩,h⟩ := guard_some h
 have he := Option.some.inj h; subst he
 obtain ⟨x,rfl⟩ := List.length_eq_one_iff.1 hp1
 rw [List.append_assoc,List.singleton_append]
 exact fn_insert Go.Proofs.Tryz.lays22 (Ent.of Tryz.func285 rfl (by simp [Tryz.f285])) (fun _ => rfl) hp2 hp3 hp4
theorem zfo {a0 : StateT} {a1 : ByteArray} {m1 : Nat} {x1 : Bool} {m2 : Nat} {x2 : Bool} {r : (Bool × StateT)} (h : zax a0 a1 = some r) : Fn Tryz.prog 259 [(.pb 0 0),(.lf false (.sc (.string a1)))] [(0,some (false,.box [(I a0.Status),(I a0.Next),(B a0.Cancel),(I a0.Done),(.os 1 1 0 a0.Signals.length m1 x1),(.os 2 1 0 a0.Timers.length m2 x2)])),(1,some (false,.arr true 1 (a0.Signals.map eS))),(2,some (false,.arr true 1 (a0.Timers.map eS)))] 3 (B r.1) [(0,some (false,.box [(I r.2.Status),(I r.2.Next),(B r.2.Cancel),(I r.2.Done),(.os 1 1 0 a0.Signals.length a0.Signals.length false),(.os 3 1 0 r.2.Timers.length r.2.Timers.length false)])),(1,some (false,.arr false 1 (a0.Signals.map eS))),(2,none),(3,some (false,.arr false 1 (r.2.Timers.map eS)))] 4 := by
 unfold zax at h
 refine fn_code tab_ok mixed [(1000,[(0,0),(1,0)]),(1001,[(0,0),(1,0),(5,0),(6,0)]),(1002,[]),(1003,[(0,0),(1,0),(5,0),(27,0)]),(1004,[]),(1005,[(0,0),(1,0),(5,0),(40,0)]),(1006,[(4,0)]),(1007,[(4,0)])] Tryz.func259 rfl rfl (by simp [Tryz.f259]) (by kernel_rfl) ?_
 simp only [Tryz.f259]
 refine sA ?_
 obtain ⟨c380,hr1,h⟩ := bind_ok h
 refine Cl_sA (zeV hr1) ?_
 try refine sA ?_
 refine Bs_if h (fun h hc2 => ?_) (fun h hc2 => ?_)
 ·try refine sA ?_
  obtain ⟨c381,hr3,h⟩ := bind_ok h
  refine Cl_hA [2] (zfm hr3) ?_
  try refine sA ?_
  obtain rfl:=Option.some.inj h
  exact endsA ⟨[(4,(B true))],[(0,some (false,.box [(I a0.Status),(I a0.Next),(B a0.Cancel),(I a0.Done),(.os 1 1 0 a0.Signals.length a0.Signals.length false),(.os 3 1 0 c381.length c381.length false)])),(1,some (false,.arr false 1 (a0.Signals.map eS))),(2,none),(3,some (false,.arr false 1 (c381.map eS)))],4,47⟩ [some 0,some 1,some 2,some 3]
 ·try refine sA ?_
  refine Bs_if h (fun h hc4 => ?_) (fun h hc4 => ?_)
  ·try refine sA ?_
   obtain rfl:=Option.some.inj h
   exact endsA ⟨[(4,(B false))],[(0,some (false,.box [(I a0.Status),(I a0.Next),(B a0.Cancel),(I a0.Done),(.os 1 1 0 a0.Signals.length a0.Signals.length false),(.os 3 1 0 a0.Timers.length a0.Timers.length false)])),(1,some (false,.arr false 1 (a0.Signals.map eS))),(2,none),(3,some (false,.arr false 1 (a0.Timers.map eS)))],4,47⟩ [some 0,some 1,some 2,some 2]
  ·try refine sA ?_
   obtain ⟨c382,hr5,h⟩ := bind_ok h
   refine Cl_hA [2,3] (zfn hr5) ?_
   try refine sA ?_
   obtain rfl:=Option.some.inj h
   exact endsA ⟨[(4,(B true))],[(0,some (false,.box [(I a0.Status),(I a0.Next),(B a0.Cancel),(I a0.Done),(.os 1 1 0 a0.Signals.length a0.Signals.length false),(.os 3 1 0 c382.length c382.length false)])),(1,some (false,.arr false 1 (a0.Signals.map eS))),(2,none),(3,some (false,.arr false 1 (c382.map eS)))],4,47⟩ [some 0,some 1,some 2,some 4]
theorem zeO {a0 : StateT} {a1 : Int} {a2 : ByteArray} {m1 : Nat} {x1 : Bool} {m2 : Nat} {x2 : Bool} {r : (Bool × StateT)} (h : zaJ a0 a1 a2 = some r) : Fn Tryz.prog 226 [(.pb 0 0),(I a1),(.lf false (.sc (.string a2)))] [(0,some (false,.box [(I a0.Status),(I a0.Next),(B a0.Cancel),(I a0.Done),(.os 1 1 0 a0.Signals.length m1 x1),(.os 2 1 0 a0.Timers.length m2 x2)])),(1,some (false,.arr true 1 (a0.Signals.map eS))),(2,some (false,.arr true 1 (a0.Timers.map eS)))] 3 (B r.1) [(0,some (false,.box [(I r.2.Status),(I r.2.Next),(B r.2.Cancel),(I r.2.Done),(.os 3 1 0 r.2.Signals.length r.2.Signals.length false),(.os 4 1 0 r.2.Timers.length r.2.Timers.length false)])),(1,none),(2,none),(3,some (false,.arr false 1 (r.2.Signals.map eS))),(4,some (false,.arr false 1 (r.2.Timers.map eS)))] 5 := by
 unfold zaJ at h
 refine fn_code tab_ok mixed [(1000,[(0,0),(1,0),(2,0)]),(1001,[(0,0),(1,0),(2,0),(32,0)]),(1002,[(6,0)]),(1003,[(0,0),(2,0),(33,0)]),(1004,[(0,0),(2,0),(33,0),(34,0)]),(1005,[(0,0)]),(1006,[(0,0),(2,0),(33,0),(39,0)]),(1007,[(0,0),(2,0),(54,0)]),(1008,[(6,0)]),(1009,[(0,0)]),(1010,[(0,0),(2,0),(33,0),(65,0)]),(1011,[(0,0)]),(1012,[(0,0),(2,0),(33,0),(74,0)]),(1013,[(0,0),(79,0)]),(1014,[(6,0)]),(1015,[(0,0),(33,0),(80,0)]),(1016,[(0,0),(85,0)]),(1017,[(6,0)]),(1018,[(0,0)]),(1019,[(0,0),(89,0)]),(1020,[(0,0)]),(1021,[]),(1022,[(6,0)]),(4001,[]),(4007,[])] Tryz.func226 rfl rfl (by simp [Tryz.f226]) (by kernel_rfl) ?_
 simp only [Tryz.f226]
 refine sA ?_
 obtain ⟨p368,hq1,h⟩ := bind_ok h
 refine Sq_cut (fun s2 => s2 = ⟨[(0,(.pb 0 0)),(1,(I a1)),(2,(.lf false (.sc (.string a2)))),(32,(B p368.t32))],[(0,some (false,.box [(I a0.Status),(I a0.Next),(B a0.Cancel),(I a0.Done),(.os 1 1 0 a0.Signals.length m1 x1),(.os 2 1 0 a0.Timers.length m2 x2)])),(1,some (false,.arr true 1 (a0.Signals.map eS))),(2,some (false,.arr true 1 (a0.Timers.map eS)))],3,104⟩) ?_ ?_
 ·try refine sA ?_
  refine Sp_if hq1 (fun hq1 hc2 => ?_) (fun hq1 hc2 => ?_)
  ·try refine sA ?_
   cases hq1
   exact X_cut rfl (weakA [some 0,some 1,some 2])
  ·try refine sA ?_
   refine Sp_if hq1 (fun hq1 hc3 => ?_) (fun hq1 hc3 => ?_)
   ·try refine sA ?_
    cases hq1
    exact X_cut rfl (weakA [some 0,some 1,some 2])
   ·try refine sA ?_
    refine Sp_if hq1 (fun hq1 hc4 => ?_) (fun hq1 hc4 => ?_)
    ·try refine sA ?_
     cases hq1
     exact X_cut rfl (weakA [some 0,some 1,some 2])
    ·try refine sA ?_
     cases hq1
     exact X_cut rfl (weakA [some 0,some 1,some 2])
 ·intro s2 hJ; subst hJ
  try dsimp only at h
  try refine sA ?_
  refine Bs_if h (fun h hc5 => ?_) (fun h hc5 => ?_)
  ·try refine sA ?_
   obtain rfl:=Option.some.inj h
   exact endsA ⟨[(6,(B false))],[(0,some (false,.box [(I a0.Status),(I a0.Next),(B a0.Cancel),(I a0.Done),(.os 3 1 0 a0.Signals.length a0.Signals.length false),(.os 4 1 0 a0.Timers.length a0.Timers.length false)])),(1,none),(2,none),(3,some (false,.arr false 1 (a0.Signals.map eS))),(4,some (false,.arr false 1 (a0.Timers.map eS)))],5,104⟩ [some 0,some 1,some 2,some 1,some 2]
  ·try refine sA ?_
   refine Bs_if h (fun h hc6 => ?_) (fun h hc6 => ?_)
   ·try refine sA ?_
    obtain rfl:=Option.some.inj h
    exact endsA ⟨[(6,(B true))],[(0,some (false,.box [(I 1),(I (wI (a0.Next + 1))),(B a0.Cancel),(I a0.Done),(.os 3 1 0 a0.Signals.length a0.Signals.length false),(.os 4 1 0 a0.Timers.length a0.Timers.length false)])),(1,none),(2,none),(3,some (false,.arr false 1 (a0.Signals.map eS))),(4,some (false,.arr false 1 (a0.Timers.map eS)))],5,104⟩ [some 0,some 1,some 2,some 1,some 2]
   ·try refine sA ?_
    refine Bs_if h (fun h hc7 => ?_) (fun h hc7 => ?_)
    ·try refine sA ?_
     obtain ⟨p370,hq8,h⟩ := bind_ok h
     refine Sq_cut (fun s2 => s2 = ⟨[(0,(.pb 0 0)),(2,(.lf false (.sc (.string a2)))),(54,(B p370.t54))],[(0,some (false,.box [(I a0.Status),(I a0.Next),(B a0.Cancel),(I a0.Done),(.os 1 1 0 a0.Signals.length m1 x1),(.os 2 1 0 a0.Timers.length m2 x2)])),(1,some (false,.arr true 1 (a0.Signals.map eS))),(2,some (false,.arr true 1 (a0.Timers.map eS)))],3,104⟩) ?_ ?_
     ·try refine sA ?_
      obtain ⟨c369,hr9,hq8⟩ := bind_ok hq8
      refine Cl_sA (zab hr9) ?_
      try refine sA ?_
      refine Sp_if hq8 (fun hq8 hc10 => ?_) (fun hq8 hc10 => ?_)
      ·try refine sA ?_
       cases hq8
       exact X_cut rfl (weakA [some 0,some 1,some 2])
      ·try refine sA ?_
       cases hq8
       exact X_cut rfl (weakA [some 0,some 1,some 2])
     ·intro s2 hJ; subst hJ
      try dsimp only at h
      try refine sA ?_
      refine Bs_if h (fun h hc11 => ?_) (fun h hc11 => ?_)
      ·try refine sA ?_
       obtain rfl:=Option.some.inj h
       exact endsA ⟨[(6,(B false))],[(0,some (false,.box [(I a0.Status),(I a0.Next),(B a0.Cancel),(I a0.Done),(.os 3 1 0 a0.Signals.length a0.Signals.length false),(.os 4 1 0 a0.Timers.length a0.Timers.length false)])),(1,none),(2,none),(3,some (false,.arr false 1 (a0.Signals.map eS))),(4,some (false,.arr false 1 (a0.Timers.map eS)))],5,104⟩ [some 0,some 1,some 2,some 1,some 2]
      ·try refine sA ?_
       obtain ⟨hp12,h⟩ := guard_some h
       try refine sA ?_
       try refine andA ?_
       obtain rfl:=Option.some.inj h
       exact endsA ⟨[(6,(B true))],[(0,some (false,.box [(I a0.Status),(I (wI (a0.Next + 1))),(B a0.Cancel),(I a0.Done),(.os 3 1 0 ((a0.Signals ++ ([a2])).length) ((a0.Signals ++ ([a2])).length) false),(.os 4 1 0 a0.Timers.length a0.Timers.length false)])),(1,none),(2,none),(3,some (false,.arr false 1 ((a0.Signals ++ ([a2])).map eS))),(4,some (false,.arr false 1 (a0.Timers.map eS)))],5,104⟩ [some 0,some 1,some 2,some 4,some 2]
    ·try refine sA ?_
     refine Bs_if h (fun h hc13 => ?_) (fun h hc13 => ?_)
     ·try refine sA ?_
      obtain rfl:=Option.some.inj h
      exact endsA ⟨[(6,(B true))],[(0,some (false,.box [(I a0.Status),(I (wI (a0.Next + 1))),(B a0.Cancel),(I (wI (a0.Done + 1))),(.os 3 1 0 a0.Signals.length a0.Signals.length false),(.os 4 1 0 a0.Timers.length a0.Timers.length false)])),(1,none),(2,none),(3,some (false,.arr false 1 (a0.Signals.map eS))),(4,some (false,.arr false 1 (a0.Timers.map eS)))],5,104⟩ [some 0,some 1,some 2,some 1,some 2]
     ·try refine sA ?_
      refine Bs_if h (fun h hc14 => ?_) (fun h hc14 => ?_)
      ·try refine sA ?_
       obtain ⟨c383,hr15,h⟩ := bind_ok h
       refine Cl_hA [0,1,2] (zfo hr15) ?_
       try refine sA ?_
       refine Bs_if h (fun h hc16 => ?_) (fun h hc16 => ?_)
       ·try refine sA ?_
        obtain rfl:=Option.some.inj h
        exact endsA ⟨[(6,(B false))],[(0,some (false,.box [(I c383.2.Status),(I c383.2.Next),(B c383.2.Cancel),(I c383.2.Done),(.os 3 1 0 a0.Signals.length a0.Signals.length false),(.os 4 1 0 c383.2.Timers.length c383.2.Timers.length false)])),(1,none),(2,none),(3,some (false,.arr false 1 (a0.Signals.map eS))),(4,some (false,.arr false 1 (c383.2.Timers.map eS)))],5,104⟩ [some 0,some 1,some 2,some 1,some 3]
       ·try refine sA ?_
        obtain rfl:=Option.some.inj h
        exact endsA ⟨[(6,(B true))],[(0,some (false,.box [(I c383.2.Status),(I (wI (c383.2.Next + 1))),(B c383.2.Cancel),(I c383.2.Done),(.os 3 1 0 a0.Signals.length a0.Signals.length false),(.os 4 1 0 c383.2.Timers.length c383.2.Timers.length false)])),(1,none),(2,none),(3,some (false,.arr false 1 (a0.Signals.map eS))),(4,some (false,.arr false 1 (c383.2.Timers.map eS)))],5,104⟩ [some 0,some 1,some 2,some 1,some 3]
      ·try refine sA ?_
       refine Bs_if h (fun h hc17 => ?_) (fun h hc17 => ?_)
       ·try refine sA ?_
        refine Bs_if h (fun h hc18 => ?_) (fun h hc18 => ?_)
        ·try refine sA ?_
         obtain rfl:=Option.some.inj h
         exact endsA ⟨[(6,(B false))],[(0,some (false,.box [(I a0.Status),(I a0.Next),(B a0.Cancel),(I a0.Done),(.os 3 1 0 a0.Signals.length a0.Signals.length false),(.os 4 1 0 a0.Timers.length a0.Timers.length false)])),(1,none),(2,none),(3,some (false,.arr false 1 (a0.Signals.map eS))),(4,some (false,.arr false 1 (a0.Timers.map eS)))],5,104⟩ [some 0,some 1,some 2,some 1,some 2]
        ·try refine sA ?_
         obtain rfl:=Option.some.inj h
         exact endsA ⟨[(6,(B true))],[(0,some (false,.box [(I a0.Status),(I (wI (a0.Next + 1))),(B true),(I a0.Done),(.os 3 1 0 a0.Signals.length a0.Signals.length false),(.os 4 1 0 a0.Timers.length a0.Timers.length false)])),(1,none),(2,none),(3,some (false,.arr false 1 (a0.Signals.map eS))),(4,some (false,.arr false 1 (a0.Timers.map eS)))],5,104⟩ [some 0,some 1,some 2,some 1,some 2]
       ·try refine sA ?_
        refine Bs_if h (fun h hc19 => ?_) (fun h hc19 => ?_)
        ·try refine sA ?_
         obtain rfl:=Option.some.inj h
         exact endsA ⟨[(6,(B true))],[(0,some (false,.box [(I 2),(I (wI (a0.Next + 1))),(B a0.Cancel),(I a0.Done),(.os 3 1 0 a0.Signals.length a0.Signals.length false),(.os 4 1 0 (([] : List ByteArray).length) (([] : List ByteArray).length) false)])),(1,none),(2,none),(3,some (false,.arr false 1 (a0.Signals.map eS))),(4,some (false,.arr false 1 (([] : List ByteArray).map eS)))],5,104⟩ [some 0,some 1,some 2,some 1,none]
        ·try refine sA ?_
         obtain rfl:=Option.some.inj h
         exact endsA ⟨[(6,(B true))],[(0,some (false,.box [(I a0.Status),(I (wI (a0.Next + 1))),(B a0.Cancel),(I a0.Done),(.os 3 1 0 a0.Signals.length a0.Signals.length false),(.os 4 1 0 a0.Timers.length a0.Timers.length false)])),(1,none),(2,none),(3,some (false,.arr false 1 (a0.Signals.map eS))),(4,some (false,.arr false 1 (a0.Timers.map eS)))],5,104⟩ [some 0,some 1,some 2,some 1,some 2]
theorem zgK {a0 : StateT} {a1 : EventT} {r : (StateT × Bool)} (h : zcw a0 a1 = some r) : Fn Tryz.prog 209 [(.ag [(I a0.Status),(I a0.Next),(B a0.Cancel),(I a0.Done),(.lf true (.sl (a0.Signals.map eS))),(.lf true (.sl (a0.Timers.map eS)))]),(.ag [(I a1.Id),(I a1.Version),(I a1.Kind),(.lf false (.sc (.string a1.Name)))])] [] 0 (.tu [(.ag [(I r.1.Status),(I r.1.Next),(B r.1.Cancel),(I r.1.Done),(.os 0 1 0 r.1.Signals.length r.1.Signals.length false),(.os 1 1 0 r.1.Timers.length r.1.Timers.length false)]),(B r.2)]) [(0,some (false,.arr false 1 (r.1.Signals.map eS))),(1,some (false,.arr false 1 (r.1.Timers.map eS)))] 3 := by
 unfold zcw at h
 refine fn_code tab_ok mixed [(1000,[(2,0),(3,0),(4,0)]),(1001,[(2,0),(3,0),(4,0),(21,0)]),(1002,[(4,0),(5,0)]),(1003,[(3,0),(4,0),(6,0)]),(1004,[(4,0),(6,0),(35,0)]),(1005,[(4,0),(5,0)]),(1006,[(4,0),(5,0)]),(4001,[]),(4004,[])] Tryz.func209 rfl rfl (by simp [Tryz.f209]) (by kernel_rfl) ?_
 simp only [Tryz.f209]
 refine sA ?_
 obtain ⟨p363,hq1,h⟩ := bind_ok h
 refine Sq_cut (fun s2 => s2 = ⟨[(2,(.pb 0 0)),(3,(.pb 1 0)),(4,(.pb 2 0)),(21,(B p363.t21))],[(0,some (true,.box [(I a0.Status),(I a0.Next),(B a0.Cancel),(I a0.Done),(.lf true (.sl (a0.Signals.map eS))),(.lf true (.sl (a0.Timers.map eS)))])),(1,some (true,.box [(I a1.Id),(I a1.Version),(I a1.Kind),(.lf false (.sc (.string a1.Name)))])),(2,some (true,.box [(I 0),(I 0),(B false),(I 0),.nl,.nl]))],3,38⟩) ?_ ?_
 ·try refine sA ?_
  obtain ⟨c356,hr2,hq1⟩ := bind_ok hq1
  refine Cl_sA (zdx hr2) ?_
  try refine sA ?_
  refine Sp_if hq1 (fun hq1 hc3 => ?_) (fun hq1 hc3 => ?_)
  ·try refine sA ?_
   cases hq1
   exact X_cut rfl (weakA [some 0,some 1,some 2])
  ·try refine sA ?_
   obtain ⟨c362,hr4,hq1⟩ := bind_ok hq1
   refine Cl_sA (zg8 hr4) ?_
   try refine sA ?_
   refine Sp_if hq1 (fun hq1 hc5 => ?_) (fun hq1 hc5 => ?_)
   ·try refine sA ?_
    cases hq1
    exact X_cut rfl (weakA [some 0,some 1,some 2])
   ·try refine sA ?_
    cases hq1
    exact X_cut rfl (weakA [some 0,some 1,some 2])
 ·intro s2 hJ; subst hJ
  try dsimp only at h
  try refine sA ?_
  refine Bs_if h (fun h hc6 => ?_) (fun h hc6 => ?_)
  ·try refine sA ?_
   obtain rfl:=Option.some.inj h
   exact endsA ⟨[(4,(.pb 2 0)),(5,(B false))],[(0,some (false,.arr false 1 (([] : List ByteArray).map eS))),(1,some (false,.arr false 1 (([] : List ByteArray).map eS))),(2,some (true,.box [(I 0),(I 0),(B false),(I 0),(.os 0 1 0 (([] : List ByteArray).length) (([] : List ByteArray).length) false),(.os 1 1 0 (([] : List ByteArray).length) (([] : List ByteArray).length) false)]))],3,38⟩ [none,none,some 2]
  ·try refine sA ?_
   obtain ⟨c366,hr7,h⟩ := bind_ok h
   refine Cl_sA (ze9 hr7) ?_
   try refine sA ?_
   obtain ⟨p386,hq8,h⟩ := bind_ok h
   refine Sq_cut (fun s2 => s2 = ⟨[(4,(.pb 0 0)),(6,(.pb 1 0)),(35,(B p386.t35))],[(0,some (true,.box [(I 0),(I 0),(B false),(I 0),.nl,.nl])),(1,some (true,.box [(I p386.b1_0),(I p386.b1_1),(B p386.b1_2),(I p386.b1_3),(.os 2 1 0 p386.c2.length p386.c2.length false),(.os 3 1 0 p386.c3.length p386.c3.length false)])),(2,some (false,.arr false 1 (p386.c2.map eS))),(3,some (false,.arr false 1 (p386.c3.map eS)))],4,38⟩) ?_ ?_
   ·try refine sA ?_
    obtain ⟨c384,hr9,hq8⟩ := bind_ok hq8
    refine Cl_hA [6,3,4] (zeO hr9) ?_
    try refine sA ?_
    refine Sp_if hq8 (fun hq8 hc10 => ?_) (fun hq8 hc10 => ?_)
    ·try refine sA ?_
     cases hq8
     exact X_cut rfl (weakA [some 2,some 6,some 7,some 8])
    ·try refine sA ?_
     obtain ⟨c385,hr11,hq8⟩ := bind_ok hq8
     refine Cl_sA (zdx hr11) ?_
     try refine sA ?_
     cases hq8
     exact X_cut rfl (weakA [some 2,some 6,some 7,some 8])
   ·intro s2 hJ; subst hJ
    try dsimp only at h
    try refine sA ?_
    refine Bs_if h (fun h hc12 => ?_) (fun h hc12 => ?_)
    ·try refine sA ?_
     obtain rfl:=Option.some.inj h
     exact endsA ⟨[(4,(.pb 2 0)),(5,(B false))],[(0,some (false,.arr false 1 (([] : List ByteArray).map eS))),(1,some (false,.arr false 1 (([] : List ByteArray).map eS))),(2,some (true,.box [(I 0),(I 0),(B false),(I 0),(.os 0 1 0 (([] : List ByteArray).length) (([] : List ByteArray).length) false),(.os 1 1 0 (([] : List ByteArray).length) (([] : List ByteArray).length) false)]))],3,38⟩ [none,none,some 0]
    ·try refine sA ?_
     obtain rfl:=Option.some.inj h
     exact endsA ⟨[(4,(.pb 2 0)),(5,(B true))],[(0,some (false,.arr false 1 (p386.c2.map eS))),(1,some (false,.arr false 1 (p386.c3.map eS))),(2,some (true,.box [(I p386.b1_0),(I p386.b1_1),(B p386.b1_2),(I p386.b1_3),(.os 0 1 0 p386.c2.length p386.c2.length false),(.os 1 1 0 p386.c3.length p386.c3.length false)]))],3,38⟩ [some 2,some 3,some 0]
theorem zfa {a0 : (List EventT)} {r : (StateT × Int)} (h : zbE a0 = some r) : Fn Tryz.prog 161 [(.lf true (.sl (a0.map eEvent)))] [] 0 (.tu [(.ag [(I r.1.Status),(I r.1.Next),(B r.1.Cancel),(I r.1.Done),(.os 0 1 0 r.1.Signals.length r.1.Signals.length false),(.os 1 1 0 r.1.Timers.length r.1.Timers.length false)]),(I r.2)]) [(0,some (false,.arr false 1 (r.1.Signals.map eS))),(1,some (false,.arr false 1 (r.1.Timers.map eS)))] 3 := by
 unfold zbE at h
 refine fn_code tab_ok mixed [(1000,[(0,0),(2,0)]),(1001,[(0,0),(2,0),(4,0)]),(1002,[(0,0),(2,0),(4,0),(10,0),(11,0),(12,0)]),(1003,[(0,0),(2,0),(4,0),(10,0),(11,0),(12,0),(13,0)]),(1004,[(0,0),(2,0),(4,0),(5,0),(6,0),(10,0),(11,0),(12,0)]),(1005,[(0,0),(2,0),(4,0),(5,0),(7,0),(8,0),(10,0),(11,0),(12,0)]),(1006,[(0,0),(2,0),(4,0),(5,0),(7,0),(10,0),(11,0),(12,0),(24,0)]),(1007,[(2,0),(3,0)]),(1008,[(0,0),(2,0),(4,0),(10,0),(11,0),(12,0)]),(1009,[(0,0),(2,0),(4,0),(10,0),(11,0),(12,0)]),(1010,[(2,0),(3,0)])] Tryz.func161 rfl rfl (by simp [Tryz.f161]) (by kernel_rfl) ?_
 simp only [Tryz.f161]
 refine sA ?_
 obtain ⟨c315,hr1,h⟩ := bind_ok h
 refine Cl_sA (zhr hr1) ?_
 try refine sA ?_
 obtain ⟨y389,hl2,h⟩ := bind_ok h
 refine W_loopP (fun g316 : zdY => ⟨[(0,(.lf true (.sl (a0.map eEvent)))),(2,(.pb 0 0)),(4,(.pb 1 0)),(10,(.lf true (.sl (a0.map eEvent)))),(11,(I ((a0.length : Nat) : Int))),(12,(I g316.t12))],[(0,some (true,.box [(I 0),(I 0),(B false),(I 0),.nl,.nl])),(1,some (true,.box [(I g316.b1_0),(I g316.b1_1),(B g316.b1_2),(I g316.b1_3),(.os 2 1 0 g316.c2.length g316.c2.length false),(.os 3 1 0 g316.c3.length g316.c3.length false)])),(2,some (false,.arr false 1 (g316.c2.map eS))),(3,some (false,.arr false 1 (g316.c3.map eS)))],4,32⟩) (zO a0) _ _ hl2 (weakA [some 0,some 2,none,none]) ?_
 ·intro n1 g316 z1 hs1 hk1
  unfold zO at hs1
  try dsimp only at hs1
  refine sA ?_
  refine Bs_if hs1 (fun hs1 hc3 => ?_) (fun hs1 hc3 => ?_)
  ·try refine sA ?_
   obtain ⟨hp4,hs1⟩ := guard_some hs1
   have hn4 : g316.t12.toNat < a0.length := by first | omega | (simp only [List.length_set,List.length_append,List.length_replicate,List.length_map]; omega)
   try refine sA ?_
   try refine andA ?_
   obtain ⟨c388,hr5,hs1⟩ := bind_ok hs1
   refine Cl_sA (zgK hr5) ?_
   try refine sA ?_
   refine Bs_if hs1 (fun hs1 hc6 => ?_) (fun hs1 hc6 => ?_)
   ·try refine sA ?_
    cases hs1
    cases hk1
    try dsimp only at h
    try refine sA ?_
    obtain rfl:=Option.some.inj h
    exact endsA ⟨[(2,(.pb 2 0)),(3,(I g316.t12))],[(0,some (false,.arr false 1 (g316.c2.map eS))),(1,some (false,.arr false 1 (g316.c3.map eS))),(2,some (true,.box [(I g316.b1_0),(I g316.b1_1),(B g316.b1_2),(I g316.b1_3),(.os 0 1 0 g316.c2.length g316.c2.length false),(.os 1 1 0 g316.c3.length g316.c3.length false)]))],3,32⟩ [some 2,some 3,some 0]
   ·try refine sA ?_
    cases hs1
    exact X_backP hk1 (weakA [some 0,some 1,some 5,some 6])
  ·try refine sA ?_
   cases hs1
   cases hk1
   try dsimp only at h
   try refine sA ?_
   obtain rfl:=Option.some.inj h
   exact endsA ⟨[(2,(.pb 2 0)),(3,(I ((a0.length : Nat) : Int)))],[(0,some (false,.arr false 1 (g316.c2.map eS))),(1,some (false,.arr false 1 (g316.c3.map eS))),(2,some (true,.box [(I g316.b1_0),(I g316.b1_1),(B g316.b1_2),(I g316.b1_3),(.os 0 1 0 g316.c2.length g316.c2.length false),(.os 1 1 0 g316.c3.length g316.c3.length false)]))],3,32⟩ [some 2,some 3,some 0]
theorem zg9 {a0 : (List EventT)} {r : Bool} (h : zdb a0 = some r) : Fn Tryz.prog 91 [(.lf true (.sl (a0.map eEvent)))] [] 0 (B r) [] 0 := by
 unfold zdb at h
 refine fn_code tab_ok mixed [(1000,[(0,0)]),(1001,[(0,0),(9,0)]),(1002,[(2,0)]),(1003,[(0,0),(10,0),(11,0),(12,0)]),(1004,[(0,0),(10,0),(11,0),(12,0),(13,0)]),(1005,[(0,0),(3,0),(4,0),(10,0),(11,0),(12,0)]),(1006,[(0,0),(10,0),(11,0),(12,0),(29,0)]),(1007,[(2,0)]),(1008,[(0,0),(10,0),(11,0),(12,0)]),(1009,[(0,0),(6,0)]),(1010,[(2,0)]),(4006,[])] Tryz.func91 rfl rfl (by simp [Tryz.f91]) (by kernel_rfl) ?_
 simp only [Tryz.f91]
 refine sA ?_
 refine Bs_if h (fun h hc1 => ?_) (fun h hc1 => ?_)
 ·try refine sA ?_
  obtain rfl:=Option.some.inj h
  exact endsA ⟨[(2,(B false))],[],0,40⟩ []
 ·try refine sA ?_
  obtain ⟨y312,hl2,h⟩ := bind_ok h
  refine W_loopP (fun g309 : zcY => ⟨[(0,(.lf true (.sl (a0.map eEvent)))),(10,(.lf true (.sl (a0.map eEvent)))),(11,(I ((a0.length : Nat) : Int))),(12,(I g309.t12))],[],0,40⟩) (za8 a0) _ _ hl2 (weakA []) ?_
  ·intro n1 g309 z1 hs1 hk1
   unfold za8 at hs1
   try dsimp only at hs1
   refine sA ?_
   refine Bs_if hs1 (fun hs1 hc3 => ?_) (fun hs1 hc3 => ?_)
   ·try refine sA ?_
    obtain ⟨hp4,hs1⟩ := guard_some hs1
    have hn4 : g309.t12.toNat < a0.length := by first | omega | (simp only [List.length_set,List.length_append,List.length_replicate,List.length_map]; omega)
    try refine sA ?_
    try refine andA ?_
    obtain ⟨p311,hq5,hs1⟩ := bind_ok hs1
    refine Sq_cut (fun s2 => s2 = ⟨[(0,(.lf true (.sl (a0.map eEvent)))),(10,(.lf true (.sl (a0.map eEvent)))),(11,(I ((a0.length : Nat) : Int))),(12,(I g309.t12)),(29,(B p311.t29))],[],0,40⟩) ?_ ?_
    ·try refine sA ?_
     refine Sp_if hq5 (fun hq5 hc6 => ?_) (fun hq5 hc6 => ?_)
     ·try refine sA ?_
      obtain ⟨hp7,hq5⟩ := guard_some hq5
      have hn7 : (wI (g309.t12 - 1)).toNat < a0.length := by first | omega | (simp only [List.length_set,List.length_append,List.length_replicate,List.length_map]; omega)
      try refine sA ?_
      try refine andA ?_
      cases hq5
      exact X_cut rfl (weakA [])
     ·try refine sA ?_
      cases hq5
      exact X_cut rfl (weakA [])
    ·intro s2 hJ; subst hJ
     try dsimp only at hs1
     try refine sA ?_
     refine Bs_if hs1 (fun hs1 hc8 => ?_) (fun hs1 hc8 => ?_)
     ·try refine sA ?_
      cases hs1
      cases hk1
      try dsimp only at h
      try refine sA ?_
      obtain rfl:=Option.some.inj h
      exact endsA ⟨[(2,(B false))],[],0,40⟩ []
     ·try refine sA ?_
      cases hs1
      exact X_backP hk1 (weakA [])
   ·try refine sA ?_
    cases hs1
    cases hk1
    try dsimp only at h
    try refine sA ?_
    obtain ⟨c393,hr9,h⟩ := bind_ok h
    refine Cl_sA (zfa hr9) ?_
    try refine sA ?_
    obtain rfl:=Option.some.inj h
    exact endsA ⟨[(2,(B (c393.2 == ((a0.length : Nat) : Int))))],[],0,40⟩ []
theorem zha {a0 : (List EventT)} {r : Bool} (h : zdc a0 = some r) : Fn Tryz.prog 61 [(.lf true (.sl (a0.map eEvent)))] [] 0 (B r) [] 0 := by
 unfold zdc at h
 refine fn_code tab_ok mixed [] Tryz.func61 rfl rfl (by simp [Tryz.f61]) (by kernel_rfl) ?_
 simp only [Tryz.f61]
 refine sA ?_
 refine Sp_if h (fun h hc1 => ?_) (fun h hc1 => ?_)
 ·try refine sA ?_
  obtain ⟨c394,hr2,h⟩ := bind_ok h
  refine Cl_sA (zg9 hr2) ?_
  try refine sA ?_
  obtain rfl:=Option.some.inj h
  exact endsA ⟨[(2,(B c394))],[],0,10⟩ []
 ·try refine sA ?_
  obtain rfl:=Option.some.inj h
  exact endsA ⟨[(2,(B false))],[],0,10⟩ []
theorem zfz {a0 : Int} {r : Bool} (h : zdy a0 = some r) : Fn Tryz.prog 230 [(I a0)] [] 0 (B r) [] 0 := by
 unfold zdy at h
 refine fn_code tab_ok mixed [] Tryz.func230 rfl rfl (by simp [Tryz.f230]) (by kernel_rfl) ?_
 simp only [Tryz.f230]
 refine sA ?_
 obtain rfl:=Option.some.inj h
 exact endsA ⟨[(2,(B (a0 != a0)))],[],0,6⟩ []
theorem zc2 {a0 : Int} {a1 : Int} {r : Int} (h : zal a0 a1 = some r) : Fn Tryz.prog 193 [(I a0),(I a1)] [] 0 (I r) [] 0 := by
 unfold zal at h
 refine fn_code tab_ok mixed [(1000,[(0,0),(1,0)]),(1001,[(0,0),(1,0),(5,0)]),(1002,[(0,0),(1,0),(5,0),(6,0)]),(1003,[(0,0),(1,0),(6,0),(11,0)]),(1004,[(12,0)]),(1005,[(4,0)]),(1006,[(4,0)]),(1007,[(0,0),(1,0),(13,0)]),(1008,[(4,0)]),(1009,[(0,0),(1,0),(16,0)]),(1010,[(4,0)]),(1011,[(19,0)]),(1012,[(4,0)]),(1013,[(4,0)])] Tryz.func193 rfl rfl (by simp [Tryz.f193]) (by kernel_rfl) ?_
 simp only [Tryz.f193]
 refine sA ?_
 obtain ⟨c398,hr1,h⟩ := bind_ok h
 refine Cl_sA (zfz hr1) ?_
 try refine sA ?_
 obtain ⟨c399,hr2,h⟩ := bind_ok h
 refine Cl_sA (zfz hr2) ?_
 try refine sA ?_
 refine Bs_if h (fun h hc3 => ?_) (fun h hc3 => ?_)
 ·try refine sA ?_
  refine Bs_if h (fun h hc4 => ?_) (fun h hc4 => ?_)
  ·try refine sA ?_
   obtain rfl:=Option.some.inj h
   exact endsA ⟨[(4,(I 0))],[],0,20⟩ []
  ·try refine sA ?_
   obtain rfl:=Option.some.inj h
   exact endsA ⟨[(4,(I (-1)))],[],0,20⟩ []
 ·try refine sA ?_
  refine Bs_if h (fun h hc5 => ?_) (fun h hc5 => ?_)
  ·try refine sA ?_
   obtain rfl:=Option.some.inj h
   exact endsA ⟨[(4,(I 1))],[],0,20⟩ []
  ·try refine sA ?_
   refine Bs_if h (fun h hc6 => ?_) (fun h hc6 => ?_)
   ·try refine sA ?_
    obtain rfl:=Option.some.inj h
    exact endsA ⟨[(4,(I (-1)))],[],0,20⟩ []
   ·try refine sA ?_
    refine Bs_if h (fun h hc7 => ?_) (fun h hc7 => ?_)
    ·try refine sA ?_
     obtain rfl:=Option.some.inj h
     exact endsA ⟨[(4,(I 1))],[],0,20⟩ []
    ·try refine sA ?_
     obtain rfl:=Option.some.inj h
     exact endsA ⟨[(4,(I 0))],[],0,20⟩ []
theorem zfU {a0 : ByteArray} {a1 : ByteArray} {r : Int} (h : zbz a0 a1 = some r) : Fn Tryz.prog 223 [(.lf false (.sc (.string a0))),(.lf false (.sc (.string a1)))] [] 0 (I r) [] 0 := by
 unfold zbz at h
 refine fn_code tab_ok mixed [(1000,[(0,0),(1,0)]),(1001,[(0,0),(1,0),(5,0)]),(1002,[(0,0),(1,0),(5,0),(6,0)]),(1003,[(0,0),(1,0),(6,0),(11,0)]),(1004,[(12,0)]),(1005,[(4,0)]),(1006,[(4,0)]),(1007,[(0,0),(1,0),(13,0)]),(1008,[(4,0)]),(1009,[(0,0),(1,0),(16,0)]),(1010,[(4,0)]),(1011,[(19,0)]),(1012,[(4,0)]),(1013,[(4,0)])] Tryz.func223 rfl rfl (by simp [Tryz.f223]) (by kernel_rfl) ?_
 simp only [Tryz.f223]
 refine sA ?_
 obtain ⟨c402,hr1,h⟩ := bind_ok h
 refine Cl_sA (zcQ hr1) ?_
 try refine sA ?_
 obtain ⟨c403,hr2,h⟩ := bind_ok h
 refine Cl_sA (zcQ hr2) ?_
 try refine sA ?_
 refine Bs_if h (fun h hc3 => ?_) (fun h hc3 => ?_)
 ·try refine sA ?_
  refine Bs_if h (fun h hc4 => ?_) (fun h hc4 => ?_)
  ·try refine sA ?_
   obtain rfl:=Option.some.inj h
   exact endsA ⟨[(4,(I 0))],[],0,20⟩ []
  ·try refine sA ?_
   obtain rfl:=Option.some.inj h
   exact endsA ⟨[(4,(I (-1)))],[],0,20⟩ []
 ·try refine sA ?_
  refine Bs_if h (fun h hc5 => ?_) (fun h hc5 => ?_)
  ·try refine sA ?_
   obtain rfl:=Option.some.inj h
   exact endsA ⟨[(4,(I 1))],[],0,20⟩ []
  ·try refine sA ?_
   refine Bs_if h (fun h hc6 => ?_) (fun h hc6 => ?_)
   ·try refine sA ?_
    obtain rfl:=Option.some.inj h
    exact endsA ⟨[(4,(I (-1)))],[],0,20⟩ []
   ·try refine sA ?_
    refine Bs_if h (fun h hc7 => ?_) (fun h hc7 => ?_)
    ·try refine sA ?_
     obtain rfl:=Option.some.inj h
     exact endsA ⟨[(4,(I 1))],[],0,20⟩ []
    ·try refine sA ?_
     obtain rfl:=Option.some.inj h
     exact endsA ⟨[(4,(I 0))],[],0,20⟩ []
theorem zgh {a0 : (List Int)} {r : Int} (h : zed a0 = some r) : Fn Tryz.prog 192 [(.lf true (.sl (a0.map eI)))] [] 0 (I r) [] 0 := by
 unfold zed at h
 refine fn_code tab_ok mixed [(1000,[(0,0)]),(1001,[(0,0),(3,0)]),(1002,[(3,0),(6,0),(7,0),(8,0)]),(1003,[(3,0),(6,0),(7,0),(8,0),(9,0)]),(1004,[(3,0),(5,0),(6,0),(7,0),(8,0)]),(1005,[(3,0),(5,0),(6,0),(7,0),(8,0),(14,0)]),(1006,[(2,0)]),(1007,[(3,0),(6,0),(7,0),(8,0)]),(1008,[(2,0)])] Tryz.func192 rfl rfl (by simp [Tryz.f192]) (by kernel_rfl) ?_
 simp only [Tryz.f192]
 refine sA ?_
 obtain ⟨y406,hl1,h⟩ := bind_ok h
 refine W_loopP (fun g405 : zep => ⟨[(3,(I 0)),(6,(.lf true (.sl (a0.map eI)))),(7,(I ((a0.length : Nat) : Int))),(8,(I g405.t8))],[],0,18⟩) (zco a0) _ _ hl1 (weakA []) ?_
 ·intro n1 g405 z1 hs1 hk1
  unfold zco at hs1
  try dsimp only at hs1
  refine sA ?_
  refine Bs_if hs1 (fun hs1 hc2 => ?_) (fun hs1 hc2 => ?_)
  ·try refine sA ?_
   obtain ⟨hp3,hs1⟩ := guard_some hs1
   have hn3 : g405.t8.toNat < a0.length := by first | omega | (simp only [List.length_set,List.length_append,List.length_replicate,List.length_map]; omega)
   try refine sA ?_
   try refine andA ?_
   refine Bs_if hs1 (fun hs1 hc4 => ?_) (fun hs1 hc4 => ?_)
   ·try refine sA ?_
    cases hs1
    cases hk1
    try dsimp only at h
    try refine sA ?_
    obtain rfl:=Option.some.inj h
    exact endsA ⟨[(2,(I (nth a0 g405.t8.toNat)))],[],0,18⟩ []
   ·try refine sA ?_
    cases hs1
    exact X_backP hk1 (weakA [])
  ·try refine sA ?_
   cases hs1
   cases hk1
   try dsimp only at h
   try refine sA ?_
   obtain rfl:=Option.some.inj h
   exact endsA ⟨[(2,(I 0))],[],0,18⟩ []
theorem zgL {a0 : EventT} {a1 : EventT} {r : Int} (h : zcx a0 a1 = some r) : Fn Tryz.prog 181 [(.ag [(I a0.Id),(I a0.Version),(I a0.Kind),(.lf false (.sc (.string a0.Name)))]),(.ag [(I a1.Id),(I a1.Version),(I a1.Kind),(.lf false (.sc (.string a1.Name)))])] [] 0 (I r) [] 0 := by
 unfold zcx at h
 refine fn_code tab_ok mixed [(1,[(6,4),(8,4),(11,4),(11,9),(13,4),(13,9)])] Tryz.func181 rfl rfl (by simp [Tryz.f181]) (by kernel_rfl) ?_
 simp only [Tryz.f181]
 refine sA ?_
 obtain ⟨c400,hr1,h⟩ := bind_ok h
 refine Cl_sA (zc2 hr1) ?_
 try refine sA ?_
 obtain ⟨c401,hr2,h⟩ := bind_ok h
 refine Cl_sA (zc2 hr2) ?_
 try refine sA ?_
 obtain ⟨c404,hr3,h⟩ := bind_ok h
 refine Cl_sA (zfU hr3) ?_
 try refine sA ?_
 obtain ⟨c409,hr4,h⟩ := bind_ok h
 refine Cl_sA (zgh hr4) ?_
 try refine sA ?_
 obtain rfl:=Option.some.inj h
 exact endsA ⟨[(4,(I c409))],[],0,22⟩ []
theorem zcm {a0 : (List EventT)} {a1 : (List EventT)} {r : Int} (h : zu a0 a1 = some r) : Fn Tryz.prog 180 [(.lf true (.sl (a0.map eEvent))),(.lf true (.sl (a1.map eEvent))),(.fn 181 [])] [] 0 (I r) [] 0 := by
 unfold zu at h
 refine fn_code tab_ok mixed [(1000,[(0,0),(1,0),(2,0)]),(1001,[(0,0),(1,0),(2,0),(11,0),(12,0),(13,0)]),(1002,[(0,0),(1,0),(2,0),(11,0),(12,0),(13,0),(14,0)]),(1003,[(0,0),(1,0),(2,0),(7,0),(8,0),(11,0),(12,0),(13,0)]),(1004,[(0,0),(1,0),(2,0),(7,0),(8,0),(11,0),(12,0),(13,0),(21,0)]),(1005,[(6,0)]),(1006,[(0,0),(1,0),(2,0),(8,0),(9,0),(11,0),(12,0),(13,0)]),(1007,[(0,0),(1,0),(2,0),(10,0),(11,0),(12,0),(13,0)]),(1008,[(0,0),(1,0),(2,0),(10,0),(11,0),(12,0),(13,0),(31,0)]),(1009,[(6,0)]),(1010,[(0,0),(1,0),(2,0),(11,0),(12,0),(13,0)]),(1011,[(38,0)]),(1012,[(6,0)]),(1013,[(6,0)])] Tryz.func180 rfl rfl (by simp [Tryz.f180]) (by kernel_rfl) ?_
 simp only [Tryz.f180]
 refine sA ?_
 obtain ⟨y412,hl1,h⟩ := bind_ok h
 refine W_loopP (fun g397 : zn => ⟨[(0,(.lf true (.sl (a0.map eEvent)))),(1,(.lf true (.sl (a1.map eEvent)))),(2,(.fn 181 [])),(11,(.lf true (.sl (a0.map eEvent)))),(12,(I ((a0.length : Nat) : Int))),(13,(I g397.t13))],[],0,39⟩) (zc a0 a1) _ _ hl1 (weakA []) ?_
 ·intro n1 g397 z1 hs1 hk1
  unfold zc at hs1
  try dsimp only at hs1
  refine sA ?_
  refine Bs_if hs1 (fun hs1 hc2 => ?_) (fun hs1 hc2 => ?_)
  ·try refine sA ?_
   obtain ⟨hp3,hs1⟩ := guard_some hs1
   have hn3 : g397.t13.toNat < a0.length := by first | omega | (simp only [List.length_set,List.length_append,List.length_replicate,List.length_map]; omega)
   try refine sA ?_
   try refine andA ?_
   refine Bs_if hs1 (fun hs1 hc4 => ?_) (fun hs1 hc4 => ?_)
   ·try refine sA ?_
    cases hs1
    cases hk1
    try dsimp only at h
    try refine sA ?_
    obtain rfl:=Option.some.inj h
    exact endsA ⟨[(6,(I 1))],[],0,39⟩ []
   ·try refine sA ?_
    obtain ⟨hp5,hs1⟩ := guard_some hs1
    have hn5 : g397.t13.toNat < a1.length := by first | omega | (simp only [List.length_set,List.length_append,List.length_replicate,List.length_map]; omega)
    try refine sA ?_
    try refine andA ?_
    obtain ⟨c411,hr6,hs1⟩ := bind_ok hs1
    refine Cl_sA (zgL hr6) ?_
    try refine sA ?_
    refine Bs_if hs1 (fun hs1 hc7 => ?_) (fun hs1 hc7 => ?_)
    ·try refine sA ?_
     cases hs1
     cases hk1
     try dsimp only at h
     try refine sA ?_
     obtain rfl:=Option.some.inj h
     exact endsA ⟨[(6,(I c411))],[],0,39⟩ []
    ·try refine sA ?_
     cases hs1
     exact X_backP hk1 (weakA [])
  ·try refine sA ?_
   cases hs1
   cases hk1
   try dsimp only at h
   try refine sA ?_
   refine Bs_if h (fun h hc8 => ?_) (fun h hc8 => ?_)
   ·try refine sA ?_
    obtain rfl:=Option.some.inj h
    exact endsA ⟨[(6,(I (-1)))],[],0,39⟩ []
   ·try refine sA ?_
    obtain rfl:=Option.some.inj h
    exact endsA ⟨[(6,(I 0))],[],0,39⟩ []
theorem zea {a0 : (List EventT)} {a1 : (List EventT)} {r : Int} (h : zaC a0 a1 = some r) : Fn Tryz.prog 134 [(.lf true (.sl (a0.map eEvent))),(.lf true (.sl (a1.map eEvent)))] [] 0 (I r) [] 0 := by
 unfold zaC at h
 refine fn_code tab_ok mixed [] Tryz.func134 rfl rfl (by simp [Tryz.f134]) (by kernel_rfl) ?_
 simp only [Tryz.f134]
 refine sA ?_
 obtain ⟨c415,hr1,h⟩ := bind_ok h
 refine Cl_sA (zcm hr1) ?_
 try refine sA ?_
 obtain rfl:=Option.some.inj h
 exact endsA ⟨[(4,(I c415))],[],0,8⟩ []
theorem zfc {a0 : (List EventT)} {a1 : (List EventT)} {r : Bool} (h : zbg a0 a1 = some r) : Fn Tryz.prog 136 [(.lf true (.sl (a0.map eEvent))),(.lf true (.sl (a1.map eEvent)))] [] 0 (B r) [] 0 := by
 unfold zbg at h
 refine fn_code tab_ok mixed [(1000,[(0,0),(1,0)]),(1001,[(0,0),(1,0),(10,0)]),(1002,[(4,0)]),(1003,[(0,0),(1,0),(12,0),(13,0)]),(1004,[(0,0),(1,0),(12,0),(13,0),(14,0)]),(1005,[(0,0),(1,0),(5,0),(12,0),(13,0)]),(1006,[(0,0),(1,0),(12,0),(13,0),(24,0)]),(1007,[(4,0)]),(1008,[(0,0),(1,0),(12,0),(13,0)]),(1009,[(4,0)])] Tryz.func136 rfl rfl (by simp [Tryz.f136]) (by kernel_rfl) ?_
 simp only [Tryz.f136]
 refine sA ?_
 refine Bs_if h (fun h hc1 => ?_) (fun h hc1 => ?_)
 ·try refine sA ?_
  obtain rfl:=Option.some.inj h
  exact endsA ⟨[(4,(B false))],[],0,26⟩ []
 ·try refine sA ?_
  obtain ⟨y418,hl2,h⟩ := bind_ok h
  refine W_loopP (fun g417 : zaB => ⟨[(0,(.lf true (.sl (a0.map eEvent)))),(1,(.lf true (.sl (a1.map eEvent)))),(12,(I ((a0.length : Nat) : Int))),(13,(I g417.t13))],[],0,26⟩) (zJ a0 a1) _ _ hl2 (weakA []) ?_
  ·intro n1 g417 z1 hs1 hk1
   unfold zJ at hs1
   try dsimp only at hs1
   refine sA ?_
   refine Bs_if hs1 (fun hs1 hc3 => ?_) (fun hs1 hc3 => ?_)
   ·try refine sA ?_
    obtain ⟨hp4,hs1⟩ := guard_some hs1
    have hn4 : g417.t13.toNat < a0.length := by first | omega | (simp only [List.length_set,List.length_append,List.length_replicate,List.length_map]; omega)
    try refine sA ?_
    try refine andA ?_
    obtain ⟨hp5,hs1⟩ := guard_some hs1
    have hn5 : g417.t13.toNat < a1.length := by first | omega | (simp only [List.length_set,List.length_append,List.length_replicate,List.length_map]; omega)
    try refine sA ?_
    try refine andA ?_
    first | refine And.intro ⟨by kernel_rfl,by kernel_rfl,by kernel_rfl⟩ ?_ | skip
    try refine sA ?_
    refine Bs_if hs1 (fun hs1 hc7 => ?_) (fun hs1 hc7 => ?_)
    ·try refine sA ?_
     cases hs1
     cases hk1
     try dsimp only at h
     try refine sA ?_
     obtain rfl:=Option.some.inj h
     exact endsA ⟨[(4,(B false))],[],0,26⟩ []
    ·try refine sA ?_
     cases hs1
     exact X_backP hk1 (weakA [])
   ·try refine sA ?_
    cases hs1
    cases hk1
    try dsimp only at h
    try refine sA ?_
    obtain rfl:=Option.some.inj h
    exact endsA ⟨[(4,(B true))],[],0,26⟩ []
theorem ze2 {a0 : (List EventT)} {a1 : (List EventT)} {r : Bool} (h : zcT a0 a1 = some r) : Fn Tryz.prog 64 [(.lf true (.sl (a0.map eEvent))),(.lf true (.sl (a1.map eEvent)))] [] 0 (B r) [] 0 := by
 unfold zcT at h
 refine fn_code tab_ok mixed [] Tryz.func64 rfl rfl (by simp [Tryz.f64]) (by kernel_rfl) ?_
 simp only [Tryz.f64]
 refine sA ?_
 refine Sp_if h (fun h hc1 => ?_) (fun h hc1 => ?_)
 ·try refine sA ?_
  obtain ⟨hp2,h⟩ := guard_some h
  try refine sA ?_
  try refine andA ?_
  obtain ⟨c421,hr3,h⟩ := bind_ok h
  refine Cl_sA (zfc hr3) ?_
  try refine sA ?_
  obtain rfl:=Option.some.inj h
  exact endsA ⟨[(4,(B c421))],[],0,18⟩ []
 ·try refine sA ?_
  obtain rfl:=Option.some.inj h
  exact endsA ⟨[(4,(B false))],[],0,18⟩ []
theorem zf2 {a0 : TellingsT} {r : Bool} (h : zbS a0 = some r) : Fn Tryz.prog 60 [(.ag [(.lf true (.sl (a0.Branches.map eBranch)))])] [] 0 (B r) [] 0 := by
 unfold zbS at h
 refine fn_code tab_ok mixed [(1000,[(1,0)]),(1001,[(1,0),(10,0)]),(1002,[(2,0)]),(1003,[(1,0),(12,0),(13,0),(14,0)]),(1004,[(1,0),(12,0),(13,0),(14,0),(15,0)]),(1005,[(1,0),(3,0),(4,0),(12,0),(13,0),(14,0)]),(1006,[(1,0),(3,0),(4,0),(12,0),(13,0),(14,0),(22,0)]),(1007,[(2,0)]),(1008,[(1,0),(4,0),(12,0),(13,0),(14,0),(26,0),(27,0),(28,0)]),(1009,[(1,0),(4,0),(12,0),(13,0),(14,0),(26,0),(27,0),(28,0),(29,0)]),(1010,[(1,0),(4,0),(6,0),(12,0),(13,0),(14,0),(26,0),(27,0),(28,0)]),(1011,[(1,0),(4,0),(12,0),(13,0),(14,0),(26,0),(27,0),(28,0),(44,0)]),(1012,[(2,0)]),(1013,[(1,0),(4,0),(12,0),(13,0),(14,0),(26,0),(27,0),(28,0)]),(1014,[(1,0),(12,0),(13,0),(14,0)]),(1015,[(2,0)]),(4011,[])] Tryz.func60 rfl rfl (by simp [Tryz.f60]) (by kernel_rfl) ?_
 simp only [Tryz.f60]
 refine sA ?_
 refine Bs_if h (fun h hc1 => ?_) (fun h hc1 => ?_)
 ·try refine sA ?_
  obtain rfl:=Option.some.inj h
  exact endsA ⟨[(2,(B false))],[],0,47⟩ []
 ·try refine sA ?_
  obtain ⟨y441,hl2,h⟩ := bind_ok h
  refine W_loopP (fun g308 : zai => ⟨[(1,(.pb 0 0)),(12,(.lf true (.sl (a0.Branches.map eBranch)))),(13,(I ((a0.Branches.length : Nat) : Int))),(14,(I g308.t14))],[(0,some (true,.box [(.lf true (.sl (a0.Branches.map eBranch)))]))],1,47⟩) (zak a0) _ _ hl2 (weakA [some 0]) ?_
  ·intro n1 g308 z1 hs1 hk1
   unfold zak at hs1
   try dsimp only at hs1
   refine sA ?_
   refine Bs_if hs1 (fun hs1 hc3 => ?_) (fun hs1 hc3 => ?_)
   ·try refine sA ?_
    obtain ⟨hp4,hs1⟩ := guard_some hs1
    have hn4 : g308.t14.toNat < a0.Branches.length := by first | omega | (simp only [List.length_set,List.length_append,List.length_replicate,List.length_map]; omega)
    try refine sA ?_
    try refine andA ?_
    obtain ⟨c430,hr5,hs1⟩ := bind_ok hs1
    refine Cl_sA (zha hr5) ?_
    try refine sA ?_
    refine Bs_if hs1 (fun hs1 hc6 => ?_) (fun hs1 hc6 => ?_)
    ·try refine sA ?_
     cases hs1
     cases hk1
     try dsimp only at h
     try refine sA ?_
     obtain rfl:=Option.some.inj h
     exact endsA ⟨[(2,(B false))],[],0,47⟩ []
    ·try refine sA ?_
     obtain ⟨hp7,hs1⟩ := guard_some hs1
     try refine sA ?_
     try refine andA ?_
     obtain ⟨y438,hl8,hs1⟩ := bind_ok hs1
     refine W_loopP (fun g431 : zb0 => ⟨[(1,(.pb 0 0)),(4,(.pb 1 0)),(12,(.lf true (.sl (a0.Branches.map eBranch)))),(13,(I ((a0.Branches.length : Nat) : Int))),(14,(I g308.t14)),(26,(.lf true (.sl ((a0.Branches.take g308.t14.toNat).map eBranch)))),(27,(I (((a0.Branches.take g308.t14.toNat).length : Nat) : Int))),(28,(I g431.t28))],[(0,some (true,.box [(.lf true (.sl (a0.Branches.map eBranch)))])),(1,some (true,.box [(.lf true (.sl (((nth a0.Branches g308.t14.toNat).Events).map eEvent)))]))],2,47⟩) (zaj a0 g308) _ _ hl8 (weakA [some 0,some 1]) ?_
     ·intro n2 g431 z2 hs2 hk2
      unfold zaj at hs2
      try dsimp only at hs2
      refine sA ?_
      refine Bs_if hs2 (fun hs2 hc9 => ?_) (fun hs2 hc9 => ?_)
      ·try refine sA ?_
       obtain ⟨hp10,hs2⟩ := guard_some hs2
       have hn10 : g431.t28.toNat < (a0.Branches.take g308.t14.toNat).length := by first | omega | (simp only [List.length_set,List.length_append,List.length_replicate,List.length_map]; omega)
       try refine sA ?_
       try refine andA ?_
       obtain ⟨p437,hq11,hs2⟩ := bind_ok hs2
       refine Sq_cut (fun s2 => s2 = ⟨[(1,(.pb 0 0)),(4,(.pb 1 0)),(12,(.lf true (.sl (a0.Branches.map eBranch)))),(13,(I ((a0.Branches.length : Nat) : Int))),(14,(I g308.t14)),(26,(.lf true (.sl ((a0.Branches.take g308.t14.toNat).map eBranch)))),(27,(I (((a0.Branches.take g308.t14.toNat).length : Nat) : Int))),(28,(I g431.t28)),(44,(B p437.t44))],[(0,some (true,.box [(.lf true (.sl (a0.Branches.map eBranch)))])),(1,some (true,.box [(.lf true (.sl (((nth a0.Branches g308.t14.toNat).Events).map eEvent)))]))],2,47⟩) ?_ ?_
       ·try refine sA ?_
        obtain ⟨c435,hr12,hq11⟩ := bind_ok hq11
        refine Cl_sA (zea hr12) ?_
        try refine sA ?_
        refine Sp_if hq11 (fun hq11 hc13 => ?_) (fun hq11 hc13 => ?_)
        ·try refine sA ?_
         cases hq11
         exact X_cut rfl (weakA [some 0,some 1])
        ·try refine sA ?_
         obtain ⟨c436,hr14,hq11⟩ := bind_ok hq11
         refine Cl_sA (ze2 hr14) ?_
         try refine sA ?_
         cases hq11
         exact X_cut rfl (weakA [some 0,some 1])
       ·intro s2 hJ; subst hJ
        try dsimp only at hs2
        try refine sA ?_
        refine Bs_if hs2 (fun hs2 hc15 => ?_) (fun hs2 hc15 => ?_)
        ·try refine sA ?_
         cases hs2
         cases hk2
         try dsimp only at hs1
         try refine sA ?_
         cases hs1
         cases hk1
         try dsimp only at h
         try refine sA ?_
         obtain rfl:=Option.some.inj h
         exact endsA ⟨[(2,(B false))],[],0,47⟩ []
        ·try refine sA ?_
         cases hs2
         exact X_backP hk2 (weakA [some 0,some 1])
      ·try refine sA ?_
       cases hs2
       cases hk2
       try dsimp only at hs1
       try refine sA ?_
       cases hs1
       exact X_backP hk1 (weakA [some 0])
   ·try refine sA ?_
    cases hs1
    cases hk1
    try dsimp only at h
    try refine sA ?_
    obtain rfl:=Option.some.inj h
    exact endsA ⟨[(2,(B true))],[],0,47⟩ []
theorem zfF {a0 : EventT} {a1 : Int} {r : Bool} (h : zcg a0 a1 = some r) : Fn Tryz.prog 126 [(.ag [(I a0.Id),(I a0.Version),(I a0.Kind),(.lf false (.sc (.string a0.Name)))]),(.ra true [.sc (.int .i64 a1)])] [] 0 (B r) [] 0 := by
 unfold zcg at h
 refine fn_code tab_ok mixed [] Tryz.func126 rfl rfl (by simp [Tryz.f126]) (by kernel_rfl) ?_
 simp only [Tryz.f126]
 refine sA ?_
 obtain rfl:=Option.some.inj h
 exact endsA ⟨[(3,(B (decide (a0.Version > a1))))],[],0,8⟩ []
theorem zcc {a0 : (List EventT)} {a1 : Int} {r : Int} (h : zq a0 a1 = some r) : Fn Tryz.prog 173 [(.lf true (.sl (a0.map eEvent))),(.fn 126 [(.ra true [.sc (.int .i64 a1)])])] [] 0 (I r) [] 0 := by
 unfold zq at h
 refine fn_code tab_ok mixed [(1000,[(0,0),(1,0)]),(1001,[(0,0),(1,0),(7,0),(8,0)]),(1002,[(0,0),(1,0),(7,0),(8,0),(9,0)]),(1003,[(0,0),(1,0),(5,0),(7,0),(8,0)]),(1004,[(0,0),(1,0),(5,0),(7,0),(8,0),(16,0)]),(1005,[(4,0)]),(1006,[(0,0),(1,0),(7,0),(8,0)]),(1007,[(4,0)])] Tryz.func173 rfl rfl (by simp [Tryz.f173]) (by kernel_rfl) ?_
 simp only [Tryz.f173]
 refine sA ?_
 obtain ⟨y450,hl1,h⟩ := bind_ok h
 refine W_loopP (fun g447 : zm => ⟨[(0,(.lf true (.sl (a0.map eEvent)))),(1,(.fn 126 [(.ra true [.sc (.int .i64 a1)])])),(7,(I ((a0.length : Nat) : Int))),(8,(I g447.t8))],[],0,19⟩) (zb a0 a1) _ _ hl1 (weakA []) ?_
 ·intro n1 g447 z1 hs1 hk1
  unfold zb at hs1
  try dsimp only at hs1
  refine sA ?_
  refine Bs_if hs1 (fun hs1 hc2 => ?_) (fun hs1 hc2 => ?_)
  ·try refine sA ?_
   obtain ⟨hp3,hs1⟩ := guard_some hs1
   have hn3 : g447.t8.toNat < a0.length := by first | omega | (simp only [List.length_set,List.length_append,List.length_replicate,List.length_map]; omega)
   try refine sA ?_
   try refine andA ?_
   obtain ⟨c449,hr4,hs1⟩ := bind_ok hs1
   refine Cl_sA (zfF hr4) ?_
   try refine sA ?_
   refine Bs_if hs1 (fun hs1 hc5 => ?_) (fun hs1 hc5 => ?_)
   ·try refine sA ?_
    cases hs1
    cases hk1
    try dsimp only at h
    try refine sA ?_
    obtain rfl:=Option.some.inj h
    exact endsA ⟨[(4,(I g447.t8))],[],0,19⟩ []
   ·try refine sA ?_
    cases hs1
    exact X_backP hk1 (weakA [])
  ·try refine sA ?_
   cases hs1
   cases hk1
   try dsimp only at h
   try refine sA ?_
   obtain rfl:=Option.some.inj h
   exact endsA ⟨[(4,(I (-1)))],[],0,19⟩ []
theorem zbV {a0 : (List EventT)} {a1 : Int} {r : Bool} (h : zg a0 a1 = some r) : Fn Tryz.prog 125 [(.lf true (.sl (a0.map eEvent))),(.fn 126 [(.ra true [.sc (.int .i64 a1)])])] [] 0 (B r) [] 0 := by
 unfold zg at h
 refine fn_code tab_ok mixed [] Tryz.func125 rfl rfl (by simp [Tryz.f125]) (by kernel_rfl) ?_
 simp only [Tryz.f125]
 refine sA ?_
 obtain ⟨c453,hr1,h⟩ := bind_ok h
 refine Cl_sA (zcc hr1) ?_
 try refine sA ?_
 obtain rfl:=Option.some.inj h
 exact endsA ⟨[(4,(B (decide (c453 ≥ 0))))],[],0,9⟩ []
theorem zgi {a0 : BranchT} {a1 : Int} {r : Bool} (h : zdt a0 a1 = some r) : Fn Tryz.prog 124 [(.ag [(.lf true (.sl (a0.Events.map eEvent)))]),(.ra true [.sc (.int .i64 a1)])] [] 0 (B r) [] 0 := by
 unfold zdt at h
 refine fn_code tab_ok mixed [] Tryz.func124 rfl rfl (by simp [Tryz.f124]) (by kernel_rfl) ?_
 simp only [Tryz.f124]
 refine sA ?_
 obtain ⟨c454,hr1,h⟩ := bind_ok h
 refine Cl_sA (zbV hr1) ?_
 try refine sA ?_
 obtain rfl:=Option.some.inj h
 exact endsA ⟨[(3,(B c454))],[],0,8⟩ []
theorem zcn {a0 : (List BranchT)} {a1 : Int} {r : Int} (h : zw a0 a1 = some r) : Fn Tryz.prog 135 [(.lf true (.sl (a0.map eBranch))),(.fn 124 [(.ra true [.sc (.int .i64 a1)])])] [] 0 (I r) [] 0 := by
 unfold zw at h
 refine fn_code tab_ok mixed [(1000,[(0,0),(1,0)]),(1001,[(0,0),(1,0),(7,0),(8,0)]),(1002,[(0,0),(1,0),(7,0),(8,0),(9,0)]),(1003,[(0,0),(1,0),(5,0),(7,0),(8,0)]),(1004,[(0,0),(1,0),(5,0),(7,0),(8,0),(16,0)]),(1005,[(4,0)]),(1006,[(0,0),(1,0),(7,0),(8,0)]),(1007,[(4,0)])] Tryz.func135 rfl rfl (by simp [Tryz.f135]) (by kernel_rfl) ?_
 simp only [Tryz.f135]
 refine sA ?_
 obtain ⟨y457,hl1,h⟩ := bind_ok h
 refine W_loopP (fun g446 : zo => ⟨[(0,(.lf true (.sl (a0.map eBranch)))),(1,(.fn 124 [(.ra true [.sc (.int .i64 a1)])])),(7,(I ((a0.length : Nat) : Int))),(8,(I g446.t8))],[],0,19⟩) (zd a0 a1) _ _ hl1 (weakA []) ?_
 ·intro n1 g446 z1 hs1 hk1
  unfold zd at hs1
  try dsimp only at hs1
  refine sA ?_
  refine Bs_if hs1 (fun hs1 hc2 => ?_) (fun hs1 hc2 => ?_)
  ·try refine sA ?_
   obtain ⟨hp3,hs1⟩ := guard_some hs1
   have hn3 : g446.t8.toNat < a0.length := by first | omega | (simp only [List.length_set,List.length_append,List.length_replicate,List.length_map]; omega)
   try refine sA ?_
   try refine andA ?_
   obtain ⟨c456,hr4,hs1⟩ := bind_ok hs1
   refine Cl_sA (zgi hr4) ?_
   try refine sA ?_
   refine Bs_if hs1 (fun hs1 hc5 => ?_) (fun hs1 hc5 => ?_)
   ·try refine sA ?_
    cases hs1
    cases hk1
    try dsimp only at h
    try refine sA ?_
    obtain rfl:=Option.some.inj h
    exact endsA ⟨[(4,(I g446.t8))],[],0,19⟩ []
   ·try refine sA ?_
    cases hs1
    exact X_backP hk1 (weakA [])
  ·try refine sA ?_
   cases hs1
   cases hk1
   try dsimp only at h
   try refine sA ?_
   obtain rfl:=Option.some.inj h
   exact endsA ⟨[(4,(I (-1)))],[],0,19⟩ []
theorem zb7 {a0 : (List BranchT)} {a1 : Int} {r : Bool} (h : zh a0 a1 = some r) : Fn Tryz.prog 62 [(.lf true (.sl (a0.map eBranch))),(.fn 124 [(.ra true [.sc (.int .i64 a1)])])] [] 0 (B r) [] 0 := by
 unfold zh at h
 refine fn_code tab_ok mixed [] Tryz.func62 rfl rfl (by simp [Tryz.f62]) (by kernel_rfl) ?_
 simp only [Tryz.f62]
 refine sA ?_
 obtain ⟨c460,hr1,h⟩ := bind_ok h
 refine Cl_sA (zcn hr1) ?_
 try refine sA ?_
 obtain rfl:=Option.some.inj h
 exact endsA ⟨[(4,(B (decide (c460 ≥ 0))))],[],0,9⟩ []
theorem zhN {a0 : Int} {a1 : TellingsT} {r : Bool} (h : zeo a0 a1 = some r) : Fn Tryz.prog 53 [(I a0),(.ag [(.lf true (.sl (a1.Branches.map eBranch)))])] [] 0 (B r) [] 0 := by
 unfold zeo at h
 refine fn_code tab_ok mixed [(1000,[(2,0),(3,0)]),(1001,[(2,0),(3,0),(12,0)]),(1002,[(4,0)]),(1003,[(4,0)]),(4001,[])] Tryz.func53 rfl rfl (by simp [Tryz.f53]) (by kernel_rfl) ?_
 simp only [Tryz.f53]
 refine sA ?_
 obtain ⟨p445,hq1,h⟩ := bind_ok h
 refine Sq_cut (fun s2 => s2 = ⟨[(2,(.pb 0 0)),(3,(.pb 1 0)),(12,(B p445.t12))],[(0,some (true,.box [(I a0)])),(1,some (true,.box [(.lf true (.sl (a1.Branches.map eBranch)))]))],2,18⟩) ?_ ?_
 ·try refine sA ?_
  obtain ⟨c307,hr2,hq1⟩ := bind_ok hq1
  refine Cl_sA (zfk hr2) ?_
  try refine sA ?_
  refine Sp_if hq1 (fun hq1 hc3 => ?_) (fun hq1 hc3 => ?_)
  ·try refine sA ?_
   cases hq1
   exact X_cut rfl (weakA [some 0,some 1])
  ·try refine sA ?_
   obtain ⟨c444,hr4,hq1⟩ := bind_ok hq1
   refine Cl_sA (zf2 hr4) ?_
   try refine sA ?_
   cases hq1
   exact X_cut rfl (weakA [some 0,some 1])
 ·intro s2 hJ; subst hJ
  try dsimp only at h
  try refine sA ?_
  refine Bs_if h (fun h hc5 => ?_) (fun h hc5 => ?_)
  ·try refine sA ?_
   obtain rfl:=Option.some.inj h
   exact endsA ⟨[(4,(B false))],[],0,18⟩ []
  ·try refine sA ?_
   obtain ⟨c461,hr6,h⟩ := bind_ok h
   refine Cl_sA (zb7 hr6) ?_
   try refine sA ?_
   obtain rfl:=Option.some.inj h
   exact endsA ⟨[(4,(B (!c461)))],[],0,18⟩ []
theorem zgM {a0 : RegionT} {r : Bool} (h : zcD a0 = some r) : Fn Tryz.prog 12 [(.ag [(I a0.Id),(I a0.Version),(.lf true (.sl (a0.Tellings.Branches.map eBranch)))])] [] 0 (B r) [] 0 := by
 unfold zcD at h
 refine fn_code tab_ok mixed [] Tryz.func12 rfl rfl (by simp [Tryz.f12]) (by kernel_rfl) ?_
 simp only [Tryz.f12]
 refine sA ?_
 obtain ⟨c305,hr1,h⟩ := bind_ok h
 refine Cl_sA (zhq hr1) ?_
 try refine sA ?_
 refine Sp_if h (fun h hc2 => ?_) (fun h hc2 => ?_)
 ·try refine sA ?_
  obtain ⟨c462,hr3,h⟩ := bind_ok h
  refine Cl_sA (zhN hr3) ?_
  try refine sA ?_
  obtain rfl:=Option.some.inj h
  exact endsA ⟨[(2,(B c462))],[],0,13⟩ []
 ·try refine sA ?_
  obtain rfl:=Option.some.inj h
  exact endsA ⟨[(2,(B false))],[],0,13⟩ []
theorem zcV {a0 : RegionT} {r : Bool} (h : zK a0 = some r) : Fn Tryz.prog 66 [(.ra true [.sc (.int .i64 a0.Id),.sc (.int .i64 a0.Version),.sl (a0.Tellings.Branches.map eBranch)])] [] 0 (B r) [] 0 := by
 unfold zK at h
 refine fn_code tab_ok mixed [] Tryz.func66 rfl rfl (by simp [Tryz.f66]) (by kernel_rfl) ?_
 simp only [Tryz.f66]
 refine sA ?_
 obtain rfl:=Option.some.inj h
 exact endsA ⟨[(2,(B ((a0.Version.tmod 10) == a0.Id)))],[],0,13⟩ []
theorem zaV {a0 : (List EventT)} {r : (List EventT)} (h : zj a0 = some r) : Fn Tryz.prog 174 [(.lf true (.sl (a0.map eEvent)))] [] 0 (.os 0 4 0 r.length r.length false) [(0,some (true,.arr false 4 (r.map eEvent)))] 1 := by
 unfold zj at h
 obtain ⟨hp,h⟩ := guard_some h
 have he := Option.some.inj h; subst he
 refine fn_code tab_ok mixed [] Tryz.func174 rfl rfl (by simp [Tryz.f174]) (by kernel_rfl) ?_
 simp only [Tryz.f174]
 simp (disch := assumption) only [go_sem,Nat.reduceAdd,Nat.reduceMul,Nat.reduceSub,Nat.reduceEqDiff,↓reduceIte,Nat.reduceLT,reduceCtorEq,Nat.reduceLeDiff,Int.reduceToNat,Int.reduceEq,Int.reduceLE,Int.reduceLT,Nat.reduceBEq]
 intro b hb
 refine Bs_splitC (b = true) (by simp) (fun hc => ?_) (fun hc => ?_)
 ·have h0 : a0 = [] := by simpa using hb (by simpa using hc)
  subst h0
  try simp (disch := assumption) only [go_sem,Nat.reduceAdd,Nat.reduceMul,Nat.reduceSub,Nat.reduceEqDiff,↓reduceIte,Nat.reduceLT,reduceCtorEq,Nat.reduceLeDiff,Int.reduceToNat,Int.reduceEq,Int.reduceLE,Int.reduceLT,Nat.reduceBEq]
  refine ends_weak ⟨[(2,(.os 0 4 0 0 0 false))],[(0,some (true,.arr false 4 (([] : List EventT).map eEvent)))],1,8⟩ (weak_of (m := 0) [none] rfl rfl rfl (by rfl) ?_ ?_) ?_
  all_goals ((try simp (disch := assumption) only [go_sem,Nat.reduceAdd,Nat.reduceMul,Nat.reduceSub,Nat.reduceEqDiff,↓reduceIte,Nat.reduceLT,reduceCtorEq,Nat.reduceLeDiff,Int.reduceToNat,Int.reduceEq,Int.reduceLE,Int.reduceLT,Nat.reduceBEq]); (repeat' first | done | rfl | omega | refine And.intro ?_ ?_ | (simp; done) | (simp; omega)))
 ·try simp (disch := assumption) only [go_sem,Nat.reduceAdd,Nat.reduceMul,Nat.reduceSub,Nat.reduceEqDiff,↓reduceIte,Nat.reduceLT,reduceCtorEq,Nat.reduceLeDiff,Int.reduceToNat,Int.reduceEq,Int.reduceLE,Int.reduceLT,Nat.reduceBEq]
  first | refine And.intro (by first | omega | exact ⟨by omega,fun _ => mapLen fun _ => rfl⟩ | (refine ⟨?_,by omega⟩; first | exact mapLen fun _ => rfl | simp)) ?_ | skip
  try simp (disch := assumption) only [go_sem,Nat.reduceAdd,Nat.reduceMul,Nat.reduceSub,Nat.reduceEqDiff,↓reduceIte,Nat.reduceLT,reduceCtorEq,Nat.reduceLeDiff,Int.reduceToNat,Int.reduceEq,Int.reduceLE,Int.reduceLT,Nat.reduceBEq]
  refine ends_weak ⟨[(2,(.os 0 4 0 a0.length a0.length false))],[(0,some (true,.arr false 4 (a0.map eEvent)))],1,8⟩ (weak_of (m := 0) [some 1] rfl rfl rfl (by rfl) ?_ ?_) ?_
  all_goals ((try simp (disch := assumption) only [go_sem,Nat.reduceAdd,Nat.reduceMul,Nat.reduceSub,Nat.reduceEqDiff,↓reduceIte,Nat.reduceLT,reduceCtorEq,Nat.reduceLeDiff,Int.reduceToNat,Int.reduceEq,Int.reduceLE,Int.reduceLT,Nat.reduceBEq]); (repeat' first | done | rfl | omega | refine And.intro ?_ ?_ | (simp; done) | (simp; omega)))
theorem zeP {a0 : TellingsT} {r : TellingsT} (h : zaP a0 = some r) : Fn Tryz.prog 127 [(.ag [(.lf true (.sl (a0.Branches.map eBranch)))])] [] 0 (.ag [(.os 0 1 0 r.Branches.length r.Branches.length false)]) [(0,some (true,.deep [.sl [.sc,.sc,.sc,.sc]] (r.Branches.map eBranch)))] 2 := by
 unfold zaP at h
 refine fn_code tab_ok mixed [(5,[(1,4),(1,6)]),(1000,[(1,0),(2,0)]),(1001,[(1,0),(2,0),(3,0)]),(1002,[(2,0),(3,0),(8,0),(9,0),(10,0)]),(1003,[(2,0),(3,0),(8,0),(9,0),(10,0),(11,0)]),(1004,[(2,0),(3,0),(5,0),(8,0),(9,0),(10,0)]),(1005,[(2,0),(3,0),(8,0),(9,0),(10,0)]),(1006,[(2,0),(3,0),(8,0),(9,0),(10,0)]),(1007,[(2,0)])] Tryz.func127 rfl rfl (by simp [Tryz.f127]) (by kernel_rfl) ?_
 simp only [Tryz.f127]
 refine sA ?_
 obtain ⟨y469,hl1,h⟩ := bind_ok h
 refine W_loopP (fun g466 : zbL => ⟨[(2,(.pb 0 0)),(3,(.pb 1 0)),(8,(.lf true (.sl (a0.Branches.map eBranch)))),(9,(I ((a0.Branches.length : Nat) : Int))),(10,(I g466.t10))],[(0,some (true,.box [.nl])),(1,some (true,.box [(.os 2 1 0 g466.c2.length g466.c2.length false)])),(2,some (true,.deep [.sl [.sc,.sc,.sc,.sc]] (g466.c2.map eBranch)))],3,25⟩) (zY a0) _ _ hl1 (weakA [some 1,some 2,none]) ?_
 ·intro n1 g466 z1 hs1 hk1
  unfold zY at hs1
  try dsimp only at hs1
  refine sA ?_
  refine Bs_if hs1 (fun hs1 hc2 => ?_) (fun hs1 hc2 => ?_)
  ·try refine sA ?_
   obtain ⟨hp3,hs1⟩ := guard_some hs1
   have hn3 : g466.t10.toNat < a0.Branches.length := by first | omega | (simp only [List.length_set,List.length_append,List.length_replicate,List.length_map]; omega)
   try refine sA ?_
   try refine andA ?_
   obtain ⟨c468,hr4,hs1⟩ := bind_ok hs1
   refine Cl_sA (zaV hr4) ?_
   try refine sA ?_
   obtain ⟨hp5,hs1⟩ := guard_some hs1
   try refine sA ?_
   try refine andA ?_
   cases hs1
   exact X_backP hk1 (packW 6 (weakA [some 0,some 1,some 6]))
  ·try refine sA ?_
   cases hs1
   cases hk1
   try dsimp only at h
   try refine sA ?_
   obtain rfl:=Option.some.inj h
   exact endsA ⟨[(2,(.pb 1 0))],[(0,some (true,.deep [.sl [.sc,.sc,.sc,.sc]] (g466.c2.map eBranch))),(1,some (true,.box [(.os 0 1 0 g466.c2.length g466.c2.length false)]))],2,25⟩ [some 2,some 0]
end Go.TL.YteonagfnhdlfcaaGreatDoor

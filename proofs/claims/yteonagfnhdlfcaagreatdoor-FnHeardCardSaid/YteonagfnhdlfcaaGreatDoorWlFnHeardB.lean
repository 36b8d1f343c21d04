import Derived.Test.YteonagfnhdlfcaaGreatDoorWlFnHeardA
set_option linter.unusedSimpArgs false
set_option linter.unusedVariables false
set_option maxRecDepth 8000
set_option maxHeartbeats 0
namespace Go.TL.YteonagfnhdlfcaaGreatDoor
open Go Go.Proofs Go.TL
theorem zcQ {a0 : (List EventT)} {a1 : Int} {r : Int} (h : zA a0 a1 = some r) : Fn Tryz.prog 173 [(.lf true (.sl (a0.map eEvent))),(.fn 126 [(.ra true [.sc (.int .i64 a1)])])] [] 0 (I r) [] 0 := by
 unfold zA at h
 refine fn_code tab_ok mixed [(1000,[(0,0),(1,0)]),(1001,[(0,0),(1,0),(7,0),(8,0)]),(1002,[(0,0),(1,0),(7,0),(8,0),(9,0)]),(1003,[(0,0),(1,0),(5,0),(7,0),(8,0)]),(1004,[(0,0),(1,0),(5,0),(7,0),(8,0),(16,0)]),(1005,[(4,0)]),(1006,[(0,0),(1,0),(7,0),(8,0)]),(1007,[(4,0)])] Tryz.func173 rfl rfl (by simp [Tryz.f173]) (by kernel_rfl) ?_
 simp only [Tryz.f173]
 refine sA ?_
 obtain ⟨y495,hl1,h⟩ := bind_ok h
 refine W_loopP (fun g492 : zt => ⟨[(0,(.lf true (.sl (a0.map eEvent)))),(1,(.fn 126 [(.ra true [.sc (.int .i64 a1)])])),(7,(I ((a0.length : Nat) : Int))),(8,(I g492.t8))],[],0,19⟩) (zc a0 a1) _ _ hl1 (weakA []) ?_
 ·intro n1 g492 z1 hs1 hk1
  unfold zc at hs1
  try dsimp only at hs1
  refine sA ?_
  refine Bs_if hs1 (fun hs1 hc2 => ?_) (fun hs1 hc2 => ?_)
  ·try refine sA ?_
   obtain ⟨hp3,hs1⟩ := guard_some hs1
   have hn3 : g492.t8.toNat < a0.length := by first | omega | (simp only [List.length_set,List.length_append,List.length_replicate,List.length_map]; omega)
   try refine sA ?_
   try refine andA ?_
   obtain ⟨c494,hr4,hs1⟩ := bind_ok hs1
   refine Cl_sA (zgu hr4) ?_
   try refine sA ?_
   refine Bs_if hs1 (fun hs1 hc5 => ?_) (fun hs1 hc5 => ?_)
   ·try refine sA ?_
    cases hs1
    cases hk1
    try dsimp only at h
    try refine sA ?_
    obtain rfl:=Option.some.inj h
    exact endsA ⟨[(4,(I g492.t8))],[],0,19⟩ []
   ·try refine sA ?_
    cases hs1
    exact X_backP hk1 (weakA [])
  ·try refine sA ?_
   cases hs1
   cases hk1
   try dsimp only at h
   try refine sA ?_
   obtain rfl:=Option.some.inj h
   exact endsA ⟨[(4,(I (-1)))],[],0,19⟩ []
theorem zcj {a0 : (List EventT)} {a1 : Int} {r : Bool} (h : zi a0 a1 = some r) : Fn Tryz.prog 125 [(.lf true (.sl (a0.map eEvent))),(.fn 126 [(.ra true [.sc (.int .i64 a1)])])] [] 0 (B r) [] 0 := by
 unfold zi at h
 refine fn_code tab_ok mixed [] Tryz.func125 rfl rfl (by simp [Tryz.f125]) (by kernel_rfl) ?_
 simp only [Tryz.f125]
 refine sA ?_
 obtain ⟨c498,hr1,h⟩ := bind_ok h
 refine Cl_sA (zcQ hr1) ?_
 try refine sA ?_
 obtain rfl:=Option.some.inj h
 exact endsA ⟨[(4,(B (decide (c498 ≥ 0))))],[],0,9⟩ []
theorem zgZ {a0 : BranchT} {a1 : Int} {r : Bool} (h : zd4 a0 a1 = some r) : Fn Tryz.prog 124 [(.ag [(.lf true (.sl (a0.Events.map eEvent)))]),(.ra true [.sc (.int .i64 a1)])] [] 0 (B r) [] 0 := by
 unfold zd4 at h
 refine fn_code tab_ok mixed [] Tryz.func124 rfl rfl (by simp [Tryz.f124]) (by kernel_rfl) ?_
 simp only [Tryz.f124]
 refine sA ?_
 obtain ⟨c499,hr1,h⟩ := bind_ok h
 refine Cl_sA (zcj hr1) ?_
 try refine sA ?_
 obtain rfl:=Option.some.inj h
 exact endsA ⟨[(3,(B c499))],[],0,8⟩ []
theorem zc3 {a0 : (List BranchT)} {a1 : Int} {r : Int} (h : zG a0 a1 = some r) : Fn Tryz.prog 135 [(.lf true (.sl (a0.map eBranch))),(.fn 124 [(.ra true [.sc (.int .i64 a1)])])] [] 0 (I r) [] 0 := by
 unfold zG at h
 refine fn_code tab_ok mixed [(1000,[(0,0),(1,0)]),(1001,[(0,0),(1,0),(7,0),(8,0)]),(1002,[(0,0),(1,0),(7,0),(8,0),(9,0)]),(1003,[(0,0),(1,0),(5,0),(7,0),(8,0)]),(1004,[(0,0),(1,0),(5,0),(7,0),(8,0),(16,0)]),(1005,[(4,0)]),(1006,[(0,0),(1,0),(7,0),(8,0)]),(1007,[(4,0)])] Tryz.func135 rfl rfl (by simp [Tryz.f135]) (by kernel_rfl) ?_
 simp only [Tryz.f135]
 refine sA ?_
 obtain ⟨y502,hl1,h⟩ := bind_ok h
 refine W_loopP (fun g491 : zx => ⟨[(0,(.lf true (.sl (a0.map eBranch)))),(1,(.fn 124 [(.ra true [.sc (.int .i64 a1)])])),(7,(I ((a0.length : Nat) : Int))),(8,(I g491.t8))],[],0,19⟩) (ze a0 a1) _ _ hl1 (weakA []) ?_
 ·intro n1 g491 z1 hs1 hk1
  unfold ze at hs1
  try dsimp only at hs1
  refine sA ?_
  refine Bs_if hs1 (fun hs1 hc2 => ?_) (fun hs1 hc2 => ?_)
  ·try refine sA ?_
   obtain ⟨hp3,hs1⟩ := guard_some hs1
   have hn3 : g491.t8.toNat < a0.length := by first | omega | (simp only [List.length_set,List.length_append,List.length_replicate,List.length_map]; omega)
   try refine sA ?_
   try refine andA ?_
   obtain ⟨c501,hr4,hs1⟩ := bind_ok hs1
   refine Cl_sA (zgZ hr4) ?_
   try refine sA ?_
   refine Bs_if hs1 (fun hs1 hc5 => ?_) (fun hs1 hc5 => ?_)
   ·try refine sA ?_
    cases hs1
    cases hk1
    try dsimp only at h
    try refine sA ?_
    obtain rfl:=Option.some.inj h
    exact endsA ⟨[(4,(I g491.t8))],[],0,19⟩ []
   ·try refine sA ?_
    cases hs1
    exact X_backP hk1 (weakA [])
  ·try refine sA ?_
   cases hs1
   cases hk1
   try dsimp only at h
   try refine sA ?_
   obtain rfl:=Option.some.inj h
   exact endsA ⟨[(4,(I (-1)))],[],0,19⟩ []
theorem zcF {a0 : (List BranchT)} {a1 : Int} {r : Bool} (h : zj a0 a1 = some r) : Fn Tryz.prog 62 [(.lf true (.sl (a0.map eBranch))),(.fn 124 [(.ra true [.sc (.int .i64 a1)])])] [] 0 (B r) [] 0 := by
 unfold zj at h
 refine fn_code tab_ok mixed [] Tryz.func62 rfl rfl (by simp [Tryz.f62]) (by kernel_rfl) ?_
 simp only [Tryz.f62]
 refine sA ?_
 obtain ⟨c505,hr1,h⟩ := bind_ok h
 refine Cl_sA (zc3 hr1) ?_
 try refine sA ?_
 obtain rfl:=Option.some.inj h
 exact endsA ⟨[(4,(B (decide (c505 ≥ 0))))],[],0,9⟩ []
theorem zgM {a0 : Int} {a1 : TellingsT} {r : Bool} (h : zef a0 a1 = some r) : Fn Tryz.prog 53 [(I a0),(.ag [(.lf true (.sl (a1.Branches.map eBranch)))])] [] 0 (B r) [] 0 := by
 unfold zef at h
 refine fn_code tab_ok mixed [(1000,[(2,0),(3,0)]),(1001,[(2,0),(3,0),(12,0)]),(1002,[(4,0)]),(1003,[(4,0)]),(4001,[])] Tryz.func53 rfl rfl (by simp [Tryz.f53]) (by kernel_rfl) ?_
 simp only [Tryz.f53]
 refine sA ?_
 obtain ⟨p490,hq1,h⟩ := bind_ok h
 refine Sq_cut (fun s2 => s2 = ⟨[(2,(.pb 0 0)),(3,(.pb 1 0)),(12,(B p490.t12))],[(0,some (true,.box [(I a0)])),(1,some (true,.box [(.lf true (.sl (a1.Branches.map eBranch)))]))],2,18⟩) ?_ ?_
 ·try refine sA ?_
  obtain ⟨c352,hr2,hq1⟩ := bind_ok hq1
  refine Cl_sA (zf0 hr2) ?_
  try refine sA ?_
  refine Sp_if hq1 (fun hq1 hc3 => ?_) (fun hq1 hc3 => ?_)
  ·try refine sA ?_
   cases hq1
   exact X_cut rfl (weakA [some 0,some 1])
  ·try refine sA ?_
   obtain ⟨c489,hr4,hq1⟩ := bind_ok hq1
   refine Cl_sA (zbC hr4) ?_
   try refine sA ?_
   cases hq1
   exact X_cut rfl (weakA [some 0,some 1])
 ·intro s2 hJ; subst hJ
  try dsimp only at h
  try refine sA ?_
  refine Bs_if h (fun h hc5 => ?_) (fun h hc5 => ?_)
  ·try refine sA ?_
   obtain rfl:=Option.some.inj h
   exact endsA ⟨[(4,(B false))],[],0,18⟩ []
  ·try refine sA ?_
   obtain ⟨c506,hr6,h⟩ := bind_ok h
   refine Cl_sA (zcF hr6) ?_
   try refine sA ?_
   obtain rfl:=Option.some.inj h
   exact endsA ⟨[(4,(B (!c506)))],[],0,18⟩ []
theorem zck {a0 : RegionT} {r : Bool} (h : zao a0 = some r) : Fn Tryz.prog 12 [(.ag [(I a0.Id),(I a0.Version),(.lf true (.sl (a0.Tellings.Branches.map eBranch)))])] [] 0 (B r) [] 0 := by
 unfold zao at h
 refine fn_code tab_ok mixed [] Tryz.func12 rfl rfl (by simp [Tryz.f12]) (by kernel_rfl) ?_
 simp only [Tryz.f12]
 refine sA ?_
 obtain ⟨c350,hr1,h⟩ := bind_ok h
 refine Cl_sA (zhK hr1) ?_
 try refine sA ?_
 refine Sp_if h (fun h hc2 => ?_) (fun h hc2 => ?_)
 ·try refine sA ?_
  obtain ⟨c507,hr3,h⟩ := bind_ok h
  refine Cl_sA (zgM hr3) ?_
  try refine sA ?_
  obtain rfl:=Option.some.inj h
  exact endsA ⟨[(2,(B c507))],[],0,13⟩ []
 ·try refine sA ?_
  obtain rfl:=Option.some.inj h
  exact endsA ⟨[(2,(B false))],[],0,13⟩ []
theorem zbe {a0 : (List EventT)} {r : (List EventT)} (h : zk a0 = some r) : Fn Tryz.prog 174 [(.lf true (.sl (a0.map eEvent)))] [] 0 (.os 0 4 0 r.length r.length false) [(0,some (true,.arr false 4 (r.map eEvent)))] 1 := by
 unfold zk at h
 obtain ⟨hp,h⟩ := guard_some h
 have he := Option.some.inj h; subst he
 refine fn_code tab_ok mixed [] Tryz.func174 rfl rfl (by simp [Tryz.f174]) (by kernel_rfl) ?_
 simp only [Tryz.f174]
 simp (disch := assumption) only [go_sem,Nat.reduceAdd,Nat.reduceMul,Nat.reduceSub,Nat.reduceEqDiff,↓reduceIte,Nat.reduceLT,reduceCtorEq,Nat.reduceLeDiff,Int.reduceToNat,Int.reduceEq,Int.reduceLE,Int.reduceLT,Nat.reduceBEq]
 intro b hb
 refine Bs_splitC (b = true) (by simp) (fun hc => ?_) (fun hc => ?_)
 ·have h0 : a0 = [] := by simpa using hb (by simpa using hc)
  subst h0
  try simp (disch := assumption) only [go_sem,Nat.reduceAdd,Nat.reduceMul,Nat.reduceSub,Nat.reduceEqDiff,↓reduceIte,Nat.reduceLT,reduceCtorEq,Nat.reduceLeDiff,Int.reduceToNat,Int.reduceEq,Int.reduceLE,Int.reduceLT,Nat.reduceBEq]
  refine ends_weak ⟨[(2,(.os 0 4 0 0 0 false))],[(0,some (true,.arr false 4 (([] : List EventT).map eEvent)))],1,8⟩ (weak_of (m := 0) [none] rfl rfl rfl (by rfl) ?_ ?_) ?_
  all_goals ((try simp (disch := assumption) only [go_sem,Nat.reduceAdd,Nat.reduceMul,Nat.reduceSub,Nat.reduceEqDiff,↓reduceIte,Nat.reduceLT,reduceCtorEq,Nat.reduceLeDiff,Int.reduceToNat,Int.reduceEq,Int.reduceLE,Int.reduceLT,Nat.reduceBEq]); (repeat' first | done | rfl | omega | refine And.intro ?_ ?_ | (simp; done) | (simp; omega)))
 ·try simp (disch := assumption) only [go_sem,Nat.reduceAdd,Nat.reduceMul,Nat.reduceSub,Nat.reduceEqDiff,↓reduceIte,Nat.reduceLT,reduceCtorEq,Nat.reduceLeDiff,Int.reduceToNat,Int.reduceEq,Int.reduceLE,Int.reduceLT,Nat.reduceBEq]
  first | refine And.intro (by first | omega | exact ⟨by omega,fun _ => mapLen fun _ => rfl⟩ | (refine ⟨?_,by omega⟩; first | exact mapLen fun _ => rfl | simp)) ?_ | skip
  try simp (disch := assumption) only [go_sem,Nat.reduceAdd,Nat.reduceMul,Nat.reduceSub,Nat.reduceEqDiff,↓reduceIte,Nat.reduceLT,reduceCtorEq,Nat.reduceLeDiff,Int.reduceToNat,Int.reduceEq,Int.reduceLE,Int.reduceLT,Nat.reduceBEq]
  refine ends_weak ⟨[(2,(.os 0 4 0 a0.length a0.length false))],[(0,some (true,.arr false 4 (a0.map eEvent)))],1,8⟩ (weak_of (m := 0) [some 1] rfl rfl rfl (by rfl) ?_ ?_) ?_
  all_goals ((try simp (disch := assumption) only [go_sem,Nat.reduceAdd,Nat.reduceMul,Nat.reduceSub,Nat.reduceEqDiff,↓reduceIte,Nat.reduceLT,reduceCtorEq,Nat.reduceLeDiff,Int.reduceToNat,Int.reduceEq,Int.reduceLE,Int.reduceLT,Nat.reduceBEq]); (repeat' first | done | rfl | omega | refine And.intro ?_ ?_ | (simp; done) | (simp; omega)))
theorem zcu {a0 : TellingsT} {r : TellingsT} (h : zP a0 = some r) : Fn Tryz.prog 127 [(.ag [(.lf true (.sl (a0.Branches.map eBranch)))])] [] 0 (.ag [(.os 0 1 0 r.Branches.length r.Branches.length false)]) [(0,some (true,.deep [.sl [.sc,.sc,.sc,.sc]] (r.Branches.map eBranch)))] 2 := by
 unfold zP at h
 refine fn_code tab_ok mixed [(5,[(1,4),(1,6)]),(1000,[(1,0),(2,0)]),(1001,[(1,0),(2,0),(3,0)]),(1002,[(2,0),(3,0),(8,0),(9,0),(10,0)]),(1003,[(2,0),(3,0),(8,0),(9,0),(10,0),(11,0)]),(1004,[(2,0),(3,0),(5,0),(8,0),(9,0),(10,0)]),(1005,[(2,0),(3,0),(8,0),(9,0),(10,0)]),(1006,[(2,0),(3,0),(8,0),(9,0),(10,0)]),(1007,[(2,0)])] Tryz.func127 rfl rfl (by simp [Tryz.f127]) (by kernel_rfl) ?_
 simp only [Tryz.f127]
 refine sA ?_
 obtain ⟨y514,hl1,h⟩ := bind_ok h
 refine W_loopP (fun g511 : zb9 => ⟨[(2,(.pb 0 0)),(3,(.pb 1 0)),(8,(.lf true (.sl (a0.Branches.map eBranch)))),(9,(I ((a0.Branches.length : Nat) : Int))),(10,(I g511.t10))],[(0,some (true,.box [.nl])),(1,some (true,.box [(.os 2 1 0 g511.c2.length g511.c2.length false)])),(2,some (true,.deep [.sl [.sc,.sc,.sc,.sc]] (g511.c2.map eBranch)))],3,25⟩) (zz a0) _ _ hl1 (weakA [some 1,some 2,none]) ?_
 ·intro n1 g511 z1 hs1 hk1
  unfold zz at hs1
  try dsimp only at hs1
  refine sA ?_
  refine Bs_if hs1 (fun hs1 hc2 => ?_) (fun hs1 hc2 => ?_)
  ·try refine sA ?_
   obtain ⟨hp3,hs1⟩ := guard_some hs1
   have hn3 : g511.t10.toNat < a0.Branches.length := by first | omega | (simp only [List.length_set,List.length_append,List.length_replicate,List.length_map]; omega)
   try refine sA ?_
   try refine andA ?_
   obtain ⟨c513,hr4,hs1⟩ := bind_ok hs1
   refine Cl_sA (zbe hr4) ?_
   try refine sA ?_
   obtain ⟨hp5,hs1⟩ := guard_some hs1
   try refine sA ?_
   try refine andA ?_
   cases hs1
   exact X_backP hk1 (packW 6 (weakA [some 0,some 1,some 6]))
  ·try refine sA ?_
   cases hs1
   cases hk1
   try dsimp only at h
   try refine sA ?_
   obtain rfl:=Option.some.inj h
   exact endsA ⟨[(2,(.pb 1 0))],[(0,some (true,.deep [.sl [.sc,.sc,.sc,.sc]] (g511.c2.map eBranch))),(1,some (true,.box [(.os 0 1 0 g511.c2.length g511.c2.length false)]))],2,25⟩ [some 2,some 0]
theorem zfB {a0 : RegionT} {r : RegionT} (h : zbH a0 = some r) : Fn Tryz.prog 54 [(.ag [(I a0.Id),(I a0.Version),(.lf true (.sl (a0.Tellings.Branches.map eBranch)))])] [] 0 (.ag [(I r.Id),(I r.Version),(.os 0 1 0 r.Tellings.Branches.length r.Tellings.Branches.length false)]) [(0,some (true,.deep [.sl [.sc,.sc,.sc,.sc]] (r.Tellings.Branches.map eBranch)))] 2 := by
 unfold zbH at h
 refine fn_code tab_ok mixed [(1000,[(1,0),(2,0)]),(1001,[(1,0),(2,0)]),(1002,[(2,0)])] Tryz.func54 rfl rfl (by simp [Tryz.f54]) (by kernel_rfl) ?_
 simp only [Tryz.f54]
 refine sA ?_
 obtain ⟨c515,hr1,h⟩ := bind_ok h
 refine Cl_sA (zcu hr1) ?_
 try refine sA ?_
 obtain rfl:=Option.some.inj h
 exact endsA ⟨[(2,(.pb 1 0))],[(0,some (true,.deep [.sl [.sc,.sc,.sc,.sc]] (c515.Branches.map eBranch))),(1,some (true,.box [(I a0.Id),(I a0.Version),(.os 0 1 0 c515.Branches.length c515.Branches.length false)]))],2,8⟩ [some 2,some 1]
theorem zhi {a0 : BranchT} {a1 : (List EventT)} {r : Bool} (h : zet a0 a1 = some r) : Fn Tryz.prog 216 [(.ag [(.lf true (.sl (a0.Events.map eEvent)))]),(.ra true [.sl (a1.map eEvent)])] [] 0 (B r) [] 0 := by
 unfold zet at h
 refine fn_code tab_ok mixed [] Tryz.func216 rfl rfl (by simp [Tryz.f216]) (by kernel_rfl) ?_
 simp only [Tryz.f216]
 refine sA ?_
 obtain ⟨c524,hr1,h⟩ := bind_ok h
 refine Cl_sA (zfb hr1) ?_
 try refine sA ?_
 obtain rfl:=Option.some.inj h
 exact endsA ⟨[(3,(B c524))],[],0,8⟩ []
theorem zdv {a0 : (List BranchT)} {a1 : (List EventT)} {r : Int} (h : zJ a0 a1 = some r) : Fn Tryz.prog 135 [(.lf true (.sl (a0.map eBranch))),(.fn 216 [(.ra true [.sl (a1.map eEvent)])])] [] 0 (I r) [] 0 := by
 unfold zJ at h
 refine fn_code tab_ok mixed [(1000,[(0,0),(1,0)]),(1001,[(0,0),(1,0),(7,0),(8,0)]),(1002,[(0,0),(1,0),(7,0),(8,0),(9,0)]),(1003,[(0,0),(1,0),(5,0),(7,0),(8,0)]),(1004,[(0,0),(1,0),(5,0),(7,0),(8,0),(16,0)]),(1005,[(4,0)]),(1006,[(0,0),(1,0),(7,0),(8,0)]),(1007,[(4,0)])] Tryz.func135 rfl rfl (by simp [Tryz.f135]) (by kernel_rfl) ?_
 simp only [Tryz.f135]
 refine sA ?_
 obtain ⟨y527,hl1,h⟩ := bind_ok h
 refine W_loopP (fun g523 : zB => ⟨[(0,(.lf true (.sl (a0.map eBranch)))),(1,(.fn 216 [(.ra true [.sl (a1.map eEvent)])])),(7,(I ((a0.length : Nat) : Int))),(8,(I g523.t8))],[],0,19⟩) (zf a0 a1) _ _ hl1 (weakA []) ?_
 ·intro n1 g523 z1 hs1 hk1
  unfold zf at hs1
  try dsimp only at hs1
  refine sA ?_
  refine Bs_if hs1 (fun hs1 hc2 => ?_) (fun hs1 hc2 => ?_)
  ·try refine sA ?_
   obtain ⟨hp3,hs1⟩ := guard_some hs1
   have hn3 : g523.t8.toNat < a0.length := by first | omega | (simp only [List.length_set,List.length_append,List.length_replicate,List.length_map]; omega)
   try refine sA ?_
   try refine andA ?_
   obtain ⟨c526,hr4,hs1⟩ := bind_ok hs1
   refine Cl_sA (zhi hr4) ?_
   try refine sA ?_
   refine Bs_if hs1 (fun hs1 hc5 => ?_) (fun hs1 hc5 => ?_)
   ·try refine sA ?_
    cases hs1
    cases hk1
    try dsimp only at h
    try refine sA ?_
    obtain rfl:=Option.some.inj h
    exact endsA ⟨[(4,(I g523.t8))],[],0,19⟩ []
   ·try refine sA ?_
    cases hs1
    exact X_backP hk1 (weakA [])
  ·try refine sA ?_
   cases hs1
   cases hk1
   try dsimp only at h
   try refine sA ?_
   obtain rfl:=Option.some.inj h
   exact endsA ⟨[(4,(I (-1)))],[],0,19⟩ []
theorem zcR {a0 : (List BranchT)} {a1 : (List EventT)} {r : Bool} (h : zm a0 a1 = some r) : Fn Tryz.prog 62 [(.lf true (.sl (a0.map eBranch))),(.fn 216 [(.ra true [.sl (a1.map eEvent)])])] [] 0 (B r) [] 0 := by
 unfold zm at h
 refine fn_code tab_ok mixed [] Tryz.func62 rfl rfl (by simp [Tryz.f62]) (by kernel_rfl) ?_
 simp only [Tryz.f62]
 refine sA ?_
 obtain ⟨c530,hr1,h⟩ := bind_ok h
 refine Cl_sA (zdv hr1) ?_
 try refine sA ?_
 obtain rfl:=Option.some.inj h
 exact endsA ⟨[(4,(B (decide (c530 ≥ 0))))],[],0,9⟩ []
theorem zhj {a0 : BranchT} {a1 : (List EventT)} {r : Bool} (h : zaN a0 a1 = some r) : Fn Tryz.prog 218 [(.ag [(.lf true (.sl (a0.Events.map eEvent)))]),(.ra true [.sl (a1.map eEvent)])] [] 0 (B r) [] 0 := by
 unfold zaN at h
 refine fn_code tab_ok mixed [] Tryz.func218 rfl rfl (by simp [Tryz.f218]) (by kernel_rfl) ?_
 simp only [Tryz.f218]
 refine sA ?_
 obtain ⟨c532,hr1,h⟩ := bind_ok h
 refine Cl_sA (zfb hr1) ?_
 try refine sA ?_
 obtain rfl:=Option.some.inj h
 exact endsA ⟨[(3,(B c532))],[],0,8⟩ []
theorem zeN {a0 : List BranchT} {a1 : List EventT} {m0 : Nat} {x0 : Bool} {r : List BranchT} (h : zN a0 a1 = some r) : Fn Tryz.prog 217 [(.os 0 1 0 a0.length m0 x0),(.fn 218 [(.pb 1 0)])] [(0,some (false,.deep [.sl [.sc,.sc,.sc,.sc]] (a0.map eBranch))),(1,some (false,.box [(.lf true (.sl (a1.map eEvent)))]))] 2 (.os 0 1 0 r.length r.length false) [(0,some (false,.deep [.sl [.sc,.sc,.sc,.sc]] (r.map eBranch))),(1,some (false,.box [(.lf true (.sl (a1.map eEvent)))]))] 2 := by
 unfold zN at h
 obtain ⟨⟨hp1,hp2⟩,h⟩ := guard_some h
 have he := Option.some.inj h; subst he
 refine fn_delD (E := eBranch) (X := fun b : BranchT => .sl (b.Events.map eEvent)) (fun _ => rfl) (p := fun b => (zaN b a1).getD false) (fun x y e => by rw [row_inj e]) (enters_of (P := Tryz.prog) Tryz.func218 (by kernel_rfl) rfl) (fun b hb => ?_) hp1
 have hs := List.all_eq_true.1 hp2 b hb
 obtain ⟨v,hv⟩ := Option.isSome_iff_exists.1 hs
 rw [hv]
 exact ⟨_,zhj hv⟩
theorem zhM {a0 : BranchT} {a1 : BranchT} {r : Int} (h : ze9 a0 a1 = some r) : Fn Tryz.prog 220 [(.ag [(.lf true (.sl (a0.Events.map eEvent)))]),(.ag [(.lf true (.sl (a1.Events.map eEvent)))])] [] 0 (I r) [] 0 := by
 unfold ze9 at h
 refine fn_code tab_ok mixed [] Tryz.func220 rfl rfl (by simp [Tryz.f220]) (by kernel_rfl) ?_
 simp only [Tryz.f220]
 refine sA ?_
 obtain ⟨c539,hr1,h⟩ := bind_ok h
 refine Cl_sA (zeM hr1) ?_
 try refine sA ?_
 obtain rfl:=Option.some.inj h
 exact endsA ⟨[(4,(I c539))],[],0,10⟩ []
theorem ze0 {a0 : List BranchT} {m0 : Nat} {x0 : Bool} {r : List BranchT} (h : zT a0 = some r) : Fn Tryz.prog 219 [(.os 0 1 0 a0.length m0 x0),(.fn 220 [])] [(0,some (false,.deep [.sl [.sc,.sc,.sc,.sc]] (a0.map eBranch)))] 1 (.tu []) [(0,some (false,.deep [.sl [.sc,.sc,.sc,.sc]] (r.map eBranch)))] 1 := by
 unfold zT at h
 obtain ⟨⟨hp1,hp2,hp3⟩,h⟩ := guard_some h
 have he := Option.some.inj h; subst he
 have e1 : Ent Tryz.prog (Tryz.sortB_ren.f 6) := (Ent.of Tryz.func219 rfl (by simp [Tryz.f219]) : Ent Tryz.prog 219)
 have e2 := enters_of (P := Tryz.prog) Tryz.func220 (by kernel_rfl) rfl
 have key := fn_sortD (s := .sl [.sc,.sc,.sc,.sc]) (E := eBranch) (X := fun b : BranchT => .sl (b.Events.map eEvent)) Go.Proofs.Tryz.sortB e1 Tryz.sortBAgg Tryz.sortBSize (fun _ => rfl) (cf := fun a b => (cmpL a.Events b.Events).1) branch_swoB e2 (l := a0) (R := sortO brL a0) (fun x hx y hy => ⟨_,zhM (by have h1 := List.all_eq_true.1 hp2 x hx; have h2 := List.all_eq_true.1 hp2 y hy; exact closureB (of_decide_eq_true h1) (of_decide_eq_true h2))⟩) (x0 := x0) (m0 := m0) hp1 (fun r hp hs => sortB_one hp3 hp hs)
 have e0 : Tryz.sortB_ren.f 6 = 219 := rfl
 rw [e0] at key
 exact key
theorem zf6 {a0 : TellingsT} {a1 : (List EventT)} {r : TellingsT} (h : zcs a0 a1 = some r) : Fn Tryz.prog 175 [(.ag [(.lf true (.sl (a0.Branches.map eBranch)))]),(.lf true (.sl (a1.map eEvent)))] [] 0 (.ag [(.os 0 1 0 r.Branches.length r.Branches.length false)]) [(0,some (true,.deep [.sl [.sc,.sc,.sc,.sc]] (r.Branches.map eBranch)))] 2 := by
 unfold zcs at h
 refine fn_code tab_ok mixed [(5,[(1,3),(1,5)]),(1000,[(2,0),(3,0),(4,0)]),(1001,[(3,0),(4,0),(5,0)]),(1002,[(3,0),(4,0),(5,0),(11,0)]),(1003,[(4,0)]),(1004,[(3,0),(4,0),(5,0)]),(1005,[(4,0),(5,0)]),(1006,[(4,0),(5,0)]),(1007,[(4,0)]),(5006,[])] Tryz.func175 rfl rfl (by simp [Tryz.f175]) (by kernel_rfl) ?_
 simp only [Tryz.f175]
 refine sA ?_
 obtain ⟨c535,hr1,h⟩ := bind_ok h
 refine Cl_sA (zcu hr1) ?_
 try refine sA ?_
 obtain ⟨c536,hr2,h⟩ := bind_ok h
 refine Cl_sA (zcR hr2) ?_
 try refine sA ?_
 refine Bs_if h (fun h hc3 => ?_) (fun h hc3 => ?_)
 ·try refine sA ?_
  obtain rfl:=Option.some.inj h
  exact endsA ⟨[(4,(.pb 1 0))],[(0,some (true,.deep [.sl [.sc,.sc,.sc,.sc]] (c535.Branches.map eBranch))),(1,some (true,.box [(.os 0 1 0 c535.Branches.length c535.Branches.length false)]))],2,30⟩ [some 3,some 2]
 ·try refine sA ?_
  obtain ⟨c537,hr4,h⟩ := bind_ok h
  refine Cl_hA [3,1] (zeN hr4) ?_
  try refine sA ?_
  obtain ⟨c538,hr5,h⟩ := bind_ok h
  refine Cl_sA (zbe hr5) ?_
  try refine sA ?_
  obtain ⟨hp6,h⟩ := guard_some h
  try refine sA ?_
  try refine andA ?_
  refine Gh_pack 8 ?_
  try refine sA ?_
  obtain ⟨c540,hr7,h⟩ := bind_ok h
  refine Cl_hA [8] (ze0 hr7) ?_
  try refine sA ?_
  obtain ⟨hp8,h⟩ := guard_some h
  have hl8 : (c537.length + 1) ≤ c540.length := by omega
  have ht8 : List.take ((c537.length + 1)) c540 = c540 := by rw [← hp8]; exact List.take_length
  try rw [← hp8]
  try simp (disch := first | assumption | (simp only [List.length_set]; assumption)) only [go_sem,Nat.reduceAdd,Nat.reduceMul,Nat.reduceSub,Nat.reduceEqDiff,↓reduceIte,Nat.reduceLT,reduceCtorEq,Nat.reduceLeDiff,Int.reduceToNat,Int.reduceEq,Int.reduceLE,Int.reduceLT,Nat.reduceBEq,hl8,ht8]
  obtain rfl:=Option.some.inj h
  refine ends_weak ⟨[(4,(.pb 1 0))],[(0,some (true,.deep [.sl [.sc,.sc,.sc,.sc]] (c540.map eBranch))),(1,some (true,.box [(.os 0 1 0 c540.length c540.length false)]))],2,30⟩ (weak_of (m := 0) [some 8,some 2] rfl rfl rfl (by rfl) ?_ ?_) ?_
  all_goals ((try simp (disch := first | assumption | (simp only [List.length_set]; assumption)) only [go_sem,Nat.reduceAdd,Nat.reduceMul,Nat.reduceSub,Nat.reduceEqDiff,↓reduceIte,Nat.reduceLT,reduceCtorEq,Nat.reduceLeDiff,Int.reduceToNat,Int.reduceEq,Int.reduceLE,Int.reduceLT,Nat.reduceBEq,hl8,ht8]); (repeat' first | done | rfl | omega | refine And.intro ?_ ?_ | (simp; done) | (simp; omega)))
theorem zgG {a0 : TellingsT} {a1 : TellingsT} {r : (TellingsT × Bool)} (h : zb0 a0 a1 = some r) : Fn Tryz.prog 128 [(.ag [(.lf true (.sl (a0.Branches.map eBranch)))]),(.ag [(.lf true (.sl (a1.Branches.map eBranch)))])] [] 0 (.tu [(.ag [(.os 0 1 0 r.1.Branches.length r.1.Branches.length false)]),(B r.2)]) [(0,some (true,.deep [.sl [.sc,.sc,.sc,.sc]] (r.1.Branches.map eBranch)))] 2 := by
 unfold zb0 at h
 refine fn_code tab_ok mixed [(1000,[(2,0),(3,0),(4,0)]),(1001,[(2,0),(3,0),(4,0),(16,0)]),(1002,[(4,0),(5,0)]),(1003,[(3,0),(4,0),(6,0)]),(1004,[(4,0),(6,0),(21,0),(22,0),(23,0)]),(1005,[(4,0),(6,0),(21,0),(22,0),(23,0),(24,0)]),(1006,[(4,0),(6,0),(8,0),(21,0),(22,0),(23,0)]),(1007,[(4,0),(6,0),(21,0),(22,0),(23,0)]),(1008,[(4,0),(6,0),(21,0),(22,0),(23,0)]),(1009,[(4,0),(6,0),(35,0)]),(1010,[(4,0),(5,0)]),(1011,[(4,0),(5,0)]),(4001,[])] Tryz.func128 rfl rfl (by simp [Tryz.f128]) (by kernel_rfl) ?_
 simp only [Tryz.f128]
 refine sA ?_
 obtain ⟨p519,hq1,h⟩ := bind_ok h
 refine Sq_cut (fun s2 => s2 = ⟨[(2,(.pb 0 0)),(3,(.pb 1 0)),(4,(.pb 2 0)),(16,(B p519.t16))],[(0,some (true,.box [(.lf true (.sl (a0.Branches.map eBranch)))])),(1,some (true,.box [(.lf true (.sl (a1.Branches.map eBranch)))])),(2,some (true,.box [.nl]))],3,38⟩) ?_ ?_
 ·try refine sA ?_
  obtain ⟨c517,hr2,hq1⟩ := bind_ok hq1
  refine Cl_sA (zbC hr2) ?_
  try refine sA ?_
  refine Sp_if hq1 (fun hq1 hc3 => ?_) (fun hq1 hc3 => ?_)
  ·try refine sA ?_
   cases hq1
   exact X_cut rfl (weakA [some 0,some 1,some 2])
  ·try refine sA ?_
   obtain ⟨c518,hr4,hq1⟩ := bind_ok hq1
   refine Cl_sA (zbC hr4) ?_
   try refine sA ?_
   cases hq1
   exact X_cut rfl (weakA [some 0,some 1,some 2])
 ·intro s2 hJ; subst hJ
  try dsimp only at h
  try refine sA ?_
  refine Bs_if h (fun h hc5 => ?_) (fun h hc5 => ?_)
  ·try refine sA ?_
   obtain rfl:=Option.some.inj h
   exact endsA ⟨[(4,(.pb 1 0)),(5,(B false))],[(0,some (true,.deep [.sl [.sc,.sc,.sc,.sc]] (([] : List BranchT).map eBranch))),(1,some (true,.box [(.os 0 1 0 (([] : List BranchT).length) (([] : List BranchT).length) false)]))],2,38⟩ [none,some 2]
  ·try refine sA ?_
   obtain ⟨c520,hr6,h⟩ := bind_ok h
   refine Cl_sA (zcu hr6) ?_
   try refine sA ?_
   obtain ⟨y543,hl7,h⟩ := bind_ok h
   refine W_loopP (fun g521 : zcc => ⟨[(4,(.pb 0 0)),(6,(.pb 1 0)),(21,(.lf true (.sl (a1.Branches.map eBranch)))),(22,(I ((a1.Branches.length : Nat) : Int))),(23,(I g521.t23))],[(0,some (true,.box [.nl])),(1,some (true,.box [(.os 2 1 0 g521.c2.length g521.c2.length false)])),(2,some (true,.deep [.sl [.sc,.sc,.sc,.sc]] (g521.c2.map eBranch)))],3,38⟩) (zaq a1) _ _ hl7 (weakA [some 2,some 5,some 3]) ?_
   ·intro n1 g521 z1 hs1 hk1
    unfold zaq at hs1
    try dsimp only at hs1
    refine sA ?_
    refine Bs_if hs1 (fun hs1 hc8 => ?_) (fun hs1 hc8 => ?_)
    ·try refine sA ?_
     obtain ⟨hp9,hs1⟩ := guard_some hs1
     have hn9 : g521.t23.toNat < a1.Branches.length := by first | omega | (simp only [List.length_set,List.length_append,List.length_replicate,List.length_map]; omega)
     try refine sA ?_
     try refine andA ?_
     obtain ⟨c542,hr10,hs1⟩ := bind_ok hs1
     refine Cl_sA (zf6 hr10) ?_
     try refine sA ?_
     cases hs1
     exact X_backP hk1 (weakA [some 0,some 1,some 4])
    ·try refine sA ?_
     cases hs1
     cases hk1
     try dsimp only at h
     try refine sA ?_
     refine Bs_if h (fun h hc11 => ?_) (fun h hc11 => ?_)
     ·try refine sA ?_
      obtain rfl:=Option.some.inj h
      exact endsA ⟨[(4,(.pb 1 0)),(5,(B false))],[(0,some (true,.deep [.sl [.sc,.sc,.sc,.sc]] (([] : List BranchT).map eBranch))),(1,some (true,.box [(.os 0 1 0 (([] : List BranchT).length) (([] : List BranchT).length) false)]))],2,38⟩ [none,some 0]
     ·try refine sA ?_
      obtain rfl:=Option.some.inj h
      exact endsA ⟨[(4,(.pb 1 0)),(5,(B true))],[(0,some (true,.deep [.sl [.sc,.sc,.sc,.sc]] (g521.c2.map eBranch))),(1,some (true,.box [(.os 0 1 0 g521.c2.length g521.c2.length false)]))],2,38⟩ [some 2,some 0]
theorem zgv {a0 : RegionT} {a1 : WordT} {m1 : Nat} {x1 : Bool} {r : (Bool × RegionT)} (h : zcX a0 a1 = some r) : Fn Tryz.prog 55 [(.pb 0 0),(.ag [(I a1.Version),(.lf true (.sl (a1.Tellings.Branches.map eBranch)))])] [(0,some (false,.box [(I a0.Id),(I a0.Version),(.os 1 1 0 a0.Tellings.Branches.length m1 x1)])),(1,some (false,.deep [.sl [.sc,.sc,.sc,.sc]] (a0.Tellings.Branches.map eBranch)))] 2 (B r.1) [(0,some (false,.box [(I r.2.Id),(I r.2.Version),(.os 2 1 0 r.2.Tellings.Branches.length r.2.Tellings.Branches.length false)])),(1,none),(2,some (false,.deep [.sl [.sc,.sc,.sc,.sc]] (r.2.Tellings.Branches.map eBranch)))] 3 := by
 unfold zcX at h
 refine fn_code tab_ok mixed [(1,[(3,10),(5,10)]),(3,[(9,12)]),(1000,[(0,0),(3,0)]),(1001,[(0,0),(3,0),(5,0),(6,0)]),(1002,[(0,0),(3,0),(5,0),(6,0),(17,0)]),(1003,[(6,0)]),(1004,[(4,0)])] Tryz.func55 rfl rfl (by simp [Tryz.f55]) (by kernel_rfl) ?_
 simp only [Tryz.f55]
 refine sA ?_
 obtain ⟨c545,hr1,h⟩ := bind_ok h
 refine Cl_sA (zgG hr1) ?_
 try refine sA ?_
 refine Bs_if h (fun h hc2 => ?_) (fun h hc2 => ?_)
 ·try refine sA ?_
  obtain rfl:=Option.some.inj h
  exact endsA ⟨[(4,(B c545.2))],[(0,some (false,.box [(I a0.Id),(I (max a0.Version a1.Version)),(.os 2 1 0 c545.1.Branches.length c545.1.Branches.length false)])),(1,none),(2,some (false,.deep [.sl [.sc,.sc,.sc,.sc]] (c545.1.Branches.map eBranch)))],3,33⟩ [some 0,some 1,some 3]
 ·try refine sA ?_
  obtain rfl:=Option.some.inj h
  exact endsA ⟨[(4,(B c545.2))],[(0,some (false,.box [(I a0.Id),(I a0.Version),(.os 2 1 0 a0.Tellings.Branches.length a0.Tellings.Branches.length false)])),(1,none),(2,some (false,.deep [.sl [.sc,.sc,.sc,.sc]] (a0.Tellings.Branches.map eBranch)))],3,33⟩ [some 0,some 1,some 1]
theorem zgk {a0 : RegionT} {a1 : WordT} {r : (RegionT × Bool)} (h : zc9 a0 a1 = some r) : Fn Tryz.prog 9 [(.ag [(I a0.Id),(I a0.Version),(.lf true (.sl (a0.Tellings.Branches.map eBranch)))]),(.ag [(I a1.Version),(.lf true (.sl (a1.Tellings.Branches.map eBranch)))])] [] 0 (.tu [(.ag [(I r.1.Id),(I r.1.Version),(.os 0 1 0 r.1.Tellings.Branches.length r.1.Tellings.Branches.length false)]),(B r.2)]) [(0,some (false,.deep [.sl [.sc,.sc,.sc,.sc]] (r.1.Tellings.Branches.map eBranch)))] 2 := by
 unfold zc9 at h
 refine fn_code tab_ok mixed [(1000,[(2,0),(3,0),(4,0)]),(1001,[(2,0),(3,0),(4,0),(17,0)]),(1002,[(4,0),(5,0)]),(1003,[(3,0),(4,0),(6,0)]),(1004,[(4,0),(6,0),(23,0)]),(1005,[(4,0),(5,0)]),(1006,[(4,0),(5,0)]),(4001,[])] Tryz.func9 rfl rfl (by simp [Tryz.f9]) (by kernel_rfl) ?_
 simp only [Tryz.f9]
 refine sA ?_
 obtain ⟨p510,hq1,h⟩ := bind_ok h
 refine Sq_cut (fun s2 => s2 = ⟨[(2,(.pb 0 0)),(3,(.pb 1 0)),(4,(.pb 2 0)),(17,(B p510.t17))],[(0,some (true,.box [(I a0.Id),(I a0.Version),(.lf true (.sl (a0.Tellings.Branches.map eBranch)))])),(1,some (true,.box [(I a1.Version),(.lf true (.sl (a1.Tellings.Branches.map eBranch)))])),(2,some (true,.box [(I 0),(I 0),.nl]))],3,26⟩) ?_ ?_
 ·try refine sA ?_
  obtain ⟨c508,hr2,hq1⟩ := bind_ok hq1
  refine Cl_sA (zck hr2) ?_
  try refine sA ?_
  refine Sp_if hq1 (fun hq1 hc3 => ?_) (fun hq1 hc3 => ?_)
  ·try refine sA ?_
   cases hq1
   exact X_cut rfl (weakA [some 0,some 1,some 2])
  ·try refine sA ?_
   obtain ⟨c509,hr4,hq1⟩ := bind_ok hq1
   refine Cl_sA (zgM hr4) ?_
   try refine sA ?_
   cases hq1
   exact X_cut rfl (weakA [some 0,some 1,some 2])
 ·intro s2 hJ; subst hJ
  try dsimp only at h
  try refine sA ?_
  refine Bs_if h (fun h hc5 => ?_) (fun h hc5 => ?_)
  ·try refine sA ?_
   obtain rfl:=Option.some.inj h
   exact endsA ⟨[(4,(.pb 1 0)),(5,(B false))],[(0,some (false,.deep [.sl [.sc,.sc,.sc,.sc]] (([] : List BranchT).map eBranch))),(1,some (true,.box [(I 0),(I 0),(.os 0 1 0 (([] : List BranchT).length) (([] : List BranchT).length) false)]))],2,26⟩ [none,some 2]
  ·try refine sA ?_
   obtain ⟨c516,hr6,h⟩ := bind_ok h
   refine Cl_sA (zfB hr6) ?_
   try refine sA ?_
   obtain ⟨c546,hr7,h⟩ := bind_ok h
   refine Cl_hA [5,3] (zgv hr7) ?_
   try refine sA ?_
   refine Bs_if h (fun h hc8 => ?_) (fun h hc8 => ?_)
   ·try refine sA ?_
    obtain rfl:=Option.some.inj h
    exact endsA ⟨[(4,(.pb 1 0)),(5,(B false))],[(0,some (false,.deep [.sl [.sc,.sc,.sc,.sc]] (([] : List BranchT).map eBranch))),(1,some (true,.box [(I 0),(I 0),(.os 0 1 0 (([] : List BranchT).length) (([] : List BranchT).length) false)]))],2,26⟩ [none,some 2]
   ·try refine sA ?_
    obtain rfl:=Option.some.inj h
    exact endsA ⟨[(4,(.pb 1 0)),(5,(B true))],[(0,some (false,.deep [.sl [.sc,.sc,.sc,.sc]] (c546.2.Tellings.Branches.map eBranch))),(1,some (true,.box [(I c546.2.Id),(I c546.2.Version),(.os 0 1 0 c546.2.Tellings.Branches.length c546.2.Tellings.Branches.length false)]))],2,26⟩ [some 6,some 2]
theorem zhk {a0 : (List EventT)} {a1 : (List EventT)} {r : Bool} (h : zdo a0 a1 = some r) : Fn Tryz.prog 132 [(.lf true (.sl (a0.map eEvent))),(.lf true (.sl (a1.map eEvent)))] [] 0 (B r) [] 0 := by
 unfold zdo at h
 refine fn_code tab_ok mixed [(1000,[(0,0),(1,0)]),(1001,[(0,0),(1,0),(10,0)]),(1002,[(4,0)]),(1003,[(0,0),(1,0),(12,0),(13,0)]),(1004,[(0,0),(1,0),(12,0),(13,0),(14,0)]),(1005,[(0,0),(1,0),(5,0),(12,0),(13,0)]),(1006,[(0,0),(1,0),(12,0),(13,0),(24,0)]),(1007,[(4,0)]),(1008,[(0,0),(1,0),(12,0),(13,0)]),(1009,[(4,0)])] Tryz.func132 rfl rfl (by simp [Tryz.f132]) (by kernel_rfl) ?_
 simp only [Tryz.f132]
 refine sA ?_
 refine Bs_if h (fun h hc1 => ?_) (fun h hc1 => ?_)
 ·try refine sA ?_
  obtain rfl:=Option.some.inj h
  exact endsA ⟨[(4,(B false))],[],0,26⟩ []
 ·try refine sA ?_
  obtain ⟨y551,hl2,h⟩ := bind_ok h
  refine W_loopP (fun g550 : zdn => ⟨[(0,(.lf true (.sl (a0.map eEvent)))),(1,(.lf true (.sl (a1.map eEvent)))),(12,(I ((a0.length : Nat) : Int))),(13,(I g550.t13))],[],0,26⟩) (za9 a0 a1) _ _ hl2 (weakA []) ?_
  ·intro n1 g550 z1 hs1 hk1
   unfold za9 at hs1
   try dsimp only at hs1
   refine sA ?_
   refine Bs_if hs1 (fun hs1 hc3 => ?_) (fun hs1 hc3 => ?_)
   ·try refine sA ?_
    obtain ⟨hp4,hs1⟩ := guard_some hs1
    have hn4 : g550.t13.toNat < a0.length := by first | omega | (simp only [List.length_set,List.length_append,List.length_replicate,List.length_map]; omega)
    try refine sA ?_
    try refine andA ?_
    obtain ⟨hp5,hs1⟩ := guard_some hs1
    have hn5 : g550.t13.toNat < a1.length := by first | omega | (simp only [List.length_set,List.length_append,List.length_replicate,List.length_map]; omega)
    try refine sA ?_
    try refine andA ?_
    first | refine And.intro ⟨by kernel_rfl,by kernel_rfl,by kernel_rfl⟩ ?_ | skip
    try refine sA ?_
    refine Bs_if hs1 (fun hs1 hc7 => ?_) (fun hs1 hc7 => ?_)
    ·try refine sA ?_
     cases hs1
     cases hk1
     try dsimp only at h
     try refine sA ?_
     obtain rfl:=Option.some.inj h
     exact endsA ⟨[(4,(B false))],[],0,26⟩ []
    ·try refine sA ?_
     cases hs1
     exact X_backP hk1 (weakA [])
   ·try refine sA ?_
    cases hs1
    cases hk1
    try dsimp only at h
    try refine sA ?_
    obtain rfl:=Option.some.inj h
    exact endsA ⟨[(4,(B true))],[],0,26⟩ []
theorem zgP {a0 : TellingsT} {a1 : TellingsT} {r : Bool} (h : zci a0 a1 = some r) : Fn Tryz.prog 58 [(.ag [(.lf true (.sl (a0.Branches.map eBranch)))]),(.ag [(.lf true (.sl (a1.Branches.map eBranch)))])] [] 0 (B r) [] 0 := by
 unfold zci at h
 refine fn_code tab_ok mixed [(1000,[(2,0),(3,0)]),(1001,[(2,0),(3,0),(12,0)]),(1002,[(4,0)]),(1003,[(2,0),(3,0),(15,0),(16,0)]),(1004,[(2,0),(3,0),(15,0),(16,0),(17,0)]),(1005,[(2,0),(3,0),(5,0),(15,0),(16,0)]),(1006,[(2,0),(3,0),(15,0),(16,0),(32,0)]),(1007,[(4,0)]),(1008,[(2,0),(3,0),(15,0),(16,0)]),(1009,[(4,0)])] Tryz.func58 rfl rfl (by simp [Tryz.f58]) (by kernel_rfl) ?_
 simp only [Tryz.f58]
 refine sA ?_
 refine Bs_if h (fun h hc1 => ?_) (fun h hc1 => ?_)
 ·try refine sA ?_
  obtain rfl:=Option.some.inj h
  exact endsA ⟨[(4,(B false))],[],0,34⟩ []
 ·try refine sA ?_
  obtain ⟨y556,hl2,h⟩ := bind_ok h
  refine W_loopP (fun g549 : zct => ⟨[(2,(.pb 0 0)),(3,(.pb 1 0)),(15,(I ((a0.Branches.length : Nat) : Int))),(16,(I g549.t16))],[(0,some (true,.box [(.lf true (.sl (a0.Branches.map eBranch)))])),(1,some (true,.box [(.lf true (.sl (a1.Branches.map eBranch)))]))],2,34⟩) (zaH a0 a1) _ _ hl2 (weakA [some 0,some 1]) ?_
  ·intro n1 g549 z1 hs1 hk1
   unfold zaH at hs1
   try dsimp only at hs1
   refine sA ?_
   refine Bs_if hs1 (fun hs1 hc3 => ?_) (fun hs1 hc3 => ?_)
   ·try refine sA ?_
    obtain ⟨hp4,hs1⟩ := guard_some hs1
    have hn4 : g549.t16.toNat < a0.Branches.length := by first | omega | (simp only [List.length_set,List.length_append,List.length_replicate,List.length_map]; omega)
    try refine sA ?_
    try refine andA ?_
    obtain ⟨hp5,hs1⟩ := guard_some hs1
    have hn5 : g549.t16.toNat < a1.Branches.length := by first | omega | (simp only [List.length_set,List.length_append,List.length_replicate,List.length_map]; omega)
    try refine sA ?_
    try refine andA ?_
    obtain ⟨c555,hr6,hs1⟩ := bind_ok hs1
    refine Cl_sA (zhk hr6) ?_
    try refine sA ?_
    refine Bs_if hs1 (fun hs1 hc7 => ?_) (fun hs1 hc7 => ?_)
    ·try refine sA ?_
     cases hs1
     cases hk1
     try dsimp only at h
     try refine sA ?_
     obtain rfl:=Option.some.inj h
     exact endsA ⟨[(4,(B false))],[],0,34⟩ []
    ·try refine sA ?_
     cases hs1
     exact X_backP hk1 (weakA [some 0,some 1])
   ·try refine sA ?_
    cases hs1
    cases hk1
    try dsimp only at h
    try refine sA ?_
    obtain rfl:=Option.some.inj h
    exact endsA ⟨[(4,(B true))],[],0,34⟩ []
theorem zfC {a0 : RegionT} {a1 : RegionT} {r : Bool} (h : zbP a0 a1 = some r) : Fn Tryz.prog 11 [(.ag [(I a0.Id),(I a0.Version),(.lf true (.sl (a0.Tellings.Branches.map eBranch)))]),(.ag [(I a1.Id),(I a1.Version),(.lf true (.sl (a1.Tellings.Branches.map eBranch)))])] [] 0 (B r) [] 0 := by
 unfold zbP at h
 refine fn_code tab_ok mixed [] Tryz.func11 rfl rfl (by simp [Tryz.f11]) (by kernel_rfl) ?_
 simp only [Tryz.f11]
 refine sA ?_
 refine Sp_if h (fun h hc1 => ?_) (fun h hc1 => ?_)
 ·try refine sA ?_
  refine Sp_if h (fun h hc2 => ?_) (fun h hc2 => ?_)
  ·try refine sA ?_
   obtain ⟨c559,hr3,h⟩ := bind_ok h
   refine Cl_sA (zgP hr3) ?_
   try refine sA ?_
   obtain rfl:=Option.some.inj h
   exact endsA ⟨[(4,(B c559))],[],0,24⟩ []
  ·try refine sA ?_
   obtain rfl:=Option.some.inj h
   exact endsA ⟨[(4,(B false))],[],0,24⟩ []
 ·try refine sA ?_
  obtain rfl:=Option.some.inj h
  exact endsA ⟨[(4,(B false))],[],0,24⟩ []
theorem zgn {a0 : BranchT} {a1 : (List EventT)} {r : Bool} (h : zcp a0 a1 = some r) : Fn Tryz.prog 63 [(.ag [(.lf true (.sl (a0.Events.map eEvent)))]),(.ra true [.sl (a1.map eEvent)])] [] 0 (B r) [] 0 := by
 unfold zcp at h
 refine fn_code tab_ok mixed [] Tryz.func63 rfl rfl (by simp [Tryz.f63]) (by kernel_rfl) ?_
 simp only [Tryz.f63]
 refine sA ?_
 obtain ⟨c571,hr1,h⟩ := bind_ok h
 refine Cl_sA (zfb hr1) ?_
 try refine sA ?_
 obtain rfl:=Option.some.inj h
 exact endsA ⟨[(3,(B c571))],[],0,8⟩ []
theorem zcv {a0 : (List BranchT)} {a1 : (List EventT)} {r : Int} (h : zv a0 a1 = some r) : Fn Tryz.prog 135 [(.lf true (.sl (a0.map eBranch))),(.fn 63 [(.ra true [.sl (a1.map eEvent)])])] [] 0 (I r) [] 0 := by
 unfold zv at h
 refine fn_code tab_ok mixed [(1000,[(0,0),(1,0)]),(1001,[(0,0),(1,0),(7,0),(8,0)]),(1002,[(0,0),(1,0),(7,0),(8,0),(9,0)]),(1003,[(0,0),(1,0),(5,0),(7,0),(8,0)]),(1004,[(0,0),(1,0),(5,0),(7,0),(8,0),(16,0)]),(1005,[(4,0)]),(1006,[(0,0),(1,0),(7,0),(8,0)]),(1007,[(4,0)])] Tryz.func135 rfl rfl (by simp [Tryz.f135]) (by kernel_rfl) ?_
 simp only [Tryz.f135]
 refine sA ?_
 obtain ⟨y574,hl1,h⟩ := bind_ok h
 refine W_loopP (fun g570 : zp => ⟨[(0,(.lf true (.sl (a0.map eBranch)))),(1,(.fn 63 [(.ra true [.sl (a1.map eEvent)])])),(7,(I ((a0.length : Nat) : Int))),(8,(I g570.t8))],[],0,19⟩) (zb a0 a1) _ _ hl1 (weakA []) ?_
 ·intro n1 g570 z1 hs1 hk1
  unfold zb at hs1
  try dsimp only at hs1
  refine sA ?_
  refine Bs_if hs1 (fun hs1 hc2 => ?_) (fun hs1 hc2 => ?_)
  ·try refine sA ?_
   obtain ⟨hp3,hs1⟩ := guard_some hs1
   have hn3 : g570.t8.toNat < a0.length := by first | omega | (simp only [List.length_set,List.length_append,List.length_replicate,List.length_map]; omega)
   try refine sA ?_
   try refine andA ?_
   obtain ⟨c573,hr4,hs1⟩ := bind_ok hs1
   refine Cl_sA (zgn hr4) ?_
   try refine sA ?_
   refine Bs_if hs1 (fun hs1 hc5 => ?_) (fun hs1 hc5 => ?_)
   ·try refine sA ?_
    cases hs1
    cases hk1
    try dsimp only at h
    try refine sA ?_
    obtain rfl:=Option.some.inj h
    exact endsA ⟨[(4,(I g570.t8))],[],0,19⟩ []
   ·try refine sA ?_
    cases hs1
    exact X_backP hk1 (weakA [])
  ·try refine sA ?_
   cases hs1
   cases hk1
   try dsimp only at h
   try refine sA ?_
   obtain rfl:=Option.some.inj h
   exact endsA ⟨[(4,(I (-1)))],[],0,19⟩ []
theorem zb2 {a0 : (List BranchT)} {a1 : (List EventT)} {r : Bool} (h : zg a0 a1 = some r) : Fn Tryz.prog 62 [(.lf true (.sl (a0.map eBranch))),(.fn 63 [(.ra true [.sl (a1.map eEvent)])])] [] 0 (B r) [] 0 := by
 unfold zg at h
 refine fn_code tab_ok mixed [] Tryz.func62 rfl rfl (by simp [Tryz.f62]) (by kernel_rfl) ?_
 simp only [Tryz.f62]
 refine sA ?_
 obtain ⟨c577,hr1,h⟩ := bind_ok h
 refine Cl_sA (zcv hr1) ?_
 try refine sA ?_
 obtain rfl:=Option.some.inj h
 exact endsA ⟨[(4,(B (decide (c577 ≥ 0))))],[],0,9⟩ []
theorem zhl {a0 : TellingsT} {a1 : (List EventT)} {r : (Bool × Bool)} (h : zdg a0 a1 = some r) : Fn Tryz.prog 13 [(.ag [(.lf true (.sl (a0.Branches.map eBranch)))]),(.lf true (.sl (a1.map eEvent)))] [] 0 (.tu [(B r.1),(B r.2)]) [] 0 := by
 unfold zdg at h
 refine fn_code tab_ok mixed [(1000,[(2,0),(3,0)]),(1001,[(2,0),(3,0),(13,0)]),(1002,[(4,0),(5,0)]),(1003,[(4,0),(5,0)]),(4001,[])] Tryz.func13 rfl rfl (by simp [Tryz.f13]) (by kernel_rfl) ?_
 simp only [Tryz.f13]
 refine sA ?_
 obtain ⟨p569,hq1,h⟩ := bind_ok h
 refine Sq_cut (fun s2 => s2 = ⟨[(2,(.pb 0 0)),(3,(.pb 1 0)),(13,(B p569.t13))],[(0,some (true,.box [(.lf true (.sl (a0.Branches.map eBranch)))])),(1,some (true,.box [(.lf true (.sl (a1.map eEvent)))]))],2,18⟩) ?_ ?_
 ·try refine sA ?_
  obtain ⟨c567,hr2,hq1⟩ := bind_ok hq1
  refine Cl_sA (zbC hr2) ?_
  try refine sA ?_
  refine Sp_if hq1 (fun hq1 hc3 => ?_) (fun hq1 hc3 => ?_)
  ·try refine sA ?_
   cases hq1
   exact X_cut rfl (weakA [some 0,some 1])
  ·try refine sA ?_
   obtain ⟨c568,hr4,hq1⟩ := bind_ok hq1
   refine Cl_sA (zf5 hr4) ?_
   try refine sA ?_
   cases hq1
   exact X_cut rfl (weakA [some 0,some 1])
 ·intro s2 hJ; subst hJ
  try dsimp only at h
  try refine sA ?_
  refine Bs_if h (fun h hc5 => ?_) (fun h hc5 => ?_)
  ·try refine sA ?_
   obtain rfl:=Option.some.inj h
   exact endsA ⟨[(4,(B false)),(5,(B false))],[],0,18⟩ []
  ·try refine sA ?_
   obtain ⟨c578,hr6,h⟩ := bind_ok h
   refine Cl_sA (zb2 hr6) ?_
   try refine sA ?_
   obtain rfl:=Option.some.inj h
   exact endsA ⟨[(4,(B c578)),(5,(B true))],[],0,18⟩ []
theorem zgw {a0 : (List Int)} {r : RegionT} (h : zcY a0 = some r) : Fn Tryz.prog 65 [(.lf true (.sl (a0.map eU8)))] [] 0 (.ag [(I r.Id),(I r.Version),(.lf true (.sl (r.Tellings.Branches.map eBranch)))]) [] 1 := by
 unfold zcY at h
 refine fn_code tab_ok mixed [(1000,[(0,0),(2,0)]),(1001,[(2,0),(3,0)]),(1002,[(2,0)])] Tryz.func65 rfl rfl (by simp [Tryz.f65]) (by kernel_rfl) ?_
 simp only [Tryz.f65]
 refine sA ?_
 obtain ⟨c587,hr1,h⟩ := bind_ok h
 refine Cl_hA [1] (zdY hr1) ?_
 try refine sA ?_
 obtain rfl:=Option.some.inj h
 exact endsA ⟨[(2,(.pb 0 0))],[(0,some (true,.box [(I c587.1.Id),(I c587.1.Version),(.lf true (.sl (c587.1.Tellings.Branches.map eBranch)))]))],1,9⟩ [some 0]
theorem zg0 {a0 : (List Int)} {r : RegionT} (h : zbQ a0 = some r) : Fn Tryz.prog 14 [(.lf true (.sl (a0.map eU8)))] [] 0 (.ag [(I r.Id),(I r.Version),(.lf true (.sl (r.Tellings.Branches.map eBranch)))]) [] 1 := by
 unfold zbQ at h
 refine fn_code tab_ok mixed [] Tryz.func14 rfl rfl (by simp [Tryz.f14]) (by kernel_rfl) ?_
 simp only [Tryz.f14]
 refine sA ?_
 obtain ⟨c588,hr1,h⟩ := bind_ok h
 refine Cl_sA (zgw hr1) ?_
 try refine sA ?_
 obtain rfl:=Option.some.inj h
 exact endsA ⟨[(2,(.pb 0 0))],[(0,some (true,.box [(I c588.Id),(I c588.Version),(.lf true (.sl (c588.Tellings.Branches.map eBranch)))]))],1,5⟩ [some 0]
theorem zdB {a0 : RegionT} {r : Bool} (h : zW a0 = some r) : Fn Tryz.prog 66 [(.ra true [.sc (.int .i64 a0.Id),.sc (.int .i64 a0.Version),.sl (a0.Tellings.Branches.map eBranch)])] [] 0 (B r) [] 0 := by
 unfold zW at h
 refine fn_code tab_ok mixed [] Tryz.func66 rfl rfl (by simp [Tryz.f66]) (by kernel_rfl) ?_
 simp only [Tryz.f66]
 refine sA ?_
 obtain rfl:=Option.some.inj h
 exact endsA ⟨[(2,(B ((a0.Version.tmod 10) == a0.Id)))],[],0,13⟩ []
theorem zgx {a0 : (List EventT)} {r : Int} (h : zdS a0 = some r) : Fn Tryz.prog 194 [(.lf true (.sl (a0.map eEvent)))] [] 0 (I r) [] 0 := by
 unfold zdS at h
 refine fn_code tab_ok mixed [] Tryz.func194 rfl rfl (by simp [Tryz.f194]) (by kernel_rfl) ?_
 simp only [Tryz.f194]
 refine sA ?_
 obtain ⟨hp1,h⟩ := guard_some h
 have hn1 : (wI (((a0.length : Nat) : Int) - 1)).toNat < a0.length := by first | omega | (simp only [List.length_set,List.length_append,List.length_replicate,List.length_map]; omega)
 try refine sA ?_
 try refine andA ?_
 obtain rfl:=Option.some.inj h
 exact endsA ⟨[(2,(I ((nth a0 ((wI (((a0.length : Nat) : Int) - 1)).toNat)).Version)))],[],0,10⟩ []
theorem zhm {a0 : BranchT} {a1 : BranchT} {r : Int} (h : zb8 a0 a1 = some r) : Fn Tryz.prog 191 [(.ag [(.lf true (.sl (a0.Events.map eEvent)))]),(.ag [(.lf true (.sl (a1.Events.map eEvent)))])] [] 0 (I r) [] 0 := by
 unfold zb8 at h
 refine fn_code tab_ok mixed [(1,[(4,2),(8,2),(8,5),(8,6),(11,2),(11,5),(11,6),(15,2),(15,5),(15,6),(15,13),(17,2),(17,5),(17,6),(17,13)])] Tryz.func191 rfl rfl (by simp [Tryz.f191]) (by kernel_rfl) ?_
 simp only [Tryz.f191]
 refine sA ?_
 obtain ⟨c596,hr1,h⟩ := bind_ok h
 refine Cl_sA (zgx hr1) ?_
 try refine sA ?_
 obtain ⟨c597,hr2,h⟩ := bind_ok h
 refine Cl_sA (zgx hr2) ?_
 try refine sA ?_
 obtain ⟨c598,hr3,h⟩ := bind_ok h
 refine Cl_sA (zdG hr3) ?_
 try refine sA ?_
 obtain ⟨c599,hr4,h⟩ := bind_ok h
 refine Cl_sA (zdG hr4) ?_
 try refine sA ?_
 obtain ⟨c600,hr5,h⟩ := bind_ok h
 refine Cl_sA (zeM hr5) ?_
 try refine sA ?_
 obtain ⟨c601,hr6,h⟩ := bind_ok h
 refine Cl_sA (zgY hr6) ?_
 try refine sA ?_
 obtain rfl:=Option.some.inj h
 exact endsA ⟨[(4,(I c601))],[],0,26⟩ []
theorem zdC {a0 : (List BranchT)} {r : BranchT} (h : zr a0 = some r) : Fn Tryz.prog 190 [(.lf true (.sl (a0.map eBranch))),(.fn 191 [])] [] 0 (.ag [(.lf true (.sl (r.Events.map eEvent)))]) [] 1 := by
 unfold zr at h
 refine fn_code tab_ok mixed [(1000,[(0,0),(1,0),(4,0)]),(1001,[(0,0),(1,0),(4,0),(9,0)]),(1002,[(0,0),(1,0),(4,0)]),(1003,[(0,0),(1,0),(4,0),(5,0)]),(1004,[(0,0),(1,0),(4,0),(5,0),(6,0)]),(1005,[(0,0),(1,0),(4,0),(5,0),(6,0),(17,0)]),(1006,[(0,0),(1,0),(4,0),(5,0),(6,0)]),(1007,[(0,0),(1,0),(4,0),(5,0),(6,0),(27,0)]),(1008,[(0,0),(1,0),(4,0),(5,0),(6,0)]),(1009,[(4,0)]),(2009,[])] Tryz.func190 rfl rfl (by simp [Tryz.f190]) (by kernel_rfl) ?_
 simp only [Tryz.f190]
 refine sA ?_
 obtain ⟨p594,hq1,h⟩ := bind_ok h
 refine Sq_cut (fun s2 => s2 = ⟨[(0,(.lf true (.sl (a0.map eBranch)))),(1,(.fn 191 [])),(4,(.pb 0 0))],[(0,some (true,.box [.nl]))],1,33⟩) ?_ ?_
 ·try refine sA ?_
  refine Bs_if hq1 (fun hq1 hc2 => ?_) (fun hq1 hc2 => ?_)
  ·cases hq1
  ·try refine sA ?_
   cases hq1
   exact X_cut rfl (weakA [some 0])
 ·intro s2 hJ; subst hJ
  try dsimp only at h
  try refine sA ?_
  obtain ⟨hp3,h⟩ := guard_some h
  have hn3 : 0 < a0.length := by first | omega | (simp only [List.length_set,List.length_append,List.length_replicate,List.length_map]; omega)
  try refine sA ?_
  try refine andA ?_
  obtain ⟨y604,hl4,h⟩ := bind_ok h
  refine W_loopP (fun g595 : zX => ⟨[(0,(.lf true (.sl (a0.map eBranch)))),(1,(.fn 191 [])),(4,(.pb 0 0)),(5,(.pb 1 0)),(6,(I g595.t6))],[(0,some (true,.box [.nl])),(1,some (true,.box [(.lf true (.sl (g595.b1_0.map eEvent)))]))],2,33⟩) (za a0) _ _ hl4 (weakA [some 0,some 1]) ?_
  ·intro n1 g595 z1 hs1 hk1
   unfold za at hs1
   try dsimp only at hs1
   refine sA ?_
   refine Bs_if hs1 (fun hs1 hc5 => ?_) (fun hs1 hc5 => ?_)
   ·try refine sA ?_
    obtain ⟨hp6,hs1⟩ := guard_some hs1
    have hn6 : g595.t6.toNat < a0.length := by first | omega | (simp only [List.length_set,List.length_append,List.length_replicate,List.length_map]; omega)
    try refine sA ?_
    try refine andA ?_
    obtain ⟨c603,hr7,hs1⟩ := bind_ok hs1
    refine Cl_sA (zhm hr7) ?_
    try refine sA ?_
    refine Bs_if hs1 (fun hs1 hc8 => ?_) (fun hs1 hc8 => ?_)
    ·try refine sA ?_
     obtain ⟨hp9,hs1⟩ := guard_some hs1
     have hn9 : g595.t6.toNat < a0.length := by first | omega | (simp only [List.length_set,List.length_append,List.length_replicate,List.length_map]; omega)
     try refine sA ?_
     try refine andA ?_
     cases hs1
     exact X_backP hk1 (weakA [some 0,some 1])
    ·try refine sA ?_
     cases hs1
     exact X_backP hk1 (weakA [some 0,some 1])
   ·try refine sA ?_
    cases hs1
    cases hk1
    try dsimp only at h
    try refine sA ?_
    obtain rfl:=Option.some.inj h
    exact endsA ⟨[(4,(.pb 0 0))],[(0,some (true,.box [(.lf true (.sl (g595.b1_0.map eEvent)))]))],1,33⟩ [some 0]
theorem zeU {a0 : TellingsT} {r : (List EventT)} (h : zbY a0 = some r) : Fn Tryz.prog 141 [(.ag [(.lf true (.sl (a0.Branches.map eBranch)))])] [] 0 (.lf true (.sl (r.map eEvent))) [] 0 := by
 unfold zbY at h
 refine fn_code tab_ok mixed [(1000,[(1,0)]),(1001,[(1,0),(6,0)]),(1002,[(2,0)]),(1003,[(2,0)])] Tryz.func141 rfl rfl (by simp [Tryz.f141]) (by kernel_rfl) ?_
 simp only [Tryz.f141]
 refine sA ?_
 refine Bs_if h (fun h hc1 => ?_) (fun h hc1 => ?_)
 ·try refine sA ?_
  obtain rfl:=Option.some.inj h
  exact endsA ⟨[(2,(.lf true (.sl (([]).map eEvent))))],[],0,11⟩ []
 ·try refine sA ?_
  obtain ⟨c605,hr2,h⟩ := bind_ok h
  refine Cl_sA (zdC hr2) ?_
  try refine sA ?_
  obtain rfl:=Option.some.inj h
  exact endsA ⟨[(2,(.lf true (.sl (c605.Events.map eEvent))))],[],0,11⟩ []
theorem zgy {a0 : (List EventT)} {r : (List ByteArray)} (h : zdT a0 = some r) : Fn Tryz.prog 140 [(.lf true (.sl (a0.map eEvent)))] [] 0 (.os 0 1 0 r.length r.length false) [(0,some (true,.arr false 1 (r.map eS)))] 1 := by
 unfold zdT at h
 refine fn_code tab_ok mixed [(1000,[(0,0)]),(1001,[(0,0),(3,0)]),(1002,[(3,0),(7,0),(8,0),(9,0)]),(1003,[(3,0),(7,0),(8,0),(9,0),(10,0)]),(1004,[(3,0),(5,0),(7,0),(8,0),(9,0)]),(1005,[(3,0),(5,0),(7,0),(8,0),(9,0),(15,0)]),(1006,[(3,0),(7,0),(8,0),(9,0)]),(1007,[(3,0),(7,0),(8,0),(9,0)]),(1008,[(2,0)])] Tryz.func140 rfl rfl (by simp [Tryz.f140]) (by kernel_rfl) ?_
 simp only [Tryz.f140]
 refine sA ?_
 obtain ⟨y608,hl1,h⟩ := bind_ok h
 refine W_loopP (fun g607 : zep => ⟨[(3,(.os 0 1 0 g607.c0.length g607.c0.length false)),(7,(.lf true (.sl (a0.map eEvent)))),(8,(I ((a0.length : Nat) : Int))),(9,(I g607.t9))],[(0,some (true,.arr false 1 (g607.c0.map eS)))],1,23⟩) (zcb a0) _ _ hl1 (weakA [some 0]) ?_
 ·intro n1 g607 z1 hs1 hk1
  unfold zcb at hs1
  try dsimp only at hs1
  refine sA ?_
  refine Bs_if hs1 (fun hs1 hc2 => ?_) (fun hs1 hc2 => ?_)
  ·try refine sA ?_
   obtain ⟨hp3,hs1⟩ := guard_some hs1
   have hn3 : g607.t9.toNat < a0.length := by first | omega | (simp only [List.length_set,List.length_append,List.length_replicate,List.length_map]; omega)
   try refine sA ?_
   try refine andA ?_
   refine Bs_if hs1 (fun hs1 hc4 => ?_) (fun hs1 hc4 => ?_)
   ·try refine sA ?_
    obtain ⟨hp5,hs1⟩ := guard_some hs1
    try refine sA ?_
    try refine andA ?_
    cases hs1
    exact X_backP hk1 (weakA [some 3])
   ·try refine sA ?_
    cases hs1
    exact X_backP hk1 (weakA [some 0])
  ·try refine sA ?_
   cases hs1
   cases hk1
   try dsimp only at h
   try refine sA ?_
   obtain rfl:=Option.some.inj h
   exact endsA ⟨[(2,(.os 0 1 0 g607.c0.length g607.c0.length false))],[(0,some (true,.arr false 1 (g607.c0.map eS)))],1,23⟩ [some 0]
theorem zgo {a0 : List ByteArray} {m0 : Nat} {x0 : Bool} {r : List ByteArray} (h : zcq a0 = some r) : Fn Tryz.prog 143 [(.os 0 1 0 a0.length m0 x0)] [(0,some (false,.arr true 1 (a0.map eS)))] 1 (.tu []) [(0,some (false,.arr false 1 (r.map eS)))] 1 := by
 unfold zcq at h
 obtain ⟨hp1,h⟩ := guard_some h
 have he := Option.some.inj h; subst he
 have e1 : Ent Tryz.prog (Tryz.lays190_ren.f 190) := (Ent.of Tryz.func143 rfl (by simp [Tryz.f143]) : Ent Tryz.prog 143)
 have key := fn_sortS (E := eS) (m0 := m0) (x0 := x0) (t0 := true) (t1 := false) Go.Proofs.Tryz.lays190 e1 (fun _ => rfl) hp1
 have e0 : Tryz.lays190_ren.f 190 = 143 := rfl
 rw [e0] at key
 exact key
theorem zfS {a0 : List ByteArray} {m0 : Nat} {x0 : Bool} {r : List ByteArray} (h : zbA a0 = some r) : Fn Tryz.prog 144 [(.os 0 1 0 a0.length m0 x0)] [(0,some (false,.arr true 1 (a0.map eS)))] 1 (.os 1 1 0 r.length r.length false) [(0,none),(1,some (false,.arr false 1 (r.map eS)))] 2 := by
 unfold zbA at h
 obtain ⟨hp1,h⟩ := guard_some h
 have he := Option.some.inj h; subst he
 have e1 : Ent Tryz.prog (Tryz.lays194_ren.f 194) := (Ent.of Tryz.func144 rfl (by simp [Tryz.f144]) : Ent Tryz.prog 144)
 have key := fn_compS (E := eS) (m0 := m0) (x0 := x0) (t0 := true) Go.Proofs.Tryz.lays194 e1 (fun _ => rfl) hp1
 have e0 : Tryz.lays194_ren.f 194 = 144 := rfl
 rw [e0] at key
 exact key
theorem zfD {a0 : TellingsT} {r : (List ByteArray)} (h : zbJ a0 = some r) : Fn Tryz.prog 71 [(.ag [(.lf true (.sl (a0.Branches.map eBranch)))])] [] 0 (.os 0 1 0 r.length r.length false) [(0,some (false,.arr false 1 (r.map eS)))] 1 := by
 unfold zbJ at h
 refine fn_code tab_ok mixed [(1000,[(1,0)]),(1001,[(1,0),(3,0),(4,0)]),(1002,[(3,0),(4,0),(14,0),(15,0),(16,0)]),(1003,[(3,0),(4,0),(14,0),(15,0),(16,0),(17,0)]),(1004,[(3,0),(4,0),(6,0),(14,0),(15,0),(16,0)]),(1005,[(3,0),(4,0),(14,0),(15,0),(16,0),(22,0),(23,0),(24,0)]),(1006,[(3,0),(4,0),(14,0),(15,0),(16,0),(22,0),(23,0),(24,0),(25,0)]),(1007,[(3,0),(4,0),(8,0),(14,0),(15,0),(16,0),(22,0),(23,0),(24,0)]),(1008,[(3,0),(4,0),(8,0),(14,0),(15,0),(16,0),(22,0),(23,0),(24,0),(31,0)]),(1009,[(3,0),(4,0),(14,0),(15,0),(16,0),(22,0),(23,0),(24,0)]),(1010,[(3,0),(4,0),(14,0),(15,0),(16,0),(22,0),(23,0),(24,0)]),(1011,[(3,0),(4,0),(14,0),(15,0),(16,0)]),(1012,[(4,0)]),(1013,[(2,0)])] Tryz.func71 rfl rfl (by simp [Tryz.f71]) (by kernel_rfl) ?_
 simp only [Tryz.f71]
 refine sA ?_
 obtain ⟨c606,hr1,h⟩ := bind_ok h
 refine Cl_sA (zeU hr1) ?_
 try refine sA ?_
 obtain ⟨c609,hr2,h⟩ := bind_ok h
 refine Cl_sA (zgy hr2) ?_
 try refine sA ?_
 obtain ⟨y621,hl3,h⟩ := bind_ok h
 refine W_loopP (fun g610 : zcV => ⟨[(3,(.os 0 1 0 c609.length c609.length false)),(4,(.os 1 1 0 g610.c1.length g610.c1.length false)),(14,(.lf true (.sl (a0.Branches.map eBranch)))),(15,(I ((a0.Branches.length : Nat) : Int))),(16,(I g610.t16))],[(0,some (true,.arr false 1 (c609.map eS))),(1,some (true,.arr false 1 (g610.c1.map eS)))],2,42⟩) (zaR a0 c609) _ _ hl3 (weakA [some 1,some 2]) ?_
 ·intro n1 g610 z1 hs1 hk1
  unfold zaR at hs1
  try dsimp only at hs1
  refine sA ?_
  refine Bs_if hs1 (fun hs1 hc4 => ?_) (fun hs1 hc4 => ?_)
  ·try refine sA ?_
   obtain ⟨hp5,hs1⟩ := guard_some hs1
   have hn5 : g610.t16.toNat < a0.Branches.length := by first | omega | (simp only [List.length_set,List.length_append,List.length_replicate,List.length_map]; omega)
   try refine sA ?_
   try refine andA ?_
   obtain ⟨c616,hr6,hs1⟩ := bind_ok hs1
   refine Cl_sA (zgy hr6) ?_
   try refine sA ?_
   obtain ⟨y620,hl7,hs1⟩ := bind_ok hs1
   refine W_loopP (fun g617 : zcW => ⟨[(3,(.os 0 1 0 c609.length c609.length false)),(4,(.os 1 1 0 g617.c1.length g617.c1.length false)),(14,(.lf true (.sl (a0.Branches.map eBranch)))),(15,(I ((a0.Branches.length : Nat) : Int))),(16,(I g610.t16)),(22,(.os 2 1 0 c616.length c616.length false)),(23,(I ((c616.length : Nat) : Int))),(24,(I g617.t24))],[(0,some (true,.arr false 1 (c609.map eS))),(1,some (true,.arr false 1 (g617.c1.map eS))),(2,some (true,.arr false 1 (c616.map eS)))],3,42⟩) (zal c616 c609) _ _ hl7 (weakA [some 0,some 1,some 3]) ?_
   ·intro n2 g617 z2 hs2 hk2
    unfold zal at hs2
    try dsimp only at hs2
    refine sA ?_
    refine Bs_if hs2 (fun hs2 hc8 => ?_) (fun hs2 hc8 => ?_)
    ·try refine sA ?_
     obtain ⟨hp9,hs2⟩ := guard_some hs2
     have hn9 : g617.t24.toNat < c616.length := by first | omega | (simp only [List.length_set,List.length_append,List.length_replicate,List.length_map]; omega)
     try refine sA ?_
     try refine andA ?_
     try refine andB ?_
     try refine sA ?_
     obtain ⟨c619,hr11,hs2⟩ := bind_ok hs2
     refine Cl_sA (zax hr11) ?_
     try refine sA ?_
     refine Bs_if hs2 (fun hs2 hc12 => ?_) (fun hs2 hc12 => ?_)
     ·try refine sA ?_
      obtain ⟨hp13,hs2⟩ := guard_some hs2
      try refine sA ?_
      try refine andA ?_
      cases hs2
      exact X_backP hk2 (weakA [some 0,some 4,some 2])
     ·try refine sA ?_
      cases hs2
      exact X_backP hk2 (weakA [some 0,some 1,some 2])
    ·try refine sA ?_
     cases hs2
     cases hk2
     try dsimp only at hs1
     try refine sA ?_
     cases hs1
     exact X_backP hk1 (weakA [some 0,some 1])
  ·try refine sA ?_
   cases hs1
   cases hk1
   try dsimp only at h
   try refine sA ?_
   obtain ⟨c624,hr14,h⟩ := bind_ok h
   refine Cl_hA [1] (zgo hr14) ?_
   try refine sA ?_
   obtain ⟨hp15,h⟩ := guard_some h
   have hl15 : g610.c1.length ≤ c624.length := by omega
   have ht15 : List.take (g610.c1.length) c624 = c624 := by rw [← hp15]; exact List.take_length
   try rw [← hp15]
   try simp (disch := first | assumption | (simp only [List.length_set]; assumption)) only [go_sem,Nat.reduceAdd,Nat.reduceMul,Nat.reduceSub,Nat.reduceEqDiff,↓reduceIte,Nat.reduceLT,reduceCtorEq,Nat.reduceLeDiff,Int.reduceToNat,Int.reduceEq,Int.reduceLE,Int.reduceLT,Nat.reduceBEq,hl15,ht15]
   obtain ⟨c625,hr16,h⟩ := bind_ok h
   refine Cl_hand (ids := [1]) (zfS hr16) (by first | rfl | (simp (disch := first | assumption | (simp only [List.length_set]; assumption)) only [go_sem,Nat.reduceAdd,Nat.reduceMul,Nat.reduceSub,Nat.reduceEqDiff,↓reduceIte,Nat.reduceLT,reduceCtorEq,Nat.reduceLeDiff,Int.reduceToNat,Int.reduceEq,Int.reduceLE,Int.reduceLT,Nat.reduceBEq,hl15,ht15]; first | done | rfl) | (simp only [List.length_append,List.length_cons,List.length_nil,List.length_map,List.length_set,List.length_replicate,Nat.zero_add,Nat.reduceAdd]; rfl) | (simp (disch := first | assumption | (simp only [List.length_set]; assumption)) only [go_sem,Nat.reduceAdd,Nat.reduceMul,Nat.reduceSub,Nat.reduceEqDiff,↓reduceIte,Nat.reduceLT,reduceCtorEq,Nat.reduceLeDiff,Int.reduceToNat,Int.reduceEq,Int.reduceLE,Int.reduceLT,Nat.reduceBEq,hl15,ht15]; simp only [List.length_append,List.length_cons,List.length_nil,List.length_map,List.length_set,List.length_replicate,Nat.zero_add,Nat.reduceAdd]; rfl)) (FitAll.refl _) (by first | rfl | (simp (disch := first | assumption | (simp only [List.length_set]; assumption)) only [go_sem,Nat.reduceAdd,Nat.reduceMul,Nat.reduceSub,Nat.reduceEqDiff,↓reduceIte,Nat.reduceLT,reduceCtorEq,Nat.reduceLeDiff,Int.reduceToNat,Int.reduceEq,Int.reduceLE,Int.reduceLT,Nat.reduceBEq,hl15,ht15]; first | done | rfl) | (simp only [List.length_append,List.length_cons,List.length_nil,List.length_map,List.length_set,List.length_replicate,Nat.zero_add,Nat.reduceAdd]; rfl) | (simp (disch := first | assumption | (simp only [List.length_set]; assumption)) only [go_sem,Nat.reduceAdd,Nat.reduceMul,Nat.reduceSub,Nat.reduceEqDiff,↓reduceIte,Nat.reduceLT,reduceCtorEq,Nat.reduceLeDiff,Int.reduceToNat,Int.reduceEq,Int.reduceLE,Int.reduceLT,Nat.reduceBEq,hl15,ht15]; simp only [List.length_append,List.length_cons,List.length_nil,List.length_map,List.length_set,List.length_replicate,Nat.zero_add,Nat.reduceAdd]; rfl)) (by decide) (by first | rfl | (simp (disch := first | assumption | (simp only [List.length_set]; assumption)) only [go_sem,Nat.reduceAdd,Nat.reduceMul,Nat.reduceSub,Nat.reduceEqDiff,↓reduceIte,Nat.reduceLT,reduceCtorEq,Nat.reduceLeDiff,Int.reduceToNat,Int.reduceEq,Int.reduceLE,Int.reduceLT,Nat.reduceBEq,hl15,ht15]; done)) (by rfl) ?_
   try simp (disch := first | assumption | (simp only [List.length_set]; assumption)) only [go_sem,Nat.reduceAdd,Nat.reduceMul,Nat.reduceSub,Nat.reduceEqDiff,↓reduceIte,Nat.reduceLT,reduceCtorEq,Nat.reduceLeDiff,Int.reduceToNat,Int.reduceEq,Int.reduceLE,Int.reduceLT,Nat.reduceBEq,hl15,ht15]
   obtain rfl:=Option.some.inj h
   refine ends_weak ⟨[(2,(.os 0 1 0 c625.length c625.length false))],[(0,some (false,.arr false 1 (c625.map eS)))],1,42⟩ (weak_of (m := 0) [some 2] rfl rfl rfl (by rfl) ?_ ?_) ?_
   all_goals ((try simp (disch := first | assumption | (simp only [List.length_set]; assumption)) only [go_sem,Nat.reduceAdd,Nat.reduceMul,Nat.reduceSub,Nat.reduceEqDiff,↓reduceIte,Nat.reduceLT,reduceCtorEq,Nat.reduceLeDiff,Int.reduceToNat,Int.reduceEq,Int.reduceLE,Int.reduceLT,Nat.reduceBEq,hl15,ht15]); (repeat' first | done | rfl | omega | refine And.intro ?_ ?_ | (simp; done) | (simp; omega)))
theorem zfi {a0 : RegionT} {r : StateT} (h : zaQ a0 = some r) : Fn Tryz.prog 182 [(.ra true [.sc (.int .i64 a0.Id),.sc (.int .i64 a0.Version),.sl (a0.Tellings.Branches.map eBranch)])] [] 0 (.ag [(I r.Status),(I r.Next),(B r.Cancel),(I r.Done),(.os 0 1 0 r.Signals.length r.Signals.length false),(.os 1 1 0 r.Timers.length r.Timers.length false)]) [(0,some (false,.arr false 1 (r.Signals.map eS))),(1,some (false,.arr false 1 (r.Timers.map eS)))] 3 := by
 unfold zaQ at h
 refine fn_code tab_ok mixed [(1000,[(0,0),(2,0)]),(1001,[(2,0),(3,0)]),(1002,[(2,0)])] Tryz.func182 rfl rfl (by simp [Tryz.f182]) (by kernel_rfl) ?_
 simp only [Tryz.f182]
 refine sA ?_
 obtain ⟨c629,hr1,h⟩ := bind_ok h
 refine Cl_sA (zeU hr1) ?_
 try refine sA ?_
 obtain ⟨c630,hr2,h⟩ := bind_ok h
 refine Cl_sA (zfQ hr2) ?_
 try refine sA ?_
 obtain rfl:=Option.some.inj h
 exact endsA ⟨[(2,(.pb 2 0))],[(0,some (false,.arr false 1 (c630.1.Signals.map eS))),(1,some (false,.arr false 1 (c630.1.Timers.map eS))),(2,some (true,.box [(I c630.1.Status),(I c630.1.Next),(B c630.1.Cancel),(I c630.1.Done),(.os 0 1 0 c630.1.Signals.length c630.1.Signals.length false),(.os 1 1 0 c630.1.Timers.length c630.1.Timers.length false)]))],3,15⟩ [some 1,some 2,some 0]
theorem zgz {a0 : StateT} {a1 : Int} {a2 : ByteArray} {r : (Bool × Bool)} (h : zbk a0 a1 a2 = some r) : Fn Tryz.prog 183 [(.ag [(I a0.Status),(I a0.Next),(B a0.Cancel),(I a0.Done),(.lf true (.sl (a0.Signals.map eS))),(.lf true (.sl (a0.Timers.map eS)))]),(I a1),(.lf false (.sc (.string a2)))] [] 0 (.tu [(B r.1),(B r.2)]) [] 0 := by
 unfold zbk at h
 refine fn_code tab_ok mixed [(1000,[(1,0),(2,0),(3,0)]),(1001,[(1,0),(2,0),(3,0),(21,0)]),(1002,[(6,0),(7,0)]),(1003,[(1,0),(2,0),(8,0)]),(1004,[(6,0),(7,0)]),(4001,[])] Tryz.func183 rfl rfl (by simp [Tryz.f183]) (by kernel_rfl) ?_
 simp only [Tryz.f183]
 refine sA ?_
 obtain ⟨p635,hq1,h⟩ := bind_ok h
 refine Sq_cut (fun s2 => s2 = ⟨[(1,(I a1)),(2,(.lf false (.sc (.string a2)))),(3,(.pb 0 0)),(21,(B p635.t21))],[(0,some (true,.box [(I a0.Status),(I a0.Next),(B a0.Cancel),(I a0.Done),(.lf true (.sl (a0.Signals.map eS))),(.lf true (.sl (a0.Timers.map eS)))]))],1,31⟩) ?_ ?_
 ·try refine sA ?_
  obtain ⟨c632,hr2,hq1⟩ := bind_ok hq1
  refine Cl_sA (zd8 hr2) ?_
  try refine sA ?_
  refine Sp_if hq1 (fun hq1 hc3 => ?_) (fun hq1 hc3 => ?_)
  ·try refine sA ?_
   cases hq1
   exact X_cut rfl (weakA [some 0])
  ·try refine sA ?_
   obtain ⟨c633,hr4,hq1⟩ := bind_ok hq1
   refine Cl_sA (zev hr4) ?_
   try refine sA ?_
   refine Sp_if hq1 (fun hq1 hc5 => ?_) (fun hq1 hc5 => ?_)
   ·try refine sA ?_
    cases hq1
    exact X_cut rfl (weakA [some 0])
   ·try refine sA ?_
    obtain ⟨c634,hr6,hq1⟩ := bind_ok hq1
    refine Cl_sA (zdt hr6) ?_
    try refine sA ?_
    cases hq1
    exact X_cut rfl (weakA [some 0])
 ·intro s2 hJ; subst hJ
  try dsimp only at h
  try refine sA ?_
  refine Bs_if h (fun h hc7 => ?_) (fun h hc7 => ?_)
  ·try refine sA ?_
   obtain rfl:=Option.some.inj h
   exact endsA ⟨[(6,(B false)),(7,(B false))],[],0,31⟩ []
  ·try refine sA ?_
   obtain ⟨c636,hr8,h⟩ := bind_ok h
   refine Cl_sA (zfP hr8) ?_
   try refine sA ?_
   obtain ⟨c637,hr9,h⟩ := bind_ok h
   refine Cl_hA [4,1,2] (zfr hr9) ?_
   try refine sA ?_
   refine Sp_if h (fun h hc10 => ?_) (fun h hc10 => ?_)
   ·try refine sA ?_
    obtain ⟨c638,hr11,h⟩ := bind_ok h
    refine Cl_sA (zd8 hr11) ?_
    try refine sA ?_
    obtain rfl:=Option.some.inj h
    exact endsA ⟨[(6,(B c638)),(7,(B true))],[],0,31⟩ []
   ·try refine sA ?_
    obtain rfl:=Option.some.inj h
    exact endsA ⟨[(6,(B false)),(7,(B true))],[],0,31⟩ []
theorem zgH {a0 : RegionT} {a1 : Int} {a2 : ByteArray} {r : Int} (h : zaw a0 a1 a2 = some r) : Fn Tryz.prog 137 [(.ra true [.sc (.int .i64 a0.Id),.sc (.int .i64 a0.Version),.sl (a0.Tellings.Branches.map eBranch)]),(I a1),(.lf false (.sc (.string a2)))] [] 0 (I r) [] 0 := by
 unfold zaw at h
 refine fn_code tab_ok mixed [(14,[(4,6),(8,6),(12,6),(4,16),(4,17),(16,16)]),(1000,[(0,0),(1,0),(2,0)]),(1001,[(0,0),(1,0),(2,0),(7,0)]),(1002,[(0,0),(1,0),(2,0),(7,0),(8,0)]),(1003,[(0,0),(1,0),(2,0),(7,0),(8,0),(9,0)]),(1004,[(0,0),(1,0),(2,0),(7,0),(8,0),(9,0),(25,0)]),(1005,[(6,0)]),(1006,[(0,0),(1,0),(2,0),(7,0),(8,0),(9,0),(34,0)]),(1007,[(6,0)]),(1008,[(0,0),(1,0),(2,0),(7,0),(8,0),(9,0),(38,0)]),(1009,[(6,0)]),(1010,[(0,0),(1,0),(2,0),(7,0),(8,0),(47,0)]),(1011,[(6,0)]),(1012,[(0,0),(1,0),(2,0),(7,0),(8,0),(50,0)]),(1013,[(6,0)]),(1014,[]),(1015,[(6,0)]),(4004,[]),(4008,[])] Tryz.func137 rfl rfl (by simp [Tryz.f137]) (by kernel_rfl) ?_
 simp only [Tryz.f137]
 refine sA ?_
 obtain ⟨c628,hr1,h⟩ := bind_ok h
 refine Cl_sA (zeU hr1) ?_
 try refine sA ?_
 obtain ⟨c631,hr2,h⟩ := bind_ok h
 refine Cl_sA (zfi hr2) ?_
 try refine sA ?_
 obtain ⟨c639,hr3,h⟩ := bind_ok h
 refine Cl_sA (zgz hr3) ?_
 try refine sA ?_
 obtain ⟨p642,hq4,h⟩ := bind_ok h
 refine Sq_cut (fun s2 => s2 = ⟨[(0,(.ra true [.sc (.int .i64 a0.Id),.sc (.int .i64 a0.Version),.sl (a0.Tellings.Branches.map eBranch)])),(1,(I a1)),(2,(.lf false (.sc (.string a2)))),(7,(.lf true (.sl (c628.map eEvent)))),(8,(.pb 0 0)),(9,(B c639.1)),(25,(B p642.t25))],[(0,some (true,.box [(I c631.Status),(I c631.Next),(B c631.Cancel),(I c631.Done),(.os 1 1 0 c631.Signals.length c631.Signals.length false),(.os 2 1 0 c631.Timers.length c631.Timers.length false)])),(1,some (false,.arr false 1 (c631.Signals.map eS))),(2,some (false,.arr false 1 (c631.Timers.map eS)))],3,75⟩) ?_ ?_
 ·try refine sA ?_
  obtain ⟨c640,hr5,hq4⟩ := bind_ok hq4
  refine Cl_sA (zev hr5) ?_
  try refine sA ?_
  refine Sp_if hq4 (fun hq4 hc6 => ?_) (fun hq4 hc6 => ?_)
  ·try refine sA ?_
   cases hq4
   exact X_cut rfl (weakA [some 3,some 0,some 1])
  ·try refine sA ?_
   obtain ⟨c641,hr7,hq4⟩ := bind_ok hq4
   refine Cl_sA (zdt hr7) ?_
   try refine sA ?_
   cases hq4
   exact X_cut rfl (weakA [some 3,some 0,some 1])
 ·intro s2 hJ; subst hJ
  try dsimp only at h
  try refine sA ?_
  refine Bs_if h (fun h hc8 => ?_) (fun h hc8 => ?_)
  ·try refine sA ?_
   obtain rfl:=Option.some.inj h
   exact endsA ⟨[(6,(I 1))],[],0,75⟩ []
  ·try refine sA ?_
   obtain ⟨c643,hr9,h⟩ := bind_ok h
   refine Cl_sA (zdB hr9) ?_
   try refine sA ?_
   refine Bs_if h (fun h hc10 => ?_) (fun h hc10 => ?_)
   ·try refine sA ?_
    obtain rfl:=Option.some.inj h
    exact endsA ⟨[(6,(I 2))],[],0,75⟩ []
   ·try refine sA ?_
    obtain ⟨p645,hq11,h⟩ := bind_ok h
    refine Sq_cut (fun s2 => s2 = ⟨[(0,(.ra true [.sc (.int .i64 a0.Id),.sc (.int .i64 a0.Version),.sl (a0.Tellings.Branches.map eBranch)])),(1,(I a1)),(2,(.lf false (.sc (.string a2)))),(7,(.lf true (.sl (c628.map eEvent)))),(8,(.pb 0 0)),(9,(B c639.1)),(38,(B p645.t38))],[(0,some (true,.box [(I c631.Status),(I c631.Next),(B c631.Cancel),(I c631.Done),(.os 1 1 0 c631.Signals.length c631.Signals.length false),(.os 2 1 0 c631.Timers.length c631.Timers.length false)])),(1,some (false,.arr false 1 (c631.Signals.map eS))),(2,some (false,.arr false 1 (c631.Timers.map eS)))],3,75⟩) ?_ ?_
    ·try refine sA ?_
     refine Sp_if hq11 (fun hq11 hc12 => ?_) (fun hq11 hc12 => ?_)
     ·try refine sA ?_
      obtain ⟨c644,hr13,hq11⟩ := bind_ok hq11
      refine Cl_sA (zax hr13) ?_
      try refine sA ?_
      cases hq11
      exact X_cut rfl (weakA [some 0,some 1,some 2])
     ·try refine sA ?_
      cases hq11
      exact X_cut rfl (weakA [some 0,some 1,some 2])
    ·intro s2 hJ; subst hJ
     try dsimp only at h
     try refine sA ?_
     refine Bs_if h (fun h hc14 => ?_) (fun h hc14 => ?_)
     ·try refine sA ?_
      obtain rfl:=Option.some.inj h
      exact endsA ⟨[(6,(I 5))],[],0,75⟩ []
     ·try refine sA ?_
      refine Bs_if h (fun h hc15 => ?_) (fun h hc15 => ?_)
      ·try refine sA ?_
       obtain rfl:=Option.some.inj h
       exact endsA ⟨[(6,(I 3))],[],0,75⟩ []
      ·try refine sA ?_
       refine Bs_if h (fun h hc16 => ?_) (fun h hc16 => ?_)
       ·try refine sA ?_
        obtain rfl:=Option.some.inj h
        exact endsA ⟨[(6,(I 4))],[],0,75⟩ []
       ·try refine sA ?_
        obtain ⟨c646,hr17,h⟩ := bind_ok h
        refine Cl_sA (zbe hr17) ?_
        try refine sA ?_
        obtain ⟨hp18,h⟩ := guard_some h
        try refine sA ?_
        try refine andA ?_
        obtain ⟨c647,hr19,h⟩ := bind_ok h
        refine Cl_sA (zf6 hr19) ?_
        try refine sA ?_
        cases h
theorem zgJ {a0 : RegionT} {a1 : Int} {a2 : ByteArray} {r : (Int × RegionT)} (h : zbb a0 a1 a2 = some r) : Fn Tryz.prog 137 [(.pb 0 0),(I a1),(.lf false (.sc (.string a2)))] [(0,some (false,.box [(I a0.Id),(I a0.Version),(.lf true (.sl (a0.Tellings.Branches.map eBranch)))]))] 1 (I r.1) [(0,some (false,.box [(I r.2.Id),(I r.2.Version),(.os 1 1 0 r.2.Tellings.Branches.length r.2.Tellings.Branches.length false)])),(1,some (true,.deep [.sl [.sc,.sc,.sc,.sc]] (r.2.Tellings.Branches.map eBranch)))] 2 := by
 unfold zbb at h
 refine fn_code tab_ok mixed [(14,[(4,6),(8,6),(12,6),(4,16),(4,17),(16,16)]),(1000,[(0,0),(1,0),(2,0)]),(1001,[(0,0),(1,0),(2,0),(7,0)]),(1002,[(0,0),(1,0),(2,0),(7,0),(8,0)]),(1003,[(0,0),(1,0),(2,0),(7,0),(8,0),(9,0)]),(1004,[(0,0),(1,0),(2,0),(7,0),(8,0),(9,0),(25,0)]),(1005,[(6,0)]),(1006,[(0,0),(1,0),(2,0),(7,0),(8,0),(9,0),(34,0)]),(1007,[(6,0)]),(1008,[(0,0),(1,0),(2,0),(7,0),(8,0),(9,0),(38,0)]),(1009,[(6,0)]),(1010,[(0,0),(1,0),(2,0),(7,0),(8,0),(47,0)]),(1011,[(6,0)]),(1012,[(0,0),(1,0),(2,0),(7,0),(8,0),(50,0)]),(1013,[(6,0)]),(1014,[]),(1015,[(6,0)]),(4004,[]),(4008,[])] Tryz.func137 rfl rfl (by simp [Tryz.f137]) (by kernel_rfl) ?_
 simp only [Tryz.f137]
 refine sA ?_
 obtain ⟨c650,hr1,h⟩ := bind_ok h
 refine Cl_sA (zeU hr1) ?_
 try refine sA ?_
 obtain ⟨c651,hr2,h⟩ := bind_ok h
 refine Cl_sA (zfi hr2) ?_
 try refine sA ?_
 obtain ⟨c652,hr3,h⟩ := bind_ok h
 refine Cl_sA (zgz hr3) ?_
 try refine sA ?_
 obtain ⟨p655,hq4,h⟩ := bind_ok h
 refine Sq_cut (fun s2 => s2 = ⟨[(0,(.pb 0 0)),(1,(I a1)),(2,(.lf false (.sc (.string a2)))),(7,(.lf true (.sl (c650.map eEvent)))),(8,(.pb 1 0)),(9,(B c652.1)),(25,(B p655.t25))],[(0,some (false,.box [(I a0.Id),(I a0.Version),(.lf true (.sl (a0.Tellings.Branches.map eBranch)))])),(1,some (true,.box [(I c651.Status),(I c651.Next),(B c651.Cancel),(I c651.Done),(.os 2 1 0 c651.Signals.length c651.Signals.length false),(.os 3 1 0 c651.Timers.length c651.Timers.length false)])),(2,some (false,.arr false 1 (c651.Signals.map eS))),(3,some (false,.arr false 1 (c651.Timers.map eS)))],4,75⟩) ?_ ?_
 ·try refine sA ?_
  obtain ⟨c653,hr5,hq4⟩ := bind_ok hq4
  refine Cl_sA (zev hr5) ?_
  try refine sA ?_
  refine Sp_if hq4 (fun hq4 hc6 => ?_) (fun hq4 hc6 => ?_)
  ·try refine sA ?_
   cases hq4
   exact X_cut rfl (weakA [some 0,some 4,some 1,some 2])
  ·try refine sA ?_
   obtain ⟨c654,hr7,hq4⟩ := bind_ok hq4
   refine Cl_sA (zdt hr7) ?_
   try refine sA ?_
   cases hq4
   exact X_cut rfl (weakA [some 0,some 4,some 1,some 2])
 ·intro s2 hJ; subst hJ
  try dsimp only at h
  try refine sA ?_
  refine Bs_if h (fun h hc8 => ?_) (fun h hc8 => ?_)
  ·cases h
  ·try refine sA ?_
   obtain ⟨c656,hr9,h⟩ := bind_ok h
   refine Cl_sA (zdB hr9) ?_
   try refine sA ?_
   refine Bs_if h (fun h hc10 => ?_) (fun h hc10 => ?_)
   ·cases h
   ·try refine sA ?_
    obtain ⟨p658,hq11,h⟩ := bind_ok h
    refine Sq_cut (fun s2 => s2 = ⟨[(0,(.pb 0 0)),(1,(I a1)),(2,(.lf false (.sc (.string a2)))),(7,(.lf true (.sl (c650.map eEvent)))),(8,(.pb 1 0)),(9,(B c652.1)),(38,(B p658.t38))],[(0,some (false,.box [(I a0.Id),(I a0.Version),(.lf true (.sl (a0.Tellings.Branches.map eBranch)))])),(1,some (true,.box [(I c651.Status),(I c651.Next),(B c651.Cancel),(I c651.Done),(.os 2 1 0 c651.Signals.length c651.Signals.length false),(.os 3 1 0 c651.Timers.length c651.Timers.length false)])),(2,some (false,.arr false 1 (c651.Signals.map eS))),(3,some (false,.arr false 1 (c651.Timers.map eS)))],4,75⟩) ?_ ?_
    ·try refine sA ?_
     refine Sp_if hq11 (fun hq11 hc12 => ?_) (fun hq11 hc12 => ?_)
     ·try refine sA ?_
      obtain ⟨c657,hr13,hq11⟩ := bind_ok hq11
      refine Cl_sA (zax hr13) ?_
      try refine sA ?_
      cases hq11
      exact X_cut rfl (weakA [some 0,some 1,some 2,some 3])
     ·try refine sA ?_
      cases hq11
      exact X_cut rfl (weakA [some 0,some 1,some 2,some 3])
    ·intro s2 hJ; subst hJ
     try dsimp only at h
     try refine sA ?_
     refine Bs_if h (fun h hc14 => ?_) (fun h hc14 => ?_)
     ·cases h
     ·try refine sA ?_
      refine Bs_if h (fun h hc15 => ?_) (fun h hc15 => ?_)
      ·cases h
      ·try refine sA ?_
       refine Bs_if h (fun h hc16 => ?_) (fun h hc16 => ?_)
       ·cases h
       ·try refine sA ?_
        obtain ⟨c659,hr17,h⟩ := bind_ok h
        refine Cl_sA (zbe hr17) ?_
        try refine sA ?_
        obtain ⟨hp18,h⟩ := guard_some h
        try refine sA ?_
        try refine andA ?_
        obtain ⟨c660,hr19,h⟩ := bind_ok h
        refine Cl_sA (zf6 hr19) ?_
        try refine sA ?_
        obtain rfl:=Option.some.inj h
        exact endsA ⟨[(6,(I 0))],[(0,some (false,.box [(I a0.Id),(I a0.Version),(.os 1 1 0 c660.Branches.length c660.Branches.length false)])),(1,some (true,.deep [.sl [.sc,.sc,.sc,.sc]] (c660.Branches.map eBranch)))],2,75⟩ [some 0,some 7]
theorem zf7 {a0 : RegionT} {m1 : Nat} {x1 : Bool} {r : (Int × RegionT)} (h : zaV a0 = some r) : Fn Tryz.prog 67 [(.pb 0 0)] [(0,some (false,.box [(I a0.Id),(I a0.Version),(.os 1 1 0 a0.Tellings.Branches.length m1 x1)])),(1,some (false,.deep [.sl [.sc,.sc,.sc,.sc]] (a0.Tellings.Branches.map eBranch)))] 2 (I r.1) [(0,some (false,.box [(I r.2.Id),(I r.2.Version),(.os 2 1 0 r.2.Tellings.Branches.length r.2.Tellings.Branches.length false)])),(1,none),(2,some (false,.deep [.sl [.sc,.sc,.sc,.sc]] (r.2.Tellings.Branches.map eBranch)))] 3 := by
 unfold zaV at h
 refine fn_code tab_ok mixed [(1000,[(0,0)]),(1001,[(0,0),(3,0)]),(1002,[(0,0),(3,0),(10,0),(11,0),(12,0)]),(1003,[(0,0),(3,0),(10,0),(11,0),(12,0),(13,0)]),(1004,[(0,0),(3,0),(5,0),(10,0),(11,0),(12,0)]),(1005,[(0,0),(3,0),(10,0),(11,0),(12,0),(19,0)]),(1006,[(0,0),(3,0),(10,0),(11,0),(12,0)]),(1007,[(0,0),(3,0),(10,0),(11,0),(12,0)]),(1008,[(2,0)])] Tryz.func67 rfl rfl (by simp [Tryz.f67]) (by kernel_rfl) ?_
 simp only [Tryz.f67]
 refine sA ?_
 obtain ⟨c648,hr1,h⟩ := bind_ok h
 refine Cl_sA (zfD hr1) ?_
 try refine sA ?_
 obtain ⟨y665,hl2,h⟩ := bind_ok h
 refine W_loopP (fun g649 : zbd => ⟨[(0,(.pb 0 0)),(3,(I g649.t3)),(10,(.os 2 1 0 c648.length c648.length false)),(11,(I ((c648.length : Nat) : Int))),(12,(I g649.t12))],[(0,some (false,.box [(I g649.b0_0),(I g649.b0_1),(.os 3 1 0 g649.c3.length g649.c3.length false)])),(1,none),(2,some (false,.arr false 1 (c648.map eS))),(3,some (false,.deep [.sl [.sc,.sc,.sc,.sc]] (g649.c3.map eBranch)))],4,24⟩) (zO c648) _ _ hl2 (weakA [some 0,some 1,some 2,some 1]) ?_
 ·intro n1 g649 z1 hs1 hk1
  unfold zO at hs1
  try dsimp only at hs1
  refine sA ?_
  refine Bs_if hs1 (fun hs1 hc3 => ?_) (fun hs1 hc3 => ?_)
  ·try refine sA ?_
   obtain ⟨hp4,hs1⟩ := guard_some hs1
   have hn4 : g649.t12.toNat < c648.length := by first | omega | (simp only [List.length_set,List.length_append,List.length_replicate,List.length_map]; omega)
   try refine sA ?_
   try refine andA ?_
   try refine andB ?_
   try refine sA ?_
   cases hab6 : zaw (⟨g649.b0_0,g649.b0_1,(⟨g649.c3⟩ : TellingsT)⟩ : RegionT) 2 (nth c648 g649.t12.toNat) with
   | some c663 =>
    rw [hab6] at hs1
    try dsimp only at hs1
    refine Cl_sA (zgH hab6) ?_
    try refine sA ?_
    refine Bs_if hs1 (fun hs1 hc7 => ?_) (fun hs1 hc7 => ?_)
    ·try refine sA ?_
     cases hs1
     exact X_backP hk1 (weakA [some 0,some 1,some 2,some 3])
    ·try refine sA ?_
     cases hs1
     exact X_backP hk1 (weakA [some 0,some 1,some 2,some 3])
   | none =>
    rw [hab6] at hs1
    try dsimp only at hs1
    obtain ⟨c664,hr8,hs1⟩ := bind_ok hs1
    refine Cl_gA [0] (zgJ hr8) ?_
    try refine sA ?_
    refine Bs_if hs1 (fun hs1 hc9 => ?_) (fun hs1 hc9 => ?_)
    ·try refine sA ?_
     cases hs1
     exact X_backP hk1 (weakA [some 0,some 1,some 2,some 4])
    ·try refine sA ?_
     cases hs1
     exact X_backP hk1 (weakA [some 0,some 1,some 2,some 4])
  ·try refine sA ?_
   cases hs1
   cases hk1
   try dsimp only at h
   try refine sA ?_
   obtain rfl:=Option.some.inj h
   exact endsA ⟨[(2,(I g649.t3))],[(0,some (false,.box [(I g649.b0_0),(I g649.b0_1),(.os 2 1 0 g649.c3.length g649.c3.length false)])),(1,none),(2,some (false,.deep [.sl [.sc,.sc,.sc,.sc]] (g649.c3.map eBranch)))],3,24⟩ [some 0,some 1,some 3]
theorem zgA {a0 : RegionT} {r : (RegionT × Int × Bool)} (h : zdU a0 = some r) : Fn Tryz.prog 15 [(.ag [(I a0.Id),(I a0.Version),(.lf true (.sl (a0.Tellings.Branches.map eBranch)))])] [] 0 (.tu [(.ag [(I r.1.Id),(I r.1.Version),(.os 0 1 0 r.1.Tellings.Branches.length r.1.Tellings.Branches.length false)]),(I r.2.1),(B r.2.2)]) [(0,some (false,.deep [.sl [.sc,.sc,.sc,.sc]] (r.1.Tellings.Branches.map eBranch)))] 2 := by
 unfold zdU at h
 refine fn_code tab_ok mixed [(1000,[(1,0),(2,0)]),(1001,[(1,0),(2,0),(13,0)]),(1002,[(2,0),(3,0),(4,0)]),(1003,[(2,0),(5,0)]),(1004,[(2,0),(5,0),(6,0)]),(1005,[(2,0),(3,0),(4,0)]),(4001,[])] Tryz.func15 rfl rfl (by simp [Tryz.f15]) (by kernel_rfl) ?_
 simp only [Tryz.f15]
 refine sA ?_
 obtain ⟨p592,hq1,h⟩ := bind_ok h
 refine Sq_cut (fun s2 => s2 = ⟨[(1,(.pb 0 0)),(2,(.pb 1 0)),(13,(B p592.t13))],[(0,some (true,.box [(I a0.Id),(I a0.Version),(.lf true (.sl (a0.Tellings.Branches.map eBranch)))])),(1,some (true,.box [(I 0),(I 0),.nl]))],2,20⟩) ?_ ?_
 ·try refine sA ?_
  obtain ⟨c590,hr2,hq1⟩ := bind_ok hq1
  refine Cl_sA (zck hr2) ?_
  try refine sA ?_
  refine Sp_if hq1 (fun hq1 hc3 => ?_) (fun hq1 hc3 => ?_)
  ·try refine sA ?_
   cases hq1
   exact X_cut rfl (weakA [some 0,some 1])
  ·try refine sA ?_
   obtain ⟨c591,hr4,hq1⟩ := bind_ok hq1
   refine Cl_sA (zdB hr4) ?_
   try refine sA ?_
   cases hq1
   exact X_cut rfl (weakA [some 0,some 1])
 ·intro s2 hJ; subst hJ
  try dsimp only at h
  try refine sA ?_
  refine Bs_if h (fun h hc5 => ?_) (fun h hc5 => ?_)
  ·try refine sA ?_
   obtain rfl:=Option.some.inj h
   exact endsA ⟨[(2,(.pb 1 0)),(3,(I 0)),(4,(B false))],[(0,some (false,.deep [.sl [.sc,.sc,.sc,.sc]] (([] : List BranchT).map eBranch))),(1,some (true,.box [(I 0),(I 0),(.os 0 1 0 (([] : List BranchT).length) (([] : List BranchT).length) false)]))],2,20⟩ [none,some 1]
  ·try refine sA ?_
   obtain ⟨c593,hr6,h⟩ := bind_ok h
   refine Cl_sA (zfB hr6) ?_
   try refine sA ?_
   obtain ⟨c666,hr7,h⟩ := bind_ok h
   refine Cl_hA [4,2] (zf7 hr7) ?_
   try refine sA ?_
   obtain rfl:=Option.some.inj h
   exact endsA ⟨[(2,(.pb 1 0)),(3,(I c666.1)),(4,(B true))],[(0,some (false,.deep [.sl [.sc,.sc,.sc,.sc]] (c666.2.Tellings.Branches.map eBranch))),(1,some (true,.box [(I c666.2.Id),(I c666.2.Version),(.os 0 1 0 c666.2.Tellings.Branches.length c666.2.Tellings.Branches.length false)]))],2,20⟩ [some 5,some 1]
theorem zhU {a0 : (List BranchT)} {r : (List ByteArray)} (h : zeA a0 = some r) : Fn Tryz.prog 138 [(.lf true (.sl (a0.map eBranch)))] [] 0 (.os 0 1 0 r.length r.length false) [(0,some (true,.arr false 1 (r.map eS)))] 1 := by
 unfold zeA at h
 refine fn_code tab_ok mixed [(1000,[(0,0)]),(1001,[(0,0),(3,0)]),(1002,[(0,0),(3,0),(16,0)]),(1003,[(2,0)]),(1004,[(0,0),(4,0)]),(1005,[(0,0),(4,0),(6,0)]),(1006,[(4,0),(6,0),(26,0),(27,0),(28,0)]),(1007,[(4,0),(6,0),(26,0),(27,0),(28,0),(29,0)]),(1008,[(4,0),(6,0),(8,0),(26,0),(27,0),(28,0)]),(1009,[(4,0),(6,0),(9,0),(26,0),(27,0),(28,0)]),(1010,[(4,0),(6,0),(26,0),(27,0),(28,0),(39,0),(40,0),(41,0)]),(1011,[(4,0),(6,0),(26,0),(27,0),(28,0),(39,0),(40,0),(41,0),(42,0)]),(1012,[(4,0),(6,0),(12,0),(26,0),(27,0),(28,0),(39,0),(40,0),(41,0)]),(1013,[(4,0),(6,0),(12,0),(26,0),(27,0),(28,0),(39,0),(40,0),(41,0),(55,0)]),(1014,[(4,0),(6,0),(26,0),(27,0),(28,0),(39,0),(40,0),(41,0)]),(1015,[(4,0),(6,0),(26,0),(27,0),(28,0),(39,0),(40,0),(41,0)]),(1016,[(4,0),(6,0),(26,0),(27,0),(28,0)]),(1017,[(2,0)]),(4013,[])] Tryz.func138 rfl rfl (by simp [Tryz.f138]) (by kernel_rfl) ?_
 simp only [Tryz.f138]
 refine sA ?_
 obtain ⟨c672,hr1,h⟩ := bind_ok h
 refine Cl_sA (zfN hr1) ?_
 try refine sA ?_
 refine Bs_if h (fun h hc2 => ?_) (fun h hc2 => ?_)
 ·try refine sA ?_
  obtain rfl:=Option.some.inj h
  exact endsA ⟨[(2,(.os 0 1 0 (([] : List ByteArray).length) (([] : List ByteArray).length) false))],[(0,some (true,.arr false 1 (([] : List ByteArray).map eS)))],1,62⟩ [none]
 ·try refine sA ?_
  obtain ⟨hp3,h⟩ := guard_some h
  have hn3 : c672.toNat < a0.length := by first | omega | (simp only [List.length_set,List.length_append,List.length_replicate,List.length_map]; omega)
  try refine sA ?_
  try refine andA ?_
  obtain ⟨c673,hr4,h⟩ := bind_ok h
  refine Cl_sA (zeT hr4) ?_
  try refine sA ?_
  obtain ⟨y697,hl5,h⟩ := bind_ok h
  refine W_loopP (fun g674 : zen => ⟨[(4,(.pb 0 0)),(6,(.os 1 1 0 g674.c1.length g674.c1.length false)),(26,(.lf true (.sl (a0.map eBranch)))),(27,(I ((a0.length : Nat) : Int))),(28,(I g674.t28))],[(0,some (true,.box [(I c673.1.Status),(I c673.1.Next),(B c673.1.Cancel),(I c673.1.Done),(.lf true (.sl (c673.1.Signals.map eS))),(.lf true (.sl (c673.1.Timers.map eS)))])),(1,some (true,.arr false 1 (g674.c1.map eS)))],2,62⟩) (zca a0 c673) _ _ hl5 (weakA [some 1,none]) ?_
  ·intro n1 g674 z1 hs1 hk1
   unfold zca at hs1
   try dsimp only at hs1
   refine sA ?_
   refine Bs_if hs1 (fun hs1 hc6 => ?_) (fun hs1 hc6 => ?_)
   ·try refine sA ?_
    obtain ⟨hp7,hs1⟩ := guard_some hs1
    have hn7 : g674.t28.toNat < a0.length := by first | omega | (simp only [List.length_set,List.length_append,List.length_replicate,List.length_map]; omega)
    try refine sA ?_
    try refine andA ?_
    obtain ⟨c686,hr8,hs1⟩ := bind_ok hs1
    refine Cl_sA (zeT hr8) ?_
    try refine sA ?_
    obtain ⟨y696,hl9,hs1⟩ := bind_ok hs1
    refine W_loopP (fun g687 : zeo => ⟨[(4,(.pb 0 0)),(6,(.os 1 1 0 g687.c1.length g687.c1.length false)),(26,(.lf true (.sl (a0.map eBranch)))),(27,(I ((a0.length : Nat) : Int))),(28,(I g674.t28)),(39,(.lf true (.sl (c686.1.Signals.map eS)))),(40,(I ((c686.1.Signals.length : Nat) : Int))),(41,(I g687.t41))],[(0,some (true,.box [(I c673.1.Status),(I c673.1.Next),(B c673.1.Cancel),(I c673.1.Done),(.lf true (.sl (c673.1.Signals.map eS))),(.lf true (.sl (c673.1.Timers.map eS)))])),(1,some (true,.arr false 1 (g687.c1.map eS)))],2,62⟩) (zbl c686 c673) _ _ hl9 (weakA [some 0,some 1]) ?_
    ·intro n2 g687 z2 hs2 hk2
     unfold zbl at hs2
     try dsimp only at hs2
     refine sA ?_
     refine Bs_if hs2 (fun hs2 hc10 => ?_) (fun hs2 hc10 => ?_)
     ·try refine sA ?_
      obtain ⟨hp11,hs2⟩ := guard_some hs2
      have hn11 : g687.t41.toNat < c686.1.Signals.length := by first | omega | (simp only [List.length_set,List.length_append,List.length_replicate,List.length_map]; omega)
      try refine sA ?_
      try refine andA ?_
      obtain ⟨p694,hq12,hs2⟩ := bind_ok hs2
      refine Sq_cut (fun s2 => s2 = ⟨[(4,(.pb 0 0)),(6,(.os 1 1 0 g687.c1.length g687.c1.length false)),(12,(.lf false (.sc (.string (nth c686.1.Signals g687.t41.toNat))))),(26,(.lf true (.sl (a0.map eBranch)))),(27,(I ((a0.length : Nat) : Int))),(28,(I g674.t28)),(39,(.lf true (.sl (c686.1.Signals.map eS)))),(40,(I ((c686.1.Signals.length : Nat) : Int))),(41,(I g687.t41)),(55,(B p694.t55))],[(0,some (true,.box [(I c673.1.Status),(I c673.1.Next),(B c673.1.Cancel),(I c673.1.Done),(.lf true (.sl (c673.1.Signals.map eS))),(.lf true (.sl (c673.1.Timers.map eS)))])),(1,some (true,.arr false 1 (g687.c1.map eS)))],2,62⟩) ?_ ?_
      ·try refine sA ?_
       obtain ⟨c692,hr13,hq12⟩ := bind_ok hq12
       refine Cl_sA (zeJ hr13) ?_
       try refine sA ?_
       refine Sp_if hq12 (fun hq12 hc14 => ?_) (fun hq12 hc14 => ?_)
       ·try refine sA ?_
        obtain ⟨c693,hr15,hq12⟩ := bind_ok hq12
        refine Cl_sA (zeJ hr15) ?_
        try refine sA ?_
        cases hq12
        exact X_cut rfl (weakA [some 0,some 1])
       ·try refine sA ?_
        cases hq12
        exact X_cut rfl (weakA [some 0,some 1])
      ·intro s2 hJ; subst hJ
       try dsimp only at hs2
       try refine sA ?_
       refine Bs_if hs2 (fun hs2 hc16 => ?_) (fun hs2 hc16 => ?_)
       ·try refine sA ?_
        obtain ⟨c695,hr17,hs2⟩ := bind_ok hs2
        refine Cl_sA (zge hr17) ?_
        try refine sA ?_
        cases hs2
        exact X_backP hk2 (weakA [some 0,some 2])
       ·try refine sA ?_
        cases hs2
        exact X_backP hk2 (weakA [some 0,some 1])
     ·try refine sA ?_
      cases hs2
      cases hk2
      try dsimp only at hs1
      try refine sA ?_
      cases hs1
      exact X_backP hk1 (weakA [some 0,some 1])
   ·try refine sA ?_
    cases hs1
    cases hk1
    try dsimp only at h
    try refine sA ?_
    obtain rfl:=Option.some.inj h
    exact endsA ⟨[(2,(.os 0 1 0 g674.c1.length g674.c1.length false))],[(0,some (true,.arr false 1 (g674.c1.map eS)))],1,62⟩ [some 1]
theorem zhn {a0 : RegionT} {r : (RegionT × Int)} (h : zdr a0 = some r) : Fn Tryz.prog 69 [(.ag [(I a0.Id),(I a0.Version),(.lf true (.sl (a0.Tellings.Branches.map eBranch)))])] [] 0 (.tu [(.ag [(I r.1.Id),(I r.1.Version),(.lf true (.sl (r.1.Tellings.Branches.map eBranch)))]),(I r.2)]) [] 1 := by
 unfold zdr at h
 refine fn_code tab_ok mixed [(1000,[(1,0),(2,0)]),(1001,[(1,0),(2,0),(4,0)]),(1002,[(1,0),(2,0),(4,0),(12,0),(13,0),(14,0)]),(1003,[(1,0),(2,0),(4,0),(12,0),(13,0),(14,0),(15,0)]),(1004,[(1,0),(2,0),(4,0),(6,0),(12,0),(13,0),(14,0)]),(1005,[(1,0),(2,0),(4,0),(7,0),(8,0),(12,0),(13,0),(14,0)]),(1006,[(1,0),(2,0),(4,0),(7,0),(12,0),(13,0),(14,0),(25,0)]),(1007,[(1,0),(2,0),(4,0),(12,0),(13,0),(14,0)]),(1008,[(1,0),(2,0),(4,0),(12,0),(13,0),(14,0)]),(1009,[(1,0),(2,0),(4,0),(12,0),(13,0),(14,0)]),(1010,[(2,0),(3,0)])] Tryz.func69 rfl rfl (by simp [Tryz.f69]) (by kernel_rfl) ?_
 simp only [Tryz.f69]
 refine sA ?_
 obtain ⟨c698,hr1,h⟩ := bind_ok h
 refine Cl_sA (zhU hr1) ?_
 try refine sA ?_
 obtain ⟨y702,hl2,h⟩ := bind_ok h
 refine W_loopP (fun g699 : zdq => ⟨[(1,(.pb 0 0)),(2,(.pb 1 0)),(4,(I g699.t4)),(12,(.os 2 1 0 c698.length c698.length false)),(13,(I ((c698.length : Nat) : Int))),(14,(I g699.t14))],[(0,some (true,.box [(I g699.b0_0),(I g699.b0_1),(.lf true (.sl (g699.b0_2.map eBranch)))])),(1,some (true,.box [(I 0),(I 0),.nl])),(2,some (true,.arr false 1 (c698.map eS)))],3,32⟩) (zav c698) _ _ hl2 (weakA [some 0,some 1,some 2]) ?_
 ·intro n1 g699 z1 hs1 hk1
  unfold zav at hs1
  try dsimp only at hs1
  refine sA ?_
  refine Bs_if hs1 (fun hs1 hc3 => ?_) (fun hs1 hc3 => ?_)
  ·try refine sA ?_
   obtain ⟨hp4,hs1⟩ := guard_some hs1
   have hn4 : g699.t14.toNat < c698.length := by first | omega | (simp only [List.length_set,List.length_append,List.length_replicate,List.length_map]; omega)
   try refine sA ?_
   try refine andA ?_
   try refine andB ?_
   try refine sA ?_
   obtain ⟨c701,hr6,hs1⟩ := bind_ok hs1
   refine Cl_sA (zgr hr6) ?_
   try refine sA ?_
   refine Bs_if hs1 (fun hs1 hc7 => ?_) (fun hs1 hc7 => ?_)
   ·try refine sA ?_
    cases hs1
    exact X_backP hk1 (weakA [some 0,some 1,some 2])
   ·try refine sA ?_
    cases hs1
    exact X_backP hk1 (weakA [some 0,some 1,some 2])
  ·try refine sA ?_
   cases hs1
   cases hk1
   try dsimp only at h
   try refine sA ?_
   obtain rfl:=Option.some.inj h
   exact endsA ⟨[(2,(.pb 0 0)),(3,(I g699.t4))],[(0,some (true,.box [(I g699.b0_0),(I g699.b0_1),(.lf true (.sl (g699.b0_2.map eBranch)))]))],1,32⟩ [some 1]
theorem zhV {a0 : RegionT} {r : (RegionT × Int × Bool)} (h : zeD a0 = some r) : Fn Tryz.prog 16 [(.ag [(I a0.Id),(I a0.Version),(.lf true (.sl (a0.Tellings.Branches.map eBranch)))])] [] 0 (.tu [(.ag [(I r.1.Id),(I r.1.Version),(.lf true (.sl (r.1.Tellings.Branches.map eBranch)))]),(I r.2.1),(B r.2.2)]) [] 1 := by
 unfold zeD at h
 refine fn_code tab_ok mixed [(1000,[(1,0),(2,0)]),(1001,[(1,0),(2,0),(14,0)]),(1002,[(2,0),(3,0),(4,0)]),(1003,[(2,0),(5,0),(6,0)]),(1004,[(2,0),(3,0),(4,0)]),(4001,[])] Tryz.func16 rfl rfl (by simp [Tryz.f16]) (by kernel_rfl) ?_
 simp only [Tryz.f16]
 refine sA ?_
 obtain ⟨p670,hq1,h⟩ := bind_ok h
 refine Sq_cut (fun s2 => s2 = ⟨[(1,(.pb 0 0)),(2,(.pb 1 0)),(14,(B p670.t14))],[(0,some (true,.box [(I a0.Id),(I a0.Version),(.lf true (.sl (a0.Tellings.Branches.map eBranch)))])),(1,some (true,.box [(I 0),(I 0),.nl]))],2,24⟩) ?_ ?_
 ·try refine sA ?_
  obtain ⟨c668,hr2,hq1⟩ := bind_ok hq1
  refine Cl_sA (zaj hr2) ?_
  try refine sA ?_
  refine Sp_if hq1 (fun hq1 hc3 => ?_) (fun hq1 hc3 => ?_)
  ·try refine sA ?_
   cases hq1
   exact X_cut rfl (weakA [some 0,some 1])
  ·try refine sA ?_
   obtain ⟨c669,hr4,hq1⟩ := bind_ok hq1
   refine Cl_sA (zfZ hr4) ?_
   try refine sA ?_
   cases hq1
   exact X_cut rfl (weakA [some 0,some 1])
 ·intro s2 hJ; subst hJ
  try dsimp only at h
  try refine sA ?_
  refine Bs_if h (fun h hc5 => ?_) (fun h hc5 => ?_)
  ·try refine sA ?_
   obtain rfl:=Option.some.inj h
   exact endsA ⟨[(2,(.pb 0 0)),(3,(I 0)),(4,(B false))],[(0,some (true,.box [(I 0),(I 0),(.lf true (.sl (([]).map eBranch)))]))],1,24⟩ [some 1]
  ·try refine sA ?_
   obtain ⟨c671,hr6,h⟩ := bind_ok h
   refine Cl_sA (zfp hr6) ?_
   try refine sA ?_
   obtain ⟨c703,hr7,h⟩ := bind_ok h
   refine Cl_sA (zhn hr7) ?_
   try refine sA ?_
   obtain rfl:=Option.some.inj h
   exact endsA ⟨[(2,(.pb 0 0)),(3,(I c703.2)),(4,(B true))],[(0,some (true,.box [(I c703.1.Id),(I c703.1.Version),(.lf true (.sl (c703.1.Tellings.Branches.map eBranch)))]))],1,24⟩ [some 1]
theorem zfE {a0 : TellingsT} {r : ((List ByteArray) × Bool)} (h : zbK a0 = some r) : Fn Tryz.prog 17 [(.ag [(.lf true (.sl (a0.Branches.map eBranch)))])] [] 0 (.tu [(.os 0 1 0 r.1.length r.1.length false),(B r.2)]) [(0,some (false,.arr false 1 (r.1.map eS)))] 1 := by
 unfold zbK at h
 refine fn_code tab_ok mixed [(1000,[(1,0)]),(1001,[(1,0),(6,0)]),(1002,[(2,0),(3,0)]),(1003,[(2,0),(3,0)])] Tryz.func17 rfl rfl (by simp [Tryz.f17]) (by kernel_rfl) ?_
 simp only [Tryz.f17]
 refine sA ?_
 obtain ⟨c706,hr1,h⟩ := bind_ok h
 refine Cl_sA (zbC hr1) ?_
 try refine sA ?_
 refine Bs_if h (fun h hc2 => ?_) (fun h hc2 => ?_)
 ·try refine sA ?_
  obtain rfl:=Option.some.inj h
  exact endsA ⟨[(2,(.os 0 1 0 (([] : List ByteArray).length) (([] : List ByteArray).length) false)),(3,(B false))],[(0,some (false,.arr false 1 (([] : List ByteArray).map eS)))],1,9⟩ [none]
 ·try refine sA ?_
  obtain ⟨c707,hr3,h⟩ := bind_ok h
  refine Cl_sA (zfD hr3) ?_
  try refine sA ?_
  obtain rfl:=Option.some.inj h
  exact endsA ⟨[(2,(.os 0 1 0 c707.length c707.length false)),(3,(B true))],[(0,some (false,.arr false 1 (c707.map eS)))],1,9⟩ [some 1]
theorem zgK {a0 : RegionT} {r : WordT} (h : zdj a0 = some r) : Fn Tryz.prog 72 [(.ra true [.sc (.int .i64 a0.Id),.sc (.int .i64 a0.Version),.sl (a0.Tellings.Branches.map eBranch)])] [] 0 (.ag [(I r.Version),(.os 0 1 0 r.Tellings.Branches.length r.Tellings.Branches.length false)]) [(0,some (true,.deep [.sl [.sc,.sc,.sc,.sc]] (r.Tellings.Branches.map eBranch)))] 2 := by
 unfold zdj at h
 refine fn_code tab_ok mixed [(1,[(3,8)])] Tryz.func72 rfl rfl (by simp [Tryz.f72]) (by kernel_rfl) ?_
 simp only [Tryz.f72]
 refine sA ?_
 obtain ⟨c711,hr1,h⟩ := bind_ok h
 refine Cl_sA (zcu hr1) ?_
 try refine sA ?_
 obtain rfl:=Option.some.inj h
 exact endsA ⟨[(2,(.pb 1 0))],[(0,some (true,.deep [.sl [.sc,.sc,.sc,.sc]] (c711.Branches.map eBranch))),(1,some (true,.box [(I a0.Version),(.os 0 1 0 c711.Branches.length c711.Branches.length false)]))],2,13⟩ [some 1,some 0]
theorem zh2 {a0 : RegionT} {r : (WordT × Bool)} (h : ze2 a0 = some r) : Fn Tryz.prog 18 [(.ag [(I a0.Id),(I a0.Version),(.lf true (.sl (a0.Tellings.Branches.map eBranch)))])] [] 0 (.tu [(.ag [(I r.1.Version),(.os 0 1 0 r.1.Tellings.Branches.length r.1.Tellings.Branches.length false)]),(B r.2)]) [(0,some (true,.deep [.sl [.sc,.sc,.sc,.sc]] (r.1.Tellings.Branches.map eBranch)))] 2 := by
 unfold ze2 at h
 refine fn_code tab_ok mixed [(1000,[(1,0),(2,0)]),(1001,[(1,0),(2,0),(6,0)]),(1002,[(2,0),(3,0)]),(1003,[(2,0),(3,0)])] Tryz.func18 rfl rfl (by simp [Tryz.f18]) (by kernel_rfl) ?_
 simp only [Tryz.f18]
 refine sA ?_
 obtain ⟨c710,hr1,h⟩ := bind_ok h
 refine Cl_sA (zck hr1) ?_
 try refine sA ?_
 refine Bs_if h (fun h hc2 => ?_) (fun h hc2 => ?_)
 ·try refine sA ?_
  obtain rfl:=Option.some.inj h
  exact endsA ⟨[(2,(.pb 1 0)),(3,(B false))],[(0,some (true,.deep [.sl [.sc,.sc,.sc,.sc]] (([] : List BranchT).map eBranch))),(1,some (true,.box [(I 0),(.os 0 1 0 (([] : List BranchT).length) (([] : List BranchT).length) false)]))],2,9⟩ [none,some 1]
 ·try refine sA ?_
  obtain ⟨c712,hr3,h⟩ := bind_ok h
  refine Cl_sA (zgK hr3) ?_
  try refine sA ?_
  obtain rfl:=Option.some.inj h
  exact endsA ⟨[(2,(.pb 1 0)),(3,(B true))],[(0,some (true,.deep [.sl [.sc,.sc,.sc,.sc]] (c712.Tellings.Branches.map eBranch))),(1,some (true,.box [(I c712.Version),(.os 0 1 0 c712.Tellings.Branches.length c712.Tellings.Branches.length false)]))],2,9⟩ [some 2,some 1]
theorem zhW {a0 : (List Int)} {a1 : (List Int)} {r : Bool} (h : zfo a0 a1 = some r) : Fn Tryz.prog 3 [(.lf true (.sl (a0.map eU8))),(.lf true (.sl (a1.map eU8)))] [] 0 (B r) [] 0 := by
 unfold zfo at h
 refine fn_code tab_ok mixed [(1000,[(0,0),(1,0)]),(1001,[(0,0),(1,0),(38,0)]),(1002,[(4,0)]),(1003,[(1,0),(5,0),(6,0)]),(1004,[(1,0),(5,0),(6,0),(7,0),(8,0)]),(1005,[(1,0),(5,0),(6,0),(7,0),(8,0),(9,0),(10,0)]),(1006,[(1,0),(5,0),(6,0),(7,0),(8,0),(64,0)]),(1007,[(4,0)]),(1008,[(1,0),(5,0),(6,0),(7,0),(65,0)]),(1009,[(1,0),(5,0),(6,0),(7,0),(11,0),(12,0)]),(1010,[(1,0),(5,0),(7,0),(98,0)]),(1011,[(4,0)]),(1012,[(1,0),(7,0),(101,0),(102,0),(103,0)]),(1013,[(1,0),(7,0),(101,0),(102,0),(103,0),(104,0)]),(1014,[(1,0),(7,0),(14,0),(101,0),(102,0),(103,0)]),(1015,[(1,0),(7,0),(15,0),(16,0),(101,0),(102,0),(103,0)]),(1016,[(1,0),(7,0),(101,0),(102,0),(103,0),(120,0)]),(1017,[(4,0)]),(1018,[(1,0),(7,0),(101,0),(102,0),(103,0)]),(1019,[(17,0)]),(1020,[(17,0),(18,0),(19,0),(20,0)]),(1021,[(17,0),(18,0),(19,0),(20,0),(22,0),(23,0)]),(1022,[(17,0),(18,0),(19,0),(20,0),(143,0)]),(1023,[(4,0)]),(1024,[(17,0),(18,0),(19,0),(145,0)]),(1025,[(4,0)]),(1026,[(18,0),(19,0),(24,0),(25,0)]),(1027,[(18,0),(19,0),(24,0),(25,0),(26,0),(27,0)]),(1028,[(18,0),(19,0),(24,0),(25,0),(26,0),(27,0),(28,0),(29,0)]),(1029,[(18,0),(19,0),(24,0),(25,0),(26,0),(27,0),(28,0),(29,0),(31,0),(32,0)]),(1030,[(4,0)]),(2065,[]),(4006,[]),(4010,[]),(4016,[]),(4022,[])] Tryz.func3 rfl rfl (by simp [Tryz.f3]) (by kernel_rfl) ?_
 simp only [Tryz.f3]
 refine sA ?_
 refine Bs_if h (fun h hc1 => ?_) (fun h hc1 => ?_)
 ·try refine sA ?_
  obtain rfl:=Option.some.inj h
  exact endsA ⟨[(4,(B true))],[],0,205⟩ []
 ·try refine sA ?_
  obtain ⟨c348,hr2,h⟩ := bind_ok h
  refine Cl_sA (zgO hr2) ?_
  try refine sA ?_
  obtain ⟨c547,hr3,h⟩ := bind_ok h
  refine Cl_sA (zgk hr3) ?_
  try refine sA ?_
  obtain ⟨c548,hr4,h⟩ := bind_ok h
  refine Cl_sA (zhH hr4) ?_
  try refine sA ?_
  obtain ⟨p561,hq5,h⟩ := bind_ok h
  refine Sq_cut (fun s2 => s2 = ⟨[(1,(.lf true (.sl (a1.map eU8)))),(5,(.pb 0 0)),(6,(.pb 1 0)),(7,(.pb 2 0)),(8,(B c547.2)),(64,(B p561.t64))],[(0,some (true,.box [(I c348.1.Id),(I c348.1.Version),(.lf true (.sl (c348.1.Tellings.Branches.map eBranch)))])),(1,some (true,.box [(I c348.2.Version),(.os 3 1 0 c348.2.Tellings.Branches.length c348.2.Tellings.Branches.length false)])),(2,some (true,.box [(I c547.1.Id),(I c547.1.Version),(.os 4 1 0 c547.1.Tellings.Branches.length c547.1.Tellings.Branches.length false)])),(3,some (true,.deep [.sl [.sc,.sc,.sc,.sc]] (c348.2.Tellings.Branches.map eBranch))),(4,some (false,.deep [.sl [.sc,.sc,.sc,.sc]] (c547.1.Tellings.Branches.map eBranch)))],5,205⟩) ?_ ?_
  ·try refine sA ?_
   refine Sp_if hq5 (fun hq5 hc6 => ?_) (fun hq5 hc6 => ?_)
   ·try refine sA ?_
    cases hq5
    exact X_cut rfl (weakA [some 3,some 4,some 7,some 0,some 5])
   ·try refine sA ?_
    obtain ⟨c560,hr7,hq5⟩ := bind_ok hq5
    refine Cl_sA (zfC hr7) ?_
    try refine sA ?_
    cases hq5
    exact X_cut rfl (weakA [some 3,some 4,some 7,some 0,some 5])
  ·intro s2 hJ; subst hJ
   try dsimp only at h
   try refine sA ?_
   refine Bs_if h (fun h hc8 => ?_) (fun h hc8 => ?_)
   ·try refine sA ?_
    obtain rfl:=Option.some.inj h
    exact endsA ⟨[(4,(B false))],[],0,205⟩ []
   ·try refine sA ?_
    obtain ⟨q9,hq9,h⟩ := bind_ok h
    refine Sq_cut (fun s2 => ∃ p586 : Unit,q9 = .inl p586 ∧ s2 = ⟨[(1,(.lf true (.sl (a1.map eU8))))],[],0,205⟩) ?_ ?_
    ·try refine sA ?_
     refine Bs_if hq9 (fun hq9 hc10 => ?_) (fun hq9 hc10 => ?_)
     ·try refine sA ?_
      obtain ⟨c562,hr11,hq9⟩ := bind_ok hq9
      refine Cl_sA (zgk hr11) ?_
      try refine sA ?_
      obtain ⟨p565,hq12,hq9⟩ := bind_ok hq9
      refine Sq_cut (fun s2 => s2 = ⟨[(1,(.lf true (.sl (a1.map eU8)))),(5,(.pb 0 0)),(7,(.pb 1 0)),(98,(B p565.t98))],[(0,some (true,.box [(I c348.1.Id),(I c348.1.Version),(.lf true (.sl (c348.1.Tellings.Branches.map eBranch)))])),(1,some (true,.box [(I c547.1.Id),(I c547.1.Version),(.os 2 1 0 c547.1.Tellings.Branches.length c547.1.Tellings.Branches.length false)])),(2,some (false,.deep [.sl [.sc,.sc,.sc,.sc]] (c547.1.Tellings.Branches.map eBranch)))],3,205⟩) ?_ ?_
      ·try refine sA ?_
       refine Sp_if hq12 (fun hq12 hc13 => ?_) (fun hq12 hc13 => ?_)
       ·try refine sA ?_
        cases hq12
        exact X_cut rfl (weakA [some 0,some 2,some 4])
       ·try refine sA ?_
        obtain ⟨c563,hr14,hq12⟩ := bind_ok hq12
        refine Cl_sA (zfC hr14) ?_
        try refine sA ?_
        refine Sp_if hq12 (fun hq12 hc15 => ?_) (fun hq12 hc15 => ?_)
        ·try refine sA ?_
         cases hq12
         exact X_cut rfl (weakA [some 0,some 2,some 4])
        ·try refine sA ?_
         refine Sp_if hq12 (fun hq12 hc16 => ?_) (fun hq12 hc16 => ?_)
         ·try refine sA ?_
          cases hq12
          exact X_cut rfl (weakA [some 0,some 2,some 4])
         ·try refine sA ?_
          refine Sp_if hq12 (fun hq12 hc17 => ?_) (fun hq12 hc17 => ?_)
          ·try refine sA ?_
           cases hq12
           exact X_cut rfl (weakA [some 0,some 2,some 4])
          ·try refine sA ?_
           obtain ⟨c564,hr18,hq12⟩ := bind_ok hq12
           refine Cl_sA (zck hr18) ?_
           try refine sA ?_
           cases hq12
           exact X_cut rfl (weakA [some 0,some 2,some 4])
      ·intro s2 hJ; subst hJ
       try dsimp only at hq9
       try refine sA ?_
       refine Bs_if hq9 (fun hq9 hc19 => ?_) (fun hq9 hc19 => ?_)
       ·try refine sA ?_
        cases hq9
        try dsimp only at h
        obtain rfl:=Option.some.inj h
        exact endsA ⟨[(4,(B false))],[],0,205⟩ []
       ·try refine sA ?_
        obtain ⟨y583,hl20,hq9⟩ := bind_ok hq9
        refine W_loopP (fun g566 : zeu => ⟨[(1,(.lf true (.sl (a1.map eU8)))),(7,(.pb 0 0)),(101,(.lf true (.sl (c348.1.Tellings.Branches.map eBranch)))),(102,(I ((c348.1.Tellings.Branches.length : Nat) : Int))),(103,(I g566.t103))],[(0,some (true,.box [(I c547.1.Id),(I c547.1.Version),(.os 1 1 0 c547.1.Tellings.Branches.length c547.1.Tellings.Branches.length false)])),(1,some (false,.deep [.sl [.sc,.sc,.sc,.sc]] (c547.1.Tellings.Branches.map eBranch)))],2,205⟩) (zbq c348 c547) _ _ hl20 (weakA [some 1,some 2]) ?_
        ·intro n1 g566 z1 hs1 hk1
         unfold zbq at hs1
         try dsimp only at hs1
         refine sA ?_
         refine Bs_if hs1 (fun hs1 hc21 => ?_) (fun hs1 hc21 => ?_)
         ·try refine sA ?_
          obtain ⟨hp22,hs1⟩ := guard_some hs1
          have hn22 : g566.t103.toNat < c348.1.Tellings.Branches.length := by first | omega | (simp only [List.length_set,List.length_append,List.length_replicate,List.length_map]; omega)
          try refine sA ?_
          try refine andA ?_
          obtain ⟨c581,hr23,hs1⟩ := bind_ok hs1
          refine Cl_sA (zhl hr23) ?_
          try refine sA ?_
          obtain ⟨p582,hq24,hs1⟩ := bind_ok hs1
          refine Sq_cut (fun s2 => s2 = ⟨[(1,(.lf true (.sl (a1.map eU8)))),(7,(.pb 0 0)),(101,(.lf true (.sl (c348.1.Tellings.Branches.map eBranch)))),(102,(I ((c348.1.Tellings.Branches.length : Nat) : Int))),(103,(I g566.t103)),(120,(B p582.t120))],[(0,some (true,.box [(I c547.1.Id),(I c547.1.Version),(.os 1 1 0 c547.1.Tellings.Branches.length c547.1.Tellings.Branches.length false)])),(1,some (false,.deep [.sl [.sc,.sc,.sc,.sc]] (c547.1.Tellings.Branches.map eBranch)))],2,205⟩) ?_ ?_
          ·try refine sA ?_
           refine Sp_if hq24 (fun hq24 hc25 => ?_) (fun hq24 hc25 => ?_)
           ·try refine sA ?_
            cases hq24
            exact X_cut rfl (weakA [some 0,some 1])
           ·try refine sA ?_
            cases hq24
            exact X_cut rfl (weakA [some 0,some 1])
          ·intro s2 hJ; subst hJ
           try dsimp only at hs1
           try refine sA ?_
           refine Bs_if hs1 (fun hs1 hc26 => ?_) (fun hs1 hc26 => ?_)
           ·try refine sA ?_
            cases hs1
            cases hk1
            try dsimp only at hq9
            try refine sA ?_
            cases hq9
            try dsimp only at h
            obtain rfl:=Option.some.inj h
            exact endsA ⟨[(4,(B false))],[],0,205⟩ []
           ·try refine sA ?_
            cases hs1
            exact X_backP hk1 (weakA [some 0,some 1])
         ·try refine sA ?_
          cases hs1
          cases hk1
          try dsimp only at hq9
          try refine sA ?_
          cases hq9
          exact X_cut ⟨_,rfl,rfl⟩ (weakA [])
     ·try refine sA ?_
      cases hq9
      exact X_cut ⟨_,rfl,rfl⟩ (weakA [])
    ·intro s2 hJ; obtain ⟨p586,e,rfl⟩ := hJ; subst e
     try dsimp only at h
     try refine sA ?_
     obtain ⟨c589,hr27,h⟩ := bind_ok h
     refine Cl_sA (zg0 hr27) ?_
     try refine sA ?_
     obtain ⟨c667,hr28,h⟩ := bind_ok h
     refine Cl_sA (zgA hr28) ?_
     try refine sA ?_
     obtain ⟨c704,hr29,h⟩ := bind_ok h
     refine Cl_sA (zhV hr29) ?_
     try refine sA ?_
     obtain ⟨p705,hq30,h⟩ := bind_ok h
     refine Sq_cut (fun s2 => s2 = ⟨[(17,(.pb 0 0)),(18,(.pb 1 0)),(19,(I c667.2.1)),(20,(B c667.2.2)),(143,(B p705.t143))],[(0,some (true,.box [(I c589.Id),(I c589.Version),(.lf true (.sl (c589.Tellings.Branches.map eBranch)))])),(1,some (true,.box [(I c667.1.Id),(I c667.1.Version),(.os 2 1 0 c667.1.Tellings.Branches.length c667.1.Tellings.Branches.length false)])),(2,some (false,.deep [.sl [.sc,.sc,.sc,.sc]] (c667.1.Tellings.Branches.map eBranch)))],3,205⟩) ?_ ?_
     ·try refine sA ?_
      refine Sp_if hq30 (fun hq30 hc31 => ?_) (fun hq30 hc31 => ?_)
      ·try refine sA ?_
       cases hq30
       exact X_cut rfl (weakA [some 1,some 4,some 2])
      ·try refine sA ?_
       cases hq30
       exact X_cut rfl (weakA [some 1,some 4,some 2])
     ·intro s2 hJ; subst hJ
      try dsimp only at h
      try refine sA ?_
      refine Bs_if h (fun h hc32 => ?_) (fun h hc32 => ?_)
      ·try refine sA ?_
       obtain rfl:=Option.some.inj h
       exact endsA ⟨[(4,(B false))],[],0,205⟩ []
      ·try refine sA ?_
       refine Bs_if h (fun h hc33 => ?_) (fun h hc33 => ?_)
       ·try refine sA ?_
        obtain rfl:=Option.some.inj h
        exact endsA ⟨[(4,(B (c667.2.1 == 0)))],[],0,205⟩ []
       ·try refine sA ?_
        obtain ⟨c708,hr34,h⟩ := bind_ok h
        refine Cl_sA (zfE hr34) ?_
        try refine sA ?_
        obtain ⟨c709,hr35,h⟩ := bind_ok h
        refine Cl_sA (zfE hr35) ?_
        try refine sA ?_
        obtain ⟨c713,hr36,h⟩ := bind_ok h
        refine Cl_sA (zh2 hr36) ?_
        try refine sA ?_
        obtain ⟨c714,hr37,h⟩ := bind_ok h
        refine Cl_sA (zgA hr37) ?_
        try refine sA ?_
        refine Sp_if h (fun h hc38 => ?_) (fun h hc38 => ?_)
        ·try refine sA ?_
         refine Sp_if h (fun h hc39 => ?_) (fun h hc39 => ?_)
         ·try refine sA ?_
          refine Sp_if h (fun h hc40 => ?_) (fun h hc40 => ?_)
          ·try refine sA ?_
           refine Sp_if h (fun h hc41 => ?_) (fun h hc41 => ?_)
           ·try refine sA ?_
            refine Sp_if h (fun h hc42 => ?_) (fun h hc42 => ?_)
            ·try refine sA ?_
             refine Sp_if h (fun h hc43 => ?_) (fun h hc43 => ?_)
             ·try refine sA ?_
              refine Sp_if h (fun h hc44 => ?_) (fun h hc44 => ?_)
              ·try refine sA ?_
               obtain ⟨c715,hr45,h⟩ := bind_ok h
               refine Cl_sA (zck hr45) ?_
               try refine sA ?_
               obtain rfl:=Option.some.inj h
               exact endsA ⟨[(4,(B c715))],[],0,205⟩ []
              ·try refine sA ?_
               obtain rfl:=Option.some.inj h
               exact endsA ⟨[(4,(B false))],[],0,205⟩ []
             ·try refine sA ?_
              obtain rfl:=Option.some.inj h
              exact endsA ⟨[(4,(B false))],[],0,205⟩ []
            ·try refine sA ?_
             obtain rfl:=Option.some.inj h
             exact endsA ⟨[(4,(B false))],[],0,205⟩ []
           ·try refine sA ?_
            obtain rfl:=Option.some.inj h
            exact endsA ⟨[(4,(B false))],[],0,205⟩ []
          ·try refine sA ?_
           obtain rfl:=Option.some.inj h
           exact endsA ⟨[(4,(B false))],[],0,205⟩ []
         ·try refine sA ?_
          obtain rfl:=Option.some.inj h
          exact endsA ⟨[(4,(B false))],[],0,205⟩ []
        ·try refine sA ?_
         obtain rfl:=Option.some.inj h
         exact endsA ⟨[(4,(B false))],[],0,205⟩ []
end Go.TL.YteonagfnhdlfcaaGreatDoor

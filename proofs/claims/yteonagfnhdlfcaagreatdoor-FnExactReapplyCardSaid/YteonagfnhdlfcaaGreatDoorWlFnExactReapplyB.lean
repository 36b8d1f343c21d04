import Derived.Test.YteonagfnhdlfcaaGreatDoorWlFnExactReapplyA
set_option linter.unusedSimpArgs false
set_option linter.unusedVariables false
set_option maxRecDepth 8000
set_option maxHeartbeats 0
namespace Go.TL.YteonagfnhdlfcaaGreatDoor
open Go Go.Proofs Go.TL
theorem zgj {a0 : RegionT} {r : RegionT} (h : zdu a0 = some r) : Fn Tryz.prog 54 [(.ag [(I a0.Id),(I a0.Version),(.lf true (.sl (a0.Tellings.Branches.map eBranch)))])] [] 0 (.ag [(I r.Id),(I r.Version),(.os 0 1 0 r.Tellings.Branches.length r.Tellings.Branches.length false)]) [(0,some (true,.deep [.sl [.sc,.sc,.sc,.sc]] (r.Tellings.Branches.map eBranch)))] 2 := by
 unfold zdu at h
 refine fn_code tab_ok mixed [(1000,[(1,0),(2,0)]),(1001,[(1,0),(2,0)]),(1002,[(2,0)])] Tryz.func54 rfl rfl (by simp [Tryz.f54]) (by kernel_rfl) ?_
 simp only [Tryz.f54]
 refine sA ?_
 obtain ⟨c470,hr1,h⟩ := bind_ok h
 refine Cl_sA (zeP hr1) ?_
 try refine sA ?_
 obtain rfl:=Option.some.inj h
 exact endsA ⟨[(2,(.pb 1 0))],[(0,some (true,.deep [.sl [.sc,.sc,.sc,.sc]] (c470.Branches.map eBranch))),(1,some (true,.box [(I a0.Id),(I a0.Version),(.os 0 1 0 c470.Branches.length c470.Branches.length false)]))],2,8⟩ [some 2,some 1]
theorem zfG {a0 : (List EventT)} {r : Int} (h : zdg a0 = some r) : Fn Tryz.prog 194 [(.lf true (.sl (a0.map eEvent)))] [] 0 (I r) [] 0 := by
 unfold zdg at h
 refine fn_code tab_ok mixed [] Tryz.func194 rfl rfl (by simp [Tryz.f194]) (by kernel_rfl) ?_
 simp only [Tryz.f194]
 refine sA ?_
 obtain ⟨hp1,h⟩ := guard_some h
 have hn1 : (wI (((a0.length : Nat) : Int) - 1)).toNat < a0.length := by first | omega | (simp only [List.length_set,List.length_append,List.length_replicate,List.length_map]; omega)
 try refine sA ?_
 try refine andA ?_
 obtain rfl:=Option.some.inj h
 exact endsA ⟨[(2,(I ((nth a0 ((wI (((a0.length : Nat) : Int) - 1)).toNat)).Version)))],[],0,10⟩ []
theorem zgN {a0 : BranchT} {a1 : BranchT} {r : Int} (h : zbK a0 a1 = some r) : Fn Tryz.prog 191 [(.ag [(.lf true (.sl (a0.Events.map eEvent)))]),(.ag [(.lf true (.sl (a1.Events.map eEvent)))])] [] 0 (I r) [] 0 := by
 unfold zbK at h
 refine fn_code tab_ok mixed [(1,[(4,2),(8,2),(8,5),(8,6),(11,2),(11,5),(11,6),(15,2),(15,5),(15,6),(15,13),(17,2),(17,5),(17,6),(17,13)])] Tryz.func191 rfl rfl (by simp [Tryz.f191]) (by kernel_rfl) ?_
 simp only [Tryz.f191]
 refine sA ?_
 obtain ⟨c474,hr1,h⟩ := bind_ok h
 refine Cl_sA (zfG hr1) ?_
 try refine sA ?_
 obtain ⟨c475,hr2,h⟩ := bind_ok h
 refine Cl_sA (zfG hr2) ?_
 try refine sA ?_
 obtain ⟨c476,hr3,h⟩ := bind_ok h
 refine Cl_sA (zc2 hr3) ?_
 try refine sA ?_
 obtain ⟨c477,hr4,h⟩ := bind_ok h
 refine Cl_sA (zc2 hr4) ?_
 try refine sA ?_
 obtain ⟨c478,hr5,h⟩ := bind_ok h
 refine Cl_sA (zea hr5) ?_
 try refine sA ?_
 obtain ⟨c479,hr6,h⟩ := bind_ok h
 refine Cl_sA (zgh hr6) ?_
 try refine sA ?_
 obtain rfl:=Option.some.inj h
 exact endsA ⟨[(4,(I c479))],[],0,26⟩ []
theorem zcW {a0 : (List BranchT)} {r : BranchT} (h : zk a0 = some r) : Fn Tryz.prog 190 [(.lf true (.sl (a0.map eBranch))),(.fn 191 [])] [] 0 (.ag [(.lf true (.sl (r.Events.map eEvent)))]) [] 1 := by
 unfold zk at h
 refine fn_code tab_ok mixed [(1000,[(0,0),(1,0),(4,0)]),(1001,[(0,0),(1,0),(4,0),(9,0)]),(1002,[(0,0),(1,0),(4,0)]),(1003,[(0,0),(1,0),(4,0),(5,0)]),(1004,[(0,0),(1,0),(4,0),(5,0),(6,0)]),(1005,[(0,0),(1,0),(4,0),(5,0),(6,0),(17,0)]),(1006,[(0,0),(1,0),(4,0),(5,0),(6,0)]),(1007,[(0,0),(1,0),(4,0),(5,0),(6,0),(27,0)]),(1008,[(0,0),(1,0),(4,0),(5,0),(6,0)]),(1009,[(4,0)]),(2009,[])] Tryz.func190 rfl rfl (by simp [Tryz.f190]) (by kernel_rfl) ?_
 simp only [Tryz.f190]
 refine sA ?_
 obtain ⟨p472,hq1,h⟩ := bind_ok h
 refine Sq_cut (fun s2 => s2 = ⟨[(0,(.lf true (.sl (a0.map eBranch)))),(1,(.fn 191 [])),(4,(.pb 0 0))],[(0,some (true,.box [.nl]))],1,33⟩) ?_ ?_
 ·try refine sA ?_
  refine Bs_if hq1 (fun hq1 hc2 => ?_) (fun hq1 hc2 => ?_)
  ·cases hq1
  ·try refine sA ?_
   cases hq1
   exact X_cut rfl (weakA [some 0])
 ·intro s2 hJ; subst hJ
  try dsimp only at h
  try refine sA ?_
  obtain ⟨hp3,h⟩ := guard_some h
  have hn3 : 0 < a0.length := by first | omega | (simp only [List.length_set,List.length_append,List.length_replicate,List.length_map]; omega)
  try refine sA ?_
  try refine andA ?_
  obtain ⟨y482,hl4,h⟩ := bind_ok h
  refine W_loopP (fun g473 : zL => ⟨[(0,(.lf true (.sl (a0.map eBranch)))),(1,(.fn 191 [])),(4,(.pb 0 0)),(5,(.pb 1 0)),(6,(I g473.t6))],[(0,some (true,.box [.nl])),(1,some (true,.box [(.lf true (.sl (g473.b1_0.map eEvent)))]))],2,33⟩) (za a0) _ _ hl4 (weakA [some 0,some 1]) ?_
  ·intro n1 g473 z1 hs1 hk1
   unfold za at hs1
   try dsimp only at hs1
   refine sA ?_
   refine Bs_if hs1 (fun hs1 hc5 => ?_) (fun hs1 hc5 => ?_)
   ·try refine sA ?_
    obtain ⟨hp6,hs1⟩ := guard_some hs1
    have hn6 : g473.t6.toNat < a0.length := by first | omega | (simp only [List.length_set,List.length_append,List.length_replicate,List.length_map]; omega)
    try refine sA ?_
    try refine andA ?_
    obtain ⟨c481,hr7,hs1⟩ := bind_ok hs1
    refine Cl_sA (zgN hr7) ?_
    try refine sA ?_
    refine Bs_if hs1 (fun hs1 hc8 => ?_) (fun hs1 hc8 => ?_)
    ·try refine sA ?_
     obtain ⟨hp9,hs1⟩ := guard_some hs1
     have hn9 : g473.t6.toNat < a0.length := by first | omega | (simp only [List.length_set,List.length_append,List.length_replicate,List.length_map]; omega)
     try refine sA ?_
     try refine andA ?_
     cases hs1
     exact X_backP hk1 (weakA [some 0,some 1])
    ·try refine sA ?_
     cases hs1
     exact X_backP hk1 (weakA [some 0,some 1])
   ·try refine sA ?_
    cases hs1
    cases hk1
    try dsimp only at h
    try refine sA ?_
    obtain rfl:=Option.some.inj h
    exact endsA ⟨[(4,(.pb 0 0))],[(0,some (true,.box [(.lf true (.sl (g473.b1_0.map eEvent)))]))],1,33⟩ [some 0]
theorem zeg {a0 : TellingsT} {r : (List EventT)} (h : zbB a0 = some r) : Fn Tryz.prog 141 [(.ag [(.lf true (.sl (a0.Branches.map eBranch)))])] [] 0 (.lf true (.sl (r.map eEvent))) [] 0 := by
 unfold zbB at h
 refine fn_code tab_ok mixed [(1000,[(1,0)]),(1001,[(1,0),(6,0)]),(1002,[(2,0)]),(1003,[(2,0)])] Tryz.func141 rfl rfl (by simp [Tryz.f141]) (by kernel_rfl) ?_
 simp only [Tryz.f141]
 refine sA ?_
 refine Bs_if h (fun h hc1 => ?_) (fun h hc1 => ?_)
 ·try refine sA ?_
  obtain rfl:=Option.some.inj h
  exact endsA ⟨[(2,(.lf true (.sl (([]).map eEvent))))],[],0,11⟩ []
 ·try refine sA ?_
  obtain ⟨c483,hr2,h⟩ := bind_ok h
  refine Cl_sA (zcW hr2) ?_
  try refine sA ?_
  obtain rfl:=Option.some.inj h
  exact endsA ⟨[(2,(.lf true (.sl (c483.Events.map eEvent))))],[],0,11⟩ []
theorem zfH {a0 : (List EventT)} {r : (List ByteArray)} (h : zdh a0 = some r) : Fn Tryz.prog 140 [(.lf true (.sl (a0.map eEvent)))] [] 0 (.os 0 1 0 r.length r.length false) [(0,some (true,.arr false 1 (r.map eS)))] 1 := by
 unfold zdh at h
 refine fn_code tab_ok mixed [(1000,[(0,0)]),(1001,[(0,0),(3,0)]),(1002,[(3,0),(7,0),(8,0),(9,0)]),(1003,[(3,0),(7,0),(8,0),(9,0),(10,0)]),(1004,[(3,0),(5,0),(7,0),(8,0),(9,0)]),(1005,[(3,0),(5,0),(7,0),(8,0),(9,0),(15,0)]),(1006,[(3,0),(7,0),(8,0),(9,0)]),(1007,[(3,0),(7,0),(8,0),(9,0)]),(1008,[(2,0)])] Tryz.func140 rfl rfl (by simp [Tryz.f140]) (by kernel_rfl) ?_
 simp only [Tryz.f140]
 refine sA ?_
 obtain ⟨y486,hl1,h⟩ := bind_ok h
 refine W_loopP (fun g485 : zdP => ⟨[(3,(.os 0 1 0 g485.c0.length g485.c0.length false)),(7,(.lf true (.sl (a0.map eEvent)))),(8,(I ((a0.length : Nat) : Int))),(9,(I g485.t9))],[(0,some (true,.arr false 1 (g485.c0.map eS)))],1,23⟩) (zbO a0) _ _ hl1 (weakA [some 0]) ?_
 ·intro n1 g485 z1 hs1 hk1
  unfold zbO at hs1
  try dsimp only at hs1
  refine sA ?_
  refine Bs_if hs1 (fun hs1 hc2 => ?_) (fun hs1 hc2 => ?_)
  ·try refine sA ?_
   obtain ⟨hp3,hs1⟩ := guard_some hs1
   have hn3 : g485.t9.toNat < a0.length := by first | omega | (simp only [List.length_set,List.length_append,List.length_replicate,List.length_map]; omega)
   try refine sA ?_
   try refine andA ?_
   refine Bs_if hs1 (fun hs1 hc4 => ?_) (fun hs1 hc4 => ?_)
   ·try refine sA ?_
    obtain ⟨hp5,hs1⟩ := guard_some hs1
    try refine sA ?_
    try refine andA ?_
    cases hs1
    exact X_backP hk1 (weakA [some 3])
   ·try refine sA ?_
    cases hs1
    exact X_backP hk1 (weakA [some 0])
  ·try refine sA ?_
   cases hs1
   cases hk1
   try dsimp only at h
   try refine sA ?_
   obtain rfl:=Option.some.inj h
   exact endsA ⟨[(2,(.os 0 1 0 g485.c0.length g485.c0.length false))],[(0,some (true,.arr false 1 (g485.c0.map eS)))],1,23⟩ [some 0]
theorem zfB {a0 : List ByteArray} {m0 : Nat} {x0 : Bool} {r : List ByteArray} (h : zb1 a0 = some r) : Fn Tryz.prog 143 [(.os 0 1 0 a0.length m0 x0)] [(0,some (false,.arr true 1 (a0.map eS)))] 1 (.tu []) [(0,some (false,.arr false 1 (r.map eS)))] 1 := by
 unfold zb1 at h
 obtain ⟨hp1,h⟩ := guard_some h
 have he := Option.some.inj h; subst he
 have e1 : Ent Tryz.prog (Tryz.lays190_ren.f 190) := (Ent.of Tryz.func143 rfl (by simp [Tryz.f143]) : Ent Tryz.prog 143)
 have key := fn_sortS (E := eS) (m0 := m0) (x0 := x0) (t0 := true) (t1 := false) Go.Proofs.Tryz.lays190 e1 (fun _ => rfl) hp1
 have e0 : Tryz.lays190_ren.f 190 = 143 := rfl
 rw [e0] at key
 exact key
theorem zfd {a0 : List ByteArray} {m0 : Nat} {x0 : Bool} {r : List ByteArray} (h : zbh a0 = some r) : Fn Tryz.prog 144 [(.os 0 1 0 a0.length m0 x0)] [(0,some (false,.arr true 1 (a0.map eS)))] 1 (.os 1 1 0 r.length r.length false) [(0,none),(1,some (false,.arr false 1 (r.map eS)))] 2 := by
 unfold zbh at h
 obtain ⟨hp1,h⟩ := guard_some h
 have he := Option.some.inj h; subst he
 have e1 : Ent Tryz.prog (Tryz.lays194_ren.f 194) := (Ent.of Tryz.func144 rfl (by simp [Tryz.f144]) : Ent Tryz.prog 144)
 have key := fn_compS (E := eS) (m0 := m0) (x0 := x0) (t0 := true) Go.Proofs.Tryz.lays194 e1 (fun _ => rfl) hp1
 have e0 : Tryz.lays194_ren.f 194 = 144 := rfl
 rw [e0] at key
 exact key
theorem zgk {a0 : TellingsT} {r : (List ByteArray)} (h : zca a0 = some r) : Fn Tryz.prog 71 [(.ag [(.lf true (.sl (a0.Branches.map eBranch)))])] [] 0 (.os 0 1 0 r.length r.length false) [(0,some (false,.arr false 1 (r.map eS)))] 1 := by
 unfold zca at h
 refine fn_code tab_ok mixed [(1000,[(1,0)]),(1001,[(1,0),(3,0),(4,0)]),(1002,[(3,0),(4,0),(14,0),(15,0),(16,0)]),(1003,[(3,0),(4,0),(14,0),(15,0),(16,0),(17,0)]),(1004,[(3,0),(4,0),(6,0),(14,0),(15,0),(16,0)]),(1005,[(3,0),(4,0),(14,0),(15,0),(16,0),(22,0),(23,0),(24,0)]),(1006,[(3,0),(4,0),(14,0),(15,0),(16,0),(22,0),(23,0),(24,0),(25,0)]),(1007,[(3,0),(4,0),(8,0),(14,0),(15,0),(16,0),(22,0),(23,0),(24,0)]),(1008,[(3,0),(4,0),(8,0),(14,0),(15,0),(16,0),(22,0),(23,0),(24,0),(31,0)]),(1009,[(3,0),(4,0),(14,0),(15,0),(16,0),(22,0),(23,0),(24,0)]),(1010,[(3,0),(4,0),(14,0),(15,0),(16,0),(22,0),(23,0),(24,0)]),(1011,[(3,0),(4,0),(14,0),(15,0),(16,0)]),(1012,[(4,0)]),(1013,[(2,0)])] Tryz.func71 rfl rfl (by simp [Tryz.f71]) (by kernel_rfl) ?_
 simp only [Tryz.f71]
 refine sA ?_
 obtain ⟨c484,hr1,h⟩ := bind_ok h
 refine Cl_sA (zeg hr1) ?_
 try refine sA ?_
 obtain ⟨c487,hr2,h⟩ := bind_ok h
 refine Cl_sA (zfH hr2) ?_
 try refine sA ?_
 obtain ⟨y499,hl3,h⟩ := bind_ok h
 refine W_loopP (fun g488 : zci => ⟨[(3,(.os 0 1 0 c487.length c487.length false)),(4,(.os 1 1 0 g488.c1.length g488.c1.length false)),(14,(.lf true (.sl (a0.Branches.map eBranch)))),(15,(I ((a0.Branches.length : Nat) : Int))),(16,(I g488.t16))],[(0,some (true,.arr false 1 (c487.map eS))),(1,some (true,.arr false 1 (g488.c1.map eS)))],2,42⟩) (zat a0 c487) _ _ hl3 (weakA [some 1,some 2]) ?_
 ·intro n1 g488 z1 hs1 hk1
  unfold zat at hs1
  try dsimp only at hs1
  refine sA ?_
  refine Bs_if hs1 (fun hs1 hc4 => ?_) (fun hs1 hc4 => ?_)
  ·try refine sA ?_
   obtain ⟨hp5,hs1⟩ := guard_some hs1
   have hn5 : g488.t16.toNat < a0.Branches.length := by first | omega | (simp only [List.length_set,List.length_append,List.length_replicate,List.length_map]; omega)
   try refine sA ?_
   try refine andA ?_
   obtain ⟨c494,hr6,hs1⟩ := bind_ok hs1
   refine Cl_sA (zfH hr6) ?_
   try refine sA ?_
   obtain ⟨y498,hl7,hs1⟩ := bind_ok hs1
   refine W_loopP (fun g495 : zcj => ⟨[(3,(.os 0 1 0 c487.length c487.length false)),(4,(.os 1 1 0 g495.c1.length g495.c1.length false)),(14,(.lf true (.sl (a0.Branches.map eBranch)))),(15,(I ((a0.Branches.length : Nat) : Int))),(16,(I g488.t16)),(22,(.os 2 1 0 c494.length c494.length false)),(23,(I ((c494.length : Nat) : Int))),(24,(I g495.t24))],[(0,some (true,.arr false 1 (c487.map eS))),(1,some (true,.arr false 1 (g495.c1.map eS))),(2,some (true,.arr false 1 (c494.map eS)))],3,42⟩) (zU c494 c487) _ _ hl7 (weakA [some 0,some 1,some 3]) ?_
   ·intro n2 g495 z2 hs2 hk2
    unfold zU at hs2
    try dsimp only at hs2
    refine sA ?_
    refine Bs_if hs2 (fun hs2 hc8 => ?_) (fun hs2 hc8 => ?_)
    ·try refine sA ?_
     obtain ⟨hp9,hs2⟩ := guard_some hs2
     have hn9 : g495.t24.toNat < c494.length := by first | omega | (simp only [List.length_set,List.length_append,List.length_replicate,List.length_map]; omega)
     try refine sA ?_
     try refine andA ?_
     try refine andB ?_
     try refine sA ?_
     obtain ⟨c497,hr11,hs2⟩ := bind_ok hs2
     refine Cl_sA (zab hr11) ?_
     try refine sA ?_
     refine Bs_if hs2 (fun hs2 hc12 => ?_) (fun hs2 hc12 => ?_)
     ·try refine sA ?_
      obtain ⟨hp13,hs2⟩ := guard_some hs2
      try refine sA ?_
      try refine andA ?_
      cases hs2
      exact X_backP hk2 (weakA [some 0,some 4,some 2])
     ·try refine sA ?_
      cases hs2
      exact X_backP hk2 (weakA [some 0,some 1,some 2])
    ·try refine sA ?_
     cases hs2
     cases hk2
     try dsimp only at hs1
     try refine sA ?_
     cases hs1
     exact X_backP hk1 (weakA [some 0,some 1])
  ·try refine sA ?_
   cases hs1
   cases hk1
   try dsimp only at h
   try refine sA ?_
   obtain ⟨c502,hr14,h⟩ := bind_ok h
   refine Cl_hA [1] (zfB hr14) ?_
   try refine sA ?_
   obtain ⟨hp15,h⟩ := guard_some h
   have hl15 : g488.c1.length ≤ c502.length := by omega
   have ht15 : List.take (g488.c1.length) c502 = c502 := by rw [← hp15]; exact List.take_length
   try rw [← hp15]
   try simp (disch := first | assumption | (simp only [List.length_set]; assumption)) only [go_sem,Nat.reduceAdd,Nat.reduceMul,Nat.reduceSub,Nat.reduceEqDiff,↓reduceIte,Nat.reduceLT,reduceCtorEq,Nat.reduceLeDiff,Int.reduceToNat,Int.reduceEq,Int.reduceLE,Int.reduceLT,Nat.reduceBEq,hl15,ht15]
   obtain ⟨c503,hr16,h⟩ := bind_ok h
   refine Cl_hand (ids := [1]) (zfd hr16) (by first | rfl | (simp (disch := first | assumption | (simp only [List.length_set]; assumption)) only [go_sem,Nat.reduceAdd,Nat.reduceMul,Nat.reduceSub,Nat.reduceEqDiff,↓reduceIte,Nat.reduceLT,reduceCtorEq,Nat.reduceLeDiff,Int.reduceToNat,Int.reduceEq,Int.reduceLE,Int.reduceLT,Nat.reduceBEq,hl15,ht15]; first | done | rfl) | (simp only [List.length_append,List.length_cons,List.length_nil,List.length_map,List.length_set,List.length_replicate,Nat.zero_add,Nat.reduceAdd]; rfl) | (simp (disch := first | assumption | (simp only [List.length_set]; assumption)) only [go_sem,Nat.reduceAdd,Nat.reduceMul,Nat.reduceSub,Nat.reduceEqDiff,↓reduceIte,Nat.reduceLT,reduceCtorEq,Nat.reduceLeDiff,Int.reduceToNat,Int.reduceEq,Int.reduceLE,Int.reduceLT,Nat.reduceBEq,hl15,ht15]; simp only [List.length_append,List.length_cons,List.length_nil,List.length_map,List.length_set,List.length_replicate,Nat.zero_add,Nat.reduceAdd]; rfl)) (FitAll.refl _) (by first | rfl | (simp (disch := first | assumption | (simp only [List.length_set]; assumption)) only [go_sem,Nat.reduceAdd,Nat.reduceMul,Nat.reduceSub,Nat.reduceEqDiff,↓reduceIte,Nat.reduceLT,reduceCtorEq,Nat.reduceLeDiff,Int.reduceToNat,Int.reduceEq,Int.reduceLE,Int.reduceLT,Nat.reduceBEq,hl15,ht15]; first | done | rfl) | (simp only [List.length_append,List.length_cons,List.length_nil,List.length_map,List.length_set,List.length_replicate,Nat.zero_add,Nat.reduceAdd]; rfl) | (simp (disch := first | assumption | (simp only [List.length_set]; assumption)) only [go_sem,Nat.reduceAdd,Nat.reduceMul,Nat.reduceSub,Nat.reduceEqDiff,↓reduceIte,Nat.reduceLT,reduceCtorEq,Nat.reduceLeDiff,Int.reduceToNat,Int.reduceEq,Int.reduceLE,Int.reduceLT,Nat.reduceBEq,hl15,ht15]; simp only [List.length_append,List.length_cons,List.length_nil,List.length_map,List.length_set,List.length_replicate,Nat.zero_add,Nat.reduceAdd]; rfl)) (by decide) (by first | rfl | (simp (disch := first | assumption | (simp only [List.length_set]; assumption)) only [go_sem,Nat.reduceAdd,Nat.reduceMul,Nat.reduceSub,Nat.reduceEqDiff,↓reduceIte,Nat.reduceLT,reduceCtorEq,Nat.reduceLeDiff,Int.reduceToNat,Int.reduceEq,Int.reduceLE,Int.reduceLT,Nat.reduceBEq,hl15,ht15]; done)) (by rfl) ?_
   try simp (disch := first | assumption | (simp only [List.length_set]; assumption)) only [go_sem,Nat.reduceAdd,Nat.reduceMul,Nat.reduceSub,Nat.reduceEqDiff,↓reduceIte,Nat.reduceLT,reduceCtorEq,Nat.reduceLeDiff,Int.reduceToNat,Int.reduceEq,Int.reduceLE,Int.reduceLT,Nat.reduceBEq,hl15,ht15]
   obtain rfl:=Option.some.inj h
   refine ends_weak ⟨[(2,(.os 0 1 0 c503.length c503.length false))],[(0,some (false,.arr false 1 (c503.map eS)))],1,42⟩ (weak_of (m := 0) [some 2] rfl rfl rfl (by rfl) ?_ ?_) ?_
   all_goals ((try simp (disch := first | assumption | (simp only [List.length_set]; assumption)) only [go_sem,Nat.reduceAdd,Nat.reduceMul,Nat.reduceSub,Nat.reduceEqDiff,↓reduceIte,Nat.reduceLT,reduceCtorEq,Nat.reduceLeDiff,Int.reduceToNat,Int.reduceEq,Int.reduceLE,Int.reduceLT,Nat.reduceBEq,hl15,ht15]); (repeat' first | done | rfl | omega | refine And.intro ?_ ?_ | (simp; done) | (simp; omega)))
theorem zeG {a0 : RegionT} {r : StateT} (h : zas a0 = some r) : Fn Tryz.prog 182 [(.ra true [.sc (.int .i64 a0.Id),.sc (.int .i64 a0.Version),.sl (a0.Tellings.Branches.map eBranch)])] [] 0 (.ag [(I r.Status),(I r.Next),(B r.Cancel),(I r.Done),(.os 0 1 0 r.Signals.length r.Signals.length false),(.os 1 1 0 r.Timers.length r.Timers.length false)]) [(0,some (false,.arr false 1 (r.Signals.map eS))),(1,some (false,.arr false 1 (r.Timers.map eS)))] 3 := by
 unfold zas at h
 refine fn_code tab_ok mixed [(1000,[(0,0),(2,0)]),(1001,[(2,0),(3,0)]),(1002,[(2,0)])] Tryz.func182 rfl rfl (by simp [Tryz.f182]) (by kernel_rfl) ?_
 simp only [Tryz.f182]
 refine sA ?_
 obtain ⟨c507,hr1,h⟩ := bind_ok h
 refine Cl_sA (zeg hr1) ?_
 try refine sA ?_
 obtain ⟨c508,hr2,h⟩ := bind_ok h
 refine Cl_sA (zfa hr2) ?_
 try refine sA ?_
 obtain rfl:=Option.some.inj h
 exact endsA ⟨[(2,(.pb 2 0))],[(0,some (false,.arr false 1 (c508.1.Signals.map eS))),(1,some (false,.arr false 1 (c508.1.Timers.map eS))),(2,some (true,.box [(I c508.1.Status),(I c508.1.Next),(B c508.1.Cancel),(I c508.1.Done),(.os 0 1 0 c508.1.Signals.length c508.1.Signals.length false),(.os 1 1 0 c508.1.Timers.length c508.1.Timers.length false)]))],3,15⟩ [some 1,some 2,some 0]
theorem zfJ {a0 : StateT} {a1 : Int} {a2 : ByteArray} {r : (Bool × Bool)} (h : za1 a0 a1 a2 = some r) : Fn Tryz.prog 183 [(.ag [(I a0.Status),(I a0.Next),(B a0.Cancel),(I a0.Done),(.lf true (.sl (a0.Signals.map eS))),(.lf true (.sl (a0.Timers.map eS)))]),(I a1),(.lf false (.sc (.string a2)))] [] 0 (.tu [(B r.1),(B r.2)]) [] 0 := by
 unfold za1 at h
 refine fn_code tab_ok mixed [(1000,[(1,0),(2,0),(3,0)]),(1001,[(1,0),(2,0),(3,0),(21,0)]),(1002,[(6,0),(7,0)]),(1003,[(1,0),(2,0),(8,0)]),(1004,[(6,0),(7,0)]),(4001,[])] Tryz.func183 rfl rfl (by simp [Tryz.f183]) (by kernel_rfl) ?_
 simp only [Tryz.f183]
 refine sA ?_
 obtain ⟨p513,hq1,h⟩ := bind_ok h
 refine Sq_cut (fun s2 => s2 = ⟨[(1,(I a1)),(2,(.lf false (.sc (.string a2)))),(3,(.pb 0 0)),(21,(B p513.t21))],[(0,some (true,.box [(I a0.Status),(I a0.Next),(B a0.Cancel),(I a0.Done),(.lf true (.sl (a0.Signals.map eS))),(.lf true (.sl (a0.Timers.map eS)))]))],1,31⟩) ?_ ?_
 ·try refine sA ?_
  obtain ⟨c510,hr2,hq1⟩ := bind_ok hq1
  refine Cl_sA (zdx hr2) ?_
  try refine sA ?_
  refine Sp_if hq1 (fun hq1 hc3 => ?_) (fun hq1 hc3 => ?_)
  ·try refine sA ?_
   cases hq1
   exact X_cut rfl (weakA [some 0])
  ·try refine sA ?_
   obtain ⟨c511,hr4,hq1⟩ := bind_ok hq1
   refine Cl_sA (zdT hr4) ?_
   try refine sA ?_
   refine Sp_if hq1 (fun hq1 hc5 => ?_) (fun hq1 hc5 => ?_)
   ·try refine sA ?_
    cases hq1
    exact X_cut rfl (weakA [some 0])
   ·try refine sA ?_
    obtain ⟨c512,hr6,hq1⟩ := bind_ok hq1
    refine Cl_sA (zcP hr6) ?_
    try refine sA ?_
    cases hq1
    exact X_cut rfl (weakA [some 0])
 ·intro s2 hJ; subst hJ
  try dsimp only at h
  try refine sA ?_
  refine Bs_if h (fun h hc7 => ?_) (fun h hc7 => ?_)
  ·try refine sA ?_
   obtain rfl:=Option.some.inj h
   exact endsA ⟨[(6,(B false)),(7,(B false))],[],0,31⟩ []
  ·try refine sA ?_
   obtain ⟨c514,hr8,h⟩ := bind_ok h
   refine Cl_sA (ze9 hr8) ?_
   try refine sA ?_
   obtain ⟨c515,hr9,h⟩ := bind_ok h
   refine Cl_hA [4,1,2] (zeO hr9) ?_
   try refine sA ?_
   refine Sp_if h (fun h hc10 => ?_) (fun h hc10 => ?_)
   ·try refine sA ?_
    obtain ⟨c516,hr11,h⟩ := bind_ok h
    refine Cl_sA (zdx hr11) ?_
    try refine sA ?_
    obtain rfl:=Option.some.inj h
    exact endsA ⟨[(6,(B c516)),(7,(B true))],[],0,31⟩ []
   ·try refine sA ?_
    obtain rfl:=Option.some.inj h
    exact endsA ⟨[(6,(B false)),(7,(B true))],[],0,31⟩ []
theorem zgO {a0 : BranchT} {a1 : (List EventT)} {r : Bool} (h : zdS a0 a1 = some r) : Fn Tryz.prog 216 [(.ag [(.lf true (.sl (a0.Events.map eEvent)))]),(.ra true [.sl (a1.map eEvent)])] [] 0 (B r) [] 0 := by
 unfold zdS at h
 refine fn_code tab_ok mixed [] Tryz.func216 rfl rfl (by simp [Tryz.f216]) (by kernel_rfl) ?_
 simp only [Tryz.f216]
 refine sA ?_
 obtain ⟨c527,hr1,h⟩ := bind_ok h
 refine Cl_sA (ze2 hr1) ?_
 try refine sA ?_
 obtain rfl:=Option.some.inj h
 exact endsA ⟨[(3,(B c527))],[],0,8⟩ []
theorem zcR {a0 : (List BranchT)} {a1 : (List EventT)} {r : Int} (h : zy a0 a1 = some r) : Fn Tryz.prog 135 [(.lf true (.sl (a0.map eBranch))),(.fn 216 [(.ra true [.sl (a1.map eEvent)])])] [] 0 (I r) [] 0 := by
 unfold zy at h
 refine fn_code tab_ok mixed [(1000,[(0,0),(1,0)]),(1001,[(0,0),(1,0),(7,0),(8,0)]),(1002,[(0,0),(1,0),(7,0),(8,0),(9,0)]),(1003,[(0,0),(1,0),(5,0),(7,0),(8,0)]),(1004,[(0,0),(1,0),(5,0),(7,0),(8,0),(16,0)]),(1005,[(4,0)]),(1006,[(0,0),(1,0),(7,0),(8,0)]),(1007,[(4,0)])] Tryz.func135 rfl rfl (by simp [Tryz.f135]) (by kernel_rfl) ?_
 simp only [Tryz.f135]
 refine sA ?_
 obtain ⟨y530,hl1,h⟩ := bind_ok h
 refine W_loopP (fun g526 : zr => ⟨[(0,(.lf true (.sl (a0.map eBranch)))),(1,(.fn 216 [(.ra true [.sl (a1.map eEvent)])])),(7,(I ((a0.length : Nat) : Int))),(8,(I g526.t8))],[],0,19⟩) (ze a0 a1) _ _ hl1 (weakA []) ?_
 ·intro n1 g526 z1 hs1 hk1
  unfold ze at hs1
  try dsimp only at hs1
  refine sA ?_
  refine Bs_if hs1 (fun hs1 hc2 => ?_) (fun hs1 hc2 => ?_)
  ·try refine sA ?_
   obtain ⟨hp3,hs1⟩ := guard_some hs1
   have hn3 : g526.t8.toNat < a0.length := by first | omega | (simp only [List.length_set,List.length_append,List.length_replicate,List.length_map]; omega)
   try refine sA ?_
   try refine andA ?_
   obtain ⟨c529,hr4,hs1⟩ := bind_ok hs1
   refine Cl_sA (zgO hr4) ?_
   try refine sA ?_
   refine Bs_if hs1 (fun hs1 hc5 => ?_) (fun hs1 hc5 => ?_)
   ·try refine sA ?_
    cases hs1
    cases hk1
    try dsimp only at h
    try refine sA ?_
    obtain rfl:=Option.some.inj h
    exact endsA ⟨[(4,(I g526.t8))],[],0,19⟩ []
   ·try refine sA ?_
    cases hs1
    exact X_backP hk1 (weakA [])
  ·try refine sA ?_
   cases hs1
   cases hk1
   try dsimp only at h
   try refine sA ?_
   obtain rfl:=Option.some.inj h
   exact endsA ⟨[(4,(I (-1)))],[],0,19⟩ []
theorem zcd {a0 : (List BranchT)} {a1 : (List EventT)} {r : Bool} (h : zi a0 a1 = some r) : Fn Tryz.prog 62 [(.lf true (.sl (a0.map eBranch))),(.fn 216 [(.ra true [.sl (a1.map eEvent)])])] [] 0 (B r) [] 0 := by
 unfold zi at h
 refine fn_code tab_ok mixed [] Tryz.func62 rfl rfl (by simp [Tryz.f62]) (by kernel_rfl) ?_
 simp only [Tryz.f62]
 refine sA ?_
 obtain ⟨c533,hr1,h⟩ := bind_ok h
 refine Cl_sA (zcR hr1) ?_
 try refine sA ?_
 obtain rfl:=Option.some.inj h
 exact endsA ⟨[(4,(B (decide (c533 ≥ 0))))],[],0,9⟩ []
theorem zgP {a0 : BranchT} {a1 : (List EventT)} {r : Bool} (h : zao a0 a1 = some r) : Fn Tryz.prog 218 [(.ag [(.lf true (.sl (a0.Events.map eEvent)))]),(.ra true [.sl (a1.map eEvent)])] [] 0 (B r) [] 0 := by
 unfold zao at h
 refine fn_code tab_ok mixed [] Tryz.func218 rfl rfl (by simp [Tryz.f218]) (by kernel_rfl) ?_
 simp only [Tryz.f218]
 refine sA ?_
 obtain ⟨c535,hr1,h⟩ := bind_ok h
 refine Cl_sA (ze2 hr1) ?_
 try refine sA ?_
 obtain rfl:=Option.some.inj h
 exact endsA ⟨[(3,(B c535))],[],0,8⟩ []
theorem zeb {a0 : List BranchT} {a1 : List EventT} {m0 : Nat} {x0 : Bool} {r : List BranchT} (h : zB a0 a1 = some r) : Fn Tryz.prog 217 [(.os 0 1 0 a0.length m0 x0),(.fn 218 [(.pb 1 0)])] [(0,some (false,.deep [.sl [.sc,.sc,.sc,.sc]] (a0.map eBranch))),(1,some (false,.box [(.lf true (.sl (a1.map eEvent)))]))] 2 (.os 0 1 0 r.length r.length false) [(0,some (false,.deep [.sl [.sc,.sc,.sc,.sc]] (r.map eBranch))),(1,some (false,.box [(.lf true (.sl (a1.map eEvent)))]))] 2 := by
 unfold zB at h
 obtain ⟨⟨hp1,hp2⟩,h⟩ := guard_some h
 have he := Option.some.inj h; subst he
 refine fn_delD (E := eBranch) (X := fun b : BranchT => .sl (b.Events.map eEvent)) (fun _ => rfl) (p := fun b => (zao b a1).getD false) (fun x y e => by rw [row_inj e]) (enters_of (P := Tryz.prog) Tryz.func218 (by kernel_rfl) rfl) (fun b hb => ?_) hp1
 have hs := List.all_eq_true.1 hp2 b hb
 obtain ⟨v,hv⟩ := Option.isSome_iff_exists.1 hs
 rw [hv]
 exact ⟨_,zgP hv⟩
theorem zhs {a0 : BranchT} {a1 : BranchT} {r : Int} (h : zev a0 a1 = some r) : Fn Tryz.prog 220 [(.ag [(.lf true (.sl (a0.Events.map eEvent)))]),(.ag [(.lf true (.sl (a1.Events.map eEvent)))])] [] 0 (I r) [] 0 := by
 unfold zev at h
 refine fn_code tab_ok mixed [] Tryz.func220 rfl rfl (by simp [Tryz.f220]) (by kernel_rfl) ?_
 simp only [Tryz.f220]
 refine sA ?_
 obtain ⟨c542,hr1,h⟩ := bind_ok h
 refine Cl_sA (zea hr1) ?_
 try refine sA ?_
 obtain rfl:=Option.some.inj h
 exact endsA ⟨[(4,(I c542))],[],0,10⟩ []
theorem zel {a0 : List BranchT} {m0 : Nat} {x0 : Bool} {r : List BranchT} (h : zG a0 = some r) : Fn Tryz.prog 219 [(.os 0 1 0 a0.length m0 x0),(.fn 220 [])] [(0,some (false,.deep [.sl [.sc,.sc,.sc,.sc]] (a0.map eBranch)))] 1 (.tu []) [(0,some (false,.deep [.sl [.sc,.sc,.sc,.sc]] (r.map eBranch)))] 1 := by
 unfold zG at h
 obtain ⟨⟨hp1,hp2,hp3⟩,h⟩ := guard_some h
 have he := Option.some.inj h; subst he
 have e1 : Ent Tryz.prog (Tryz.sortB_ren.f 6) := (Ent.of Tryz.func219 rfl (by simp [Tryz.f219]) : Ent Tryz.prog 219)
 have e2 := enters_of (P := Tryz.prog) Tryz.func220 (by kernel_rfl) rfl
 have key := fn_sortD (s := .sl [.sc,.sc,.sc,.sc]) (E := eBranch) (X := fun b : BranchT => .sl (b.Events.map eEvent)) Go.Proofs.Tryz.sortB e1 Tryz.sortBAgg Tryz.sortBSize (fun _ => rfl) (cf := fun a b => (cmpL a.Events b.Events).1) branch_swoB e2 (l := a0) (R := sortO brL a0) (fun x hx y hy => ⟨_,zhs (by have h1 := List.all_eq_true.1 hp2 x hx; have h2 := List.all_eq_true.1 hp2 y hy; exact closureB (of_decide_eq_true h1) (of_decide_eq_true h2))⟩) (x0 := x0) (m0 := m0) hp1 (fun r hp hs => sortB_one hp3 hp hs)
 have e0 : Tryz.sortB_ren.f 6 = 219 := rfl
 rw [e0] at key
 exact key
theorem zgl {a0 : TellingsT} {a1 : (List EventT)} {r : TellingsT} (h : zcL a0 a1 = some r) : Fn Tryz.prog 175 [(.ag [(.lf true (.sl (a0.Branches.map eBranch)))]),(.lf true (.sl (a1.map eEvent)))] [] 0 (.ag [(.os 0 1 0 r.Branches.length r.Branches.length false)]) [(0,some (true,.deep [.sl [.sc,.sc,.sc,.sc]] (r.Branches.map eBranch)))] 2 := by
 unfold zcL at h
 refine fn_code tab_ok mixed [(5,[(1,3),(1,5)]),(1000,[(2,0),(3,0),(4,0)]),(1001,[(3,0),(4,0),(5,0)]),(1002,[(3,0),(4,0),(5,0),(11,0)]),(1003,[(4,0)]),(1004,[(3,0),(4,0),(5,0)]),(1005,[(4,0),(5,0)]),(1006,[(4,0),(5,0)]),(1007,[(4,0)]),(5006,[])] Tryz.func175 rfl rfl (by simp [Tryz.f175]) (by kernel_rfl) ?_
 simp only [Tryz.f175]
 refine sA ?_
 obtain ⟨c538,hr1,h⟩ := bind_ok h
 refine Cl_sA (zeP hr1) ?_
 try refine sA ?_
 obtain ⟨c539,hr2,h⟩ := bind_ok h
 refine Cl_sA (zcd hr2) ?_
 try refine sA ?_
 refine Bs_if h (fun h hc3 => ?_) (fun h hc3 => ?_)
 ·try refine sA ?_
  obtain rfl:=Option.some.inj h
  exact endsA ⟨[(4,(.pb 1 0))],[(0,some (true,.deep [.sl [.sc,.sc,.sc,.sc]] (c538.Branches.map eBranch))),(1,some (true,.box [(.os 0 1 0 c538.Branches.length c538.Branches.length false)]))],2,30⟩ [some 3,some 2]
 ·try refine sA ?_
  obtain ⟨c540,hr4,h⟩ := bind_ok h
  refine Cl_hA [3,1] (zeb hr4) ?_
  try refine sA ?_
  obtain ⟨c541,hr5,h⟩ := bind_ok h
  refine Cl_sA (zaV hr5) ?_
  try refine sA ?_
  obtain ⟨hp6,h⟩ := guard_some h
  try refine sA ?_
  try refine andA ?_
  refine Gh_pack 8 ?_
  try refine sA ?_
  obtain ⟨c543,hr7,h⟩ := bind_ok h
  refine Cl_hA [8] (zel hr7) ?_
  try refine sA ?_
  obtain ⟨hp8,h⟩ := guard_some h
  have hl8 : (c540.length + 1) ≤ c543.length := by omega
  have ht8 : List.take ((c540.length + 1)) c543 = c543 := by rw [← hp8]; exact List.take_length
  try rw [← hp8]
  try simp (disch := first | assumption | (simp only [List.length_set]; assumption)) only [go_sem,Nat.reduceAdd,Nat.reduceMul,Nat.reduceSub,Nat.reduceEqDiff,↓reduceIte,Nat.reduceLT,reduceCtorEq,Nat.reduceLeDiff,Int.reduceToNat,Int.reduceEq,Int.reduceLE,Int.reduceLT,Nat.reduceBEq,hl8,ht8]
  obtain rfl:=Option.some.inj h
  refine ends_weak ⟨[(4,(.pb 1 0))],[(0,some (true,.deep [.sl [.sc,.sc,.sc,.sc]] (c543.map eBranch))),(1,some (true,.box [(.os 0 1 0 c543.length c543.length false)]))],2,30⟩ (weak_of (m := 0) [some 8,some 2] rfl rfl rfl (by rfl) ?_ ?_) ?_
  all_goals ((try simp (disch := first | assumption | (simp only [List.length_set]; assumption)) only [go_sem,Nat.reduceAdd,Nat.reduceMul,Nat.reduceSub,Nat.reduceEqDiff,↓reduceIte,Nat.reduceLT,reduceCtorEq,Nat.reduceLeDiff,Int.reduceToNat,Int.reduceEq,Int.reduceLE,Int.reduceLT,Nat.reduceBEq,hl8,ht8]); (repeat' first | done | rfl | omega | refine And.intro ?_ ?_ | (simp; done) | (simp; omega)))
theorem zfV {a0 : RegionT} {a1 : Int} {a2 : ByteArray} {r : Int} (h : zaa a0 a1 a2 = some r) : Fn Tryz.prog 137 [(.ra true [.sc (.int .i64 a0.Id),.sc (.int .i64 a0.Version),.sl (a0.Tellings.Branches.map eBranch)]),(I a1),(.lf false (.sc (.string a2)))] [] 0 (I r) [] 0 := by
 unfold zaa at h
 refine fn_code tab_ok mixed [(14,[(4,6),(8,6),(12,6),(4,16),(4,17),(16,16)]),(1000,[(0,0),(1,0),(2,0)]),(1001,[(0,0),(1,0),(2,0),(7,0)]),(1002,[(0,0),(1,0),(2,0),(7,0),(8,0)]),(1003,[(0,0),(1,0),(2,0),(7,0),(8,0),(9,0)]),(1004,[(0,0),(1,0),(2,0),(7,0),(8,0),(9,0),(25,0)]),(1005,[(6,0)]),(1006,[(0,0),(1,0),(2,0),(7,0),(8,0),(9,0),(34,0)]),(1007,[(6,0)]),(1008,[(0,0),(1,0),(2,0),(7,0),(8,0),(9,0),(38,0)]),(1009,[(6,0)]),(1010,[(0,0),(1,0),(2,0),(7,0),(8,0),(47,0)]),(1011,[(6,0)]),(1012,[(0,0),(1,0),(2,0),(7,0),(8,0),(50,0)]),(1013,[(6,0)]),(1014,[]),(1015,[(6,0)]),(4004,[]),(4008,[])] Tryz.func137 rfl rfl (by simp [Tryz.f137]) (by kernel_rfl) ?_
 simp only [Tryz.f137]
 refine sA ?_
 obtain ⟨c506,hr1,h⟩ := bind_ok h
 refine Cl_sA (zeg hr1) ?_
 try refine sA ?_
 obtain ⟨c509,hr2,h⟩ := bind_ok h
 refine Cl_sA (zeG hr2) ?_
 try refine sA ?_
 obtain ⟨c517,hr3,h⟩ := bind_ok h
 refine Cl_sA (zfJ hr3) ?_
 try refine sA ?_
 obtain ⟨p520,hq4,h⟩ := bind_ok h
 refine Sq_cut (fun s2 => s2 = ⟨[(0,(.ra true [.sc (.int .i64 a0.Id),.sc (.int .i64 a0.Version),.sl (a0.Tellings.Branches.map eBranch)])),(1,(I a1)),(2,(.lf false (.sc (.string a2)))),(7,(.lf true (.sl (c506.map eEvent)))),(8,(.pb 0 0)),(9,(B c517.1)),(25,(B p520.t25))],[(0,some (true,.box [(I c509.Status),(I c509.Next),(B c509.Cancel),(I c509.Done),(.os 1 1 0 c509.Signals.length c509.Signals.length false),(.os 2 1 0 c509.Timers.length c509.Timers.length false)])),(1,some (false,.arr false 1 (c509.Signals.map eS))),(2,some (false,.arr false 1 (c509.Timers.map eS)))],3,75⟩) ?_ ?_
 ·try refine sA ?_
  obtain ⟨c518,hr5,hq4⟩ := bind_ok hq4
  refine Cl_sA (zdT hr5) ?_
  try refine sA ?_
  refine Sp_if hq4 (fun hq4 hc6 => ?_) (fun hq4 hc6 => ?_)
  ·try refine sA ?_
   cases hq4
   exact X_cut rfl (weakA [some 3,some 0,some 1])
  ·try refine sA ?_
   obtain ⟨c519,hr7,hq4⟩ := bind_ok hq4
   refine Cl_sA (zcP hr7) ?_
   try refine sA ?_
   cases hq4
   exact X_cut rfl (weakA [some 3,some 0,some 1])
 ·intro s2 hJ; subst hJ
  try dsimp only at h
  try refine sA ?_
  refine Bs_if h (fun h hc8 => ?_) (fun h hc8 => ?_)
  ·try refine sA ?_
   obtain rfl:=Option.some.inj h
   exact endsA ⟨[(6,(I 1))],[],0,75⟩ []
  ·try refine sA ?_
   obtain ⟨c521,hr9,h⟩ := bind_ok h
   refine Cl_sA (zcV hr9) ?_
   try refine sA ?_
   refine Bs_if h (fun h hc10 => ?_) (fun h hc10 => ?_)
   ·try refine sA ?_
    obtain rfl:=Option.some.inj h
    exact endsA ⟨[(6,(I 2))],[],0,75⟩ []
   ·try refine sA ?_
    obtain ⟨p523,hq11,h⟩ := bind_ok h
    refine Sq_cut (fun s2 => s2 = ⟨[(0,(.ra true [.sc (.int .i64 a0.Id),.sc (.int .i64 a0.Version),.sl (a0.Tellings.Branches.map eBranch)])),(1,(I a1)),(2,(.lf false (.sc (.string a2)))),(7,(.lf true (.sl (c506.map eEvent)))),(8,(.pb 0 0)),(9,(B c517.1)),(38,(B p523.t38))],[(0,some (true,.box [(I c509.Status),(I c509.Next),(B c509.Cancel),(I c509.Done),(.os 1 1 0 c509.Signals.length c509.Signals.length false),(.os 2 1 0 c509.Timers.length c509.Timers.length false)])),(1,some (false,.arr false 1 (c509.Signals.map eS))),(2,some (false,.arr false 1 (c509.Timers.map eS)))],3,75⟩) ?_ ?_
    ·try refine sA ?_
     refine Sp_if hq11 (fun hq11 hc12 => ?_) (fun hq11 hc12 => ?_)
     ·try refine sA ?_
      obtain ⟨c522,hr13,hq11⟩ := bind_ok hq11
      refine Cl_sA (zab hr13) ?_
      try refine sA ?_
      cases hq11
      exact X_cut rfl (weakA [some 0,some 1,some 2])
     ·try refine sA ?_
      cases hq11
      exact X_cut rfl (weakA [some 0,some 1,some 2])
    ·intro s2 hJ; subst hJ
     try dsimp only at h
     try refine sA ?_
     refine Bs_if h (fun h hc14 => ?_) (fun h hc14 => ?_)
     ·try refine sA ?_
      obtain rfl:=Option.some.inj h
      exact endsA ⟨[(6,(I 5))],[],0,75⟩ []
     ·try refine sA ?_
      refine Bs_if h (fun h hc15 => ?_) (fun h hc15 => ?_)
      ·try refine sA ?_
       obtain rfl:=Option.some.inj h
       exact endsA ⟨[(6,(I 3))],[],0,75⟩ []
      ·try refine sA ?_
       refine Bs_if h (fun h hc16 => ?_) (fun h hc16 => ?_)
       ·try refine sA ?_
        obtain rfl:=Option.some.inj h
        exact endsA ⟨[(6,(I 4))],[],0,75⟩ []
       ·try refine sA ?_
        obtain ⟨c524,hr17,h⟩ := bind_ok h
        refine Cl_sA (zaV hr17) ?_
        try refine sA ?_
        obtain ⟨hp18,h⟩ := guard_some h
        try refine sA ?_
        try refine andA ?_
        obtain ⟨c544,hr19,h⟩ := bind_ok h
        refine Cl_sA (zgl hr19) ?_
        try refine sA ?_
        cases h
theorem zfW {a0 : RegionT} {a1 : Int} {a2 : ByteArray} {r : (Int × RegionT)} (h : zaR a0 a1 a2 = some r) : Fn Tryz.prog 137 [(.pb 0 0),(I a1),(.lf false (.sc (.string a2)))] [(0,some (false,.box [(I a0.Id),(I a0.Version),(.lf true (.sl (a0.Tellings.Branches.map eBranch)))]))] 1 (I r.1) [(0,some (false,.box [(I r.2.Id),(I r.2.Version),(.os 1 1 0 r.2.Tellings.Branches.length r.2.Tellings.Branches.length false)])),(1,some (true,.deep [.sl [.sc,.sc,.sc,.sc]] (r.2.Tellings.Branches.map eBranch)))] 2 := by
 unfold zaR at h
 refine fn_code tab_ok mixed [(14,[(4,6),(8,6),(12,6),(4,16),(4,17),(16,16)]),(1000,[(0,0),(1,0),(2,0)]),(1001,[(0,0),(1,0),(2,0),(7,0)]),(1002,[(0,0),(1,0),(2,0),(7,0),(8,0)]),(1003,[(0,0),(1,0),(2,0),(7,0),(8,0),(9,0)]),(1004,[(0,0),(1,0),(2,0),(7,0),(8,0),(9,0),(25,0)]),(1005,[(6,0)]),(1006,[(0,0),(1,0),(2,0),(7,0),(8,0),(9,0),(34,0)]),(1007,[(6,0)]),(1008,[(0,0),(1,0),(2,0),(7,0),(8,0),(9,0),(38,0)]),(1009,[(6,0)]),(1010,[(0,0),(1,0),(2,0),(7,0),(8,0),(47,0)]),(1011,[(6,0)]),(1012,[(0,0),(1,0),(2,0),(7,0),(8,0),(50,0)]),(1013,[(6,0)]),(1014,[]),(1015,[(6,0)]),(4004,[]),(4008,[])] Tryz.func137 rfl rfl (by simp [Tryz.f137]) (by kernel_rfl) ?_
 simp only [Tryz.f137]
 refine sA ?_
 obtain ⟨c547,hr1,h⟩ := bind_ok h
 refine Cl_sA (zeg hr1) ?_
 try refine sA ?_
 obtain ⟨c548,hr2,h⟩ := bind_ok h
 refine Cl_sA (zeG hr2) ?_
 try refine sA ?_
 obtain ⟨c549,hr3,h⟩ := bind_ok h
 refine Cl_sA (zfJ hr3) ?_
 try refine sA ?_
 obtain ⟨p552,hq4,h⟩ := bind_ok h
 refine Sq_cut (fun s2 => s2 = ⟨[(0,(.pb 0 0)),(1,(I a1)),(2,(.lf false (.sc (.string a2)))),(7,(.lf true (.sl (c547.map eEvent)))),(8,(.pb 1 0)),(9,(B c549.1)),(25,(B p552.t25))],[(0,some (false,.box [(I a0.Id),(I a0.Version),(.lf true (.sl (a0.Tellings.Branches.map eBranch)))])),(1,some (true,.box [(I c548.Status),(I c548.Next),(B c548.Cancel),(I c548.Done),(.os 2 1 0 c548.Signals.length c548.Signals.length false),(.os 3 1 0 c548.Timers.length c548.Timers.length false)])),(2,some (false,.arr false 1 (c548.Signals.map eS))),(3,some (false,.arr false 1 (c548.Timers.map eS)))],4,75⟩) ?_ ?_
 ·try refine sA ?_
  obtain ⟨c550,hr5,hq4⟩ := bind_ok hq4
  refine Cl_sA (zdT hr5) ?_
  try refine sA ?_
  refine Sp_if hq4 (fun hq4 hc6 => ?_) (fun hq4 hc6 => ?_)
  ·try refine sA ?_
   cases hq4
   exact X_cut rfl (weakA [some 0,some 4,some 1,some 2])
  ·try refine sA ?_
   obtain ⟨c551,hr7,hq4⟩ := bind_ok hq4
   refine Cl_sA (zcP hr7) ?_
   try refine sA ?_
   cases hq4
   exact X_cut rfl (weakA [some 0,some 4,some 1,some 2])
 ·intro s2 hJ; subst hJ
  try dsimp only at h
  try refine sA ?_
  refine Bs_if h (fun h hc8 => ?_) (fun h hc8 => ?_)
  ·cases h
  ·try refine sA ?_
   obtain ⟨c553,hr9,h⟩ := bind_ok h
   refine Cl_sA (zcV hr9) ?_
   try refine sA ?_
   refine Bs_if h (fun h hc10 => ?_) (fun h hc10 => ?_)
   ·cases h
   ·try refine sA ?_
    obtain ⟨p555,hq11,h⟩ := bind_ok h
    refine Sq_cut (fun s2 => s2 = ⟨[(0,(.pb 0 0)),(1,(I a1)),(2,(.lf false (.sc (.string a2)))),(7,(.lf true (.sl (c547.map eEvent)))),(8,(.pb 1 0)),(9,(B c549.1)),(38,(B p555.t38))],[(0,some (false,.box [(I a0.Id),(I a0.Version),(.lf true (.sl (a0.Tellings.Branches.map eBranch)))])),(1,some (true,.box [(I c548.Status),(I c548.Next),(B c548.Cancel),(I c548.Done),(.os 2 1 0 c548.Signals.length c548.Signals.length false),(.os 3 1 0 c548.Timers.length c548.Timers.length false)])),(2,some (false,.arr false 1 (c548.Signals.map eS))),(3,some (false,.arr false 1 (c548.Timers.map eS)))],4,75⟩) ?_ ?_
    ·try refine sA ?_
     refine Sp_if hq11 (fun hq11 hc12 => ?_) (fun hq11 hc12 => ?_)
     ·try refine sA ?_
      obtain ⟨c554,hr13,hq11⟩ := bind_ok hq11
      refine Cl_sA (zab hr13) ?_
      try refine sA ?_
      cases hq11
      exact X_cut rfl (weakA [some 0,some 1,some 2,some 3])
     ·try refine sA ?_
      cases hq11
      exact X_cut rfl (weakA [some 0,some 1,some 2,some 3])
    ·intro s2 hJ; subst hJ
     try dsimp only at h
     try refine sA ?_
     refine Bs_if h (fun h hc14 => ?_) (fun h hc14 => ?_)
     ·cases h
     ·try refine sA ?_
      refine Bs_if h (fun h hc15 => ?_) (fun h hc15 => ?_)
      ·cases h
      ·try refine sA ?_
       refine Bs_if h (fun h hc16 => ?_) (fun h hc16 => ?_)
       ·cases h
       ·try refine sA ?_
        obtain ⟨c556,hr17,h⟩ := bind_ok h
        refine Cl_sA (zaV hr17) ?_
        try refine sA ?_
        obtain ⟨hp18,h⟩ := guard_some h
        try refine sA ?_
        try refine andA ?_
        obtain ⟨c557,hr19,h⟩ := bind_ok h
        refine Cl_sA (zgl hr19) ?_
        try refine sA ?_
        obtain rfl:=Option.some.inj h
        exact endsA ⟨[(6,(I 0))],[(0,some (false,.box [(I a0.Id),(I a0.Version),(.os 1 1 0 c557.Branches.length c557.Branches.length false)])),(1,some (true,.deep [.sl [.sc,.sc,.sc,.sc]] (c557.Branches.map eBranch)))],2,75⟩ [some 0,some 7]
theorem zfp {a0 : RegionT} {m1 : Nat} {x1 : Bool} {r : (Int × RegionT)} (h : zay a0 = some r) : Fn Tryz.prog 67 [(.pb 0 0)] [(0,some (false,.box [(I a0.Id),(I a0.Version),(.os 1 1 0 a0.Tellings.Branches.length m1 x1)])),(1,some (false,.deep [.sl [.sc,.sc,.sc,.sc]] (a0.Tellings.Branches.map eBranch)))] 2 (I r.1) [(0,some (false,.box [(I r.2.Id),(I r.2.Version),(.os 2 1 0 r.2.Tellings.Branches.length r.2.Tellings.Branches.length false)])),(1,none),(2,some (false,.deep [.sl [.sc,.sc,.sc,.sc]] (r.2.Tellings.Branches.map eBranch)))] 3 := by
 unfold zay at h
 refine fn_code tab_ok mixed [(1000,[(0,0)]),(1001,[(0,0),(3,0)]),(1002,[(0,0),(3,0),(10,0),(11,0),(12,0)]),(1003,[(0,0),(3,0),(10,0),(11,0),(12,0),(13,0)]),(1004,[(0,0),(3,0),(5,0),(10,0),(11,0),(12,0)]),(1005,[(0,0),(3,0),(10,0),(11,0),(12,0),(19,0)]),(1006,[(0,0),(3,0),(10,0),(11,0),(12,0)]),(1007,[(0,0),(3,0),(10,0),(11,0),(12,0)]),(1008,[(2,0)])] Tryz.func67 rfl rfl (by simp [Tryz.f67]) (by kernel_rfl) ?_
 simp only [Tryz.f67]
 refine sA ?_
 obtain ⟨c545,hr1,h⟩ := bind_ok h
 refine Cl_sA (zgk hr1) ?_
 try refine sA ?_
 obtain ⟨y562,hl2,h⟩ := bind_ok h
 refine W_loopP (fun g546 : zaS => ⟨[(0,(.pb 0 0)),(3,(I g546.t3)),(10,(.os 2 1 0 c545.length c545.length false)),(11,(I ((c545.length : Nat) : Int))),(12,(I g546.t12))],[(0,some (false,.box [(I g546.b0_0),(I g546.b0_1),(.os 3 1 0 g546.c3.length g546.c3.length false)])),(1,none),(2,some (false,.arr false 1 (c545.map eS))),(3,some (false,.deep [.sl [.sc,.sc,.sc,.sc]] (g546.c3.map eBranch)))],4,24⟩) (zC c545) _ _ hl2 (weakA [some 0,some 1,some 2,some 1]) ?_
 ·intro n1 g546 z1 hs1 hk1
  unfold zC at hs1
  try dsimp only at hs1
  refine sA ?_
  refine Bs_if hs1 (fun hs1 hc3 => ?_) (fun hs1 hc3 => ?_)
  ·try refine sA ?_
   obtain ⟨hp4,hs1⟩ := guard_some hs1
   have hn4 : g546.t12.toNat < c545.length := by first | omega | (simp only [List.length_set,List.length_append,List.length_replicate,List.length_map]; omega)
   try refine sA ?_
   try refine andA ?_
   try refine andB ?_
   try refine sA ?_
   cases hab6 : zaa (⟨g546.b0_0,g546.b0_1,(⟨g546.c3⟩ : TellingsT)⟩ : RegionT) 2 (nth c545 g546.t12.toNat) with
   | some c560 =>
    rw [hab6] at hs1
    try dsimp only at hs1
    refine Cl_sA (zfV hab6) ?_
    try refine sA ?_
    refine Bs_if hs1 (fun hs1 hc7 => ?_) (fun hs1 hc7 => ?_)
    ·try refine sA ?_
     cases hs1
     exact X_backP hk1 (weakA [some 0,some 1,some 2,some 3])
    ·try refine sA ?_
     cases hs1
     exact X_backP hk1 (weakA [some 0,some 1,some 2,some 3])
   | none =>
    rw [hab6] at hs1
    try dsimp only at hs1
    obtain ⟨c561,hr8,hs1⟩ := bind_ok hs1
    refine Cl_gA [0] (zfW hr8) ?_
    try refine sA ?_
    refine Bs_if hs1 (fun hs1 hc9 => ?_) (fun hs1 hc9 => ?_)
    ·try refine sA ?_
     cases hs1
     exact X_backP hk1 (weakA [some 0,some 1,some 2,some 4])
    ·try refine sA ?_
     cases hs1
     exact X_backP hk1 (weakA [some 0,some 1,some 2,some 4])
  ·try refine sA ?_
   cases hs1
   cases hk1
   try dsimp only at h
   try refine sA ?_
   obtain rfl:=Option.some.inj h
   exact endsA ⟨[(2,(I g546.t3))],[(0,some (false,.box [(I g546.b0_0),(I g546.b0_1),(.os 2 1 0 g546.c3.length g546.c3.length false)])),(1,none),(2,some (false,.deep [.sl [.sc,.sc,.sc,.sc]] (g546.c3.map eBranch)))],3,24⟩ [some 0,some 1,some 3]
theorem zfK {a0 : RegionT} {r : (RegionT × Int × Bool)} (h : zdj a0 = some r) : Fn Tryz.prog 15 [(.ag [(I a0.Id),(I a0.Version),(.lf true (.sl (a0.Tellings.Branches.map eBranch)))])] [] 0 (.tu [(.ag [(I r.1.Id),(I r.1.Version),(.os 0 1 0 r.1.Tellings.Branches.length r.1.Tellings.Branches.length false)]),(I r.2.1),(B r.2.2)]) [(0,some (false,.deep [.sl [.sc,.sc,.sc,.sc]] (r.1.Tellings.Branches.map eBranch)))] 2 := by
 unfold zdj at h
 refine fn_code tab_ok mixed [(1000,[(1,0),(2,0)]),(1001,[(1,0),(2,0),(13,0)]),(1002,[(2,0),(3,0),(4,0)]),(1003,[(2,0),(5,0)]),(1004,[(2,0),(5,0),(6,0)]),(1005,[(2,0),(3,0),(4,0)]),(4001,[])] Tryz.func15 rfl rfl (by simp [Tryz.f15]) (by kernel_rfl) ?_
 simp only [Tryz.f15]
 refine sA ?_
 obtain ⟨p465,hq1,h⟩ := bind_ok h
 refine Sq_cut (fun s2 => s2 = ⟨[(1,(.pb 0 0)),(2,(.pb 1 0)),(13,(B p465.t13))],[(0,some (true,.box [(I a0.Id),(I a0.Version),(.lf true (.sl (a0.Tellings.Branches.map eBranch)))])),(1,some (true,.box [(I 0),(I 0),.nl]))],2,20⟩) ?_ ?_
 ·try refine sA ?_
  obtain ⟨c463,hr2,hq1⟩ := bind_ok hq1
  refine Cl_sA (zgM hr2) ?_
  try refine sA ?_
  refine Sp_if hq1 (fun hq1 hc3 => ?_) (fun hq1 hc3 => ?_)
  ·try refine sA ?_
   cases hq1
   exact X_cut rfl (weakA [some 0,some 1])
  ·try refine sA ?_
   obtain ⟨c464,hr4,hq1⟩ := bind_ok hq1
   refine Cl_sA (zcV hr4) ?_
   try refine sA ?_
   cases hq1
   exact X_cut rfl (weakA [some 0,some 1])
 ·intro s2 hJ; subst hJ
  try dsimp only at h
  try refine sA ?_
  refine Bs_if h (fun h hc5 => ?_) (fun h hc5 => ?_)
  ·try refine sA ?_
   obtain rfl:=Option.some.inj h
   exact endsA ⟨[(2,(.pb 1 0)),(3,(I 0)),(4,(B false))],[(0,some (false,.deep [.sl [.sc,.sc,.sc,.sc]] (([] : List BranchT).map eBranch))),(1,some (true,.box [(I 0),(I 0),(.os 0 1 0 (([] : List BranchT).length) (([] : List BranchT).length) false)]))],2,20⟩ [none,some 1]
  ·try refine sA ?_
   obtain ⟨c471,hr6,h⟩ := bind_ok h
   refine Cl_sA (zgj hr6) ?_
   try refine sA ?_
   obtain ⟨c563,hr7,h⟩ := bind_ok h
   refine Cl_hA [4,2] (zfp hr7) ?_
   try refine sA ?_
   obtain rfl:=Option.some.inj h
   exact endsA ⟨[(2,(.pb 1 0)),(3,(I c563.1)),(4,(B true))],[(0,some (false,.deep [.sl [.sc,.sc,.sc,.sc]] (c563.2.Tellings.Branches.map eBranch))),(1,some (true,.box [(I c563.2.Id),(I c563.2.Version),(.os 0 1 0 c563.2.Tellings.Branches.length c563.2.Tellings.Branches.length false)]))],2,20⟩ [some 5,some 1]
theorem zhJ {a0 : EventT} {a1 : EventT} {r : Bool} (h : zdZ a0 a1 = some r) : Fn Tryz.prog 268 [(.ag [(I a0.Id),(I a0.Version),(I a0.Kind),(.lf false (.sc (.string a0.Name)))]),(.ag [(I a1.Id),(I a1.Version),(I a1.Kind),(.lf false (.sc (.string a1.Name)))])] [] 0 (B r) [] 0 := by
 unfold zdZ at h
 refine fn_code tab_ok mixed [(1000,[(2,0),(3,0)]),(1001,[(2,0),(3,0),(9,0)]),(1002,[(4,0)]),(1003,[(2,0),(3,0),(14,0)]),(1004,[(4,0)]),(1005,[(2,0),(3,0),(19,0)]),(1006,[(4,0)]),(1007,[(24,0)]),(1008,[(4,0)]),(1009,[(4,0)])] Tryz.func268 rfl rfl (by simp [Tryz.f268]) (by kernel_rfl) ?_
 simp only [Tryz.f268]
 refine sA ?_
 refine Bs_if h (fun h hc1 => ?_) (fun h hc1 => ?_)
 ·try refine sA ?_
  obtain rfl:=Option.some.inj h
  exact endsA ⟨[(4,(B false))],[],0,25⟩ []
 ·try refine sA ?_
  refine Bs_if h (fun h hc2 => ?_) (fun h hc2 => ?_)
  ·try refine sA ?_
   obtain rfl:=Option.some.inj h
   exact endsA ⟨[(4,(B false))],[],0,25⟩ []
  ·try refine sA ?_
   refine Bs_if h (fun h hc3 => ?_) (fun h hc3 => ?_)
   ·try refine sA ?_
    obtain rfl:=Option.some.inj h
    exact endsA ⟨[(4,(B false))],[],0,25⟩ []
   ·try refine sA ?_
    refine Bs_if h (fun h hc4 => ?_) (fun h hc4 => ?_)
    ·try refine sA ?_
     obtain rfl:=Option.some.inj h
     exact endsA ⟨[(4,(B false))],[],0,25⟩ []
    ·try refine sA ?_
     obtain rfl:=Option.some.inj h
     exact endsA ⟨[(4,(B true))],[],0,25⟩ []
theorem zht {a0 : (List EventT)} {a1 : (List EventT)} {r : Bool} (h : zdC a0 a1 = some r) : Fn Tryz.prog 244 [(.lf true (.sl (a0.map eEvent))),(.lf true (.sl (a1.map eEvent)))] [] 0 (B r) [] 0 := by
 unfold zdC at h
 refine fn_code tab_ok mixed [(1000,[(0,0),(1,0)]),(1001,[(0,0),(1,0),(10,0)]),(1002,[(4,0)]),(1003,[(0,0),(1,0),(5,0)]),(1004,[(0,0),(1,0),(5,0),(14,0)]),(1005,[(0,0),(1,0),(5,0)]),(1006,[(0,0),(1,0),(5,0),(26,0)]),(1007,[(4,0)]),(1008,[(4,0)])] Tryz.func244 rfl rfl (by simp [Tryz.f244]) (by kernel_rfl) ?_
 simp only [Tryz.f244]
 refine sA ?_
 refine Bs_if h (fun h hc1 => ?_) (fun h hc1 => ?_)
 ·try refine sA ?_
  obtain rfl:=Option.some.inj h
  exact endsA ⟨[(4,(B false))],[],0,27⟩ []
 ·try refine sA ?_
  obtain ⟨y569,hl2,h⟩ := bind_ok h
  refine W_loopP (fun g566 : zds => ⟨[(0,(.lf true (.sl (a0.map eEvent)))),(1,(.lf true (.sl (a1.map eEvent)))),(5,(I g566.t5))],[],0,27⟩) (zbq a0 a1) _ _ hl2 (weakA []) ?_
  ·intro n1 g566 z1 hs1 hk1
   unfold zbq at hs1
   try dsimp only at hs1
   refine sA ?_
   refine Bs_if hs1 (fun hs1 hc3 => ?_) (fun hs1 hc3 => ?_)
   ·try refine sA ?_
    obtain ⟨hp4,hs1⟩ := guard_some hs1
    have hn4 : g566.t5.toNat < a0.length := by first | omega | (simp only [List.length_set,List.length_append,List.length_replicate,List.length_map]; omega)
    try refine sA ?_
    try refine andA ?_
    obtain ⟨hp5,hs1⟩ := guard_some hs1
    have hn5 : g566.t5.toNat < a1.length := by first | omega | (simp only [List.length_set,List.length_append,List.length_replicate,List.length_map]; omega)
    try refine sA ?_
    try refine andA ?_
    obtain ⟨c568,hr6,hs1⟩ := bind_ok hs1
    refine Cl_sA (zhJ hr6) ?_
    try refine sA ?_
    refine Bs_if hs1 (fun hs1 hc7 => ?_) (fun hs1 hc7 => ?_)
    ·try refine sA ?_
     cases hs1
     cases hk1
     try dsimp only at h
     try refine sA ?_
     obtain rfl:=Option.some.inj h
     exact endsA ⟨[(4,(B false))],[],0,27⟩ []
    ·try refine sA ?_
     cases hs1
     exact X_backP hk1 (weakA [])
   ·try refine sA ?_
    cases hs1
    cases hk1
    try dsimp only at h
    try refine sA ?_
    obtain rfl:=Option.some.inj h
    exact endsA ⟨[(4,(B true))],[],0,27⟩ []
theorem zhu {a0 : BranchT} {a1 : BranchT} {r : Bool} (h : zdE a0 a1 = some r) : Fn Tryz.prog 200 [(.ag [(.lf true (.sl (a0.Events.map eEvent)))]),(.ag [(.lf true (.sl (a1.Events.map eEvent)))])] [] 0 (B r) [] 0 := by
 unfold zdE at h
 refine fn_code tab_ok mixed [(1000,[(2,0),(3,0)]),(1001,[(10,0)]),(1002,[(4,0)]),(1003,[(4,0)])] Tryz.func200 rfl rfl (by simp [Tryz.f200]) (by kernel_rfl) ?_
 simp only [Tryz.f200]
 refine sA ?_
 obtain ⟨c572,hr1,h⟩ := bind_ok h
 refine Cl_sA (zht hr1) ?_
 try refine sA ?_
 refine Bs_if h (fun h hc2 => ?_) (fun h hc2 => ?_)
 ·try refine sA ?_
  obtain rfl:=Option.some.inj h
  exact endsA ⟨[(4,(B false))],[],0,11⟩ []
 ·try refine sA ?_
  obtain rfl:=Option.some.inj h
  exact endsA ⟨[(4,(B true))],[],0,11⟩ []
theorem zhb {a0 : (List BranchT)} {a1 : (List BranchT)} {r : Bool} (h : zdf a0 a1 = some r) : Fn Tryz.prog 147 [(.lf true (.sl (a0.map eBranch))),(.lf true (.sl (a1.map eBranch)))] [] 0 (B r) [] 0 := by
 unfold zdf at h
 refine fn_code tab_ok mixed [(1000,[(0,0),(1,0)]),(1001,[(0,0),(1,0),(10,0)]),(1002,[(4,0)]),(1003,[(0,0),(1,0),(5,0)]),(1004,[(0,0),(1,0),(5,0),(14,0)]),(1005,[(0,0),(1,0),(5,0)]),(1006,[(0,0),(1,0),(5,0),(26,0)]),(1007,[(4,0)]),(1008,[(4,0)])] Tryz.func147 rfl rfl (by simp [Tryz.f147]) (by kernel_rfl) ?_
 simp only [Tryz.f147]
 refine sA ?_
 refine Bs_if h (fun h hc1 => ?_) (fun h hc1 => ?_)
 ·try refine sA ?_
  obtain rfl:=Option.some.inj h
  exact endsA ⟨[(4,(B false))],[],0,27⟩ []
 ·try refine sA ?_
  obtain ⟨y575,hl2,h⟩ := bind_ok h
  refine W_loopP (fun g565 : zc1 => ⟨[(0,(.lf true (.sl (a0.map eBranch)))),(1,(.lf true (.sl (a1.map eBranch)))),(5,(I g565.t5))],[],0,27⟩) (zbb a0 a1) _ _ hl2 (weakA []) ?_
  ·intro n1 g565 z1 hs1 hk1
   unfold zbb at hs1
   try dsimp only at hs1
   refine sA ?_
   refine Bs_if hs1 (fun hs1 hc3 => ?_) (fun hs1 hc3 => ?_)
   ·try refine sA ?_
    obtain ⟨hp4,hs1⟩ := guard_some hs1
    have hn4 : g565.t5.toNat < a0.length := by first | omega | (simp only [List.length_set,List.length_append,List.length_replicate,List.length_map]; omega)
    try refine sA ?_
    try refine andA ?_
    obtain ⟨hp5,hs1⟩ := guard_some hs1
    have hn5 : g565.t5.toNat < a1.length := by first | omega | (simp only [List.length_set,List.length_append,List.length_replicate,List.length_map]; omega)
    try refine sA ?_
    try refine andA ?_
    obtain ⟨c574,hr6,hs1⟩ := bind_ok hs1
    refine Cl_sA (zhu hr6) ?_
    try refine sA ?_
    refine Bs_if hs1 (fun hs1 hc7 => ?_) (fun hs1 hc7 => ?_)
    ·try refine sA ?_
     cases hs1
     cases hk1
     try dsimp only at h
     try refine sA ?_
     obtain rfl:=Option.some.inj h
     exact endsA ⟨[(4,(B false))],[],0,27⟩ []
    ·try refine sA ?_
     cases hs1
     exact X_backP hk1 (weakA [])
   ·try refine sA ?_
    cases hs1
    cases hk1
    try dsimp only at h
    try refine sA ?_
    obtain rfl:=Option.some.inj h
    exact endsA ⟨[(4,(B true))],[],0,27⟩ []
theorem zgQ {a0 : TellingsT} {a1 : TellingsT} {r : Bool} (h : zcA a0 a1 = some r) : Fn Tryz.prog 75 [(.ag [(.lf true (.sl (a0.Branches.map eBranch)))]),(.ag [(.lf true (.sl (a1.Branches.map eBranch)))])] [] 0 (B r) [] 0 := by
 unfold zcA at h
 refine fn_code tab_ok mixed [(1000,[(2,0),(3,0)]),(1001,[(10,0)]),(1002,[(4,0)]),(1003,[(4,0)])] Tryz.func75 rfl rfl (by simp [Tryz.f75]) (by kernel_rfl) ?_
 simp only [Tryz.f75]
 refine sA ?_
 obtain ⟨c578,hr1,h⟩ := bind_ok h
 refine Cl_sA (zhb hr1) ?_
 try refine sA ?_
 refine Bs_if h (fun h hc2 => ?_) (fun h hc2 => ?_)
 ·try refine sA ?_
  obtain rfl:=Option.some.inj h
  exact endsA ⟨[(4,(B false))],[],0,11⟩ []
 ·try refine sA ?_
  obtain rfl:=Option.some.inj h
  exact endsA ⟨[(4,(B true))],[],0,11⟩ []
theorem zdU {a0 : RegionT} {a1 : RegionT} {r : Bool} (h : zbe a0 a1 = some r) : Fn Tryz.prog 21 [(.ag [(I a0.Id),(I a0.Version),(.lf true (.sl (a0.Tellings.Branches.map eBranch)))]),(.ag [(I a1.Id),(I a1.Version),(.lf true (.sl (a1.Tellings.Branches.map eBranch)))])] [] 0 (B r) [] 0 := by
 unfold zbe at h
 refine fn_code tab_ok mixed [(1000,[(2,0),(3,0)]),(1001,[(2,0),(3,0),(9,0)]),(1002,[(4,0)]),(1003,[(2,0),(3,0),(14,0)]),(1004,[(4,0)]),(1005,[(20,0)]),(1006,[(4,0)]),(1007,[(4,0)])] Tryz.func21 rfl rfl (by simp [Tryz.f21]) (by kernel_rfl) ?_
 simp only [Tryz.f21]
 refine sA ?_
 refine Bs_if h (fun h hc1 => ?_) (fun h hc1 => ?_)
 ·try refine sA ?_
  obtain rfl:=Option.some.inj h
  exact endsA ⟨[(4,(B false))],[],0,21⟩ []
 ·try refine sA ?_
  refine Bs_if h (fun h hc2 => ?_) (fun h hc2 => ?_)
  ·try refine sA ?_
   obtain rfl:=Option.some.inj h
   exact endsA ⟨[(4,(B false))],[],0,21⟩ []
  ·try refine sA ?_
   obtain ⟨c579,hr3,h⟩ := bind_ok h
   refine Cl_sA (zgQ hr3) ?_
   try refine sA ?_
   refine Bs_if h (fun h hc4 => ?_) (fun h hc4 => ?_)
   ·try refine sA ?_
    obtain rfl:=Option.some.inj h
    exact endsA ⟨[(4,(B false))],[],0,21⟩ []
   ·try refine sA ?_
    obtain rfl:=Option.some.inj h
    exact endsA ⟨[(4,(B true))],[],0,21⟩ []
theorem zfA {a0 : Int} {r : ByteArray} (h : zaz a0 = some r) : Fn Tryz.prog 115 [(I a0)] [] 0 (.lf false (.sc (.string r))) [] 0 := by
 unfold zaz at h
 refine fn_code tab_ok mixed [(1000,[(0,0)]),(1001,[(0,0),(5,0)]),(1002,[(2,0)]),(1003,[(0,0),(3,0)]),(1004,[(0,0),(3,0),(7,0)]),(1005,[(0,0),(3,0)]),(1006,[(0,0),(3,0)]),(1007,[(2,0)])] Tryz.func115 rfl rfl (by simp [Tryz.f115]) (by kernel_rfl) ?_
 simp only [Tryz.f115]
 refine sA ?_
 refine Bs_if h (fun h hc1 => ?_) (fun h hc1 => ?_)
 ·try refine sA ?_
  obtain rfl:=Option.some.inj h
  exact endsA ⟨[(2,(.lf false (.sc (.string (⟨#[109,48]⟩ : ByteArray)))))],[],0,20⟩ []
 ·try refine sA ?_
  obtain ⟨y590,hl2,h⟩ := bind_ok h
  refine W_loopP (fun g589 : zex => ⟨[(0,(I g589.t0)),(3,(.lf false (.sc (.string g589.t3))))],[],0,20⟩) (zdm) _ _ hl2 (weakA []) ?_
  ·intro n1 g589 z1 hs1 hk1
   unfold zdm at hs1
   try dsimp only at hs1
   refine sA ?_
   refine Bs_if hs1 (fun hs1 hc3 => ?_) (fun hs1 hc3 => ?_)
   ·try refine sA ?_
    obtain ⟨hp4,hs1⟩ := guard_some hs1
    try refine sA ?_
    try refine andA ?_
    cases hs1
    exact X_backP hk1 (weakA [])
   ·try refine sA ?_
    cases hs1
    cases hk1
    try dsimp only at h
    try refine sA ?_
    obtain ⟨hp5,h⟩ := guard_some h
    try refine sA ?_
    try refine andA ?_
    obtain rfl:=Option.some.inj h
    exact endsA ⟨[(2,(.lf false (.sc (.string ((⟨#[109]⟩ : ByteArray) ++ g589.t3)))))],[],0,20⟩ []
theorem zf3 {a0 : (List EventT)} {a1 : Int} {m0 : Nat} {x0 : Bool} {r : (Int × (List EventT))} (h : zbQ a0 a1 = some r) : Fn Tryz.prog 201 [(.os 0 4 0 a0.length m0 x0),(I a1)] [(0,some (false,.arr true 4 (a0.map eEvent)))] 1 (I r.1) [(0,some (false,.arr false 4 (r.2.map eEvent)))] 1 := by
 unfold zbQ at h
 refine fn_code tab_ok mixed [(1000,[(0,0),(1,0)]),(1001,[(0,0),(1,0),(5,0)]),(1002,[(0,0),(1,0),(5,0),(9,0)]),(1003,[(0,0),(1,0),(5,0)]),(1004,[(0,0),(1,0),(5,0)]),(1005,[(0,0),(1,0),(5,0)]),(1006,[(0,0),(1,0),(5,0)]),(1007,[(0,0),(1,0),(5,0)]),(1008,[(0,0),(1,0),(5,0)]),(1009,[(0,0),(1,0),(5,0)]),(1010,[(0,0),(1,0),(5,0)]),(1011,[(0,0),(1,0),(5,0)]),(1012,[(4,0)])] Tryz.func201 rfl rfl (by simp [Tryz.f201]) (by kernel_rfl) ?_
 simp only [Tryz.f201]
 refine sA ?_
 obtain ⟨y593,hl1,h⟩ := bind_ok h
 refine W_loopP (fun g588 : zbY => ⟨[(0,(.os 0 4 0 g588.c0.length g588.c0.length false)),(1,(I g588.t1)),(5,(I g588.t5))],[(0,some (false,.arr true 4 (g588.c0.map eEvent)))],1,42⟩) (zae) _ _ hl1 (weakA [some 0]) ?_
 ·intro n1 g588 z1 hs1 hk1
  unfold zae at hs1
  try dsimp only at hs1
  refine sA ?_
  refine Bs_if hs1 (fun hs1 hc2 => ?_) (fun hs1 hc2 => ?_)
  ·try refine sA ?_
   obtain ⟨hp3,hs1⟩ := guard_some hs1
   have hn3 : g588.t5.toNat < g588.c0.length := by first | omega | (simp only [List.length_set,List.length_append,List.length_replicate,List.length_map]; omega)
   try refine sA ?_
   try refine andA ?_
   try refine andB ?_
   try refine sA ?_
   obtain ⟨hp5,hs1⟩ := guard_some hs1
   have hn5 : g588.t5.toNat < g588.c0.length := by first | omega | (simp only [List.length_set,List.length_append,List.length_replicate,List.length_map]; omega)
   try refine sA ?_
   try refine andA ?_
   try refine andB ?_
   try refine sA ?_
   obtain ⟨hp7,hs1⟩ := guard_some hs1
   have hn7 : g588.t5.toNat < g588.c0.length := by first | omega | (simp only [List.length_set,List.length_append,List.length_replicate,List.length_map]; omega)
   try refine sA ?_
   try refine andA ?_
   try refine andB ?_
   try refine sA ?_
   obtain ⟨c592,hr9,hs1⟩ := bind_ok hs1
   refine Cl_sA (zfA hr9) ?_
   try refine sA ?_
   obtain ⟨hp10,hs1⟩ := guard_some hs1
   have hn10 : g588.t5.toNat < g588.c0.length := by first | omega | (simp only [List.length_set,List.length_append,List.length_replicate,List.length_map]; omega)
   try refine sA ?_
   try refine andA ?_
   try refine andB ?_
   try refine sA ?_
   cases hs1
   exact X_backP hk1 (weakA [some 0])
  ·try refine sA ?_
   cases hs1
   cases hk1
   try dsimp only at h
   try refine sA ?_
   obtain rfl:=Option.some.inj h
   exact endsA ⟨[(4,(I g588.t1))],[(0,some (false,.arr false 4 (g588.c0.map eEvent)))],1,42⟩ [some 0]
theorem zfL {a0 : (List BranchT)} {a1 : Int} {m0 : Nat} {x0 : Bool} {r : (Int × (List BranchT))} (h : zbj a0 a1 = some r) : Fn Tryz.prog 148 [(.os 0 1 0 a0.length m0 x0),(I a1)] [(0,some (false,.deep [.sl [.sc,.sc,.sc,.sc]] (a0.map eBranch)))] 1 (I r.1) [(0,some (false,.deep [.sl [.sc,.sc,.sc,.sc]] (r.2.map eBranch)))] 1 := by
 unfold zbj at h
 refine fn_code tab_ok mixed [(1000,[(0,0),(1,0)]),(1001,[(0,0),(1,0),(5,0)]),(1002,[(0,0),(1,0),(5,0),(9,0)]),(1003,[(0,0),(1,0),(5,0)]),(1004,[(0,0),(1,0),(5,0)]),(1005,[(4,0)]),(5004,[])] Tryz.func148 rfl rfl (by simp [Tryz.f148]) (by kernel_rfl) ?_
 simp only [Tryz.f148]
 refine sA ?_
 obtain ⟨y596,hl1,h⟩ := bind_ok h
 refine W_loopP (fun g587 : zbx => ⟨[(0,(.os 0 1 0 g587.c0.length g587.c0.length false)),(1,(I g587.t1)),(5,(I g587.t5))],[(0,some (false,.deep [.sl [.sc,.sc,.sc,.sc]] (g587.c0.map eBranch)))],1,20⟩) (zS) _ _ hl1 (weakA [some 0]) ?_
 ·intro n1 g587 z1 hs1 hk1
  unfold zS at hs1
  try dsimp only at hs1
  refine sA ?_
  refine Bs_if hs1 (fun hs1 hc2 => ?_) (fun hs1 hc2 => ?_)
  ·try refine sA ?_
   obtain ⟨hp3,hs1⟩ := guard_some hs1
   refine Gh_focus 0 g587.t5.toNat ?_
   try refine sA ?_
   obtain ⟨hp4,hs1⟩ := guard_some hs1
   have hn4 : g587.t5.toNat < g587.c0.length := by first | omega | (simp only [List.length_set,List.length_append,List.length_replicate,List.length_map]; omega)
   try refine sA ?_
   try refine andA ?_
   obtain ⟨c595,hr5,hs1⟩ := bind_ok hs1
   refine Cl_hA [1] (zf3 hr5) ?_
   try refine sA ?_
   obtain ⟨hp6,hs1⟩ := guard_some hs1
   have hl6 : ((nth g587.c0 g587.t5.toNat).Events).length ≤ c595.2.length := by omega
   have ht6 : List.take (((nth g587.c0 g587.t5.toNat).Events).length) c595.2 = c595.2 := by rw [← hp6]; exact List.take_length
   try rw [← hp6]
   try simp (disch := first | assumption | (simp only [List.length_set]; assumption)) only [go_sem,Nat.reduceAdd,Nat.reduceMul,Nat.reduceSub,Nat.reduceEqDiff,↓reduceIte,Nat.reduceLT,reduceCtorEq,Nat.reduceLeDiff,Int.reduceToNat,Int.reduceEq,Int.reduceLE,Int.reduceLT,Nat.reduceBEq,hl6,ht6]
   cases hs1
   refine X_backP hk1 ?_
   refine packW 0 ?_
   refine weak_of (m := 1) [some 0] rfl rfl rfl (by rfl) ?_ ?_
   all_goals ((try simp (disch := first | assumption | (simp only [List.length_set]; assumption)) only [go_sem,Nat.reduceAdd,Nat.reduceMul,Nat.reduceSub,Nat.reduceEqDiff,↓reduceIte,Nat.reduceLT,reduceCtorEq,Nat.reduceLeDiff,Int.reduceToNat,Int.reduceEq,Int.reduceLE,Int.reduceLT,Nat.reduceBEq,hl6,ht6]); (repeat' first | done | rfl | omega | refine And.intro ?_ ?_ | (simp; done) | (simp; omega)))
  ·try refine sA ?_
   cases hs1
   cases hk1
   try dsimp only at h
   try refine sA ?_
   obtain rfl:=Option.some.inj h
   exact endsA ⟨[(4,(I g587.t1))],[(0,some (false,.deep [.sl [.sc,.sc,.sc,.sc]] (g587.c0.map eBranch)))],1,20⟩ [some 0]
theorem zfC {a0 : TellingsT} {a1 : Int} {m0 : Nat} {x0 : Bool} {r : (Int × (List BranchT))} (h : za2 a0 a1 = some r) : Fn Tryz.prog 76 [(.ag [(.os 0 1 0 a0.Branches.length m0 x0)]),(I a1)] [(0,some (false,.deep [.sl [.sc,.sc,.sc,.sc]] (a0.Branches.map eBranch)))] 1 (I r.1) [(0,some (false,.deep [.sl [.sc,.sc,.sc,.sc]] (r.2.map eBranch)))] 1 := by
 unfold za2 at h
 refine fn_code tab_ok mixed [(1000,[(1,0),(2,0)]),(1001,[(1,0)]),(1002,[(4,0)])] Tryz.func76 rfl rfl (by simp [Tryz.f76]) (by kernel_rfl) ?_
 simp only [Tryz.f76]
 refine sA ?_
 obtain ⟨c597,hr1,h⟩ := bind_ok h
 refine Cl_hA [0] (zfL hr1) ?_
 try refine sA ?_
 obtain ⟨hp2,h⟩ := guard_some h
 have hl2 : a0.Branches.length ≤ c597.2.length := by omega
 have ht2 : List.take (a0.Branches.length) c597.2 = c597.2 := by rw [← hp2]; exact List.take_length
 try rw [← hp2]
 try simp (disch := first | assumption | (simp only [List.length_set]; assumption)) only [go_sem,Nat.reduceAdd,Nat.reduceMul,Nat.reduceSub,Nat.reduceEqDiff,↓reduceIte,Nat.reduceLT,reduceCtorEq,Nat.reduceLeDiff,Int.reduceToNat,Int.reduceEq,Int.reduceLE,Int.reduceLT,Nat.reduceBEq,hl2,ht2]
 obtain rfl:=Option.some.inj h
 refine ends_weak ⟨[(4,(I c597.1))],[(0,some (false,.deep [.sl [.sc,.sc,.sc,.sc]] (c597.2.map eBranch)))],1,10⟩ (weak_of (m := 1) [some 0] rfl rfl rfl (by rfl) ?_ ?_) ?_
 all_goals ((try simp (disch := first | assumption | (simp only [List.length_set]; assumption)) only [go_sem,Nat.reduceAdd,Nat.reduceMul,Nat.reduceSub,Nat.reduceEqDiff,↓reduceIte,Nat.reduceLT,reduceCtorEq,Nat.reduceLeDiff,Int.reduceToNat,Int.reduceEq,Int.reduceLE,Int.reduceLT,Nat.reduceBEq,hl2,ht2]); (repeat' first | done | rfl | omega | refine And.intro ?_ ?_ | (simp; done) | (simp; omega)))
theorem zeQ {a0 : RegionT} {a1 : Int} {m0 : Nat} {x0 : Bool} {r : (Int × (List BranchT))} (h : zaQ a0 a1 = some r) : Fn Tryz.prog 22 [(.ag [(I a0.Id),(I a0.Version),(.os 0 1 0 a0.Tellings.Branches.length m0 x0)]),(I a1)] [(0,some (false,.deep [.sl [.sc,.sc,.sc,.sc]] (a0.Tellings.Branches.map eBranch)))] 1 (I r.1) [(0,some (false,.deep [.sl [.sc,.sc,.sc,.sc]] (r.2.map eBranch)))] 1 := by
 unfold zaQ at h
 refine fn_code tab_ok mixed [(1000,[(1,0),(2,0)]),(1001,[(1,0)]),(1002,[(4,0)])] Tryz.func22 rfl rfl (by simp [Tryz.f22]) (by kernel_rfl) ?_
 simp only [Tryz.f22]
 refine sA ?_
 obtain ⟨c598,hr1,h⟩ := bind_ok h
 refine Cl_hA [0] (zfC hr1) ?_
 try refine sA ?_
 obtain ⟨hp2,h⟩ := guard_some h
 have hl2 : a0.Tellings.Branches.length ≤ c598.2.length := by omega
 have ht2 : List.take (a0.Tellings.Branches.length) c598.2 = c598.2 := by rw [← hp2]; exact List.take_length
 try rw [← hp2]
 try simp (disch := first | assumption | (simp only [List.length_set]; assumption)) only [go_sem,Nat.reduceAdd,Nat.reduceMul,Nat.reduceSub,Nat.reduceEqDiff,↓reduceIte,Nat.reduceLT,reduceCtorEq,Nat.reduceLeDiff,Int.reduceToNat,Int.reduceEq,Int.reduceLE,Int.reduceLT,Nat.reduceBEq,hl2,ht2]
 obtain rfl:=Option.some.inj h
 refine ends_weak ⟨[(4,(I c598.1))],[(0,some (false,.deep [.sl [.sc,.sc,.sc,.sc]] (c598.2.map eBranch)))],1,10⟩ (weak_of (m := 1) [some 0] rfl rfl rfl (by rfl) ?_ ?_) ?_
 all_goals ((try simp (disch := first | assumption | (simp only [List.length_set]; assumption)) only [go_sem,Nat.reduceAdd,Nat.reduceMul,Nat.reduceSub,Nat.reduceEqDiff,↓reduceIte,Nat.reduceLT,reduceCtorEq,Nat.reduceLeDiff,Int.reduceToNat,Int.reduceEq,Int.reduceLE,Int.reduceLT,Nat.reduceBEq,hl2,ht2]); (repeat' first | done | rfl | omega | refine And.intro ?_ ?_ | (simp; done) | (simp; omega)))
theorem zgR {a0 : (List EventT)} {a1 : Int} {r : Int} (h : zcH a0 a1 = some r) : Fn Tryz.prog 202 [(.lf true (.sl (a0.map eEvent))),(I a1)] [] 0 (I r) [] 0 := by
 unfold zcH at h
 refine fn_code tab_ok mixed [(13,[(4,6)]),(1000,[(0,0),(1,0)]),(1001,[(0,0),(1,0),(5,0)]),(1002,[(0,0),(1,0),(5,0),(9,0)]),(1003,[(0,0),(1,0),(5,0)]),(1004,[(0,0),(1,0),(5,0),(18,0)]),(1005,[(4,0)]),(1006,[(0,0),(1,0),(5,0)]),(1007,[(0,0),(1,0),(5,0),(27,0)]),(1008,[(4,0)]),(1009,[(0,0),(1,0),(5,0)]),(1010,[(0,0),(1,0),(5,0),(36,0)]),(1011,[(4,0)]),(1012,[(0,0),(1,0),(5,0)]),(1013,[(0,0),(1,0),(5,0),(46,0)]),(1014,[(4,0)]),(1015,[(0,0),(1,0),(5,0)]),(1016,[(4,0)])] Tryz.func202 rfl rfl (by simp [Tryz.f202]) (by kernel_rfl) ?_
 simp only [Tryz.f202]
 refine sA ?_
 obtain ⟨y607,hl1,h⟩ := bind_ok h
 refine W_loopP (fun g604 : zcG => ⟨[(0,(.lf true (.sl (a0.map eEvent)))),(1,(I g604.t1)),(5,(I g604.t5))],[],0,50⟩) (zaO a0) _ _ hl1 (weakA []) ?_
 ·intro n1 g604 z1 hs1 hk1
  unfold zaO at hs1
  try dsimp only at hs1
  refine sA ?_
  refine Bs_if hs1 (fun hs1 hc2 => ?_) (fun hs1 hc2 => ?_)
  ·try refine sA ?_
   obtain ⟨hp3,hs1⟩ := guard_some hs1
   have hn3 : g604.t5.toNat < a0.length := by first | omega | (simp only [List.length_set,List.length_append,List.length_replicate,List.length_map]; omega)
   try refine sA ?_
   try refine andA ?_
   refine Bs_if hs1 (fun hs1 hc4 => ?_) (fun hs1 hc4 => ?_)
   ·try refine sA ?_
    cases hs1
    cases hk1
    try dsimp only at h
    try refine sA ?_
    obtain rfl:=Option.some.inj h
    exact endsA ⟨[(4,(I (-1)))],[],0,50⟩ []
   ·try refine sA ?_
    obtain ⟨hp5,hs1⟩ := guard_some hs1
    have hn5 : g604.t5.toNat < a0.length := by first | omega | (simp only [List.length_set,List.length_append,List.length_replicate,List.length_map]; omega)
    try refine sA ?_
    try refine andA ?_
    refine Bs_if hs1 (fun hs1 hc6 => ?_) (fun hs1 hc6 => ?_)
    ·try refine sA ?_
     cases hs1
     cases hk1
     try dsimp only at h
     try refine sA ?_
     obtain rfl:=Option.some.inj h
     exact endsA ⟨[(4,(I (-1)))],[],0,50⟩ []
    ·try refine sA ?_
     obtain ⟨hp7,hs1⟩ := guard_some hs1
     have hn7 : g604.t5.toNat < a0.length := by first | omega | (simp only [List.length_set,List.length_append,List.length_replicate,List.length_map]; omega)
     try refine sA ?_
     try refine andA ?_
     refine Bs_if hs1 (fun hs1 hc8 => ?_) (fun hs1 hc8 => ?_)
     ·try refine sA ?_
      cases hs1
      cases hk1
      try dsimp only at h
      try refine sA ?_
      obtain rfl:=Option.some.inj h
      exact endsA ⟨[(4,(I (-1)))],[],0,50⟩ []
     ·try refine sA ?_
      obtain ⟨hp9,hs1⟩ := guard_some hs1
      have hn9 : g604.t5.toNat < a0.length := by first | omega | (simp only [List.length_set,List.length_append,List.length_replicate,List.length_map]; omega)
      try refine sA ?_
      try refine andA ?_
      obtain ⟨c606,hr10,hs1⟩ := bind_ok hs1
      refine Cl_sA (zfA hr10) ?_
      try refine sA ?_
      refine Bs_if hs1 (fun hs1 hc11 => ?_) (fun hs1 hc11 => ?_)
      ·try refine sA ?_
       cases hs1
       cases hk1
       try dsimp only at h
       try refine sA ?_
       obtain rfl:=Option.some.inj h
       exact endsA ⟨[(4,(I (-1)))],[],0,50⟩ []
      ·try refine sA ?_
       cases hs1
       exact X_backP hk1 (weakA [])
  ·try refine sA ?_
   cases hs1
   cases hk1
   try dsimp only at h
   try refine sA ?_
   obtain rfl:=Option.some.inj h
   exact endsA ⟨[(4,(I g604.t1))],[],0,50⟩ []
theorem zgm {a0 : (List BranchT)} {a1 : Int} {r : Int} (h : zb9 a0 a1 = some r) : Fn Tryz.prog 149 [(.lf true (.sl (a0.map eBranch))),(I a1)] [] 0 (I r) [] 0 := by
 unfold zb9 at h
 refine fn_code tab_ok mixed [(1000,[(0,0),(1,0)]),(1001,[(0,0),(1,0),(5,0)]),(1002,[(0,0),(1,0),(5,0),(9,0)]),(1003,[(0,0),(1,0),(5,0)]),(1004,[(0,0),(1,0),(5,0)]),(1005,[(0,0),(1,0),(5,0),(20,0)]),(1006,[(4,0)]),(1007,[(4,0)])] Tryz.func149 rfl rfl (by simp [Tryz.f149]) (by kernel_rfl) ?_
 simp only [Tryz.f149]
 refine sA ?_
 obtain ⟨y612,hl1,h⟩ := bind_ok h
 refine W_loopP (fun g603 : zch => ⟨[(0,(.lf true (.sl (a0.map eBranch)))),(1,(I g603.t1)),(5,(I g603.t5))],[],0,22⟩) (zar a0) _ _ hl1 (weakA []) ?_
 ·intro n1 g603 z1 hs1 hk1
  unfold zar at hs1
  try dsimp only at hs1
  refine sA ?_
  refine Bs_if hs1 (fun hs1 hc2 => ?_) (fun hs1 hc2 => ?_)
  ·try refine sA ?_
   obtain ⟨hp3,hs1⟩ := guard_some hs1
   have hn3 : g603.t5.toNat < a0.length := by first | omega | (simp only [List.length_set,List.length_append,List.length_replicate,List.length_map]; omega)
   try refine sA ?_
   try refine andA ?_
   obtain ⟨c611,hr4,hs1⟩ := bind_ok hs1
   refine Cl_sA (zgR hr4) ?_
   try refine sA ?_
   refine Bs_if hs1 (fun hs1 hc5 => ?_) (fun hs1 hc5 => ?_)
   ·try refine sA ?_
    cases hs1
    cases hk1
    try dsimp only at h
    try refine sA ?_
    obtain rfl:=Option.some.inj h
    exact endsA ⟨[(4,(I (-1)))],[],0,22⟩ []
   ·try refine sA ?_
    cases hs1
    exact X_backP hk1 (weakA [])
  ·try refine sA ?_
   cases hs1
   cases hk1
   try dsimp only at h
   try refine sA ?_
   obtain rfl:=Option.some.inj h
   exact endsA ⟨[(4,(I g603.t1))],[],0,22⟩ []
theorem zf4 {a0 : TellingsT} {a1 : Int} {r : Int} (h : zbT a0 a1 = some r) : Fn Tryz.prog 77 [(.ag [(.lf true (.sl (a0.Branches.map eBranch)))]),(I a1)] [] 0 (I r) [] 0 := by
 unfold zbT at h
 refine fn_code tab_ok mixed [(1000,[(1,0),(2,0)]),(1001,[(1,0)]),(1002,[(1,0),(10,0)]),(1003,[(4,0)]),(1004,[(4,0)])] Tryz.func77 rfl rfl (by simp [Tryz.f77]) (by kernel_rfl) ?_
 simp only [Tryz.f77]
 refine sA ?_
 obtain ⟨c615,hr1,h⟩ := bind_ok h
 refine Cl_sA (zgm hr1) ?_
 try refine sA ?_
 refine Bs_if h (fun h hc2 => ?_) (fun h hc2 => ?_)
 ·try refine sA ?_
  obtain rfl:=Option.some.inj h
  exact endsA ⟨[(4,(I (-1)))],[],0,12⟩ []
 ·try refine sA ?_
  obtain rfl:=Option.some.inj h
  exact endsA ⟨[(4,(I c615))],[],0,12⟩ []
theorem zfb {a0 : RegionT} {a1 : Int} {r : Int} (h : zbM a0 a1 = some r) : Fn Tryz.prog 23 [(.ag [(I a0.Id),(I a0.Version),(.lf true (.sl (a0.Tellings.Branches.map eBranch)))]),(I a1)] [] 0 (I r) [] 0 := by
 unfold zbM at h
 refine fn_code tab_ok mixed [(1000,[(1,0),(2,0)]),(1001,[(1,0)]),(1002,[(1,0),(10,0)]),(1003,[(4,0)]),(1004,[(4,0)])] Tryz.func23 rfl rfl (by simp [Tryz.f23]) (by kernel_rfl) ?_
 simp only [Tryz.f23]
 refine sA ?_
 obtain ⟨c616,hr1,h⟩ := bind_ok h
 refine Cl_sA (zf4 hr1) ?_
 try refine sA ?_
 refine Bs_if h (fun h hc2 => ?_) (fun h hc2 => ?_)
 ·try refine sA ?_
  obtain rfl:=Option.some.inj h
  exact endsA ⟨[(4,(I (-1)))],[],0,12⟩ []
 ·try refine sA ?_
  obtain rfl:=Option.some.inj h
  exact endsA ⟨[(4,(I c616))],[],0,12⟩ []
theorem zfM {a0 : RegionT} {r : Bool} (h : zck a0 = some r) : Fn Tryz.prog 4 [(.ag [(I a0.Id),(I a0.Version),(.lf true (.sl (a0.Tellings.Branches.map eBranch)))])] [] 0 (B r) [] 0 := by
 unfold zck at h
 refine fn_code tab_ok mixed [(10,[(0,2)]),(1000,[(1,0)]),(1001,[(1,0),(3,0)]),(1002,[(1,0),(3,0)]),(1003,[(1,0),(21,0)]),(1004,[(2,0)]),(1005,[(1,0),(4,0),(5,0),(6,0)]),(1006,[(1,0),(4,0),(5,0),(6,0),(7,0)]),(1007,[(1,0),(4,0),(5,0),(6,0),(7,0),(8,0),(9,0),(10,0)]),(1008,[(1,0),(4,0),(5,0),(6,0),(7,0),(8,0),(9,0),(10,0),(50,0)]),(1009,[(2,0)]),(1010,[(1,0),(4,0),(5,0),(6,0),(7,0),(8,0),(9,0),(10,0),(55,0)]),(1011,[(2,0)]),(1012,[(1,0),(4,0),(5,0),(6,0),(7,0),(8,0),(9,0),(10,0),(11,0)]),(1013,[(1,0),(4,0),(5,0),(6,0),(8,0),(9,0),(10,0),(11,0)]),(1014,[(1,0),(4,0),(5,0),(6,0),(8,0),(76,0)]),(1015,[(2,0)]),(1016,[(1,0),(4,0),(5,0),(6,0),(8,0),(12,0)]),(1017,[(1,0),(4,0),(5,0),(6,0),(8,0),(12,0)]),(1018,[(1,0),(4,0),(5,0),(6,0),(8,0),(12,0),(13,0)]),(1019,[(1,0),(4,0),(5,0),(6,0),(8,0),(12,0),(13,0)]),(1020,[(1,0),(4,0),(5,0),(6,0),(8,0),(12,0),(13,0),(84,0)]),(1021,[(2,0)]),(1022,[(1,0),(4,0),(5,0),(6,0),(8,0),(12,0),(87,0)]),(1023,[(2,0)]),(1024,[(4,0),(5,0),(6,0),(8,0),(12,0),(14,0),(15,0),(16,0)]),(1025,[(8,0),(12,0),(108,0)]),(1026,[(2,0)]),(1027,[(8,0),(12,0),(13,0)]),(1028,[(12,0),(13,0)]),(1029,[(12,0),(13,0),(113,0)]),(1030,[(2,0)]),(1031,[(116,0)]),(1032,[(2,0)]),(1033,[(2,0)]),(4008,[]),(4014,[]),(4025,[])] Tryz.func4 rfl rfl (by simp [Tryz.f4]) (by kernel_rfl) ?_
 simp only [Tryz.f4]
 refine sA ?_
 obtain ⟨c299,hr1,h⟩ := bind_ok h
 refine Cl_sA (zhk hr1) ?_
 try refine sA ?_
 refine Bs_if h (fun h hc2 => ?_) (fun h hc2 => ?_)
 ·try refine sA ?_
  obtain rfl:=Option.some.inj h
  exact endsA ⟨[(2,(B true))],[],0,117⟩ []
 ·try refine sA ?_
  obtain ⟨c301,hr3,h⟩ := bind_ok h
  refine Cl_sA (zgH hr3) ?_
  try refine sA ?_
  obtain ⟨c302,hr4,h⟩ := bind_ok h
  refine Cl_sA (zhG hr4) ?_
  try refine sA ?_
  obtain ⟨c303,hr5,h⟩ := bind_ok h
  refine Cl_sA (zeN hr5) ?_
  try refine sA ?_
  obtain ⟨c564,hr6,h⟩ := bind_ok h
  refine Cl_sA (zfK hr6) ?_
  try refine sA ?_
  obtain ⟨p581,hq7,h⟩ := bind_ok h
  refine Sq_cut (fun s2 => s2 = ⟨[(1,(.pb 0 0)),(4,(.pb 1 0)),(5,(I c302.2.1)),(6,(B c302.2.2)),(7,(.pb 2 0)),(8,(.pb 3 0)),(9,(I c564.2.1)),(10,(B c564.2.2)),(50,(B p581.t50))],[(0,some (true,.box [(I a0.Id),(I a0.Version),(.lf true (.sl (a0.Tellings.Branches.map eBranch)))])),(1,some (true,.box [(I c302.1.Id),(I c302.1.Version),(.lf true (.sl (c302.1.Tellings.Branches.map eBranch)))])),(2,some (true,.box [(I c303.Id),(I c303.Version),(.os 4 1 0 c303.Tellings.Branches.length c303.Tellings.Branches.length false)])),(3,some (true,.box [(I c564.1.Id),(I c564.1.Version),(.os 5 1 0 c564.1.Tellings.Branches.length c564.1.Tellings.Branches.length false)])),(4,some (true,.deep [.sl [.sc,.sc,.sc,.sc]] (c303.Tellings.Branches.map eBranch))),(5,some (false,.deep [.sl [.sc,.sc,.sc,.sc]] (c564.1.Tellings.Branches.map eBranch)))],6,117⟩) ?_ ?_
  ·try refine sA ?_
   obtain ⟨c580,hr8,hq7⟩ := bind_ok hq7
   refine Cl_sA (zdU hr8) ?_
   try refine sA ?_
   refine Sp_if hq7 (fun hq7 hc9 => ?_) (fun hq7 hc9 => ?_)
   ·try refine sA ?_
    cases hq7
    exact X_cut rfl (weakA [some 0,some 3,some 6,some 9,some 4,some 7])
   ·try refine sA ?_
    refine Sp_if hq7 (fun hq7 hc10 => ?_) (fun hq7 hc10 => ?_)
    ·try refine sA ?_
     cases hq7
     exact X_cut rfl (weakA [some 0,some 3,some 6,some 9,some 4,some 7])
    ·try refine sA ?_
     cases hq7
     exact X_cut rfl (weakA [some 0,some 3,some 6,some 9,some 4,some 7])
  ·intro s2 hJ; subst hJ
   try dsimp only at h
   try refine sA ?_
   refine Bs_if h (fun h hc11 => ?_) (fun h hc11 => ?_)
   ·try refine sA ?_
    obtain rfl:=Option.some.inj h
    exact endsA ⟨[(2,(B false))],[],0,117⟩ []
   ·try refine sA ?_
    obtain ⟨c582,hr12,h⟩ := bind_ok h
    refine Cl_sA (zeN hr12) ?_
    try refine sA ?_
    obtain ⟨c583,hr13,h⟩ := bind_ok h
    refine Cl_sA (zdU hr13) ?_
    try refine sA ?_
    refine Bs_if h (fun h hc14 => ?_) (fun h hc14 => ?_)
    ·try refine sA ?_
     obtain rfl:=Option.some.inj h
     exact endsA ⟨[(2,(B false))],[],0,117⟩ []
    ·try refine sA ?_
     obtain ⟨c599,hr15,h⟩ := bind_ok h
     refine Cl_hA [4] (zeQ hr15) ?_
     try refine sA ?_
     obtain ⟨hp16,h⟩ := guard_some h
     have hl16 : c303.Tellings.Branches.length ≤ c599.2.length := by omega
     have ht16 : List.take (c303.Tellings.Branches.length) c599.2 = c599.2 := by rw [← hp16]; exact List.take_length
     try rw [← hp16]
     try simp (disch := first | assumption | (simp only [List.length_set]; assumption)) only [go_sem,Nat.reduceAdd,Nat.reduceMul,Nat.reduceSub,Nat.reduceEqDiff,↓reduceIte,Nat.reduceLT,reduceCtorEq,Nat.reduceLeDiff,Int.reduceToNat,Int.reduceEq,Int.reduceLE,Int.reduceLT,Nat.reduceBEq,hl16,ht16]
     obtain ⟨p601,hq17,h⟩ := bind_ok h
     refine Sq_cut (fun s2 => s2 = ⟨[(1,(.pb 0 0)),(4,(.pb 1 0)),(5,(I c302.2.1)),(6,(B c302.2.2)),(8,(.pb 2 0)),(76,(B p601.t76))],[(0,some (true,.box [(I a0.Id),(I a0.Version),(.lf true (.sl (a0.Tellings.Branches.map eBranch)))])),(1,some (true,.box [(I c302.1.Id),(I c302.1.Version),(.lf true (.sl (c302.1.Tellings.Branches.map eBranch)))])),(2,some (true,.box [(I c564.1.Id),(I c564.1.Version),(.os 3 1 0 c564.1.Tellings.Branches.length c564.1.Tellings.Branches.length false)])),(3,some (false,.deep [.sl [.sc,.sc,.sc,.sc]] (c564.1.Tellings.Branches.map eBranch)))],4,117⟩) ?_ ?_
     ·try simp (disch := first | assumption | (simp only [List.length_set]; assumption)) only [go_sem,Nat.reduceAdd,Nat.reduceMul,Nat.reduceSub,Nat.reduceEqDiff,↓reduceIte,Nat.reduceLT,reduceCtorEq,Nat.reduceLeDiff,Int.reduceToNat,Int.reduceEq,Int.reduceLE,Int.reduceLT,Nat.reduceBEq,hl16,ht16]
      refine Sp_if hq17 (fun hq17 hc18 => ?_) (fun hq17 hc18 => ?_)
      ·try simp (disch := first | assumption | (simp only [List.length_set]; assumption)) only [go_sem,Nat.reduceAdd,Nat.reduceMul,Nat.reduceSub,Nat.reduceEqDiff,↓reduceIte,Nat.reduceLT,reduceCtorEq,Nat.reduceLeDiff,Int.reduceToNat,Int.reduceEq,Int.reduceLE,Int.reduceLT,Nat.reduceBEq,hl16,ht16]
       cases hq17
       refine X_cut rfl ?_
       refine weak_of (m := 0) [some 0,some 1,some 3,some 5] rfl rfl rfl (by rfl) ?_ ?_
       all_goals ((try simp (disch := first | assumption | (simp only [List.length_set]; assumption)) only [go_sem,Nat.reduceAdd,Nat.reduceMul,Nat.reduceSub,Nat.reduceEqDiff,↓reduceIte,Nat.reduceLT,reduceCtorEq,Nat.reduceLeDiff,Int.reduceToNat,Int.reduceEq,Int.reduceLE,Int.reduceLT,Nat.reduceBEq,hl16,ht16]); (repeat' first | done | rfl | omega | refine And.intro ?_ ?_ | (simp; done) | (simp; omega)))
      ·try simp (disch := first | assumption | (simp only [List.length_set]; assumption)) only [go_sem,Nat.reduceAdd,Nat.reduceMul,Nat.reduceSub,Nat.reduceEqDiff,↓reduceIte,Nat.reduceLT,reduceCtorEq,Nat.reduceLeDiff,Int.reduceToNat,Int.reduceEq,Int.reduceLE,Int.reduceLT,Nat.reduceBEq,hl16,ht16]
       obtain ⟨c600,hr19,hq17⟩ := bind_ok hq17
       refine Cl_shown (zdU hr19) (by first | rfl | (simp (disch := first | assumption | (simp only [List.length_set]; assumption)) only [go_sem,Nat.reduceAdd,Nat.reduceMul,Nat.reduceSub,Nat.reduceEqDiff,↓reduceIte,Nat.reduceLT,reduceCtorEq,Nat.reduceLeDiff,Int.reduceToNat,Int.reduceEq,Int.reduceLE,Int.reduceLT,Nat.reduceBEq,hl16,ht16]; first | done | rfl) | (simp only [List.length_append,List.length_cons,List.length_nil,List.length_map,List.length_set,List.length_replicate,Nat.zero_add,Nat.reduceAdd]; rfl) | (simp (disch := first | assumption | (simp only [List.length_set]; assumption)) only [go_sem,Nat.reduceAdd,Nat.reduceMul,Nat.reduceSub,Nat.reduceEqDiff,↓reduceIte,Nat.reduceLT,reduceCtorEq,Nat.reduceLeDiff,Int.reduceToNat,Int.reduceEq,Int.reduceLE,Int.reduceLT,Nat.reduceBEq,hl16,ht16]; simp only [List.length_append,List.length_cons,List.length_nil,List.length_map,List.length_set,List.length_replicate,Nat.zero_add,Nat.reduceAdd]; rfl)) (FitAll.refl _) (.inr ⟨rfl,by simp [freeOb,free1]⟩) ?_
       try simp (disch := first | assumption | (simp only [List.length_set]; assumption)) only [go_sem,Nat.reduceAdd,Nat.reduceMul,Nat.reduceSub,Nat.reduceEqDiff,↓reduceIte,Nat.reduceLT,reduceCtorEq,Nat.reduceLeDiff,Int.reduceToNat,Int.reduceEq,Int.reduceLE,Int.reduceLT,Nat.reduceBEq,hl16,ht16]
       refine Sp_if hq17 (fun hq17 hc20 => ?_) (fun hq17 hc20 => ?_)
       ·try simp (disch := first | assumption | (simp only [List.length_set]; assumption)) only [go_sem,Nat.reduceAdd,Nat.reduceMul,Nat.reduceSub,Nat.reduceEqDiff,↓reduceIte,Nat.reduceLT,reduceCtorEq,Nat.reduceLeDiff,Int.reduceToNat,Int.reduceEq,Int.reduceLE,Int.reduceLT,Nat.reduceBEq,hl16,ht16]
        cases hq17
        refine X_cut rfl ?_
        refine weak_of (m := 0) [some 0,some 1,some 3,some 5] rfl rfl rfl (by rfl) ?_ ?_
        all_goals ((try simp (disch := first | assumption | (simp only [List.length_set]; assumption)) only [go_sem,Nat.reduceAdd,Nat.reduceMul,Nat.reduceSub,Nat.reduceEqDiff,↓reduceIte,Nat.reduceLT,reduceCtorEq,Nat.reduceLeDiff,Int.reduceToNat,Int.reduceEq,Int.reduceLE,Int.reduceLT,Nat.reduceBEq,hl16,ht16]); (repeat' first | done | rfl | omega | refine And.intro ?_ ?_ | (simp; done) | (simp; omega)))
       ·try simp (disch := first | assumption | (simp only [List.length_set]; assumption)) only [go_sem,Nat.reduceAdd,Nat.reduceMul,Nat.reduceSub,Nat.reduceEqDiff,↓reduceIte,Nat.reduceLT,reduceCtorEq,Nat.reduceLeDiff,Int.reduceToNat,Int.reduceEq,Int.reduceLE,Int.reduceLT,Nat.reduceBEq,hl16,ht16]
        refine Sp_if hq17 (fun hq17 hc21 => ?_) (fun hq17 hc21 => ?_)
        ·try simp (disch := first | assumption | (simp only [List.length_set]; assumption)) only [go_sem,Nat.reduceAdd,Nat.reduceMul,Nat.reduceSub,Nat.reduceEqDiff,↓reduceIte,Nat.reduceLT,reduceCtorEq,Nat.reduceLeDiff,Int.reduceToNat,Int.reduceEq,Int.reduceLE,Int.reduceLT,Nat.reduceBEq,hl16,ht16]
         cases hq17
         refine X_cut rfl ?_
         refine weak_of (m := 0) [some 0,some 1,some 3,some 5] rfl rfl rfl (by rfl) ?_ ?_
         all_goals ((try simp (disch := first | assumption | (simp only [List.length_set]; assumption)) only [go_sem,Nat.reduceAdd,Nat.reduceMul,Nat.reduceSub,Nat.reduceEqDiff,↓reduceIte,Nat.reduceLT,reduceCtorEq,Nat.reduceLeDiff,Int.reduceToNat,Int.reduceEq,Int.reduceLE,Int.reduceLT,Nat.reduceBEq,hl16,ht16]); (repeat' first | done | rfl | omega | refine And.intro ?_ ?_ | (simp; done) | (simp; omega)))
        ·try simp (disch := first | assumption | (simp only [List.length_set]; assumption)) only [go_sem,Nat.reduceAdd,Nat.reduceMul,Nat.reduceSub,Nat.reduceEqDiff,↓reduceIte,Nat.reduceLT,reduceCtorEq,Nat.reduceLeDiff,Int.reduceToNat,Int.reduceEq,Int.reduceLE,Int.reduceLT,Nat.reduceBEq,hl16,ht16]
         cases hq17
         refine X_cut rfl ?_
         refine weak_of (m := 0) [some 0,some 1,some 3,some 5] rfl rfl rfl (by rfl) ?_ ?_
         all_goals ((try simp (disch := first | assumption | (simp only [List.length_set]; assumption)) only [go_sem,Nat.reduceAdd,Nat.reduceMul,Nat.reduceSub,Nat.reduceEqDiff,↓reduceIte,Nat.reduceLT,reduceCtorEq,Nat.reduceLeDiff,Int.reduceToNat,Int.reduceEq,Int.reduceLE,Int.reduceLT,Nat.reduceBEq,hl16,ht16]); (repeat' first | done | rfl | omega | refine And.intro ?_ ?_ | (simp; done) | (simp; omega)))
     ·intro s2 hJ; subst hJ
      try dsimp only at h
      try simp (disch := first | assumption | (simp only [List.length_set]; assumption)) only [go_sem,Nat.reduceAdd,Nat.reduceMul,Nat.reduceSub,Nat.reduceEqDiff,↓reduceIte,Nat.reduceLT,reduceCtorEq,Nat.reduceLeDiff,Int.reduceToNat,Int.reduceEq,Int.reduceLE,Int.reduceLT,Nat.reduceBEq,hl16,ht16]
      refine Bs_if h (fun h hc22 => ?_) (fun h hc22 => ?_)
      ·try simp (disch := first | assumption | (simp only [List.length_set]; assumption)) only [go_sem,Nat.reduceAdd,Nat.reduceMul,Nat.reduceSub,Nat.reduceEqDiff,↓reduceIte,Nat.reduceLT,reduceCtorEq,Nat.reduceLeDiff,Int.reduceToNat,Int.reduceEq,Int.reduceLE,Int.reduceLT,Nat.reduceBEq,hl16,ht16]
       obtain rfl:=Option.some.inj h
       refine ends_weak ⟨[(2,(B false))],[],0,117⟩ (weak_of (m := 0) [] rfl rfl rfl (by rfl) ?_ ?_) ?_
       all_goals ((try simp (disch := first | assumption | (simp only [List.length_set]; assumption)) only [go_sem,Nat.reduceAdd,Nat.reduceMul,Nat.reduceSub,Nat.reduceEqDiff,↓reduceIte,Nat.reduceLT,reduceCtorEq,Nat.reduceLeDiff,Int.reduceToNat,Int.reduceEq,Int.reduceLE,Int.reduceLT,Nat.reduceBEq,hl16,ht16]); (repeat' first | done | rfl | omega | refine And.intro ?_ ?_ | (simp; done) | (simp; omega)))
      ·try simp (disch := first | assumption | (simp only [List.length_set]; assumption)) only [go_sem,Nat.reduceAdd,Nat.reduceMul,Nat.reduceSub,Nat.reduceEqDiff,↓reduceIte,Nat.reduceLT,reduceCtorEq,Nat.reduceLeDiff,Int.reduceToNat,Int.reduceEq,Int.reduceLE,Int.reduceLT,Nat.reduceBEq,hl16,ht16]
       obtain ⟨c602,hr23,h⟩ := bind_ok h
       refine Cl_hand (ids := [3]) (zeQ hr23) (by first | rfl | (simp (disch := first | assumption | (simp only [List.length_set]; assumption)) only [go_sem,Nat.reduceAdd,Nat.reduceMul,Nat.reduceSub,Nat.reduceEqDiff,↓reduceIte,Nat.reduceLT,reduceCtorEq,Nat.reduceLeDiff,Int.reduceToNat,Int.reduceEq,Int.reduceLE,Int.reduceLT,Nat.reduceBEq,hl16,ht16]; first | done | rfl) | (simp only [List.length_append,List.length_cons,List.length_nil,List.length_map,List.length_set,List.length_replicate,Nat.zero_add,Nat.reduceAdd]; rfl) | (simp (disch := first | assumption | (simp only [List.length_set]; assumption)) only [go_sem,Nat.reduceAdd,Nat.reduceMul,Nat.reduceSub,Nat.reduceEqDiff,↓reduceIte,Nat.reduceLT,reduceCtorEq,Nat.reduceLeDiff,Int.reduceToNat,Int.reduceEq,Int.reduceLE,Int.reduceLT,Nat.reduceBEq,hl16,ht16]; simp only [List.length_append,List.length_cons,List.length_nil,List.length_map,List.length_set,List.length_replicate,Nat.zero_add,Nat.reduceAdd]; rfl)) (FitAll.refl _) (by first | rfl | (simp (disch := first | assumption | (simp only [List.length_set]; assumption)) only [go_sem,Nat.reduceAdd,Nat.reduceMul,Nat.reduceSub,Nat.reduceEqDiff,↓reduceIte,Nat.reduceLT,reduceCtorEq,Nat.reduceLeDiff,Int.reduceToNat,Int.reduceEq,Int.reduceLE,Int.reduceLT,Nat.reduceBEq,hl16,ht16]; first | done | rfl) | (simp only [List.length_append,List.length_cons,List.length_nil,List.length_map,List.length_set,List.length_replicate,Nat.zero_add,Nat.reduceAdd]; rfl) | (simp (disch := first | assumption | (simp only [List.length_set]; assumption)) only [go_sem,Nat.reduceAdd,Nat.reduceMul,Nat.reduceSub,Nat.reduceEqDiff,↓reduceIte,Nat.reduceLT,reduceCtorEq,Nat.reduceLeDiff,Int.reduceToNat,Int.reduceEq,Int.reduceLE,Int.reduceLT,Nat.reduceBEq,hl16,ht16]; simp only [List.length_append,List.length_cons,List.length_nil,List.length_map,List.length_set,List.length_replicate,Nat.zero_add,Nat.reduceAdd]; rfl)) (by decide) (by first | rfl | (simp (disch := first | assumption | (simp only [List.length_set]; assumption)) only [go_sem,Nat.reduceAdd,Nat.reduceMul,Nat.reduceSub,Nat.reduceEqDiff,↓reduceIte,Nat.reduceLT,reduceCtorEq,Nat.reduceLeDiff,Int.reduceToNat,Int.reduceEq,Int.reduceLE,Int.reduceLT,Nat.reduceBEq,hl16,ht16]; done)) (by rfl) ?_
       try simp (disch := first | assumption | (simp only [List.length_set]; assumption)) only [go_sem,Nat.reduceAdd,Nat.reduceMul,Nat.reduceSub,Nat.reduceEqDiff,↓reduceIte,Nat.reduceLT,reduceCtorEq,Nat.reduceLeDiff,Int.reduceToNat,Int.reduceEq,Int.reduceLE,Int.reduceLT,Nat.reduceBEq,hl16,ht16]
       obtain ⟨hp24,h⟩ := guard_some h
       have hl24 : c564.1.Tellings.Branches.length ≤ c602.2.length := by omega
       have ht24 : List.take (c564.1.Tellings.Branches.length) c602.2 = c602.2 := by rw [← hp24]; exact List.take_length
       try rw [← hp24]
       try simp (disch := first | assumption | (simp only [List.length_set]; assumption)) only [go_sem,Nat.reduceAdd,Nat.reduceMul,Nat.reduceSub,Nat.reduceEqDiff,↓reduceIte,Nat.reduceLT,reduceCtorEq,Nat.reduceLeDiff,Int.reduceToNat,Int.reduceEq,Int.reduceLE,Int.reduceLT,Nat.reduceBEq,hl16,ht16,hl24,ht24]
       obtain ⟨c617,hr25,h⟩ := bind_ok h
       refine Cl_shown (zfb hr25) (by first | rfl | (simp (disch := first | assumption | (simp only [List.length_set]; assumption)) only [go_sem,Nat.reduceAdd,Nat.reduceMul,Nat.reduceSub,Nat.reduceEqDiff,↓reduceIte,Nat.reduceLT,reduceCtorEq,Nat.reduceLeDiff,Int.reduceToNat,Int.reduceEq,Int.reduceLE,Int.reduceLT,Nat.reduceBEq,hl16,ht16,hl24,ht24]; first | done | rfl) | (simp only [List.length_append,List.length_cons,List.length_nil,List.length_map,List.length_set,List.length_replicate,Nat.zero_add,Nat.reduceAdd]; rfl) | (simp (disch := first | assumption | (simp only [List.length_set]; assumption)) only [go_sem,Nat.reduceAdd,Nat.reduceMul,Nat.reduceSub,Nat.reduceEqDiff,↓reduceIte,Nat.reduceLT,reduceCtorEq,Nat.reduceLeDiff,Int.reduceToNat,Int.reduceEq,Int.reduceLE,Int.reduceLT,Nat.reduceBEq,hl16,ht16,hl24,ht24]; simp only [List.length_append,List.length_cons,List.length_nil,List.length_map,List.length_set,List.length_replicate,Nat.zero_add,Nat.reduceAdd]; rfl)) (FitAll.refl _) (.inr ⟨rfl,by simp [freeOb,free1]⟩) ?_
       try simp (disch := first | assumption | (simp only [List.length_set]; assumption)) only [go_sem,Nat.reduceAdd,Nat.reduceMul,Nat.reduceSub,Nat.reduceEqDiff,↓reduceIte,Nat.reduceLT,reduceCtorEq,Nat.reduceLeDiff,Int.reduceToNat,Int.reduceEq,Int.reduceLE,Int.reduceLT,Nat.reduceBEq,hl16,ht16,hl24,ht24]
       refine Bs_if h (fun h hc26 => ?_) (fun h hc26 => ?_)
       ·try simp (disch := first | assumption | (simp only [List.length_set]; assumption)) only [go_sem,Nat.reduceAdd,Nat.reduceMul,Nat.reduceSub,Nat.reduceEqDiff,↓reduceIte,Nat.reduceLT,reduceCtorEq,Nat.reduceLeDiff,Int.reduceToNat,Int.reduceEq,Int.reduceLE,Int.reduceLT,Nat.reduceBEq,hl16,ht16,hl24,ht24]
        obtain rfl:=Option.some.inj h
        refine ends_weak ⟨[(2,(B false))],[],0,117⟩ (weak_of (m := 0) [] rfl rfl rfl (by rfl) ?_ ?_) ?_
        all_goals ((try simp (disch := first | assumption | (simp only [List.length_set]; assumption)) only [go_sem,Nat.reduceAdd,Nat.reduceMul,Nat.reduceSub,Nat.reduceEqDiff,↓reduceIte,Nat.reduceLT,reduceCtorEq,Nat.reduceLeDiff,Int.reduceToNat,Int.reduceEq,Int.reduceLE,Int.reduceLT,Nat.reduceBEq,hl16,ht16,hl24,ht24]); (repeat' first | done | rfl | omega | refine And.intro ?_ ?_ | (simp; done) | (simp; omega)))
       ·try simp (disch := first | assumption | (simp only [List.length_set]; assumption)) only [go_sem,Nat.reduceAdd,Nat.reduceMul,Nat.reduceSub,Nat.reduceEqDiff,↓reduceIte,Nat.reduceLT,reduceCtorEq,Nat.reduceLeDiff,Int.reduceToNat,Int.reduceEq,Int.reduceLE,Int.reduceLT,Nat.reduceBEq,hl16,ht16,hl24,ht24]
        refine Bs_if h (fun h hc27 => ?_) (fun h hc27 => ?_)
        ·try simp (disch := first | assumption | (simp only [List.length_set]; assumption)) only [go_sem,Nat.reduceAdd,Nat.reduceMul,Nat.reduceSub,Nat.reduceEqDiff,↓reduceIte,Nat.reduceLT,reduceCtorEq,Nat.reduceLeDiff,Int.reduceToNat,Int.reduceEq,Int.reduceLE,Int.reduceLT,Nat.reduceBEq,hl16,ht16,hl24,ht24]
         obtain rfl:=Option.some.inj h
         refine ends_weak ⟨[(2,(B false))],[],0,117⟩ (weak_of (m := 0) [] rfl rfl rfl (by rfl) ?_ ?_) ?_
         all_goals ((try simp (disch := first | assumption | (simp only [List.length_set]; assumption)) only [go_sem,Nat.reduceAdd,Nat.reduceMul,Nat.reduceSub,Nat.reduceEqDiff,↓reduceIte,Nat.reduceLT,reduceCtorEq,Nat.reduceLeDiff,Int.reduceToNat,Int.reduceEq,Int.reduceLE,Int.reduceLT,Nat.reduceBEq,hl16,ht16,hl24,ht24]); (repeat' first | done | rfl | omega | refine And.intro ?_ ?_ | (simp; done) | (simp; omega)))
        ·try simp (disch := first | assumption | (simp only [List.length_set]; assumption)) only [go_sem,Nat.reduceAdd,Nat.reduceMul,Nat.reduceSub,Nat.reduceEqDiff,↓reduceIte,Nat.reduceLT,reduceCtorEq,Nat.reduceLeDiff,Int.reduceToNat,Int.reduceEq,Int.reduceLE,Int.reduceLT,Nat.reduceBEq,hl16,ht16,hl24,ht24]
         obtain ⟨c618,hr28,h⟩ := bind_ok h
         refine Cl_shown (zeN hr28) (by first | rfl | (simp (disch := first | assumption | (simp only [List.length_set]; assumption)) only [go_sem,Nat.reduceAdd,Nat.reduceMul,Nat.reduceSub,Nat.reduceEqDiff,↓reduceIte,Nat.reduceLT,reduceCtorEq,Nat.reduceLeDiff,Int.reduceToNat,Int.reduceEq,Int.reduceLE,Int.reduceLT,Nat.reduceBEq,hl16,ht16,hl24,ht24]; first | done | rfl) | (simp only [List.length_append,List.length_cons,List.length_nil,List.length_map,List.length_set,List.length_replicate,Nat.zero_add,Nat.reduceAdd]; rfl) | (simp (disch := first | assumption | (simp only [List.length_set]; assumption)) only [go_sem,Nat.reduceAdd,Nat.reduceMul,Nat.reduceSub,Nat.reduceEqDiff,↓reduceIte,Nat.reduceLT,reduceCtorEq,Nat.reduceLeDiff,Int.reduceToNat,Int.reduceEq,Int.reduceLE,Int.reduceLT,Nat.reduceBEq,hl16,ht16,hl24,ht24]; simp only [List.length_append,List.length_cons,List.length_nil,List.length_map,List.length_set,List.length_replicate,Nat.zero_add,Nat.reduceAdd]; rfl)) (FitAll.refl _) (.inl (by first | rfl | (simp (disch := first | assumption | (simp only [List.length_set]; assumption)) only [go_sem,Nat.reduceAdd,Nat.reduceMul,Nat.reduceSub,Nat.reduceEqDiff,↓reduceIte,Nat.reduceLT,reduceCtorEq,Nat.reduceLeDiff,Int.reduceToNat,Int.reduceEq,Int.reduceLE,Int.reduceLT,Nat.reduceBEq,hl16,ht16,hl24,ht24]; done))) ?_
         try simp (disch := first | assumption | (simp only [List.length_set]; assumption)) only [go_sem,Nat.reduceAdd,Nat.reduceMul,Nat.reduceSub,Nat.reduceEqDiff,↓reduceIte,Nat.reduceLT,reduceCtorEq,Nat.reduceLeDiff,Int.reduceToNat,Int.reduceEq,Int.reduceLE,Int.reduceLT,Nat.reduceBEq,hl16,ht16,hl24,ht24]
         obtain ⟨c619,hr29,h⟩ := bind_ok h
         refine Cl_shown (zfK hr29) (by first | rfl | (simp (disch := first | assumption | (simp only [List.length_set]; assumption)) only [go_sem,Nat.reduceAdd,Nat.reduceMul,Nat.reduceSub,Nat.reduceEqDiff,↓reduceIte,Nat.reduceLT,reduceCtorEq,Nat.reduceLeDiff,Int.reduceToNat,Int.reduceEq,Int.reduceLE,Int.reduceLT,Nat.reduceBEq,hl16,ht16,hl24,ht24]; first | done | rfl) | (simp only [List.length_append,List.length_cons,List.length_nil,List.length_map,List.length_set,List.length_replicate,Nat.zero_add,Nat.reduceAdd]; rfl) | (simp (disch := first | assumption | (simp only [List.length_set]; assumption)) only [go_sem,Nat.reduceAdd,Nat.reduceMul,Nat.reduceSub,Nat.reduceEqDiff,↓reduceIte,Nat.reduceLT,reduceCtorEq,Nat.reduceLeDiff,Int.reduceToNat,Int.reduceEq,Int.reduceLE,Int.reduceLT,Nat.reduceBEq,hl16,ht16,hl24,ht24]; simp only [List.length_append,List.length_cons,List.length_nil,List.length_map,List.length_set,List.length_replicate,Nat.zero_add,Nat.reduceAdd]; rfl)) (FitAll.refl _) (.inr ⟨rfl,by simp [freeOb,free1]⟩) ?_
         try simp (disch := first | assumption | (simp only [List.length_set]; assumption)) only [go_sem,Nat.reduceAdd,Nat.reduceMul,Nat.reduceSub,Nat.reduceEqDiff,↓reduceIte,Nat.reduceLT,reduceCtorEq,Nat.reduceLeDiff,Int.reduceToNat,Int.reduceEq,Int.reduceLE,Int.reduceLT,Nat.reduceBEq,hl16,ht16,hl24,ht24]
         obtain ⟨p621,hq30,h⟩ := bind_ok h
         refine Sq_cut (fun s2 => s2 = ⟨[(8,(.pb 0 0)),(12,(I c602.1)),(108,(B p621.t108))],[(0,some (true,.box [(I c564.1.Id),(I c564.1.Version),(.os 1 1 0 c602.2.length c564.1.Tellings.Branches.length false)])),(1,some (false,.deep [.sl [.sc,.sc,.sc,.sc]] (c602.2.map eBranch)))],2,117⟩) ?_ ?_
         ·try simp (disch := first | assumption | (simp only [List.length_set]; assumption)) only [go_sem,Nat.reduceAdd,Nat.reduceMul,Nat.reduceSub,Nat.reduceEqDiff,↓reduceIte,Nat.reduceLT,reduceCtorEq,Nat.reduceLeDiff,Int.reduceToNat,Int.reduceEq,Int.reduceLE,Int.reduceLT,Nat.reduceBEq,hl16,ht16,hl24,ht24]
          obtain ⟨c620,hr31,hq30⟩ := bind_ok hq30
          refine Cl_shown (zdU hr31) (by first | rfl | (simp (disch := first | assumption | (simp only [List.length_set]; assumption)) only [go_sem,Nat.reduceAdd,Nat.reduceMul,Nat.reduceSub,Nat.reduceEqDiff,↓reduceIte,Nat.reduceLT,reduceCtorEq,Nat.reduceLeDiff,Int.reduceToNat,Int.reduceEq,Int.reduceLE,Int.reduceLT,Nat.reduceBEq,hl16,ht16,hl24,ht24]; first | done | rfl) | (simp only [List.length_append,List.length_cons,List.length_nil,List.length_map,List.length_set,List.length_replicate,Nat.zero_add,Nat.reduceAdd]; rfl) | (simp (disch := first | assumption | (simp only [List.length_set]; assumption)) only [go_sem,Nat.reduceAdd,Nat.reduceMul,Nat.reduceSub,Nat.reduceEqDiff,↓reduceIte,Nat.reduceLT,reduceCtorEq,Nat.reduceLeDiff,Int.reduceToNat,Int.reduceEq,Int.reduceLE,Int.reduceLT,Nat.reduceBEq,hl16,ht16,hl24,ht24]; simp only [List.length_append,List.length_cons,List.length_nil,List.length_map,List.length_set,List.length_replicate,Nat.zero_add,Nat.reduceAdd]; rfl)) (FitAll.refl _) (.inr ⟨rfl,by simp [freeOb,free1]⟩) ?_
          try simp (disch := first | assumption | (simp only [List.length_set]; assumption)) only [go_sem,Nat.reduceAdd,Nat.reduceMul,Nat.reduceSub,Nat.reduceEqDiff,↓reduceIte,Nat.reduceLT,reduceCtorEq,Nat.reduceLeDiff,Int.reduceToNat,Int.reduceEq,Int.reduceLE,Int.reduceLT,Nat.reduceBEq,hl16,ht16,hl24,ht24]
          refine Sp_if hq30 (fun hq30 hc32 => ?_) (fun hq30 hc32 => ?_)
          ·try simp (disch := first | assumption | (simp only [List.length_set]; assumption)) only [go_sem,Nat.reduceAdd,Nat.reduceMul,Nat.reduceSub,Nat.reduceEqDiff,↓reduceIte,Nat.reduceLT,reduceCtorEq,Nat.reduceLeDiff,Int.reduceToNat,Int.reduceEq,Int.reduceLE,Int.reduceLT,Nat.reduceBEq,hl16,ht16,hl24,ht24]
           cases hq30
           refine X_cut rfl ?_
           refine weak_of (m := 0) [some 2,some 3] rfl rfl rfl (by rfl) ?_ ?_
           all_goals ((try simp (disch := first | assumption | (simp only [List.length_set]; assumption)) only [go_sem,Nat.reduceAdd,Nat.reduceMul,Nat.reduceSub,Nat.reduceEqDiff,↓reduceIte,Nat.reduceLT,reduceCtorEq,Nat.reduceLeDiff,Int.reduceToNat,Int.reduceEq,Int.reduceLE,Int.reduceLT,Nat.reduceBEq,hl16,ht16,hl24,ht24]); (repeat' first | done | rfl | omega | refine And.intro ?_ ?_ | (simp; done) | (simp; omega)))
          ·try simp (disch := first | assumption | (simp only [List.length_set]; assumption)) only [go_sem,Nat.reduceAdd,Nat.reduceMul,Nat.reduceSub,Nat.reduceEqDiff,↓reduceIte,Nat.reduceLT,reduceCtorEq,Nat.reduceLeDiff,Int.reduceToNat,Int.reduceEq,Int.reduceLE,Int.reduceLT,Nat.reduceBEq,hl16,ht16,hl24,ht24]
           refine Sp_if hq30 (fun hq30 hc33 => ?_) (fun hq30 hc33 => ?_)
           ·try simp (disch := first | assumption | (simp only [List.length_set]; assumption)) only [go_sem,Nat.reduceAdd,Nat.reduceMul,Nat.reduceSub,Nat.reduceEqDiff,↓reduceIte,Nat.reduceLT,reduceCtorEq,Nat.reduceLeDiff,Int.reduceToNat,Int.reduceEq,Int.reduceLE,Int.reduceLT,Nat.reduceBEq,hl16,ht16,hl24,ht24]
            cases hq30
            refine X_cut rfl ?_
            refine weak_of (m := 0) [some 2,some 3] rfl rfl rfl (by rfl) ?_ ?_
            all_goals ((try simp (disch := first | assumption | (simp only [List.length_set]; assumption)) only [go_sem,Nat.reduceAdd,Nat.reduceMul,Nat.reduceSub,Nat.reduceEqDiff,↓reduceIte,Nat.reduceLT,reduceCtorEq,Nat.reduceLeDiff,Int.reduceToNat,Int.reduceEq,Int.reduceLE,Int.reduceLT,Nat.reduceBEq,hl16,ht16,hl24,ht24]); (repeat' first | done | rfl | omega | refine And.intro ?_ ?_ | (simp; done) | (simp; omega)))
           ·try simp (disch := first | assumption | (simp only [List.length_set]; assumption)) only [go_sem,Nat.reduceAdd,Nat.reduceMul,Nat.reduceSub,Nat.reduceEqDiff,↓reduceIte,Nat.reduceLT,reduceCtorEq,Nat.reduceLeDiff,Int.reduceToNat,Int.reduceEq,Int.reduceLE,Int.reduceLT,Nat.reduceBEq,hl16,ht16,hl24,ht24]
            cases hq30
            refine X_cut rfl ?_
            refine weak_of (m := 0) [some 2,some 3] rfl rfl rfl (by rfl) ?_ ?_
            all_goals ((try simp (disch := first | assumption | (simp only [List.length_set]; assumption)) only [go_sem,Nat.reduceAdd,Nat.reduceMul,Nat.reduceSub,Nat.reduceEqDiff,↓reduceIte,Nat.reduceLT,reduceCtorEq,Nat.reduceLeDiff,Int.reduceToNat,Int.reduceEq,Int.reduceLE,Int.reduceLT,Nat.reduceBEq,hl16,ht16,hl24,ht24]); (repeat' first | done | rfl | omega | refine And.intro ?_ ?_ | (simp; done) | (simp; omega)))
         ·intro s2 hJ; subst hJ
          try dsimp only at h
          try simp (disch := first | assumption | (simp only [List.length_set]; assumption)) only [go_sem,Nat.reduceAdd,Nat.reduceMul,Nat.reduceSub,Nat.reduceEqDiff,↓reduceIte,Nat.reduceLT,reduceCtorEq,Nat.reduceLeDiff,Int.reduceToNat,Int.reduceEq,Int.reduceLE,Int.reduceLT,Nat.reduceBEq,hl16,ht16,hl24,ht24]
          refine Bs_if h (fun h hc34 => ?_) (fun h hc34 => ?_)
          ·try simp (disch := first | assumption | (simp only [List.length_set]; assumption)) only [go_sem,Nat.reduceAdd,Nat.reduceMul,Nat.reduceSub,Nat.reduceEqDiff,↓reduceIte,Nat.reduceLT,reduceCtorEq,Nat.reduceLeDiff,Int.reduceToNat,Int.reduceEq,Int.reduceLE,Int.reduceLT,Nat.reduceBEq,hl16,ht16,hl24,ht24]
           obtain rfl:=Option.some.inj h
           refine ends_weak ⟨[(2,(B false))],[],0,117⟩ (weak_of (m := 0) [] rfl rfl rfl (by rfl) ?_ ?_) ?_
           all_goals ((try simp (disch := first | assumption | (simp only [List.length_set]; assumption)) only [go_sem,Nat.reduceAdd,Nat.reduceMul,Nat.reduceSub,Nat.reduceEqDiff,↓reduceIte,Nat.reduceLT,reduceCtorEq,Nat.reduceLeDiff,Int.reduceToNat,Int.reduceEq,Int.reduceLE,Int.reduceLT,Nat.reduceBEq,hl16,ht16,hl24,ht24]); (repeat' first | done | rfl | omega | refine And.intro ?_ ?_ | (simp; done) | (simp; omega)))
          ·try simp (disch := first | assumption | (simp only [List.length_set]; assumption)) only [go_sem,Nat.reduceAdd,Nat.reduceMul,Nat.reduceSub,Nat.reduceEqDiff,↓reduceIte,Nat.reduceLT,reduceCtorEq,Nat.reduceLeDiff,Int.reduceToNat,Int.reduceEq,Int.reduceLE,Int.reduceLT,Nat.reduceBEq,hl16,ht16,hl24,ht24]
           obtain ⟨c622,hr35,h⟩ := bind_ok h
           refine Cl_shown (zfb hr35) (by first | rfl | (simp (disch := first | assumption | (simp only [List.length_set]; assumption)) only [go_sem,Nat.reduceAdd,Nat.reduceMul,Nat.reduceSub,Nat.reduceEqDiff,↓reduceIte,Nat.reduceLT,reduceCtorEq,Nat.reduceLeDiff,Int.reduceToNat,Int.reduceEq,Int.reduceLE,Int.reduceLT,Nat.reduceBEq,hl16,ht16,hl24,ht24]; first | done | rfl) | (simp only [List.length_append,List.length_cons,List.length_nil,List.length_map,List.length_set,List.length_replicate,Nat.zero_add,Nat.reduceAdd]; rfl) | (simp (disch := first | assumption | (simp only [List.length_set]; assumption)) only [go_sem,Nat.reduceAdd,Nat.reduceMul,Nat.reduceSub,Nat.reduceEqDiff,↓reduceIte,Nat.reduceLT,reduceCtorEq,Nat.reduceLeDiff,Int.reduceToNat,Int.reduceEq,Int.reduceLE,Int.reduceLT,Nat.reduceBEq,hl16,ht16,hl24,ht24]; simp only [List.length_append,List.length_cons,List.length_nil,List.length_map,List.length_set,List.length_replicate,Nat.zero_add,Nat.reduceAdd]; rfl)) (FitAll.refl _) (.inr ⟨rfl,by simp [freeOb,free1]⟩) ?_
           try simp (disch := first | assumption | (simp only [List.length_set]; assumption)) only [go_sem,Nat.reduceAdd,Nat.reduceMul,Nat.reduceSub,Nat.reduceEqDiff,↓reduceIte,Nat.reduceLT,reduceCtorEq,Nat.reduceLeDiff,Int.reduceToNat,Int.reduceEq,Int.reduceLE,Int.reduceLT,Nat.reduceBEq,hl16,ht16,hl24,ht24]
           refine Bs_if h (fun h hc36 => ?_) (fun h hc36 => ?_)
           ·try simp (disch := first | assumption | (simp only [List.length_set]; assumption)) only [go_sem,Nat.reduceAdd,Nat.reduceMul,Nat.reduceSub,Nat.reduceEqDiff,↓reduceIte,Nat.reduceLT,reduceCtorEq,Nat.reduceLeDiff,Int.reduceToNat,Int.reduceEq,Int.reduceLE,Int.reduceLT,Nat.reduceBEq,hl16,ht16,hl24,ht24]
            obtain rfl:=Option.some.inj h
            refine ends_weak ⟨[(2,(B false))],[],0,117⟩ (weak_of (m := 0) [] rfl rfl rfl (by rfl) ?_ ?_) ?_
            all_goals ((try simp (disch := first | assumption | (simp only [List.length_set]; assumption)) only [go_sem,Nat.reduceAdd,Nat.reduceMul,Nat.reduceSub,Nat.reduceEqDiff,↓reduceIte,Nat.reduceLT,reduceCtorEq,Nat.reduceLeDiff,Int.reduceToNat,Int.reduceEq,Int.reduceLE,Int.reduceLT,Nat.reduceBEq,hl16,ht16,hl24,ht24]); (repeat' first | done | rfl | omega | refine And.intro ?_ ?_ | (simp; done) | (simp; omega)))
           ·try simp (disch := first | assumption | (simp only [List.length_set]; assumption)) only [go_sem,Nat.reduceAdd,Nat.reduceMul,Nat.reduceSub,Nat.reduceEqDiff,↓reduceIte,Nat.reduceLT,reduceCtorEq,Nat.reduceLeDiff,Int.reduceToNat,Int.reduceEq,Int.reduceLE,Int.reduceLT,Nat.reduceBEq,hl16,ht16,hl24,ht24]
            refine Bs_if h (fun h hc37 => ?_) (fun h hc37 => ?_)
            ·try simp (disch := first | assumption | (simp only [List.length_set]; assumption)) only [go_sem,Nat.reduceAdd,Nat.reduceMul,Nat.reduceSub,Nat.reduceEqDiff,↓reduceIte,Nat.reduceLT,reduceCtorEq,Nat.reduceLeDiff,Int.reduceToNat,Int.reduceEq,Int.reduceLE,Int.reduceLT,Nat.reduceBEq,hl16,ht16,hl24,ht24]
             obtain rfl:=Option.some.inj h
             refine ends_weak ⟨[(2,(B false))],[],0,117⟩ (weak_of (m := 0) [] rfl rfl rfl (by rfl) ?_ ?_) ?_
             all_goals ((try simp (disch := first | assumption | (simp only [List.length_set]; assumption)) only [go_sem,Nat.reduceAdd,Nat.reduceMul,Nat.reduceSub,Nat.reduceEqDiff,↓reduceIte,Nat.reduceLT,reduceCtorEq,Nat.reduceLeDiff,Int.reduceToNat,Int.reduceEq,Int.reduceLE,Int.reduceLT,Nat.reduceBEq,hl16,ht16,hl24,ht24]); (repeat' first | done | rfl | omega | refine And.intro ?_ ?_ | (simp; done) | (simp; omega)))
            ·try simp (disch := first | assumption | (simp only [List.length_set]; assumption)) only [go_sem,Nat.reduceAdd,Nat.reduceMul,Nat.reduceSub,Nat.reduceEqDiff,↓reduceIte,Nat.reduceLT,reduceCtorEq,Nat.reduceLeDiff,Int.reduceToNat,Int.reduceEq,Int.reduceLE,Int.reduceLT,Nat.reduceBEq,hl16,ht16,hl24,ht24]
             obtain rfl:=Option.some.inj h
             refine ends_weak ⟨[(2,(B true))],[],0,117⟩ (weak_of (m := 0) [] rfl rfl rfl (by rfl) ?_ ?_) ?_
             all_goals ((try simp (disch := first | assumption | (simp only [List.length_set]; assumption)) only [go_sem,Nat.reduceAdd,Nat.reduceMul,Nat.reduceSub,Nat.reduceEqDiff,↓reduceIte,Nat.reduceLT,reduceCtorEq,Nat.reduceLeDiff,Int.reduceToNat,Int.reduceEq,Int.reduceLE,Int.reduceLT,Nat.reduceBEq,hl16,ht16,hl24,ht24]); (repeat' first | done | rfl | omega | refine And.intro ?_ ?_ | (simp; done) | (simp; omega)))
end Go.TL.YteonagfnhdlfcaaGreatDoor

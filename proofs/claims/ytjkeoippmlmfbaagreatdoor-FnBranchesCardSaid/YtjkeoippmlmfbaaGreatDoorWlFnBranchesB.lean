import Derived.Test.YtjkeoippmlmfbaaGreatDoorWlFnBranchesA
set_option linter.unusedSimpArgs false
set_option linter.unusedVariables false
set_option linter.unusedVariables false
set_option linter.unusedSimpArgs false
set_option maxRecDepth 8000
set_option maxHeartbeats 0
namespace Go.TL.YtjkeoippmlmfbaaGreatDoor
open Go Go.Proofs Go.TL
theorem w_laws_sameTellings {a0 : TellingsT} {a1 : TellingsT} {r : Bool} (h : laws_sameTellings a0 a1 = some r) : Fn Tryz.prog 57 [(.ag [(.lf true (.sl (a0.Branches.map eBranch)))]),(.ag [(.lf true (.sl (a1.Branches.map eBranch)))])] [] 0 (B r) [] 0 := by
 unfold laws_sameTellings at h
 refine fn_code tab_ok mixed [(1000,[(2,0),(3,0)]),(1001,[(2,0),(3,0),(12,0)]),(1002,[(4,0)]),(1003,[(2,0),(3,0),(15,0),(16,0)]),(1004,[(2,0),(3,0),(15,0),(16,0),(17,0)]),(1005,[(2,0),(3,0),(5,0),(15,0),(16,0)]),(1006,[(2,0),(3,0),(15,0),(16,0),(32,0)]),(1007,[(4,0)]),(1008,[(2,0),(3,0),(15,0),(16,0)]),(1009,[(4,0)])] Tryz.func57 rfl rfl (by simp [Tryz.f57]) (by kernel_rfl) ?_
 simp only [Tryz.f57]
 refine sA ?_
 refine Bs_if h (fun h hc1 => ?_) (fun h hc1 => ?_)
 ·try refine sA ?_
  obtain rfl:=Option.some.inj h
  exact endsA ⟨[(4,(B false))],[],0,34⟩ []
 ·try refine sA ?_
  obtain ⟨y457,hl2,h⟩ := bind_ok h
  refine W_loopP (fun g450 : laws_sameTellings_G1 => ⟨[(2,(.pb 0 0)),(3,(.pb 1 0)),(15,(I ((a0.Branches.length : Nat) : Int))),(16,(I g450.t16))],[(0,some (true,.box [(.lf true (.sl (a0.Branches.map eBranch)))])),(1,some (true,.box [(.lf true (.sl (a1.Branches.map eBranch)))]))],2,34⟩) (laws_sameTellings_L1 a0 a1) _ _ hl2 (weakA [some 0,some 1]) ?_
  ·intro n1 g450 z1 hs1 hk1
   unfold laws_sameTellings_L1 at hs1
   try dsimp only at hs1
   refine sA ?_
   refine Bs_if hs1 (fun hs1 hc3 => ?_) (fun hs1 hc3 => ?_)
   ·try refine sA ?_
    obtain ⟨hp4,hs1⟩ := guard_some hs1
    have hn4 : g450.t16.toNat < a0.Branches.length := by first | omega | (simp only [List.length_set,List.length_append,List.length_replicate,List.length_map]; omega)
    try refine sA ?_
    try refine andA ?_
    obtain ⟨hp5,hs1⟩ := guard_some hs1
    have hn5 : g450.t16.toNat < a1.Branches.length := by first | omega | (simp only [List.length_set,List.length_append,List.length_replicate,List.length_map]; omega)
    try refine sA ?_
    try refine andA ?_
    obtain ⟨c456,hr6,hs1⟩ := bind_ok hs1
    refine Cl_sA (w_laws_sameEvents hr6) ?_
    try refine sA ?_
    refine Bs_if hs1 (fun hs1 hc7 => ?_) (fun hs1 hc7 => ?_)
    ·try refine sA ?_
     cases hs1
     cases hk1
     try dsimp only at h
     try refine sA ?_
     obtain rfl:=Option.some.inj h
     exact endsA ⟨[(4,(B false))],[],0,34⟩ []
    ·try refine sA ?_
     cases hs1
     exact X_backP hk1 (weakA [some 0,some 1])
   ·try refine sA ?_
    cases hs1
    cases hk1
    try dsimp only at h
    try refine sA ?_
    obtain rfl:=Option.some.inj h
    exact endsA ⟨[(4,(B true))],[],0,34⟩ []
theorem w_spec_DrawMergeTellings_F {a0 : (List Int)} {r : (TellingsT × TellingsT)} (h : spec_DrawMergeTellings_F a0 = some r) : Fn Tryz.prog 54 [(.lf true (.sl (a0.map eU8)))] [] 0 (.tu [(.ag [(.lf false (.sl (r.1.Branches.map eBranch)))]),(.ag [(.lf false (.sl (r.2.Branches.map eBranch)))])]) [] 2 := by
 unfold spec_DrawMergeTellings_F at h
 refine fn_code tab_ok mixed [(1000,[(0,0),(2,0),(3,0)]),(1001,[(2,0),(3,0),(4,0)]),(1002,[(2,0),(3,0),(4,0),(5,0)]),(1003,[(2,0),(3,0)])] Tryz.func54 rfl rfl (by simp [Tryz.f54]) (by kernel_rfl) ?_
 simp only [Tryz.f54]
 refine sA ?_
 obtain ⟨c471,hr1,h⟩ := bind_ok h
 refine Cl_hA [2] (w_spec_l1Cur_stem_o_F hr1) ?_
 try refine sA ?_
 obtain ⟨c472,hr2,h⟩ := bind_ok h
 refine Cl_hA [2] (w_spec_l1Cur_tellings_o hr2) ?_
 try refine sA ?_
 obtain ⟨c473,hr3,h⟩ := bind_ok h
 refine Cl_hA [2] (w_spec_l1Cur_tellings_o hr3) ?_
 try refine sA ?_
 obtain rfl:=Option.some.inj h
 refine ends_frz 3 ?_
 refine ends_frz 5 ?_
 try refine sA ?_
 exact endsA ⟨[(2,(.pb 0 0)),(3,(.pb 1 0))],[(0,some (true,.box [(.lf false (.sl (c472.1.Branches.map eBranch)))])),(1,some (true,.box [(.lf false (.sl (c473.1.Branches.map eBranch)))]))],2,17⟩ [some 0,some 1]
theorem w_impl_HasHistory_c1_r {a0 : BranchT} {a1 : (List EventT)} {r : Bool} (h : impl_HasHistory_c1_r a0 a1 = some r) : Fn Tryz.prog 130 [(.ag [(.lf true (.sl (a0.Events.map eEvent)))]),(.ra true [.sl (a1.map eEvent)])] [] 0 (B r) [] 0 := by
 unfold impl_HasHistory_c1_r at h
 refine fn_code tab_ok mixed [] Tryz.func130 rfl rfl (by simp [Tryz.f130]) (by kernel_rfl) ?_
 simp only [Tryz.f130]
 refine sA ?_
 obtain ⟨c495,hr1,h⟩ := bind_ok h
 refine Cl_sA (w_impl_begins hr1) ?_
 try refine sA ?_
 obtain rfl:=Option.some.inj h
 exact endsA ⟨[(3,(B c495))],[],0,8⟩ []
theorem w_slices_IndexFunc_impl_Branch_impl_HasHistory_c1r {a0 : (List BranchT)} {a1 : (List EventT)} {r : Int} (h : slices_IndexFunc_impl_Branch_impl_HasHistory_c1r a0 a1 = some r) : Fn Tryz.prog 174 [(.lf true (.sl (a0.map eBranch))),(.fn 130 [(.ra true [.sl (a1.map eEvent)])])] [] 0 (I r) [] 0 := by
 unfold slices_IndexFunc_impl_Branch_impl_HasHistory_c1r at h
 refine fn_code tab_ok mixed [(1000,[(0,0),(1,0)]),(1001,[(0,0),(1,0),(7,0),(8,0)]),(1002,[(0,0),(1,0),(7,0),(8,0),(9,0)]),(1003,[(0,0),(1,0),(5,0),(7,0),(8,0)]),(1004,[(0,0),(1,0),(5,0),(7,0),(8,0),(16,0)]),(1005,[(4,0)]),(1006,[(0,0),(1,0),(7,0),(8,0)]),(1007,[(4,0)])] Tryz.func174 rfl rfl (by simp [Tryz.f174]) (by kernel_rfl) ?_
 simp only [Tryz.f174]
 refine sA ?_
 obtain ⟨y498,hl1,h⟩ := bind_ok h
 refine W_loopP (fun g494 : slices_IndexFunc_impl_Branch_impl_HasHistory_c1r_G1 => ⟨[(0,(.lf true (.sl (a0.map eBranch)))),(1,(.fn 130 [(.ra true [.sl (a1.map eEvent)])])),(7,(I ((a0.length : Nat) : Int))),(8,(I g494.t8))],[],0,19⟩) (slices_IndexFunc_impl_Branch_impl_HasHistory_c1r_L1 a0 a1) _ _ hl1 (weakA []) ?_
 ·intro n1 g494 z1 hs1 hk1
  unfold slices_IndexFunc_impl_Branch_impl_HasHistory_c1r_L1 at hs1
  try dsimp only at hs1
  refine sA ?_
  refine Bs_if hs1 (fun hs1 hc2 => ?_) (fun hs1 hc2 => ?_)
  ·try refine sA ?_
   obtain ⟨hp3,hs1⟩ := guard_some hs1
   have hn3 : g494.t8.toNat < a0.length := by first | omega | (simp only [List.length_set,List.length_append,List.length_replicate,List.length_map]; omega)
   try refine sA ?_
   try refine andA ?_
   obtain ⟨c497,hr4,hs1⟩ := bind_ok hs1
   refine Cl_sA (w_impl_HasHistory_c1_r hr4) ?_
   try refine sA ?_
   refine Bs_if hs1 (fun hs1 hc5 => ?_) (fun hs1 hc5 => ?_)
   ·try refine sA ?_
    cases hs1
    cases hk1
    try dsimp only at h
    try refine sA ?_
    obtain rfl:=Option.some.inj h
    exact endsA ⟨[(4,(I g494.t8))],[],0,19⟩ []
   ·try refine sA ?_
    cases hs1
    exact X_backP hk1 (weakA [])
  ·try refine sA ?_
   cases hs1
   cases hk1
   try dsimp only at h
   try refine sA ?_
   obtain rfl:=Option.some.inj h
   exact endsA ⟨[(4,(I (-1)))],[],0,19⟩ []
theorem w_slices_ContainsFunc_impl_Branch_impl_HasHistory_c1r {a0 : (List BranchT)} {a1 : (List EventT)} {r : Bool} (h : slices_ContainsFunc_impl_Branch_impl_HasHistory_c1r a0 a1 = some r) : Fn Tryz.prog 129 [(.lf true (.sl (a0.map eBranch))),(.fn 130 [(.ra true [.sl (a1.map eEvent)])])] [] 0 (B r) [] 0 := by
 unfold slices_ContainsFunc_impl_Branch_impl_HasHistory_c1r at h
 refine fn_code tab_ok mixed [] Tryz.func129 rfl rfl (by simp [Tryz.f129]) (by kernel_rfl) ?_
 simp only [Tryz.f129]
 refine sA ?_
 obtain ⟨c501,hr1,h⟩ := bind_ok h
 refine Cl_sA (w_slices_IndexFunc_impl_Branch_impl_HasHistory_c1r hr1) ?_
 try refine sA ?_
 obtain rfl:=Option.some.inj h
 exact endsA ⟨[(4,(B (decide (c501 ≥ 0))))],[],0,9⟩ []
theorem w_impl_HasHistory {a0 : TellingsT} {a1 : (List EventT)} {r : (Bool × Bool)} (h : impl_HasHistory a0 a1 = some r) : Fn Tryz.prog 60 [(.ag [(.lf true (.sl (a0.Branches.map eBranch)))]),(.lf true (.sl (a1.map eEvent)))] [] 0 (.tu [(B r.1),(B r.2)]) [] 0 := by
 unfold impl_HasHistory at h
 refine fn_code tab_ok mixed [(1000,[(2,0),(3,0)]),(1001,[(2,0),(3,0),(13,0)]),(1002,[(4,0),(5,0)]),(1003,[(4,0),(5,0)]),(4001,[])] Tryz.func60 rfl rfl (by simp [Tryz.f60]) (by kernel_rfl) ?_
 simp only [Tryz.f60]
 refine sA ?_
 obtain ⟨p493,hq1,h⟩ := bind_ok h
 refine Sq_cut (fun s2 => s2 = ⟨[(2,(.pb 0 0)),(3,(.pb 1 0)),(13,(B p493.t13))],[(0,some (true,.box [(.lf true (.sl (a0.Branches.map eBranch)))])),(1,some (true,.box [(.lf true (.sl (a1.map eEvent)))]))],2,18⟩) ?_ ?_
 ·try refine sA ?_
  obtain ⟨c491,hr2,hq1⟩ := bind_ok hq1
  refine Cl_sA (w_impl_GoodTellings hr2) ?_
  try refine sA ?_
  refine Sp_if hq1 (fun hq1 hc3 => ?_) (fun hq1 hc3 => ?_)
  ·try refine sA ?_
   cases hq1
   exact X_cut rfl (weakA [some 0,some 1])
  ·try refine sA ?_
   obtain ⟨c492,hr4,hq1⟩ := bind_ok hq1
   refine Cl_sA (w_impl_isTelling hr4) ?_
   try refine sA ?_
   cases hq1
   exact X_cut rfl (weakA [some 0,some 1])
 ·intro s2 hJ; subst hJ
  try dsimp only at h
  try refine sA ?_
  refine Bs_if h (fun h hc5 => ?_) (fun h hc5 => ?_)
  ·try refine sA ?_
   obtain rfl:=Option.some.inj h
   exact endsA ⟨[(4,(B false)),(5,(B false))],[],0,18⟩ []
  ·try refine sA ?_
   obtain ⟨c502,hr6,h⟩ := bind_ok h
   refine Cl_sA (w_slices_ContainsFunc_impl_Branch_impl_HasHistory_c1r hr6) ?_
   try refine sA ?_
   obtain rfl:=Option.some.inj h
   exact endsA ⟨[(4,(B c502)),(5,(B true))],[],0,18⟩ []
theorem w_impl_shared {a0 : (List EventT)} {a1 : (List EventT)} {r : Int} (h : impl_shared a0 a1 = some r) : Fn Tryz.prog 131 [(.lf true (.sl (a0.map eEvent))),(.lf true (.sl (a1.map eEvent)))] [] 0 (I r) [] 0 := by
 unfold impl_shared at h
 refine fn_code tab_ok mixed [(1000,[(0,0),(1,0)]),(1001,[(0,0),(1,0),(5,0)]),(1002,[(0,0),(1,0),(5,0),(23,0)]),(1003,[(0,0),(1,0),(5,0)]),(1004,[(4,0)])] Tryz.func131 rfl rfl (by simp [Tryz.f131]) (by kernel_rfl) ?_
 simp only [Tryz.f131]
 refine sA ?_
 obtain ⟨y525,hl1,h⟩ := bind_ok h
 refine W_loopP (fun g524 : impl_shared_G1 => ⟨[(0,(.lf true (.sl (a0.map eEvent)))),(1,(.lf true (.sl (a1.map eEvent)))),(5,(I g524.t5))],[],0,27⟩) (impl_shared_L1 a0 a1) _ _ hl1 (weakA []) ?_
 ·intro n1 g524 z1 hs1 hk1
  unfold impl_shared_L1 at hs1
  try dsimp only at hs1
  refine sA ?_
  refine Sp_if hs1 (fun hs1 hc2 => ?_) (fun hs1 hc2 => ?_)
  ·try refine sA ?_
   obtain ⟨hp3,hs1⟩ := guard_some hs1
   have hn3 : g524.t5.toNat < a0.length := by first | omega | (simp only [List.length_set,List.length_append,List.length_replicate,List.length_map]; omega)
   try refine sA ?_
   try refine andA ?_
   obtain ⟨hp4,hs1⟩ := guard_some hs1
   have hn4 : g524.t5.toNat < a1.length := by first | omega | (simp only [List.length_set,List.length_append,List.length_replicate,List.length_map]; omega)
   try refine sA ?_
   try refine andA ?_
   first | refine And.intro ⟨by kernel_rfl,by kernel_rfl,by kernel_rfl⟩ ?_ | skip
   try refine sA ?_
   refine Bs_if hs1 (fun hs1 hc6 => ?_) (fun hs1 hc6 => ?_)
   ·try refine sA ?_
    cases hs1
    exact X_backP hk1 (weakA [])
   ·try refine sA ?_
    cases hs1
    cases hk1
    try dsimp only at h
    try refine sA ?_
    obtain rfl:=Option.some.inj h
    exact endsA ⟨[(4,(I g524.t5))],[],0,27⟩ []
  ·try refine sA ?_
   cases hs1
   cases hk1
   try dsimp only at h
   try refine sA ?_
   obtain rfl:=Option.some.inj h
   exact endsA ⟨[(4,(I g524.t5))],[],0,27⟩ []
theorem w_impl_EventsIn {a0 : TellingsT} {r : (Int × Bool)} (h : impl_EventsIn a0 = some r) : Fn Tryz.prog 61 [(.ag [(.lf true (.sl (a0.Branches.map eBranch)))])] [] 0 (.tu [(I r.1),(B r.2)]) [] 0 := by
 unfold impl_EventsIn at h
 refine fn_code tab_ok mixed [(1000,[(1,0)]),(1001,[(1,0),(12,0)]),(1002,[(2,0),(3,0)]),(1003,[(1,0),(4,0)]),(1004,[(1,0),(4,0),(14,0),(15,0),(16,0)]),(1005,[(1,0),(4,0),(14,0),(15,0),(16,0),(17,0)]),(1006,[(1,0),(4,0),(5,0),(6,0),(14,0),(15,0),(16,0)]),(1007,[(1,0),(4,0),(5,0),(6,0),(7,0),(14,0),(15,0),(16,0)]),(1008,[(1,0),(4,0),(6,0),(7,0),(14,0),(15,0),(16,0),(24,0),(25,0),(26,0)]),(1009,[(1,0),(4,0),(6,0),(7,0),(14,0),(15,0),(16,0),(24,0),(25,0),(26,0),(27,0)]),(1010,[(1,0),(4,0),(6,0),(7,0),(9,0),(14,0),(15,0),(16,0),(24,0),(25,0),(26,0)]),(1011,[(1,0),(4,0),(6,0),(7,0),(14,0),(15,0),(16,0),(24,0),(25,0),(26,0)]),(1012,[(1,0),(4,0),(6,0),(7,0),(14,0),(15,0),(16,0),(24,0),(25,0),(26,0)]),(1013,[(1,0),(4,0),(14,0),(15,0),(16,0)]),(1014,[(1,0),(4,0),(14,0),(15,0),(16,0)]),(1015,[(2,0),(3,0)])] Tryz.func61 rfl rfl (by simp [Tryz.f61]) (by kernel_rfl) ?_
 simp only [Tryz.f61]
 refine sA ?_
 obtain ⟨c521,hr1,h⟩ := bind_ok h
 refine Cl_sA (w_impl_GoodTellings hr1) ?_
 try refine sA ?_
 refine Bs_if h (fun h hc2 => ?_) (fun h hc2 => ?_)
 ·try refine sA ?_
  obtain rfl:=Option.some.inj h
  exact endsA ⟨[(2,(I 0)),(3,(B false))],[],0,47⟩ []
 ·try refine sA ?_
  obtain ⟨y533,hl3,h⟩ := bind_ok h
  refine W_loopP (fun g522 : impl_EventsIn_G1 => ⟨[(1,(.pb 0 0)),(4,(I g522.t4)),(14,(.lf true (.sl (a0.Branches.map eBranch)))),(15,(I ((a0.Branches.length : Nat) : Int))),(16,(I g522.t16))],[(0,some (true,.box [(.lf true (.sl (a0.Branches.map eBranch)))]))],1,47⟩) (impl_EventsIn_L1 a0) _ _ hl3 (weakA [some 0]) ?_
  ·intro n1 g522 z1 hs1 hk1
   unfold impl_EventsIn_L1 at hs1
   try dsimp only at hs1
   refine sA ?_
   refine Bs_if hs1 (fun hs1 hc4 => ?_) (fun hs1 hc4 => ?_)
   ·try refine sA ?_
    obtain ⟨hp5,hs1⟩ := guard_some hs1
    have hn5 : g522.t16.toNat < a0.Branches.length := by first | omega | (simp only [List.length_set,List.length_append,List.length_replicate,List.length_map]; omega)
    try refine sA ?_
    try refine andA ?_
    obtain ⟨hp6,hs1⟩ := guard_some hs1
    try refine sA ?_
    try refine andA ?_
    obtain ⟨y532,hl7,hs1⟩ := bind_ok hs1
    refine W_loopP (fun g529 : impl_EventsIn_G2 => ⟨[(1,(.pb 0 0)),(4,(I g522.t4)),(6,(.pb 1 0)),(7,(I g529.t7)),(14,(.lf true (.sl (a0.Branches.map eBranch)))),(15,(I ((a0.Branches.length : Nat) : Int))),(16,(I g522.t16)),(24,(.lf true (.sl ((a0.Branches.take g522.t16.toNat).map eBranch)))),(25,(I (((a0.Branches.take g522.t16.toNat).length : Nat) : Int))),(26,(I g529.t26))],[(0,some (true,.box [(.lf true (.sl (a0.Branches.map eBranch)))])),(1,some (true,.box [(.lf true (.sl (((nth a0.Branches g522.t16.toNat).Events).map eEvent)))]))],2,47⟩) (impl_EventsIn_L2 a0 g522) _ _ hl7 (weakA [some 0,some 1]) ?_
    ·intro n2 g529 z2 hs2 hk2
     unfold impl_EventsIn_L2 at hs2
     try dsimp only at hs2
     refine sA ?_
     refine Bs_if hs2 (fun hs2 hc8 => ?_) (fun hs2 hc8 => ?_)
     ·try refine sA ?_
      obtain ⟨hp9,hs2⟩ := guard_some hs2
      have hn9 : g529.t26.toNat < (a0.Branches.take g522.t16.toNat).length := by first | omega | (simp only [List.length_set,List.length_append,List.length_replicate,List.length_map]; omega)
      try refine sA ?_
      try refine andA ?_
      obtain ⟨c531,hr10,hs2⟩ := bind_ok hs2
      refine Cl_sA (w_impl_shared hr10) ?_
      try refine sA ?_
      cases hs2
      exact X_backP hk2 (weakA [some 0,some 1])
     ·try refine sA ?_
      cases hs2
      cases hk2
      try dsimp only at hs1
      try refine sA ?_
      cases hs1
      exact X_backP hk1 (weakA [some 0])
   ·try refine sA ?_
    cases hs1
    cases hk1
    try dsimp only at h
    try refine sA ?_
    obtain rfl:=Option.some.inj h
    exact endsA ⟨[(2,(I g522.t4)),(3,(B true))],[],0,47⟩ []
theorem w_spec_DrawAddBranch {a0 : (List Int)} {r : (TellingsT × (List EventT))} (h : spec_DrawAddBranch a0 = some r) : Fn Tryz.prog 62 [(.lf true (.sl (a0.map eU8)))] [] 0 (.tu [(.ag [(.os 0 1 0 r.1.Branches.length r.1.Branches.length false)]),(.lf false (.sl (r.2.map eEvent)))]) [(0,some (true,.deep [.sl [.sc,.sc,.sc,.sc]] (r.1.Branches.map eBranch)))] 2 := by
 unfold spec_DrawAddBranch at h
 refine fn_code tab_ok mixed [(1000,[(0,0),(2,0)]),(1001,[(2,0),(4,0)]),(1002,[(2,0),(4,0),(5,0)]),(1003,[(2,0),(3,0)])] Tryz.func62 rfl rfl (by simp [Tryz.f62]) (by kernel_rfl) ?_
 simp only [Tryz.f62]
 refine sA ?_
 obtain ⟨c543,hr1,h⟩ := bind_ok h
 refine Cl_hA [1] (w_spec_l1Cur_stem_o_F hr1) ?_
 try refine sA ?_
 obtain ⟨c544,hr2,h⟩ := bind_ok h
 refine Cl_hA [1] (w_spec_l1Cur_tellings_o hr2) ?_
 try refine sA ?_
 obtain ⟨c545,hr3,h⟩ := bind_ok h
 refine Cl_hA [1] (w_spec_l1Cur_grown_o_F hr3) ?_
 try refine sA ?_
 obtain rfl:=Option.some.inj h
 exact endsA ⟨[(2,(.pb 1 0)),(3,(.lf false (.sl (c545.1.map eEvent))))],[(0,some (true,.deep [.sl [.sc,.sc,.sc,.sc]] (c544.1.Branches.map eBranch))),(1,some (true,.box [(.os 0 1 0 c544.1.Branches.length c544.1.Branches.length false)]))],2,17⟩ [some 2,some 0]
theorem w_impl_AddBranch {a0 : TellingsT} {a1 : (List EventT)} {r : (TellingsT × Bool)} (h : impl_AddBranch a0 a1 = some r) : Fn Tryz.prog 52 [(.ag [(.lf true (.sl (a0.Branches.map eBranch)))]),(.lf true (.sl (a1.map eEvent)))] [] 0 (.tu [(.ag [(.os 0 1 0 r.1.Branches.length r.1.Branches.length false)]),(B r.2)]) [(0,some (true,.deep [.sl [.sc,.sc,.sc,.sc]] (r.1.Branches.map eBranch)))] 2 := by
 unfold impl_AddBranch at h
 refine fn_code tab_ok mixed [(1000,[(1,0),(2,0),(4,0)]),(1001,[(1,0),(2,0),(4,0),(14,0)]),(1002,[(4,0),(5,0)]),(1003,[(4,0),(6,0)]),(1004,[(4,0),(6,0),(22,0)]),(1005,[(4,0),(5,0)]),(1006,[(4,0),(5,0)]),(4001,[])] Tryz.func52 rfl rfl (by simp [Tryz.f52]) (by kernel_rfl) ?_
 simp only [Tryz.f52]
 refine sA ?_
 obtain ⟨p549,hq1,h⟩ := bind_ok h
 refine Sq_cut (fun s2 => s2 = ⟨[(1,(.lf true (.sl (a1.map eEvent)))),(2,(.pb 0 0)),(4,(.pb 1 0)),(14,(B p549.t14))],[(0,some (true,.box [(.lf true (.sl (a0.Branches.map eBranch)))])),(1,some (true,.box [.nl]))],2,25⟩) ?_ ?_
 ·try refine sA ?_
  obtain ⟨c547,hr2,hq1⟩ := bind_ok hq1
  refine Cl_sA (w_impl_GoodTellings hr2) ?_
  try refine sA ?_
  refine Sp_if hq1 (fun hq1 hc3 => ?_) (fun hq1 hc3 => ?_)
  ·try refine sA ?_
   cases hq1
   exact X_cut rfl (weakA [some 0,some 1])
  ·try refine sA ?_
   obtain ⟨c548,hr4,hq1⟩ := bind_ok hq1
   refine Cl_sA (w_impl_isTelling hr4) ?_
   try refine sA ?_
   cases hq1
   exact X_cut rfl (weakA [some 0,some 1])
 ·intro s2 hJ; subst hJ
  try dsimp only at h
  try refine sA ?_
  refine Bs_if h (fun h hc5 => ?_) (fun h hc5 => ?_)
  ·try refine sA ?_
   obtain rfl:=Option.some.inj h
   exact endsA ⟨[(4,(.pb 1 0)),(5,(B false))],[(0,some (true,.deep [.sl [.sc,.sc,.sc,.sc]] (([] : List BranchT).map eBranch))),(1,some (true,.box [(.os 0 1 0 (([] : List BranchT).length) (([] : List BranchT).length) false)]))],2,25⟩ [none,some 1]
  ·try refine sA ?_
   obtain ⟨c550,hr6,h⟩ := bind_ok h
   refine Cl_sA (w_impl_added hr6) ?_
   try refine sA ?_
   refine Bs_if h (fun h hc7 => ?_) (fun h hc7 => ?_)
   ·try refine sA ?_
    obtain rfl:=Option.some.inj h
    exact endsA ⟨[(4,(.pb 1 0)),(5,(B false))],[(0,some (true,.deep [.sl [.sc,.sc,.sc,.sc]] (([] : List BranchT).map eBranch))),(1,some (true,.box [(.os 0 1 0 (([] : List BranchT).length) (([] : List BranchT).length) false)]))],2,25⟩ [none,some 1]
   ·try refine sA ?_
    obtain rfl:=Option.some.inj h
    exact endsA ⟨[(4,(.pb 1 0)),(5,(B true))],[(0,some (true,.deep [.sl [.sc,.sc,.sc,.sc]] (c550.Branches.map eBranch))),(1,some (true,.box [(.os 0 1 0 c550.Branches.length c550.Branches.length false)]))],2,25⟩ [some 2,some 1]
theorem w_laws_FnBranches {a0 : (List Int)} {a1 : (List Int)} {r : Bool} (h : laws_FnBranches a0 a1 = some r) : Fn Tryz.prog 9 [(.lf true (.sl (a0.map eU8))),(.lf true (.sl (a1.map eU8)))] [] 0 (B r) [] 0 := by
 unfold laws_FnBranches at h
 refine fn_code tab_ok mixed [(7,[(23,22)]),(1000,[(0,0),(1,0)]),(1001,[(0,0),(1,0),(42,0)]),(1002,[(4,0)]),(1003,[(1,0),(5,0),(6,0)]),(1004,[(1,0),(5,0),(6,0),(7,0),(8,0)]),(1005,[(1,0),(5,0),(6,0),(7,0),(8,0),(9,0),(10,0)]),(1006,[(1,0),(5,0),(6,0),(7,0),(8,0),(9,0),(10,0),(11,0),(12,0)]),(1007,[(1,0),(5,0),(6,0),(7,0),(8,0),(92,0)]),(1008,[(4,0)]),(1009,[(1,0),(5,0),(6,0),(7,0),(93,0)]),(1010,[(1,0),(5,0),(6,0),(7,0),(13,0),(14,0)]),(1011,[(1,0),(5,0),(6,0),(7,0),(13,0),(14,0),(15,0),(16,0)]),(1012,[(1,0),(5,0),(6,0),(7,0),(128,0)]),(1013,[(4,0)]),(1014,[(1,0),(5,0),(6,0),(7,0),(131,0),(132,0),(133,0)]),(1015,[(1,0),(5,0),(6,0),(7,0),(131,0),(132,0),(133,0),(134,0)]),(1016,[(1,0),(5,0),(6,0),(7,0),(18,0),(131,0),(132,0),(133,0)]),(1017,[(1,0),(5,0),(6,0),(7,0),(131,0),(132,0),(133,0),(138,0),(139,0),(140,0)]),(1018,[(1,0),(5,0),(6,0),(7,0),(131,0),(132,0),(133,0),(138,0),(139,0),(140,0),(141,0)]),(1019,[(1,0),(5,0),(6,0),(7,0),(20,0),(131,0),(132,0),(133,0),(138,0),(139,0),(140,0)]),(1020,[(1,0),(5,0),(6,0),(7,0),(21,0),(22,0),(131,0),(132,0),(133,0),(138,0),(139,0),(140,0)]),(1021,[(1,0),(5,0),(6,0),(7,0),(131,0),(132,0),(133,0),(138,0),(139,0),(140,0),(156,0)]),(1022,[(4,0)]),(1023,[(1,0),(5,0),(6,0),(7,0),(131,0),(132,0),(133,0),(138,0),(139,0),(140,0)]),(1024,[(1,0),(5,0),(6,0),(7,0),(131,0),(132,0),(133,0)]),(1025,[(1,0),(6,0),(7,0),(23,0),(24,0)]),(1026,[(1,0),(7,0),(23,0),(24,0),(25,0),(26,0)]),(1027,[(1,0),(23,0),(24,0),(25,0),(26,0),(27,0),(28,0)]),(1028,[(1,0),(200,0)]),(1029,[(4,0)]),(1030,[(29,0),(30,0)]),(1031,[(29,0),(30,0),(31,0),(32,0)]),(1032,[(30,0),(31,0),(32,0),(33,0),(34,0)]),(1033,[(30,0),(31,0),(32,0),(226,0)]),(1034,[(4,0)]),(1035,[(30,0),(31,0),(228,0)]),(1036,[(4,0)]),(1037,[(35,0),(36,0)]),(1038,[(4,0)]),(2093,[]),(4007,[]),(4012,[]),(4021,[]),(4028,[]),(4033,[])] Tryz.func9 rfl rfl (by simp [Tryz.f9]) (by kernel_rfl) ?_
 simp only [Tryz.f9]
 refine sA ?_
 refine Bs_if h (fun h hc1 => ?_) (fun h hc1 => ?_)
 ·try refine sA ?_
  obtain rfl:=Option.some.inj h
  exact endsA ⟨[(4,(B true))],[],0,243⟩ []
 ·try refine sA ?_
  obtain ⟨c474,hr2,h⟩ := bind_ok h
  refine Cl_sA (w_spec_DrawMergeTellings_F hr2) ?_
  try refine sA ?_
  obtain ⟨c475,hr3,h⟩ := bind_ok h
  refine Cl_sA (w_impl_MergeTellings hr3) ?_
  try refine sA ?_
  obtain ⟨c476,hr4,h⟩ := bind_ok h
  refine Cl_sA (w_spec_MergeTellings hr4) ?_
  try refine sA ?_
  obtain ⟨c477,hr5,h⟩ := bind_ok h
  refine Cl_sA (w_impl_MergeTellings hr5) ?_
  try refine sA ?_
  obtain ⟨p482,hq6,h⟩ := bind_ok h
  refine Sq_cut (fun s2 => s2 = ⟨[(1,(.lf true (.sl (a1.map eU8)))),(5,(.pb 0 0)),(6,(.pb 1 0)),(7,(.pb 2 0)),(8,(B c475.2)),(92,(B p482.t92))],[(0,some (true,.box [(.lf false (.sl (c474.1.Branches.map eBranch)))])),(1,some (true,.box [(.lf false (.sl (c474.2.Branches.map eBranch)))])),(2,some (true,.box [(.os 3 1 0 c475.1.Branches.length c475.1.Branches.length false)])),(3,some (true,.deep [.sl [.sc,.sc,.sc,.sc]] (c475.1.Branches.map eBranch)))],4,243⟩) ?_ ?_
  ·try refine sA ?_
   refine Sp_if hq6 (fun hq6 hc7 => ?_) (fun hq6 hc7 => ?_)
   ·try refine sA ?_
    cases hq6
    exact X_cut rfl (weakA [some 2,some 3,some 6,some 4])
   ·try refine sA ?_
    refine Sp_if hq6 (fun hq6 hc8 => ?_) (fun hq6 hc8 => ?_)
    ·try refine sA ?_
     cases hq6
     exact X_cut rfl (weakA [some 2,some 3,some 6,some 4])
    ·try refine sA ?_
     obtain ⟨c478,hr9,hq6⟩ := bind_ok hq6
     refine Cl_sA (w_laws_sameTellings hr9) ?_
     try refine sA ?_
     refine Sp_if hq6 (fun hq6 hc10 => ?_) (fun hq6 hc10 => ?_)
     ·try refine sA ?_
      cases hq6
      exact X_cut rfl (weakA [some 2,some 3,some 6,some 4])
     ·try refine sA ?_
      obtain ⟨c479,hr11,hq6⟩ := bind_ok hq6
      refine Cl_sA (w_laws_sameTellings hr11) ?_
      try refine sA ?_
      refine Sp_if hq6 (fun hq6 hc12 => ?_) (fun hq6 hc12 => ?_)
      ·try refine sA ?_
       cases hq6
       exact X_cut rfl (weakA [some 2,some 3,some 6,some 4])
      ·try refine sA ?_
       obtain ⟨c480,hr13,hq6⟩ := bind_ok hq6
       refine Cl_sA (w_impl_GoodTellings hr13) ?_
       try refine sA ?_
       obtain ⟨c481,hr14,hq6⟩ := bind_ok hq6
       refine Cl_sA (w_spec_GoodTellings hr14) ?_
       try refine sA ?_
       cases hq6
       exact X_cut rfl (weakA [some 2,some 3,some 6,some 4])
  ·intro s2 hJ; subst hJ
   try dsimp only at h
   try refine sA ?_
   refine Bs_if h (fun h hc15 => ?_) (fun h hc15 => ?_)
   ·try refine sA ?_
    obtain rfl:=Option.some.inj h
    exact endsA ⟨[(4,(B false))],[],0,243⟩ []
   ·try refine sA ?_
    obtain ⟨q16,hq16,h⟩ := bind_ok h
    refine Sq_cut (fun s2 => ∃ p542 : Unit,q16 = .inl p542 ∧ s2 = ⟨[(1,(.lf true (.sl (a1.map eU8))))],[],0,243⟩) ?_ ?_
    ·try refine sA ?_
     refine Bs_if hq16 (fun hq16 hc17 => ?_) (fun hq16 hc17 => ?_)
     ·try refine sA ?_
      obtain ⟨c483,hr18,hq16⟩ := bind_ok hq16
      refine Cl_sA (w_impl_MergeTellings hr18) ?_
      try refine sA ?_
      obtain ⟨c484,hr19,hq16⟩ := bind_ok hq16
      refine Cl_sA (w_impl_MergeTellings hr19) ?_
      try refine sA ?_
      obtain ⟨p488,hq20,hq16⟩ := bind_ok hq16
      refine Sq_cut (fun s2 => s2 = ⟨[(1,(.lf true (.sl (a1.map eU8)))),(5,(.pb 0 0)),(6,(.pb 1 0)),(7,(.pb 2 0)),(128,(B p488.t128))],[(0,some (true,.box [(.lf false (.sl (c474.1.Branches.map eBranch)))])),(1,some (true,.box [(.lf false (.sl (c474.2.Branches.map eBranch)))])),(2,some (true,.box [(.os 3 1 0 c475.1.Branches.length c475.1.Branches.length false)])),(3,some (true,.deep [.sl [.sc,.sc,.sc,.sc]] (c475.1.Branches.map eBranch)))],4,243⟩) ?_ ?_
      ·try refine sA ?_
       refine Sp_if hq20 (fun hq20 hc21 => ?_) (fun hq20 hc21 => ?_)
       ·try refine sA ?_
        cases hq20
        exact X_cut rfl (weakA [some 0,some 1,some 2,some 3])
       ·try refine sA ?_
        refine Sp_if hq20 (fun hq20 hc22 => ?_) (fun hq20 hc22 => ?_)
        ·try refine sA ?_
         cases hq20
         exact X_cut rfl (weakA [some 0,some 1,some 2,some 3])
        ·try refine sA ?_
         obtain ⟨c485,hr23,hq20⟩ := bind_ok hq20
         refine Cl_sA (w_laws_sameTellings hr23) ?_
         try refine sA ?_
         refine Sp_if hq20 (fun hq20 hc24 => ?_) (fun hq20 hc24 => ?_)
         ·try refine sA ?_
          cases hq20
          exact X_cut rfl (weakA [some 0,some 1,some 2,some 3])
         ·try refine sA ?_
          obtain ⟨c486,hr25,hq20⟩ := bind_ok hq20
          refine Cl_sA (w_laws_sameTellings hr25) ?_
          try refine sA ?_
          refine Sp_if hq20 (fun hq20 hc26 => ?_) (fun hq20 hc26 => ?_)
          ·try refine sA ?_
           cases hq20
           exact X_cut rfl (weakA [some 0,some 1,some 2,some 3])
          ·try refine sA ?_
           obtain ⟨c487,hr27,hq20⟩ := bind_ok hq20
           refine Cl_sA (w_impl_GoodTellings hr27) ?_
           try refine sA ?_
           cases hq20
           exact X_cut rfl (weakA [some 0,some 1,some 2,some 3])
      ·intro s2 hJ; subst hJ
       try dsimp only at hq16
       try refine sA ?_
       refine Bs_if hq16 (fun hq16 hc28 => ?_) (fun hq16 hc28 => ?_)
       ·try refine sA ?_
        cases hq16
        try dsimp only at h
        obtain rfl:=Option.some.inj h
        exact endsA ⟨[(4,(B false))],[],0,243⟩ []
       ·try refine sA ?_
        obtain ⟨y518,hl29,hq16⟩ := bind_ok hq16
        refine W_loopP (fun g489 : laws_FnBranches_G1 => ⟨[(1,(.lf true (.sl (a1.map eU8)))),(5,(.pb 0 0)),(6,(.pb 1 0)),(7,(.pb 2 0)),(131,(.os 3 1 0 2 2 true)),(132,(I 2)),(133,(I g489.t133))],[(0,some (true,.box [(.lf false (.sl (c474.1.Branches.map eBranch)))])),(1,some (true,.box [(.lf false (.sl (c474.2.Branches.map eBranch)))])),(2,some (true,.box [(.os 4 1 0 c475.1.Branches.length c475.1.Branches.length false)])),(3,some (true,.arr false 1 (([c474.1,c474.2]).map eTellings))),(4,some (true,.deep [.sl [.sc,.sc,.sc,.sc]] (c475.1.Branches.map eBranch)))],5,243⟩) (laws_FnBranches_L1 c474 c475) _ _ hl29 (weakA [some 0,some 1,some 2,some 4,some 3]) ?_
        ·intro n1 g489 z1 hs1 hk1
         unfold laws_FnBranches_L1 at hs1
         try dsimp only at hs1
         generalize hlit0 : [c474.1,c474.2] = lit0 at hs1 ⊢
         have hlit0l : lit0.length = 2 := by rw [← hlit0]; rfl
         refine sA ?_
         refine Bs_if hs1 (fun hs1 hc30 => ?_) (fun hs1 hc30 => ?_)
         ·try refine sA ?_
          obtain ⟨hp31,hs1⟩ := guard_some hs1
          have hn31 : g489.t133.toNat < lit0.length := by first | (rw [hlit0l]; omega) | omega | (simp only [List.length_set,List.length_append,List.length_replicate,List.length_map]; omega)
          try refine sA ?_
          try refine andA ?_
          try refine andB ?_
          try refine sA ?_
          obtain ⟨y515,hl33,hs1⟩ := bind_ok hs1
          refine W_loopP (fun g510 : laws_FnBranches_G2 => ⟨[(1,(.lf true (.sl (a1.map eU8)))),(5,(.pb 0 0)),(6,(.pb 1 0)),(7,(.pb 2 0)),(131,(.os 3 1 0 2 2 true)),(132,(I 2)),(133,(I g489.t133)),(138,(.lf false (.sl (((nth lit0 g489.t133.toNat).Branches).map eBranch)))),(139,(I ((((nth lit0 g489.t133.toNat).Branches).length : Nat) : Int))),(140,(I g510.t140))],[(0,some (true,.box [(.lf false (.sl (c474.1.Branches.map eBranch)))])),(1,some (true,.box [(.lf false (.sl (c474.2.Branches.map eBranch)))])),(2,some (true,.box [(.os 4 1 0 c475.1.Branches.length c475.1.Branches.length false)])),(3,some (true,.arr false 1 (lit0.map eTellings))),(4,some (true,.deep [.sl [.sc,.sc,.sc,.sc]] (c475.1.Branches.map eBranch)))],5,243⟩) (laws_FnBranches_L2 c474 g489 c475) _ _ hl33 (weakA [some 0,some 1,some 2,some 3,some 4]) ?_
          ·intro n2 g510 z2 hs2 hk2
           unfold laws_FnBranches_L2 at hs2
           try dsimp only at hs2
           try simp only [hlit0] at hs2
           refine sA ?_
           refine Bs_if hs2 (fun hs2 hc34 => ?_) (fun hs2 hc34 => ?_)
           ·try refine sA ?_
            obtain ⟨hp35,hs2⟩ := guard_some hs2
            have hn35 : g510.t140.toNat < ((nth lit0 g489.t133.toNat).Branches).length := by first | omega | (simp only [List.length_set,List.length_append,List.length_replicate,List.length_map]; omega)
            try refine sA ?_
            try refine andA ?_
            obtain ⟨c513,hr36,hs2⟩ := bind_ok hs2
            refine Cl_sA (w_impl_HasHistory hr36) ?_
            try refine sA ?_
            obtain ⟨p514,hq37,hs2⟩ := bind_ok hs2
            refine Sq_cut (fun s2 => s2 = ⟨[(1,(.lf true (.sl (a1.map eU8)))),(5,(.pb 0 0)),(6,(.pb 1 0)),(7,(.pb 2 0)),(131,(.os 3 1 0 2 2 true)),(132,(I 2)),(133,(I g489.t133)),(138,(.lf false (.sl (((nth lit0 g489.t133.toNat).Branches).map eBranch)))),(139,(I ((((nth lit0 g489.t133.toNat).Branches).length : Nat) : Int))),(140,(I g510.t140)),(156,(B p514.t156))],[(0,some (true,.box [(.lf false (.sl (c474.1.Branches.map eBranch)))])),(1,some (true,.box [(.lf false (.sl (c474.2.Branches.map eBranch)))])),(2,some (true,.box [(.os 4 1 0 c475.1.Branches.length c475.1.Branches.length false)])),(3,some (true,.arr false 1 (lit0.map eTellings))),(4,some (true,.deep [.sl [.sc,.sc,.sc,.sc]] (c475.1.Branches.map eBranch)))],5,243⟩) ?_ ?_
            ·try refine sA ?_
             refine Sp_if hq37 (fun hq37 hc38 => ?_) (fun hq37 hc38 => ?_)
             ·try refine sA ?_
              cases hq37
              exact X_cut rfl (weakA [some 0,some 1,some 2,some 3,some 4])
             ·try refine sA ?_
              cases hq37
              exact X_cut rfl (weakA [some 0,some 1,some 2,some 3,some 4])
            ·intro s2 hJ; subst hJ
             try dsimp only at hs2
             try simp only [hlit0] at hs2
             try refine sA ?_
             refine Bs_if hs2 (fun hs2 hc39 => ?_) (fun hs2 hc39 => ?_)
             ·try refine sA ?_
              cases hs2
              cases hk2
              try dsimp only at hs1
              try simp only [hlit0] at hs1
              try refine sA ?_
              cases hs1
              cases hk1
              try dsimp only at hq16
              try refine sA ?_
              cases hq16
              try dsimp only at h
              obtain rfl:=Option.some.inj h
              exact endsA ⟨[(4,(B false))],[],0,243⟩ []
             ·try refine sA ?_
              cases hs2
              exact X_backP hk2 (weakA [some 0,some 1,some 2,some 3,some 4])
           ·try refine sA ?_
            cases hs2
            cases hk2
            try dsimp only at hs1
            try simp only [hlit0] at hs1
            try refine sA ?_
            cases hs1
            exact X_backP hk1 (weakA [some 0,some 1,some 2,some 3,some 4])
         ·try refine sA ?_
          cases hs1
          cases hk1
          try dsimp only at hq16
          try refine sA ?_
          obtain ⟨c538,hr40,hq16⟩ := bind_ok hq16
          refine Cl_sA (w_impl_EventsIn hr40) ?_
          try refine sA ?_
          obtain ⟨c539,hr41,hq16⟩ := bind_ok hq16
          refine Cl_sA (w_impl_EventsIn hr41) ?_
          try refine sA ?_
          obtain ⟨c540,hr42,hq16⟩ := bind_ok hq16
          refine Cl_sA (w_impl_EventsIn hr42) ?_
          try refine sA ?_
          obtain ⟨p541,hq43,hq16⟩ := bind_ok hq16
          refine Sq_cut (fun s2 => s2 = ⟨[(1,(.lf true (.sl (a1.map eU8)))),(200,(B p541.t200))],[],0,243⟩) ?_ ?_
          ·try refine sA ?_
           refine Sp_if hq43 (fun hq43 hc44 => ?_) (fun hq43 hc44 => ?_)
           ·try refine sA ?_
            cases hq43
            exact X_cut rfl (weakA [])
           ·try refine sA ?_
            refine Sp_if hq43 (fun hq43 hc45 => ?_) (fun hq43 hc45 => ?_)
            ·try refine sA ?_
             cases hq43
             exact X_cut rfl (weakA [])
            ·try refine sA ?_
             refine Sp_if hq43 (fun hq43 hc46 => ?_) (fun hq43 hc46 => ?_)
             ·try refine sA ?_
              cases hq43
              exact X_cut rfl (weakA [])
             ·try refine sA ?_
              refine Sp_if hq43 (fun hq43 hc47 => ?_) (fun hq43 hc47 => ?_)
              ·try refine sA ?_
               cases hq43
               exact X_cut rfl (weakA [])
              ·try refine sA ?_
               refine Sp_if hq43 (fun hq43 hc48 => ?_) (fun hq43 hc48 => ?_)
               ·try refine sA ?_
                cases hq43
                exact X_cut rfl (weakA [])
               ·try refine sA ?_
                cases hq43
                exact X_cut rfl (weakA [])
          ·intro s2 hJ; subst hJ
           try dsimp only at hq16
           try refine sA ?_
           refine Bs_if hq16 (fun hq16 hc49 => ?_) (fun hq16 hc49 => ?_)
           ·try refine sA ?_
            cases hq16
            try dsimp only at h
            obtain rfl:=Option.some.inj h
            exact endsA ⟨[(4,(B false))],[],0,243⟩ []
           ·try refine sA ?_
            cases hq16
            exact X_cut ⟨_,rfl,rfl⟩ (weakA [])
     ·try refine sA ?_
      cases hq16
      exact X_cut ⟨_,rfl,rfl⟩ (weakA [])
    ·intro s2 hJ; obtain ⟨p542,e,rfl⟩ := hJ; subst e
     try dsimp only at h
     try refine sA ?_
     obtain ⟨c546,hr50,h⟩ := bind_ok h
     refine Cl_sA (w_spec_DrawAddBranch hr50) ?_
     try refine sA ?_
     obtain ⟨c551,hr51,h⟩ := bind_ok h
     refine Cl_sA (w_impl_AddBranch hr51) ?_
     try refine sA ?_
     obtain ⟨c552,hr52,h⟩ := bind_ok h
     refine Cl_sA (w_spec_AddBranch hr52) ?_
     try refine sA ?_
     obtain ⟨p554,hq53,h⟩ := bind_ok h
     refine Sq_cut (fun s2 => s2 = ⟨[(30,(.lf false (.sl (c546.2.map eEvent)))),(31,(.pb 0 0)),(32,(B c551.2)),(226,(B p554.t226))],[(0,some (true,.box [(.os 1 1 0 c551.1.Branches.length c551.1.Branches.length false)])),(1,some (true,.deep [.sl [.sc,.sc,.sc,.sc]] (c551.1.Branches.map eBranch)))],2,243⟩) ?_ ?_
     ·try refine sA ?_
      refine Sp_if hq53 (fun hq53 hc54 => ?_) (fun hq53 hc54 => ?_)
      ·try refine sA ?_
       cases hq53
       exact X_cut rfl (weakA [some 5,some 3])
      ·try refine sA ?_
       obtain ⟨c553,hr55,hq53⟩ := bind_ok hq53
       refine Cl_sA (w_laws_sameTellings hr55) ?_
       try refine sA ?_
       cases hq53
       exact X_cut rfl (weakA [some 5,some 3])
     ·intro s2 hJ; subst hJ
      try dsimp only at h
      try refine sA ?_
      refine Bs_if h (fun h hc56 => ?_) (fun h hc56 => ?_)
      ·try refine sA ?_
       obtain rfl:=Option.some.inj h
       exact endsA ⟨[(4,(B false))],[],0,243⟩ []
      ·try refine sA ?_
       refine Bs_if h (fun h hc57 => ?_) (fun h hc57 => ?_)
       ·try refine sA ?_
        obtain rfl:=Option.some.inj h
        exact endsA ⟨[(4,(B (((c551.1.Branches.length : Nat) : Int) == 0)))],[],0,243⟩ []
       ·try refine sA ?_
        obtain ⟨c555,hr58,h⟩ := bind_ok h
        refine Cl_sA (w_impl_HasHistory hr58) ?_
        try refine sA ?_
        refine Sp_if h (fun h hc59 => ?_) (fun h hc59 => ?_)
        ·try refine sA ?_
         obtain rfl:=Option.some.inj h
         exact endsA ⟨[(4,(B c555.1))],[],0,243⟩ []
        ·try refine sA ?_
         obtain rfl:=Option.some.inj h
         exact endsA ⟨[(4,(B false))],[],0,243⟩ []
end Go.TL.YtjkeoippmlmfbaaGreatDoor

import Derived.Test.YtjkeoippmlmfbaaGreatDoorWlFnExactHearWordA
set_option linter.unusedSimpArgs false
set_option linter.unusedVariables false
set_option linter.unusedVariables false
set_option linter.unusedSimpArgs false
set_option maxRecDepth 8000
set_option maxHeartbeats 0
namespace Go.TL.YtjkeoippmlmfbaaGreatDoor
open Go Go.Proofs Go.TL
theorem w_impl_HearWord {a0 : RegionT} {a1 : WordT} {r : (RegionT × Bool)} (h : impl_HearWord a0 a1 = some r) : Fn Tryz.prog 79 [(.ag [(I a0.Id),(I a0.Version),(.lf true (.sl (a0.Tellings.Branches.map eBranch)))]),(.ag [(I a1.Version),(.lf true (.sl (a1.Tellings.Branches.map eBranch)))])] [] 0 (.tu [(.ag [(I r.1.Id),(I r.1.Version),(.os 0 1 0 r.1.Tellings.Branches.length r.1.Tellings.Branches.length false)]),(B r.2)]) [(0,some (false,.deep [.sl [.sc,.sc,.sc,.sc]] (r.1.Tellings.Branches.map eBranch)))] 2 := by
 unfold impl_HearWord at h
 refine fn_code tab_ok mixed [(1000,[(2,0),(3,0),(4,0)]),(1001,[(2,0),(3,0),(4,0),(17,0)]),(1002,[(4,0),(5,0)]),(1003,[(3,0),(4,0),(6,0)]),(1004,[(4,0),(6,0),(23,0)]),(1005,[(4,0),(5,0)]),(1006,[(4,0),(5,0)]),(4001,[])] Tryz.func79 rfl rfl (by simp [Tryz.f79]) (by kernel_rfl) ?_
 simp only [Tryz.f79]
 refine sA ?_
 obtain ⟨p386,hq1,h⟩ := bind_ok h
 refine Sq_cut (fun s2 => s2 = ⟨[(2,(.pb 0 0)),(3,(.pb 1 0)),(4,(.pb 2 0)),(17,(B p386.t17))],[(0,some (true,.box [(I a0.Id),(I a0.Version),(.lf true (.sl (a0.Tellings.Branches.map eBranch)))])),(1,some (true,.box [(I a1.Version),(.lf true (.sl (a1.Tellings.Branches.map eBranch)))])),(2,some (true,.box [(I 0),(I 0),.nl]))],3,26⟩) ?_ ?_
 ·try refine sA ?_
  obtain ⟨c384,hr2,hq1⟩ := bind_ok hq1
  refine Cl_sA (w_impl_GoodRegion hr2) ?_
  try refine sA ?_
  refine Sp_if hq1 (fun hq1 hc3 => ?_) (fun hq1 hc3 => ?_)
  ·try refine sA ?_
   cases hq1
   exact X_cut rfl (weakA [some 0,some 1,some 2])
  ·try refine sA ?_
   obtain ⟨c385,hr4,hq1⟩ := bind_ok hq1
   refine Cl_sA (w_impl_wordOk hr4) ?_
   try refine sA ?_
   cases hq1
   exact X_cut rfl (weakA [some 0,some 1,some 2])
 ·intro s2 hJ; subst hJ
  try dsimp only at h
  try refine sA ?_
  refine Bs_if h (fun h hc5 => ?_) (fun h hc5 => ?_)
  ·try refine sA ?_
   obtain rfl:=Option.some.inj h
   exact endsA ⟨[(4,(.pb 1 0)),(5,(B false))],[(0,some (false,.deep [.sl [.sc,.sc,.sc,.sc]] (([] : List BranchT).map eBranch))),(1,some (true,.box [(I 0),(I 0),(.os 0 1 0 (([] : List BranchT).length) (([] : List BranchT).length) false)]))],2,26⟩ [none,some 2]
  ·try refine sA ?_
   obtain ⟨c392,hr6,h⟩ := bind_ok h
   refine Cl_sA (w_impl_cloneRegion hr6) ?_
   try refine sA ?_
   obtain ⟨c421,hr7,h⟩ := bind_ok h
   refine Cl_hA [5,3] (w_impl_Region_hear_od hr7) ?_
   try refine sA ?_
   refine Bs_if h (fun h hc8 => ?_) (fun h hc8 => ?_)
   ·try refine sA ?_
    obtain rfl:=Option.some.inj h
    exact endsA ⟨[(4,(.pb 1 0)),(5,(B false))],[(0,some (false,.deep [.sl [.sc,.sc,.sc,.sc]] (([] : List BranchT).map eBranch))),(1,some (true,.box [(I 0),(I 0),(.os 0 1 0 (([] : List BranchT).length) (([] : List BranchT).length) false)]))],2,26⟩ [none,some 2]
   ·try refine sA ?_
    obtain rfl:=Option.some.inj h
    exact endsA ⟨[(4,(.pb 1 0)),(5,(B true))],[(0,some (false,.deep [.sl [.sc,.sc,.sc,.sc]] (c421.2.Tellings.Branches.map eBranch))),(1,some (true,.box [(I c421.2.Id),(I c421.2.Version),(.os 0 1 0 c421.2.Tellings.Branches.length c421.2.Tellings.Branches.length false)]))],2,26⟩ [some 6,some 2]
theorem w_laws_eqEvent {a0 : EventT} {a1 : EventT} {r : Bool} (h : laws_eqEvent a0 a1 = some r) : Fn Tryz.prog 86 [(.ag [(I a0.Id),(I a0.Version),(I a0.Kind),(.lf false (.sc (.string a0.Name)))]),(.ag [(I a1.Id),(I a1.Version),(I a1.Kind),(.lf false (.sc (.string a1.Name)))])] [] 0 (B r) [] 0 := by
 unfold laws_eqEvent at h
 refine fn_code tab_ok mixed [(1000,[(2,0),(3,0)]),(1001,[(2,0),(3,0),(9,0)]),(1002,[(4,0)]),(1003,[(2,0),(3,0),(14,0)]),(1004,[(4,0)]),(1005,[(2,0),(3,0),(19,0)]),(1006,[(4,0)]),(1007,[(24,0)]),(1008,[(4,0)]),(1009,[(4,0)])] Tryz.func86 rfl rfl (by simp [Tryz.f86]) (by kernel_rfl) ?_
 simp only [Tryz.f86]
 refine sA ?_
 refine Bs_if h (fun h hc1 => ?_) (fun h hc1 => ?_)
 ·try refine sA ?_
  obtain rfl:=Option.some.inj h
  exact endsA ⟨[(4,(B false))],[],0,25⟩ []
 ·try refine sA ?_
  refine Bs_if h (fun h hc2 => ?_) (fun h hc2 => ?_)
  ·try refine sA ?_
   obtain rfl:=Option.some.inj h
   exact endsA ⟨[(4,(B false))],[],0,25⟩ []
  ·try refine sA ?_
   refine Bs_if h (fun h hc3 => ?_) (fun h hc3 => ?_)
   ·try refine sA ?_
    obtain rfl:=Option.some.inj h
    exact endsA ⟨[(4,(B false))],[],0,25⟩ []
   ·try refine sA ?_
    refine Bs_if h (fun h hc4 => ?_) (fun h hc4 => ?_)
    ·try refine sA ?_
     obtain rfl:=Option.some.inj h
     exact endsA ⟨[(4,(B false))],[],0,25⟩ []
    ·try refine sA ?_
     obtain rfl:=Option.some.inj h
     exact endsA ⟨[(4,(B true))],[],0,25⟩ []
theorem w_laws_eqEventS {a0 : (List EventT)} {a1 : (List EventT)} {r : Bool} (h : laws_eqEventS a0 a1 = some r) : Fn Tryz.prog 18 [(.lf true (.sl (a0.map eEvent))),(.lf true (.sl (a1.map eEvent)))] [] 0 (B r) [] 0 := by
 unfold laws_eqEventS at h
 refine fn_code tab_ok mixed [(1000,[(0,0),(1,0)]),(1001,[(0,0),(1,0),(10,0)]),(1002,[(4,0)]),(1003,[(0,0),(1,0),(5,0)]),(1004,[(0,0),(1,0),(5,0),(14,0)]),(1005,[(0,0),(1,0),(5,0)]),(1006,[(0,0),(1,0),(5,0),(26,0)]),(1007,[(4,0)]),(1008,[(4,0)])] Tryz.func18 rfl rfl (by simp [Tryz.f18]) (by kernel_rfl) ?_
 simp only [Tryz.f18]
 refine sA ?_
 refine Bs_if h (fun h hc1 => ?_) (fun h hc1 => ?_)
 ·try refine sA ?_
  obtain rfl:=Option.some.inj h
  exact endsA ⟨[(4,(B false))],[],0,27⟩ []
 ·try refine sA ?_
  obtain ⟨y427,hl2,h⟩ := bind_ok h
  refine W_loopP (fun g424 : laws_eqEventS_G1 => ⟨[(0,(.lf true (.sl (a0.map eEvent)))),(1,(.lf true (.sl (a1.map eEvent)))),(5,(I g424.t5))],[],0,27⟩) (laws_eqEventS_L1 a0 a1) _ _ hl2 (weakA []) ?_
  ·intro n1 g424 z1 hs1 hk1
   unfold laws_eqEventS_L1 at hs1
   try dsimp only at hs1
   refine sA ?_
   refine Bs_if hs1 (fun hs1 hc3 => ?_) (fun hs1 hc3 => ?_)
   ·try refine sA ?_
    obtain ⟨hp4,hs1⟩ := guard_some hs1
    have hn4 : g424.t5.toNat < a0.length := by first | omega | (simp only [List.length_set,List.length_append,List.length_replicate,List.length_map]; omega)
    try refine sA ?_
    try refine andA ?_
    obtain ⟨hp5,hs1⟩ := guard_some hs1
    have hn5 : g424.t5.toNat < a1.length := by first | omega | (simp only [List.length_set,List.length_append,List.length_replicate,List.length_map]; omega)
    try refine sA ?_
    try refine andA ?_
    obtain ⟨c426,hr6,hs1⟩ := bind_ok hs1
    refine Cl_sA (w_laws_eqEvent hr6) ?_
    try refine sA ?_
    refine Bs_if hs1 (fun hs1 hc7 => ?_) (fun hs1 hc7 => ?_)
    ·try refine sA ?_
     cases hs1
     cases hk1
     try dsimp only at h
     try refine sA ?_
     obtain rfl:=Option.some.inj h
     exact endsA ⟨[(4,(B false))],[],0,27⟩ []
    ·try refine sA ?_
     cases hs1
     exact X_backP hk1 (weakA [])
   ·try refine sA ?_
    cases hs1
    cases hk1
    try dsimp only at h
    try refine sA ?_
    obtain rfl:=Option.some.inj h
    exact endsA ⟨[(4,(B true))],[],0,27⟩ []
theorem w_laws_eqBranch {a0 : BranchT} {a1 : BranchT} {r : Bool} (h : laws_eqBranch a0 a1 = some r) : Fn Tryz.prog 147 [(.ag [(.lf true (.sl (a0.Events.map eEvent)))]),(.ag [(.lf true (.sl (a1.Events.map eEvent)))])] [] 0 (B r) [] 0 := by
 unfold laws_eqBranch at h
 refine fn_code tab_ok mixed [(1000,[(2,0),(3,0)]),(1001,[(10,0)]),(1002,[(4,0)]),(1003,[(4,0)])] Tryz.func147 rfl rfl (by simp [Tryz.f147]) (by kernel_rfl) ?_
 simp only [Tryz.f147]
 refine sA ?_
 obtain ⟨c430,hr1,h⟩ := bind_ok h
 refine Cl_sA (w_laws_eqEventS hr1) ?_
 try refine sA ?_
 refine Bs_if h (fun h hc2 => ?_) (fun h hc2 => ?_)
 ·try refine sA ?_
  obtain rfl:=Option.some.inj h
  exact endsA ⟨[(4,(B false))],[],0,11⟩ []
 ·try refine sA ?_
  obtain rfl:=Option.some.inj h
  exact endsA ⟨[(4,(B true))],[],0,11⟩ []
theorem w_laws_eqBranchS {a0 : (List BranchT)} {a1 : (List BranchT)} {r : Bool} (h : laws_eqBranchS a0 a1 = some r) : Fn Tryz.prog 87 [(.lf true (.sl (a0.map eBranch))),(.lf true (.sl (a1.map eBranch)))] [] 0 (B r) [] 0 := by
 unfold laws_eqBranchS at h
 refine fn_code tab_ok mixed [(1000,[(0,0),(1,0)]),(1001,[(0,0),(1,0),(10,0)]),(1002,[(4,0)]),(1003,[(0,0),(1,0),(5,0)]),(1004,[(0,0),(1,0),(5,0),(14,0)]),(1005,[(0,0),(1,0),(5,0)]),(1006,[(0,0),(1,0),(5,0),(26,0)]),(1007,[(4,0)]),(1008,[(4,0)])] Tryz.func87 rfl rfl (by simp [Tryz.f87]) (by kernel_rfl) ?_
 simp only [Tryz.f87]
 refine sA ?_
 refine Bs_if h (fun h hc1 => ?_) (fun h hc1 => ?_)
 ·try refine sA ?_
  obtain rfl:=Option.some.inj h
  exact endsA ⟨[(4,(B false))],[],0,27⟩ []
 ·try refine sA ?_
  obtain ⟨y433,hl2,h⟩ := bind_ok h
  refine W_loopP (fun g423 : laws_eqBranchS_G1 => ⟨[(0,(.lf true (.sl (a0.map eBranch)))),(1,(.lf true (.sl (a1.map eBranch)))),(5,(I g423.t5))],[],0,27⟩) (laws_eqBranchS_L1 a0 a1) _ _ hl2 (weakA []) ?_
  ·intro n1 g423 z1 hs1 hk1
   unfold laws_eqBranchS_L1 at hs1
   try dsimp only at hs1
   refine sA ?_
   refine Bs_if hs1 (fun hs1 hc3 => ?_) (fun hs1 hc3 => ?_)
   ·try refine sA ?_
    obtain ⟨hp4,hs1⟩ := guard_some hs1
    have hn4 : g423.t5.toNat < a0.length := by first | omega | (simp only [List.length_set,List.length_append,List.length_replicate,List.length_map]; omega)
    try refine sA ?_
    try refine andA ?_
    obtain ⟨hp5,hs1⟩ := guard_some hs1
    have hn5 : g423.t5.toNat < a1.length := by first | omega | (simp only [List.length_set,List.length_append,List.length_replicate,List.length_map]; omega)
    try refine sA ?_
    try refine andA ?_
    obtain ⟨c432,hr6,hs1⟩ := bind_ok hs1
    refine Cl_sA (w_laws_eqBranch hr6) ?_
    try refine sA ?_
    refine Bs_if hs1 (fun hs1 hc7 => ?_) (fun hs1 hc7 => ?_)
    ·try refine sA ?_
     cases hs1
     cases hk1
     try dsimp only at h
     try refine sA ?_
     obtain rfl:=Option.some.inj h
     exact endsA ⟨[(4,(B false))],[],0,27⟩ []
    ·try refine sA ?_
     cases hs1
     exact X_backP hk1 (weakA [])
   ·try refine sA ?_
    cases hs1
    cases hk1
    try dsimp only at h
    try refine sA ?_
    obtain rfl:=Option.some.inj h
    exact endsA ⟨[(4,(B true))],[],0,27⟩ []
theorem w_laws_eqTellings {a0 : TellingsT} {a1 : TellingsT} {r : Bool} (h : laws_eqTellings a0 a1 = some r) : Fn Tryz.prog 19 [(.ag [(.lf true (.sl (a0.Branches.map eBranch)))]),(.ag [(.lf true (.sl (a1.Branches.map eBranch)))])] [] 0 (B r) [] 0 := by
 unfold laws_eqTellings at h
 refine fn_code tab_ok mixed [(1000,[(2,0),(3,0)]),(1001,[(10,0)]),(1002,[(4,0)]),(1003,[(4,0)])] Tryz.func19 rfl rfl (by simp [Tryz.f19]) (by kernel_rfl) ?_
 simp only [Tryz.f19]
 refine sA ?_
 obtain ⟨c436,hr1,h⟩ := bind_ok h
 refine Cl_sA (w_laws_eqBranchS hr1) ?_
 try refine sA ?_
 refine Bs_if h (fun h hc2 => ?_) (fun h hc2 => ?_)
 ·try refine sA ?_
  obtain rfl:=Option.some.inj h
  exact endsA ⟨[(4,(B false))],[],0,11⟩ []
 ·try refine sA ?_
  obtain rfl:=Option.some.inj h
  exact endsA ⟨[(4,(B true))],[],0,11⟩ []
theorem w_laws_eqRegion {a0 : RegionT} {a1 : RegionT} {r : Bool} (h : laws_eqRegion a0 a1 = some r) : Fn Tryz.prog 28 [(.ag [(I a0.Id),(I a0.Version),(.lf true (.sl (a0.Tellings.Branches.map eBranch)))]),(.ag [(I a1.Id),(I a1.Version),(.lf true (.sl (a1.Tellings.Branches.map eBranch)))])] [] 0 (B r) [] 0 := by
 unfold laws_eqRegion at h
 refine fn_code tab_ok mixed [(1000,[(2,0),(3,0)]),(1001,[(2,0),(3,0),(9,0)]),(1002,[(4,0)]),(1003,[(2,0),(3,0),(14,0)]),(1004,[(4,0)]),(1005,[(20,0)]),(1006,[(4,0)]),(1007,[(4,0)])] Tryz.func28 rfl rfl (by simp [Tryz.f28]) (by kernel_rfl) ?_
 simp only [Tryz.f28]
 refine sA ?_
 refine Bs_if h (fun h hc1 => ?_) (fun h hc1 => ?_)
 ·try refine sA ?_
  obtain rfl:=Option.some.inj h
  exact endsA ⟨[(4,(B false))],[],0,21⟩ []
 ·try refine sA ?_
  refine Bs_if h (fun h hc2 => ?_) (fun h hc2 => ?_)
  ·try refine sA ?_
   obtain rfl:=Option.some.inj h
   exact endsA ⟨[(4,(B false))],[],0,21⟩ []
  ·try refine sA ?_
   obtain ⟨c437,hr3,h⟩ := bind_ok h
   refine Cl_sA (w_laws_eqTellings hr3) ?_
   try refine sA ?_
   refine Bs_if h (fun h hc4 => ?_) (fun h hc4 => ?_)
   ·try refine sA ?_
    obtain rfl:=Option.some.inj h
    exact endsA ⟨[(4,(B false))],[],0,21⟩ []
   ·try refine sA ?_
    obtain rfl:=Option.some.inj h
    exact endsA ⟨[(4,(B true))],[],0,21⟩ []
theorem w_laws_eqWord {a0 : WordT} {a1 : WordT} {r : Bool} (h : laws_eqWord a0 a1 = some r) : Fn Tryz.prog 27 [(.ag [(I a0.Version),(.lf true (.sl (a0.Tellings.Branches.map eBranch)))]),(.ag [(I a1.Version),(.lf true (.sl (a1.Tellings.Branches.map eBranch)))])] [] 0 (B r) [] 0 := by
 unfold laws_eqWord at h
 refine fn_code tab_ok mixed [(1000,[(2,0),(3,0)]),(1001,[(2,0),(3,0),(9,0)]),(1002,[(4,0)]),(1003,[(15,0)]),(1004,[(4,0)]),(1005,[(4,0)])] Tryz.func27 rfl rfl (by simp [Tryz.f27]) (by kernel_rfl) ?_
 simp only [Tryz.f27]
 refine sA ?_
 refine Bs_if h (fun h hc1 => ?_) (fun h hc1 => ?_)
 ·try refine sA ?_
  obtain rfl:=Option.some.inj h
  exact endsA ⟨[(4,(B false))],[],0,16⟩ []
 ·try refine sA ?_
  obtain ⟨c443,hr2,h⟩ := bind_ok h
  refine Cl_sA (w_laws_eqTellings hr2) ?_
  try refine sA ?_
  refine Bs_if h (fun h hc3 => ?_) (fun h hc3 => ?_)
  ·try refine sA ?_
   obtain rfl:=Option.some.inj h
   exact endsA ⟨[(4,(B false))],[],0,16⟩ []
  ·try refine sA ?_
   obtain rfl:=Option.some.inj h
   exact endsA ⟨[(4,(B true))],[],0,16⟩ []
theorem w_laws_markText {a0 : Int} {r : ByteArray} (h : laws_markText a0 = some r) : Fn Tryz.prog 89 [(I a0)] [] 0 (.lf false (.sc (.string r))) [] 0 := by
 unfold laws_markText at h
 refine fn_code tab_ok mixed [(1000,[(0,0)]),(1001,[(0,0),(5,0)]),(1002,[(2,0)]),(1003,[(0,0),(3,0)]),(1004,[(0,0),(3,0),(7,0)]),(1005,[(0,0),(3,0)]),(1006,[(0,0),(3,0)]),(1007,[(2,0)])] Tryz.func89 rfl rfl (by simp [Tryz.f89]) (by kernel_rfl) ?_
 simp only [Tryz.f89]
 refine sA ?_
 refine Bs_if h (fun h hc1 => ?_) (fun h hc1 => ?_)
 ·try refine sA ?_
  obtain rfl:=Option.some.inj h
  exact endsA ⟨[(2,(.lf false (.sc (.string (⟨#[109,48]⟩ : ByteArray)))))],[],0,20⟩ []
 ·try refine sA ?_
  obtain ⟨y451,hl2,h⟩ := bind_ok h
  refine W_loopP (fun g450 : laws_markText_G1 => ⟨[(0,(I g450.t0)),(3,(.lf false (.sc (.string g450.t3))))],[],0,20⟩) (laws_markText_L1) _ _ hl2 (weakA []) ?_
  ·intro n1 g450 z1 hs1 hk1
   unfold laws_markText_L1 at hs1
   try dsimp only at hs1
   refine sA ?_
   refine Bs_if hs1 (fun hs1 hc3 => ?_) (fun hs1 hc3 => ?_)
   ·try refine sA ?_
    obtain ⟨hp4,hs1⟩ := guard_some hs1
    try refine sA ?_
    try refine andA ?_
    cases hs1
    exact X_backP hk1 (weakA [])
   ·try refine sA ?_
    cases hs1
    cases hk1
    try dsimp only at h
    try refine sA ?_
    obtain ⟨hp5,h⟩ := guard_some h
    try refine sA ?_
    try refine andA ?_
    obtain rfl:=Option.some.inj h
    exact endsA ⟨[(2,(.lf false (.sc (.string ((⟨#[109]⟩ : ByteArray) ++ g450.t3)))))],[],0,20⟩ []
theorem w_laws_markEventS_w {a0 : (List EventT)} {a1 : Int} {m0 : Nat} {x0 : Bool} {r : (Int × (List EventT))} (h : laws_markEventS_w a0 a1 = some r) : Fn Tryz.prog 21 [(.os 0 4 0 a0.length m0 x0),(I a1)] [(0,some (false,.arr true 4 (a0.map eEvent)))] 1 (I r.1) [(0,some (false,.arr false 4 (r.2.map eEvent)))] 1 := by
 unfold laws_markEventS_w at h
 refine fn_code tab_ok mixed [(1000,[(0,0),(1,0)]),(1001,[(0,0),(1,0),(5,0)]),(1002,[(0,0),(1,0),(5,0),(9,0)]),(1003,[(0,0),(1,0),(5,0)]),(1004,[(0,0),(1,0),(5,0)]),(1005,[(0,0),(1,0),(5,0)]),(1006,[(0,0),(1,0),(5,0)]),(1007,[(0,0),(1,0),(5,0)]),(1008,[(0,0),(1,0),(5,0)]),(1009,[(0,0),(1,0),(5,0)]),(1010,[(0,0),(1,0),(5,0)]),(1011,[(0,0),(1,0),(5,0)]),(1012,[(4,0)])] Tryz.func21 rfl rfl (by simp [Tryz.f21]) (by kernel_rfl) ?_
 simp only [Tryz.f21]
 refine sA ?_
 obtain ⟨y454,hl1,h⟩ := bind_ok h
 refine W_loopP (fun g449 : laws_markEventS_w_G1 => ⟨[(0,(.os 0 4 0 g449.c0.length g449.c0.length false)),(1,(I g449.t1)),(5,(I g449.t5))],[(0,some (false,.arr true 4 (g449.c0.map eEvent)))],1,42⟩) (laws_markEventS_w_L1) _ _ hl1 (weakA [some 0]) ?_
 ·intro n1 g449 z1 hs1 hk1
  unfold laws_markEventS_w_L1 at hs1
  try dsimp only at hs1
  refine sA ?_
  refine Bs_if hs1 (fun hs1 hc2 => ?_) (fun hs1 hc2 => ?_)
  ·try refine sA ?_
   obtain ⟨hp3,hs1⟩ := guard_some hs1
   have hn3 : g449.t5.toNat < g449.c0.length := by first | omega | (simp only [List.length_set,List.length_append,List.length_replicate,List.length_map]; omega)
   try refine sA ?_
   try refine andA ?_
   try refine andB ?_
   try refine sA ?_
   obtain ⟨hp5,hs1⟩ := guard_some hs1
   have hn5 : g449.t5.toNat < g449.c0.length := by first | omega | (simp only [List.length_set,List.length_append,List.length_replicate,List.length_map]; omega)
   try refine sA ?_
   try refine andA ?_
   try refine andB ?_
   try refine sA ?_
   obtain ⟨hp7,hs1⟩ := guard_some hs1
   have hn7 : g449.t5.toNat < g449.c0.length := by first | omega | (simp only [List.length_set,List.length_append,List.length_replicate,List.length_map]; omega)
   try refine sA ?_
   try refine andA ?_
   try refine andB ?_
   try refine sA ?_
   obtain ⟨c453,hr9,hs1⟩ := bind_ok hs1
   refine Cl_sA (w_laws_markText hr9) ?_
   try refine sA ?_
   obtain ⟨hp10,hs1⟩ := guard_some hs1
   have hn10 : g449.t5.toNat < g449.c0.length := by first | omega | (simp only [List.length_set,List.length_append,List.length_replicate,List.length_map]; omega)
   try refine sA ?_
   try refine andA ?_
   try refine andB ?_
   try refine sA ?_
   cases hs1
   exact X_backP hk1 (weakA [some 0])
  ·try refine sA ?_
   cases hs1
   cases hk1
   try dsimp only at h
   try refine sA ?_
   obtain rfl:=Option.some.inj h
   exact endsA ⟨[(4,(I g449.t1))],[(0,some (false,.arr false 4 (g449.c0.map eEvent)))],1,42⟩ [some 0]
theorem w_laws_markBranchS_wd {a0 : (List BranchT)} {a1 : Int} {m0 : Nat} {x0 : Bool} {r : (Int × (List BranchT))} (h : laws_markBranchS_wd a0 a1 = some r) : Fn Tryz.prog 88 [(.os 0 1 0 a0.length m0 x0),(I a1)] [(0,some (false,.deep [.sl [.sc,.sc,.sc,.sc]] (a0.map eBranch)))] 1 (I r.1) [(0,some (false,.deep [.sl [.sc,.sc,.sc,.sc]] (r.2.map eBranch)))] 1 := by
 unfold laws_markBranchS_wd at h
 refine fn_code tab_ok mixed [(1000,[(0,0),(1,0)]),(1001,[(0,0),(1,0),(5,0)]),(1002,[(0,0),(1,0),(5,0),(9,0)]),(1003,[(0,0),(1,0),(5,0)]),(1004,[(0,0),(1,0),(5,0)]),(1005,[(4,0)]),(5004,[])] Tryz.func88 rfl rfl (by simp [Tryz.f88]) (by kernel_rfl) ?_
 simp only [Tryz.f88]
 refine sA ?_
 obtain ⟨y457,hl1,h⟩ := bind_ok h
 refine W_loopP (fun g448 : laws_markBranchS_wd_G1 => ⟨[(0,(.os 0 1 0 g448.c0.length g448.c0.length false)),(1,(I g448.t1)),(5,(I g448.t5))],[(0,some (false,.deep [.sl [.sc,.sc,.sc,.sc]] (g448.c0.map eBranch)))],1,20⟩) (laws_markBranchS_wd_L1) _ _ hl1 (weakA [some 0]) ?_
 ·intro n1 g448 z1 hs1 hk1
  unfold laws_markBranchS_wd_L1 at hs1
  try dsimp only at hs1
  refine sA ?_
  refine Bs_if hs1 (fun hs1 hc2 => ?_) (fun hs1 hc2 => ?_)
  ·try refine sA ?_
   obtain ⟨hp3,hs1⟩ := guard_some hs1
   refine Gh_focus 0 g448.t5.toNat ?_
   try refine sA ?_
   obtain ⟨hp4,hs1⟩ := guard_some hs1
   have hn4 : g448.t5.toNat < g448.c0.length := by first | omega | (simp only [List.length_set,List.length_append,List.length_replicate,List.length_map]; omega)
   try refine sA ?_
   try refine andA ?_
   obtain ⟨c456,hr5,hs1⟩ := bind_ok hs1
   refine Cl_hA [1] (w_laws_markEventS_w hr5) ?_
   try refine sA ?_
   obtain ⟨hp6,hs1⟩ := guard_some hs1
   have hl6 : ((nth g448.c0 g448.t5.toNat).Events).length ≤ c456.2.length := by omega
   have ht6 : List.take (((nth g448.c0 g448.t5.toNat).Events).length) c456.2 = c456.2 := by rw [← hp6]; exact List.take_length
   try rw [← hp6]
   try simp (disch := first | assumption | (simp only [List.length_set]; assumption)) only [go_sem,Nat.reduceAdd,Nat.reduceMul,Nat.reduceSub,Nat.reduceEqDiff,↓reduceIte,Nat.reduceLT,reduceCtorEq,Nat.reduceLeDiff,Int.reduceToNat,Int.reduceEq,Int.reduceLE,Int.reduceLT,Nat.reduceBEq,hl6,ht6]
   cases hs1
   refine X_backP hk1 ?_
   refine packW 0 ?_
   refine weak_of (m := 1) [some 0] rfl rfl rfl (by rfl) ?_ ?_
   all_goals ((try simp (disch := first | assumption | (simp only [List.length_set]; assumption)) only [go_sem,Nat.reduceAdd,Nat.reduceMul,Nat.reduceSub,Nat.reduceEqDiff,↓reduceIte,Nat.reduceLT,reduceCtorEq,Nat.reduceLeDiff,Int.reduceToNat,Int.reduceEq,Int.reduceLE,Int.reduceLT,Nat.reduceBEq,hl6,ht6]); (repeat' first | done | rfl | omega | refine And.intro ?_ ?_ | (simp; done) | (simp; omega)))
  ·try refine sA ?_
   cases hs1
   cases hk1
   try dsimp only at h
   try refine sA ?_
   obtain rfl:=Option.some.inj h
   exact endsA ⟨[(4,(I g448.t1))],[(0,some (false,.deep [.sl [.sc,.sc,.sc,.sc]] (g448.c0.map eBranch)))],1,20⟩ [some 0]
theorem w_laws_markTellings_wd {a0 : TellingsT} {a1 : Int} {m0 : Nat} {x0 : Bool} {r : (Int × (List BranchT))} (h : laws_markTellings_wd a0 a1 = some r) : Fn Tryz.prog 20 [(.ag [(.os 0 1 0 a0.Branches.length m0 x0)]),(I a1)] [(0,some (false,.deep [.sl [.sc,.sc,.sc,.sc]] (a0.Branches.map eBranch)))] 1 (I r.1) [(0,some (false,.deep [.sl [.sc,.sc,.sc,.sc]] (r.2.map eBranch)))] 1 := by
 unfold laws_markTellings_wd at h
 refine fn_code tab_ok mixed [(1000,[(1,0),(2,0)]),(1001,[(1,0)]),(1002,[(4,0)])] Tryz.func20 rfl rfl (by simp [Tryz.f20]) (by kernel_rfl) ?_
 simp only [Tryz.f20]
 refine sA ?_
 obtain ⟨c458,hr1,h⟩ := bind_ok h
 refine Cl_hA [0] (w_laws_markBranchS_wd hr1) ?_
 try refine sA ?_
 obtain ⟨hp2,h⟩ := guard_some h
 have hl2 : a0.Branches.length ≤ c458.2.length := by omega
 have ht2 : List.take (a0.Branches.length) c458.2 = c458.2 := by rw [← hp2]; exact List.take_length
 try rw [← hp2]
 try simp (disch := first | assumption | (simp only [List.length_set]; assumption)) only [go_sem,Nat.reduceAdd,Nat.reduceMul,Nat.reduceSub,Nat.reduceEqDiff,↓reduceIte,Nat.reduceLT,reduceCtorEq,Nat.reduceLeDiff,Int.reduceToNat,Int.reduceEq,Int.reduceLE,Int.reduceLT,Nat.reduceBEq,hl2,ht2]
 obtain rfl:=Option.some.inj h
 refine ends_weak ⟨[(4,(I c458.1))],[(0,some (false,.deep [.sl [.sc,.sc,.sc,.sc]] (c458.2.map eBranch)))],1,10⟩ (weak_of (m := 1) [some 0] rfl rfl rfl (by rfl) ?_ ?_) ?_
 all_goals ((try simp (disch := first | assumption | (simp only [List.length_set]; assumption)) only [go_sem,Nat.reduceAdd,Nat.reduceMul,Nat.reduceSub,Nat.reduceEqDiff,↓reduceIte,Nat.reduceLT,reduceCtorEq,Nat.reduceLeDiff,Int.reduceToNat,Int.reduceEq,Int.reduceLE,Int.reduceLT,Nat.reduceBEq,hl2,ht2]); (repeat' first | done | rfl | omega | refine And.intro ?_ ?_ | (simp; done) | (simp; omega)))
theorem w_laws_markRegion_wd {a0 : RegionT} {a1 : Int} {m0 : Nat} {x0 : Bool} {r : (Int × (List BranchT))} (h : laws_markRegion_wd a0 a1 = some r) : Fn Tryz.prog 29 [(.ag [(I a0.Id),(I a0.Version),(.os 0 1 0 a0.Tellings.Branches.length m0 x0)]),(I a1)] [(0,some (false,.deep [.sl [.sc,.sc,.sc,.sc]] (a0.Tellings.Branches.map eBranch)))] 1 (I r.1) [(0,some (false,.deep [.sl [.sc,.sc,.sc,.sc]] (r.2.map eBranch)))] 1 := by
 unfold laws_markRegion_wd at h
 refine fn_code tab_ok mixed [(1000,[(1,0),(2,0)]),(1001,[(1,0)]),(1002,[(4,0)])] Tryz.func29 rfl rfl (by simp [Tryz.f29]) (by kernel_rfl) ?_
 simp only [Tryz.f29]
 refine sA ?_
 obtain ⟨c459,hr1,h⟩ := bind_ok h
 refine Cl_hA [0] (w_laws_markTellings_wd hr1) ?_
 try refine sA ?_
 obtain ⟨hp2,h⟩ := guard_some h
 have hl2 : a0.Tellings.Branches.length ≤ c459.2.length := by omega
 have ht2 : List.take (a0.Tellings.Branches.length) c459.2 = c459.2 := by rw [← hp2]; exact List.take_length
 try rw [← hp2]
 try simp (disch := first | assumption | (simp only [List.length_set]; assumption)) only [go_sem,Nat.reduceAdd,Nat.reduceMul,Nat.reduceSub,Nat.reduceEqDiff,↓reduceIte,Nat.reduceLT,reduceCtorEq,Nat.reduceLeDiff,Int.reduceToNat,Int.reduceEq,Int.reduceLE,Int.reduceLT,Nat.reduceBEq,hl2,ht2]
 obtain rfl:=Option.some.inj h
 refine ends_weak ⟨[(4,(I c459.1))],[(0,some (false,.deep [.sl [.sc,.sc,.sc,.sc]] (c459.2.map eBranch)))],1,10⟩ (weak_of (m := 1) [some 0] rfl rfl rfl (by rfl) ?_ ?_) ?_
 all_goals ((try simp (disch := first | assumption | (simp only [List.length_set]; assumption)) only [go_sem,Nat.reduceAdd,Nat.reduceMul,Nat.reduceSub,Nat.reduceEqDiff,↓reduceIte,Nat.reduceLT,reduceCtorEq,Nat.reduceLeDiff,Int.reduceToNat,Int.reduceEq,Int.reduceLE,Int.reduceLT,Nat.reduceBEq,hl2,ht2]); (repeat' first | done | rfl | omega | refine And.intro ?_ ?_ | (simp; done) | (simp; omega)))
theorem w_laws_markWord_wd {a0 : WordT} {a1 : Int} {m0 : Nat} {x0 : Bool} {r : (Int × (List BranchT))} (h : laws_markWord_wd a0 a1 = some r) : Fn Tryz.prog 30 [(.ag [(I a0.Version),(.os 0 1 0 a0.Tellings.Branches.length m0 x0)]),(I a1)] [(0,some (false,.deep [.sl [.sc,.sc,.sc,.sc]] (a0.Tellings.Branches.map eBranch)))] 1 (I r.1) [(0,some (false,.deep [.sl [.sc,.sc,.sc,.sc]] (r.2.map eBranch)))] 1 := by
 unfold laws_markWord_wd at h
 refine fn_code tab_ok mixed [(1000,[(1,0),(2,0)]),(1001,[(1,0)]),(1002,[(4,0)])] Tryz.func30 rfl rfl (by simp [Tryz.f30]) (by kernel_rfl) ?_
 simp only [Tryz.f30]
 refine sA ?_
 obtain ⟨c461,hr1,h⟩ := bind_ok h
 refine Cl_hA [0] (w_laws_markTellings_wd hr1) ?_
 try refine sA ?_
 obtain ⟨hp2,h⟩ := guard_some h
 have hl2 : a0.Tellings.Branches.length ≤ c461.2.length := by omega
 have ht2 : List.take (a0.Tellings.Branches.length) c461.2 = c461.2 := by rw [← hp2]; exact List.take_length
 try rw [← hp2]
 try simp (disch := first | assumption | (simp only [List.length_set]; assumption)) only [go_sem,Nat.reduceAdd,Nat.reduceMul,Nat.reduceSub,Nat.reduceEqDiff,↓reduceIte,Nat.reduceLT,reduceCtorEq,Nat.reduceLeDiff,Int.reduceToNat,Int.reduceEq,Int.reduceLE,Int.reduceLT,Nat.reduceBEq,hl2,ht2]
 obtain rfl:=Option.some.inj h
 refine ends_weak ⟨[(4,(I c461.1))],[(0,some (false,.deep [.sl [.sc,.sc,.sc,.sc]] (c461.2.map eBranch)))],1,10⟩ (weak_of (m := 1) [some 0] rfl rfl rfl (by rfl) ?_ ?_) ?_
 all_goals ((try simp (disch := first | assumption | (simp only [List.length_set]; assumption)) only [go_sem,Nat.reduceAdd,Nat.reduceMul,Nat.reduceSub,Nat.reduceEqDiff,↓reduceIte,Nat.reduceLT,reduceCtorEq,Nat.reduceLeDiff,Int.reduceToNat,Int.reduceEq,Int.reduceLE,Int.reduceLT,Nat.reduceBEq,hl2,ht2]); (repeat' first | done | rfl | omega | refine And.intro ?_ ?_ | (simp; done) | (simp; omega)))
theorem w_laws_heldEventS {a0 : (List EventT)} {a1 : Int} {r : Int} (h : laws_heldEventS a0 a1 = some r) : Fn Tryz.prog 22 [(.lf true (.sl (a0.map eEvent))),(I a1)] [] 0 (I r) [] 0 := by
 unfold laws_heldEventS at h
 refine fn_code tab_ok mixed [(13,[(4,6)]),(1000,[(0,0),(1,0)]),(1001,[(0,0),(1,0),(5,0)]),(1002,[(0,0),(1,0),(5,0),(9,0)]),(1003,[(0,0),(1,0),(5,0)]),(1004,[(0,0),(1,0),(5,0),(18,0)]),(1005,[(4,0)]),(1006,[(0,0),(1,0),(5,0)]),(1007,[(0,0),(1,0),(5,0),(27,0)]),(1008,[(4,0)]),(1009,[(0,0),(1,0),(5,0)]),(1010,[(0,0),(1,0),(5,0),(36,0)]),(1011,[(4,0)]),(1012,[(0,0),(1,0),(5,0)]),(1013,[(0,0),(1,0),(5,0),(46,0)]),(1014,[(4,0)]),(1015,[(0,0),(1,0),(5,0)]),(1016,[(4,0)])] Tryz.func22 rfl rfl (by simp [Tryz.f22]) (by kernel_rfl) ?_
 simp only [Tryz.f22]
 refine sA ?_
 obtain ⟨y470,hl1,h⟩ := bind_ok h
 refine W_loopP (fun g467 : laws_heldEventS_G1 => ⟨[(0,(.lf true (.sl (a0.map eEvent)))),(1,(I g467.t1)),(5,(I g467.t5))],[],0,50⟩) (laws_heldEventS_L1 a0) _ _ hl1 (weakA []) ?_
 ·intro n1 g467 z1 hs1 hk1
  unfold laws_heldEventS_L1 at hs1
  try dsimp only at hs1
  refine sA ?_
  refine Bs_if hs1 (fun hs1 hc2 => ?_) (fun hs1 hc2 => ?_)
  ·try refine sA ?_
   obtain ⟨hp3,hs1⟩ := guard_some hs1
   have hn3 : g467.t5.toNat < a0.length := by first | omega | (simp only [List.length_set,List.length_append,List.length_replicate,List.length_map]; omega)
   try refine sA ?_
   try refine andA ?_
   refine Bs_if hs1 (fun hs1 hc4 => ?_) (fun hs1 hc4 => ?_)
   ·try refine sA ?_
    cases hs1
    cases hk1
    try dsimp only at h
    try refine sA ?_
    obtain rfl:=Option.some.inj h
    exact endsA ⟨[(4,(I (-1)))],[],0,50⟩ []
   ·try refine sA ?_
    obtain ⟨hp5,hs1⟩ := guard_some hs1
    have hn5 : g467.t5.toNat < a0.length := by first | omega | (simp only [List.length_set,List.length_append,List.length_replicate,List.length_map]; omega)
    try refine sA ?_
    try refine andA ?_
    refine Bs_if hs1 (fun hs1 hc6 => ?_) (fun hs1 hc6 => ?_)
    ·try refine sA ?_
     cases hs1
     cases hk1
     try dsimp only at h
     try refine sA ?_
     obtain rfl:=Option.some.inj h
     exact endsA ⟨[(4,(I (-1)))],[],0,50⟩ []
    ·try refine sA ?_
     obtain ⟨hp7,hs1⟩ := guard_some hs1
     have hn7 : g467.t5.toNat < a0.length := by first | omega | (simp only [List.length_set,List.length_append,List.length_replicate,List.length_map]; omega)
     try refine sA ?_
     try refine andA ?_
     refine Bs_if hs1 (fun hs1 hc8 => ?_) (fun hs1 hc8 => ?_)
     ·try refine sA ?_
      cases hs1
      cases hk1
      try dsimp only at h
      try refine sA ?_
      obtain rfl:=Option.some.inj h
      exact endsA ⟨[(4,(I (-1)))],[],0,50⟩ []
     ·try refine sA ?_
      obtain ⟨hp9,hs1⟩ := guard_some hs1
      have hn9 : g467.t5.toNat < a0.length := by first | omega | (simp only [List.length_set,List.length_append,List.length_replicate,List.length_map]; omega)
      try refine sA ?_
      try refine andA ?_
      obtain ⟨c469,hr10,hs1⟩ := bind_ok hs1
      refine Cl_sA (w_laws_markText hr10) ?_
      try refine sA ?_
      refine Bs_if hs1 (fun hs1 hc11 => ?_) (fun hs1 hc11 => ?_)
      ·try refine sA ?_
       cases hs1
       cases hk1
       try dsimp only at h
       try refine sA ?_
       obtain rfl:=Option.some.inj h
       exact endsA ⟨[(4,(I (-1)))],[],0,50⟩ []
      ·try refine sA ?_
       cases hs1
       exact X_backP hk1 (weakA [])
  ·try refine sA ?_
   cases hs1
   cases hk1
   try dsimp only at h
   try refine sA ?_
   obtain rfl:=Option.some.inj h
   exact endsA ⟨[(4,(I g467.t1))],[],0,50⟩ []
theorem w_laws_heldBranchS {a0 : (List BranchT)} {a1 : Int} {r : Int} (h : laws_heldBranchS a0 a1 = some r) : Fn Tryz.prog 120 [(.lf true (.sl (a0.map eBranch))),(I a1)] [] 0 (I r) [] 0 := by
 unfold laws_heldBranchS at h
 refine fn_code tab_ok mixed [(1000,[(0,0),(1,0)]),(1001,[(0,0),(1,0),(5,0)]),(1002,[(0,0),(1,0),(5,0),(9,0)]),(1003,[(0,0),(1,0),(5,0)]),(1004,[(0,0),(1,0),(5,0)]),(1005,[(0,0),(1,0),(5,0),(20,0)]),(1006,[(4,0)]),(1007,[(4,0)])] Tryz.func120 rfl rfl (by simp [Tryz.f120]) (by kernel_rfl) ?_
 simp only [Tryz.f120]
 refine sA ?_
 obtain ⟨y475,hl1,h⟩ := bind_ok h
 refine W_loopP (fun g466 : laws_heldBranchS_G1 => ⟨[(0,(.lf true (.sl (a0.map eBranch)))),(1,(I g466.t1)),(5,(I g466.t5))],[],0,22⟩) (laws_heldBranchS_L1 a0) _ _ hl1 (weakA []) ?_
 ·intro n1 g466 z1 hs1 hk1
  unfold laws_heldBranchS_L1 at hs1
  try dsimp only at hs1
  refine sA ?_
  refine Bs_if hs1 (fun hs1 hc2 => ?_) (fun hs1 hc2 => ?_)
  ·try refine sA ?_
   obtain ⟨hp3,hs1⟩ := guard_some hs1
   have hn3 : g466.t5.toNat < a0.length := by first | omega | (simp only [List.length_set,List.length_append,List.length_replicate,List.length_map]; omega)
   try refine sA ?_
   try refine andA ?_
   obtain ⟨c474,hr4,hs1⟩ := bind_ok hs1
   refine Cl_sA (w_laws_heldEventS hr4) ?_
   try refine sA ?_
   refine Bs_if hs1 (fun hs1 hc5 => ?_) (fun hs1 hc5 => ?_)
   ·try refine sA ?_
    cases hs1
    cases hk1
    try dsimp only at h
    try refine sA ?_
    obtain rfl:=Option.some.inj h
    exact endsA ⟨[(4,(I (-1)))],[],0,22⟩ []
   ·try refine sA ?_
    cases hs1
    exact X_backP hk1 (weakA [])
  ·try refine sA ?_
   cases hs1
   cases hk1
   try dsimp only at h
   try refine sA ?_
   obtain rfl:=Option.some.inj h
   exact endsA ⟨[(4,(I g466.t1))],[],0,22⟩ []
theorem w_laws_heldTellings {a0 : TellingsT} {a1 : Int} {r : Int} (h : laws_heldTellings a0 a1 = some r) : Fn Tryz.prog 53 [(.ag [(.lf true (.sl (a0.Branches.map eBranch)))]),(I a1)] [] 0 (I r) [] 0 := by
 unfold laws_heldTellings at h
 refine fn_code tab_ok mixed [(1000,[(1,0),(2,0)]),(1001,[(1,0)]),(1002,[(1,0),(10,0)]),(1003,[(4,0)]),(1004,[(4,0)])] Tryz.func53 rfl rfl (by simp [Tryz.f53]) (by kernel_rfl) ?_
 simp only [Tryz.f53]
 refine sA ?_
 obtain ⟨c478,hr1,h⟩ := bind_ok h
 refine Cl_sA (w_laws_heldBranchS hr1) ?_
 try refine sA ?_
 refine Bs_if h (fun h hc2 => ?_) (fun h hc2 => ?_)
 ·try refine sA ?_
  obtain rfl:=Option.some.inj h
  exact endsA ⟨[(4,(I (-1)))],[],0,12⟩ []
 ·try refine sA ?_
  obtain rfl:=Option.some.inj h
  exact endsA ⟨[(4,(I c478))],[],0,12⟩ []
theorem w_laws_heldRegion {a0 : RegionT} {a1 : Int} {r : Int} (h : laws_heldRegion a0 a1 = some r) : Fn Tryz.prog 39 [(.ag [(I a0.Id),(I a0.Version),(.lf true (.sl (a0.Tellings.Branches.map eBranch)))]),(I a1)] [] 0 (I r) [] 0 := by
 unfold laws_heldRegion at h
 refine fn_code tab_ok mixed [(1000,[(1,0),(2,0)]),(1001,[(1,0)]),(1002,[(1,0),(10,0)]),(1003,[(4,0)]),(1004,[(4,0)])] Tryz.func39 rfl rfl (by simp [Tryz.f39]) (by kernel_rfl) ?_
 simp only [Tryz.f39]
 refine sA ?_
 obtain ⟨c479,hr1,h⟩ := bind_ok h
 refine Cl_sA (w_laws_heldTellings hr1) ?_
 try refine sA ?_
 refine Bs_if h (fun h hc2 => ?_) (fun h hc2 => ?_)
 ·try refine sA ?_
  obtain rfl:=Option.some.inj h
  exact endsA ⟨[(4,(I (-1)))],[],0,12⟩ []
 ·try refine sA ?_
  obtain rfl:=Option.some.inj h
  exact endsA ⟨[(4,(I c479))],[],0,12⟩ []
theorem w_laws_FnExactHearWord {a0 : RegionT} {a1 : WordT} {r : Bool} (h : laws_FnExactHearWord a0 a1 = some r) : Fn Tryz.prog 13 [(.ag [(I a0.Id),(I a0.Version),(.lf true (.sl (a0.Tellings.Branches.map eBranch)))]),(.ag [(I a1.Version),(.lf true (.sl (a1.Tellings.Branches.map eBranch)))])] [] 0 (B r) [] 0 := by
 unfold laws_FnExactHearWord at h
 refine fn_code tab_ok mixed [(8,[(2,1),(0,8),(2,8)]),(14,[(0,2)]),(16,[(0,2)]),(31,[(2,1),(0,8),(2,8)]),(1000,[(2,0),(3,0)]),(1001,[(2,0),(3,0),(5,0)]),(1002,[(2,0),(3,0),(5,0)]),(1003,[(2,0),(3,0),(5,0),(21,0)]),(1004,[(4,0)]),(1005,[(2,0),(3,0),(5,0)]),(1006,[(2,0),(3,0),(26,0)]),(1007,[(4,0)]),(1008,[(2,0),(3,0),(6,0),(7,0)]),(1009,[(2,0),(3,0),(6,0),(7,0),(8,0)]),(1010,[(2,0),(3,0),(6,0),(7,0),(8,0),(9,0)]),(1011,[(2,0),(3,0),(6,0),(7,0),(8,0),(9,0),(10,0),(11,0)]),(1012,[(2,0),(3,0),(6,0),(7,0),(8,0),(9,0),(10,0),(11,0),(53,0)]),(1013,[(4,0)]),(1014,[(2,0),(3,0),(6,0),(7,0),(8,0),(9,0),(10,0),(11,0),(58,0)]),(1015,[(4,0)]),(1016,[(2,0),(3,0),(6,0),(7,0),(8,0),(9,0),(10,0),(11,0),(63,0)]),(1017,[(4,0)]),(1018,[(2,0),(3,0),(6,0),(7,0),(8,0),(9,0),(10,0),(11,0),(12,0)]),(1019,[(2,0),(3,0),(6,0),(7,0),(9,0),(10,0),(11,0),(12,0)]),(1020,[(2,0),(3,0),(6,0),(7,0),(10,0),(11,0),(12,0)]),(1021,[(2,0),(3,0),(6,0),(7,0),(10,0),(82,0)]),(1022,[(4,0)]),(1023,[(2,0),(3,0),(6,0),(7,0),(10,0),(13,0)]),(1024,[(2,0),(3,0),(6,0),(7,0),(10,0),(13,0)]),(1025,[(2,0),(3,0),(6,0),(7,0),(10,0),(13,0),(14,0)]),(1026,[(2,0),(3,0),(6,0),(7,0),(10,0),(13,0),(14,0)]),(1027,[(2,0),(3,0),(6,0),(7,0),(10,0),(13,0),(14,0),(90,0)]),(1028,[(4,0)]),(1029,[(2,0),(3,0),(6,0),(7,0),(10,0),(13,0),(93,0)]),(1030,[(4,0)]),(1031,[(6,0),(7,0),(10,0),(13,0),(15,0),(16,0)]),(1032,[(10,0),(13,0),(110,0)]),(1033,[(4,0)]),(1034,[(10,0),(13,0),(14,0)]),(1035,[(13,0),(14,0)]),(1036,[(13,0),(14,0),(115,0)]),(1037,[(4,0)]),(1038,[(118,0)]),(1039,[(4,0)]),(1040,[(4,0)]),(4012,[]),(4021,[]),(4032,[])] Tryz.func13 rfl rfl (by simp [Tryz.f13]) (by kernel_rfl) ?_
 simp only [Tryz.f13]
 refine sA ?_
 obtain ⟨c16,hr1,h⟩ := bind_ok h
 refine Cl_sA (w_laws_szRegion hr1) ?_
 try refine sA ?_
 refine Bs_if h (fun h hc2 => ?_) (fun h hc2 => ?_)
 ·try refine sA ?_
  obtain rfl:=Option.some.inj h
  exact endsA ⟨[(4,(B true))],[],0,119⟩ []
 ·try refine sA ?_
  obtain ⟨c18,hr3,h⟩ := bind_ok h
  refine Cl_sA (w_laws_szWord hr3) ?_
  try refine sA ?_
  refine Bs_if h (fun h hc4 => ?_) (fun h hc4 => ?_)
  ·try refine sA ?_
   obtain rfl:=Option.some.inj h
   exact endsA ⟨[(4,(B true))],[],0,119⟩ []
  ·try refine sA ?_
   obtain ⟨c30,hr5,h⟩ := bind_ok h
   refine Cl_sA (w_laws_toRegion hr5) ?_
   try refine sA ?_
   obtain ⟨c32,hr6,h⟩ := bind_ok h
   refine Cl_sA (w_laws_toWord hr6) ?_
   try refine sA ?_
   obtain ⟨c224,hr7,h⟩ := bind_ok h
   refine Cl_sA (w_spec_HearWord hr7) ?_
   try refine sA ?_
   obtain ⟨c225,hr8,h⟩ := bind_ok h
   refine Cl_sA (w_laws_toRegion hr8) ?_
   try refine sA ?_
   obtain ⟨c226,hr9,h⟩ := bind_ok h
   refine Cl_sA (w_laws_toWord hr9) ?_
   try refine sA ?_
   obtain ⟨c422,hr10,h⟩ := bind_ok h
   refine Cl_sA (w_impl_HearWord hr10) ?_
   try refine sA ?_
   obtain ⟨p439,hq11,h⟩ := bind_ok h
   refine Sq_cut (fun s2 => s2 = ⟨[(2,(.pb 0 0)),(3,(.pb 1 0)),(6,(.pb 2 0)),(7,(B c224.2)),(8,(.pb 3 0)),(9,(.pb 4 0)),(10,(.pb 5 0)),(11,(B c422.2)),(53,(B p439.t53))],[(0,some (true,.box [(I a0.Id),(I a0.Version),(.lf true (.sl (a0.Tellings.Branches.map eBranch)))])),(1,some (true,.box [(I a1.Version),(.lf true (.sl (a1.Tellings.Branches.map eBranch)))])),(2,some (true,.box [(I c224.1.Id),(I c224.1.Version),(.os 6 1 0 c224.1.Tellings.Branches.length c224.1.Tellings.Branches.length false)])),(3,some (true,.box [(I c225.Id),(I c225.Version),(.os 7 1 0 c225.Tellings.Branches.length c225.Tellings.Branches.length false)])),(4,some (true,.box [(I c226.Version),(.os 8 1 0 c226.Tellings.Branches.length c226.Tellings.Branches.length false)])),(5,some (true,.box [(I c422.1.Id),(I c422.1.Version),(.os 9 1 0 c422.1.Tellings.Branches.length c422.1.Tellings.Branches.length false)])),(6,some (true,.deep [.sl [.sc,.sc,.sc,.sc]] (c224.1.Tellings.Branches.map eBranch))),(7,some (true,.deep [.sl [.sc,.sc,.sc,.sc]] (c225.Tellings.Branches.map eBranch))),(8,some (true,.deep [.sl [.sc,.sc,.sc,.sc]] (c226.Tellings.Branches.map eBranch))),(9,some (false,.deep [.sl [.sc,.sc,.sc,.sc]] (c422.1.Tellings.Branches.map eBranch)))],10,119⟩) ?_ ?_
   ·try refine sA ?_
    obtain ⟨c438,hr12,hq11⟩ := bind_ok hq11
    refine Cl_sA (w_laws_eqRegion hr12) ?_
    try refine sA ?_
    refine Sp_if hq11 (fun hq11 hc13 => ?_) (fun hq11 hc13 => ?_)
    ·try refine sA ?_
     cases hq11
     exact X_cut rfl (weakA [some 0,some 1,some 8,some 11,some 14,some 17,some 6,some 9,some 12,some 15])
    ·try refine sA ?_
     cases hq11
     exact X_cut rfl (weakA [some 0,some 1,some 8,some 11,some 14,some 17,some 6,some 9,some 12,some 15])
   ·intro s2 hJ; subst hJ
    try dsimp only at h
    try refine sA ?_
    refine Bs_if h (fun h hc14 => ?_) (fun h hc14 => ?_)
    ·try refine sA ?_
     obtain rfl:=Option.some.inj h
     exact endsA ⟨[(4,(B false))],[],0,119⟩ []
    ·try refine sA ?_
     obtain ⟨c440,hr15,h⟩ := bind_ok h
     refine Cl_sA (w_laws_toRegion hr15) ?_
     try refine sA ?_
     obtain ⟨c441,hr16,h⟩ := bind_ok h
     refine Cl_sA (w_laws_eqRegion hr16) ?_
     try refine sA ?_
     refine Bs_if h (fun h hc17 => ?_) (fun h hc17 => ?_)
     ·try refine sA ?_
      obtain rfl:=Option.some.inj h
      exact endsA ⟨[(4,(B false))],[],0,119⟩ []
     ·try refine sA ?_
      obtain ⟨c442,hr18,h⟩ := bind_ok h
      refine Cl_sA (w_laws_toWord hr18) ?_
      try refine sA ?_
      obtain ⟨c444,hr19,h⟩ := bind_ok h
      refine Cl_sA (w_laws_eqWord hr19) ?_
      try refine sA ?_
      refine Bs_if h (fun h hc20 => ?_) (fun h hc20 => ?_)
      ·try refine sA ?_
       obtain rfl:=Option.some.inj h
       exact endsA ⟨[(4,(B false))],[],0,119⟩ []
      ·try refine sA ?_
       obtain ⟨c460,hr21,h⟩ := bind_ok h
       refine Cl_hA [7] (w_laws_markRegion_wd hr21) ?_
       try refine sA ?_
       obtain ⟨hp22,h⟩ := guard_some h
       have hl22 : c225.Tellings.Branches.length ≤ c460.2.length := by omega
       have ht22 : List.take (c225.Tellings.Branches.length) c460.2 = c460.2 := by rw [← hp22]; exact List.take_length
       try rw [← hp22]
       try simp (disch := first | assumption | (simp only [List.length_set]; assumption)) only [go_sem,Nat.reduceAdd,Nat.reduceMul,Nat.reduceSub,Nat.reduceEqDiff,↓reduceIte,Nat.reduceLT,reduceCtorEq,Nat.reduceLeDiff,Int.reduceToNat,Int.reduceEq,Int.reduceLE,Int.reduceLT,Nat.reduceBEq,hl22,ht22]
       obtain ⟨c462,hr23,h⟩ := bind_ok h
       refine Cl_hand (ids := [8]) (w_laws_markWord_wd hr23) (by first | rfl | (simp (disch := first | assumption | (simp only [List.length_set]; assumption)) only [go_sem,Nat.reduceAdd,Nat.reduceMul,Nat.reduceSub,Nat.reduceEqDiff,↓reduceIte,Nat.reduceLT,reduceCtorEq,Nat.reduceLeDiff,Int.reduceToNat,Int.reduceEq,Int.reduceLE,Int.reduceLT,Nat.reduceBEq,hl22,ht22]; first | done | rfl) | (simp only [List.length_append,List.length_cons,List.length_nil,List.length_map,List.length_set,List.length_replicate,Nat.zero_add,Nat.reduceAdd]; rfl) | (simp (disch := first | assumption | (simp only [List.length_set]; assumption)) only [go_sem,Nat.reduceAdd,Nat.reduceMul,Nat.reduceSub,Nat.reduceEqDiff,↓reduceIte,Nat.reduceLT,reduceCtorEq,Nat.reduceLeDiff,Int.reduceToNat,Int.reduceEq,Int.reduceLE,Int.reduceLT,Nat.reduceBEq,hl22,ht22]; simp only [List.length_append,List.length_cons,List.length_nil,List.length_map,List.length_set,List.length_replicate,Nat.zero_add,Nat.reduceAdd]; rfl)) (FitAll.refl _) (by first | rfl | (simp (disch := first | assumption | (simp only [List.length_set]; assumption)) only [go_sem,Nat.reduceAdd,Nat.reduceMul,Nat.reduceSub,Nat.reduceEqDiff,↓reduceIte,Nat.reduceLT,reduceCtorEq,Nat.reduceLeDiff,Int.reduceToNat,Int.reduceEq,Int.reduceLE,Int.reduceLT,Nat.reduceBEq,hl22,ht22]; first | done | rfl) | (simp only [List.length_append,List.length_cons,List.length_nil,List.length_map,List.length_set,List.length_replicate,Nat.zero_add,Nat.reduceAdd]; rfl) | (simp (disch := first | assumption | (simp only [List.length_set]; assumption)) only [go_sem,Nat.reduceAdd,Nat.reduceMul,Nat.reduceSub,Nat.reduceEqDiff,↓reduceIte,Nat.reduceLT,reduceCtorEq,Nat.reduceLeDiff,Int.reduceToNat,Int.reduceEq,Int.reduceLE,Int.reduceLT,Nat.reduceBEq,hl22,ht22]; simp only [List.length_append,List.length_cons,List.length_nil,List.length_map,List.length_set,List.length_replicate,Nat.zero_add,Nat.reduceAdd]; rfl)) (by decide) (by first | rfl | (simp (disch := first | assumption | (simp only [List.length_set]; assumption)) only [go_sem,Nat.reduceAdd,Nat.reduceMul,Nat.reduceSub,Nat.reduceEqDiff,↓reduceIte,Nat.reduceLT,reduceCtorEq,Nat.reduceLeDiff,Int.reduceToNat,Int.reduceEq,Int.reduceLE,Int.reduceLT,Nat.reduceBEq,hl22,ht22]; done)) (by rfl) ?_
       try simp (disch := first | assumption | (simp only [List.length_set]; assumption)) only [go_sem,Nat.reduceAdd,Nat.reduceMul,Nat.reduceSub,Nat.reduceEqDiff,↓reduceIte,Nat.reduceLT,reduceCtorEq,Nat.reduceLeDiff,Int.reduceToNat,Int.reduceEq,Int.reduceLE,Int.reduceLT,Nat.reduceBEq,hl22,ht22]
       obtain ⟨hp24,h⟩ := guard_some h
       have hl24 : c226.Tellings.Branches.length ≤ c462.2.length := by omega
       have ht24 : List.take (c226.Tellings.Branches.length) c462.2 = c462.2 := by rw [← hp24]; exact List.take_length
       try rw [← hp24]
       try simp (disch := first | assumption | (simp only [List.length_set]; assumption)) only [go_sem,Nat.reduceAdd,Nat.reduceMul,Nat.reduceSub,Nat.reduceEqDiff,↓reduceIte,Nat.reduceLT,reduceCtorEq,Nat.reduceLeDiff,Int.reduceToNat,Int.reduceEq,Int.reduceLE,Int.reduceLT,Nat.reduceBEq,hl22,ht22,hl24,ht24]
       obtain ⟨p464,hq25,h⟩ := bind_ok h
       refine Sq_cut (fun s2 => s2 = ⟨[(2,(.pb 0 0)),(3,(.pb 1 0)),(6,(.pb 2 0)),(7,(B c224.2)),(10,(.pb 3 0)),(82,(B p464.t82))],[(0,some (true,.box [(I a0.Id),(I a0.Version),(.lf true (.sl (a0.Tellings.Branches.map eBranch)))])),(1,some (true,.box [(I a1.Version),(.lf true (.sl (a1.Tellings.Branches.map eBranch)))])),(2,some (true,.box [(I c224.1.Id),(I c224.1.Version),(.os 4 1 0 c224.1.Tellings.Branches.length c224.1.Tellings.Branches.length false)])),(3,some (true,.box [(I c422.1.Id),(I c422.1.Version),(.os 5 1 0 c422.1.Tellings.Branches.length c422.1.Tellings.Branches.length false)])),(4,some (true,.deep [.sl [.sc,.sc,.sc,.sc]] (c224.1.Tellings.Branches.map eBranch))),(5,some (false,.deep [.sl [.sc,.sc,.sc,.sc]] (c422.1.Tellings.Branches.map eBranch)))],6,119⟩) ?_ ?_
       ·try simp (disch := first | assumption | (simp only [List.length_set]; assumption)) only [go_sem,Nat.reduceAdd,Nat.reduceMul,Nat.reduceSub,Nat.reduceEqDiff,↓reduceIte,Nat.reduceLT,reduceCtorEq,Nat.reduceLeDiff,Int.reduceToNat,Int.reduceEq,Int.reduceLE,Int.reduceLT,Nat.reduceBEq,hl22,ht22,hl24,ht24]
        refine Sp_if hq25 (fun hq25 hc26 => ?_) (fun hq25 hc26 => ?_)
        ·try simp (disch := first | assumption | (simp only [List.length_set]; assumption)) only [go_sem,Nat.reduceAdd,Nat.reduceMul,Nat.reduceSub,Nat.reduceEqDiff,↓reduceIte,Nat.reduceLT,reduceCtorEq,Nat.reduceLeDiff,Int.reduceToNat,Int.reduceEq,Int.reduceLE,Int.reduceLT,Nat.reduceBEq,hl22,ht22,hl24,ht24]
         cases hq25
         refine X_cut rfl ?_
         refine weak_of (m := 0) [some 0,some 1,some 2,some 5,some 6,some 9] rfl rfl rfl (by rfl) ?_ ?_
         all_goals ((try simp (disch := first | assumption | (simp only [List.length_set]; assumption)) only [go_sem,Nat.reduceAdd,Nat.reduceMul,Nat.reduceSub,Nat.reduceEqDiff,↓reduceIte,Nat.reduceLT,reduceCtorEq,Nat.reduceLeDiff,Int.reduceToNat,Int.reduceEq,Int.reduceLE,Int.reduceLT,Nat.reduceBEq,hl22,ht22,hl24,ht24]); (repeat' first | done | rfl | omega | refine And.intro ?_ ?_ | (simp; done) | (simp; omega)))
        ·try simp (disch := first | assumption | (simp only [List.length_set]; assumption)) only [go_sem,Nat.reduceAdd,Nat.reduceMul,Nat.reduceSub,Nat.reduceEqDiff,↓reduceIte,Nat.reduceLT,reduceCtorEq,Nat.reduceLeDiff,Int.reduceToNat,Int.reduceEq,Int.reduceLE,Int.reduceLT,Nat.reduceBEq,hl22,ht22,hl24,ht24]
         obtain ⟨c463,hr27,hq25⟩ := bind_ok hq25
         refine Cl_shown (w_laws_eqRegion hr27) (by first | rfl | (simp (disch := first | assumption | (simp only [List.length_set]; assumption)) only [go_sem,Nat.reduceAdd,Nat.reduceMul,Nat.reduceSub,Nat.reduceEqDiff,↓reduceIte,Nat.reduceLT,reduceCtorEq,Nat.reduceLeDiff,Int.reduceToNat,Int.reduceEq,Int.reduceLE,Int.reduceLT,Nat.reduceBEq,hl22,ht22,hl24,ht24]; first | done | rfl) | (simp only [List.length_append,List.length_cons,List.length_nil,List.length_map,List.length_set,List.length_replicate,Nat.zero_add,Nat.reduceAdd]; rfl) | (simp (disch := first | assumption | (simp only [List.length_set]; assumption)) only [go_sem,Nat.reduceAdd,Nat.reduceMul,Nat.reduceSub,Nat.reduceEqDiff,↓reduceIte,Nat.reduceLT,reduceCtorEq,Nat.reduceLeDiff,Int.reduceToNat,Int.reduceEq,Int.reduceLE,Int.reduceLT,Nat.reduceBEq,hl22,ht22,hl24,ht24]; simp only [List.length_append,List.length_cons,List.length_nil,List.length_map,List.length_set,List.length_replicate,Nat.zero_add,Nat.reduceAdd]; rfl)) (FitAll.refl _) (.inr ⟨rfl,by simp [freeOb,free1]⟩) ?_
         try simp (disch := first | assumption | (simp only [List.length_set]; assumption)) only [go_sem,Nat.reduceAdd,Nat.reduceMul,Nat.reduceSub,Nat.reduceEqDiff,↓reduceIte,Nat.reduceLT,reduceCtorEq,Nat.reduceLeDiff,Int.reduceToNat,Int.reduceEq,Int.reduceLE,Int.reduceLT,Nat.reduceBEq,hl22,ht22,hl24,ht24]
         refine Sp_if hq25 (fun hq25 hc28 => ?_) (fun hq25 hc28 => ?_)
         ·try simp (disch := first | assumption | (simp only [List.length_set]; assumption)) only [go_sem,Nat.reduceAdd,Nat.reduceMul,Nat.reduceSub,Nat.reduceEqDiff,↓reduceIte,Nat.reduceLT,reduceCtorEq,Nat.reduceLeDiff,Int.reduceToNat,Int.reduceEq,Int.reduceLE,Int.reduceLT,Nat.reduceBEq,hl22,ht22,hl24,ht24]
          cases hq25
          refine X_cut rfl ?_
          refine weak_of (m := 0) [some 0,some 1,some 2,some 5,some 6,some 9] rfl rfl rfl (by rfl) ?_ ?_
          all_goals ((try simp (disch := first | assumption | (simp only [List.length_set]; assumption)) only [go_sem,Nat.reduceAdd,Nat.reduceMul,Nat.reduceSub,Nat.reduceEqDiff,↓reduceIte,Nat.reduceLT,reduceCtorEq,Nat.reduceLeDiff,Int.reduceToNat,Int.reduceEq,Int.reduceLE,Int.reduceLT,Nat.reduceBEq,hl22,ht22,hl24,ht24]); (repeat' first | done | rfl | omega | refine And.intro ?_ ?_ | (simp; done) | (simp; omega)))
         ·try simp (disch := first | assumption | (simp only [List.length_set]; assumption)) only [go_sem,Nat.reduceAdd,Nat.reduceMul,Nat.reduceSub,Nat.reduceEqDiff,↓reduceIte,Nat.reduceLT,reduceCtorEq,Nat.reduceLeDiff,Int.reduceToNat,Int.reduceEq,Int.reduceLE,Int.reduceLT,Nat.reduceBEq,hl22,ht22,hl24,ht24]
          cases hq25
          refine X_cut rfl ?_
          refine weak_of (m := 0) [some 0,some 1,some 2,some 5,some 6,some 9] rfl rfl rfl (by rfl) ?_ ?_
          all_goals ((try simp (disch := first | assumption | (simp only [List.length_set]; assumption)) only [go_sem,Nat.reduceAdd,Nat.reduceMul,Nat.reduceSub,Nat.reduceEqDiff,↓reduceIte,Nat.reduceLT,reduceCtorEq,Nat.reduceLeDiff,Int.reduceToNat,Int.reduceEq,Int.reduceLE,Int.reduceLT,Nat.reduceBEq,hl22,ht22,hl24,ht24]); (repeat' first | done | rfl | omega | refine And.intro ?_ ?_ | (simp; done) | (simp; omega)))
       ·intro s2 hJ; subst hJ
        try dsimp only at h
        try simp (disch := first | assumption | (simp only [List.length_set]; assumption)) only [go_sem,Nat.reduceAdd,Nat.reduceMul,Nat.reduceSub,Nat.reduceEqDiff,↓reduceIte,Nat.reduceLT,reduceCtorEq,Nat.reduceLeDiff,Int.reduceToNat,Int.reduceEq,Int.reduceLE,Int.reduceLT,Nat.reduceBEq,hl22,ht22,hl24,ht24]
        refine Bs_if h (fun h hc29 => ?_) (fun h hc29 => ?_)
        ·try simp (disch := first | assumption | (simp only [List.length_set]; assumption)) only [go_sem,Nat.reduceAdd,Nat.reduceMul,Nat.reduceSub,Nat.reduceEqDiff,↓reduceIte,Nat.reduceLT,reduceCtorEq,Nat.reduceLeDiff,Int.reduceToNat,Int.reduceEq,Int.reduceLE,Int.reduceLT,Nat.reduceBEq,hl22,ht22,hl24,ht24]
         obtain rfl:=Option.some.inj h
         refine ends_weak ⟨[(4,(B false))],[],0,119⟩ (weak_of (m := 0) [] rfl rfl rfl (by rfl) ?_ ?_) ?_
         all_goals ((try simp (disch := first | assumption | (simp only [List.length_set]; assumption)) only [go_sem,Nat.reduceAdd,Nat.reduceMul,Nat.reduceSub,Nat.reduceEqDiff,↓reduceIte,Nat.reduceLT,reduceCtorEq,Nat.reduceLeDiff,Int.reduceToNat,Int.reduceEq,Int.reduceLE,Int.reduceLT,Nat.reduceBEq,hl22,ht22,hl24,ht24]); (repeat' first | done | rfl | omega | refine And.intro ?_ ?_ | (simp; done) | (simp; omega)))
        ·try simp (disch := first | assumption | (simp only [List.length_set]; assumption)) only [go_sem,Nat.reduceAdd,Nat.reduceMul,Nat.reduceSub,Nat.reduceEqDiff,↓reduceIte,Nat.reduceLT,reduceCtorEq,Nat.reduceLeDiff,Int.reduceToNat,Int.reduceEq,Int.reduceLE,Int.reduceLT,Nat.reduceBEq,hl22,ht22,hl24,ht24]
         obtain ⟨c465,hr30,h⟩ := bind_ok h
         refine Cl_hand (ids := [5]) (w_laws_markRegion_wd hr30) (by first | rfl | (simp (disch := first | assumption | (simp only [List.length_set]; assumption)) only [go_sem,Nat.reduceAdd,Nat.reduceMul,Nat.reduceSub,Nat.reduceEqDiff,↓reduceIte,Nat.reduceLT,reduceCtorEq,Nat.reduceLeDiff,Int.reduceToNat,Int.reduceEq,Int.reduceLE,Int.reduceLT,Nat.reduceBEq,hl22,ht22,hl24,ht24]; first | done | rfl) | (simp only [List.length_append,List.length_cons,List.length_nil,List.length_map,List.length_set,List.length_replicate,Nat.zero_add,Nat.reduceAdd]; rfl) | (simp (disch := first | assumption | (simp only [List.length_set]; assumption)) only [go_sem,Nat.reduceAdd,Nat.reduceMul,Nat.reduceSub,Nat.reduceEqDiff,↓reduceIte,Nat.reduceLT,reduceCtorEq,Nat.reduceLeDiff,Int.reduceToNat,Int.reduceEq,Int.reduceLE,Int.reduceLT,Nat.reduceBEq,hl22,ht22,hl24,ht24]; simp only [List.length_append,List.length_cons,List.length_nil,List.length_map,List.length_set,List.length_replicate,Nat.zero_add,Nat.reduceAdd]; rfl)) (FitAll.refl _) (by first | rfl | (simp (disch := first | assumption | (simp only [List.length_set]; assumption)) only [go_sem,Nat.reduceAdd,Nat.reduceMul,Nat.reduceSub,Nat.reduceEqDiff,↓reduceIte,Nat.reduceLT,reduceCtorEq,Nat.reduceLeDiff,Int.reduceToNat,Int.reduceEq,Int.reduceLE,Int.reduceLT,Nat.reduceBEq,hl22,ht22,hl24,ht24]; first | done | rfl) | (simp only [List.length_append,List.length_cons,List.length_nil,List.length_map,List.length_set,List.length_replicate,Nat.zero_add,Nat.reduceAdd]; rfl) | (simp (disch := first | assumption | (simp only [List.length_set]; assumption)) only [go_sem,Nat.reduceAdd,Nat.reduceMul,Nat.reduceSub,Nat.reduceEqDiff,↓reduceIte,Nat.reduceLT,reduceCtorEq,Nat.reduceLeDiff,Int.reduceToNat,Int.reduceEq,Int.reduceLE,Int.reduceLT,Nat.reduceBEq,hl22,ht22,hl24,ht24]; simp only [List.length_append,List.length_cons,List.length_nil,List.length_map,List.length_set,List.length_replicate,Nat.zero_add,Nat.reduceAdd]; rfl)) (by decide) (by first | rfl | (simp (disch := first | assumption | (simp only [List.length_set]; assumption)) only [go_sem,Nat.reduceAdd,Nat.reduceMul,Nat.reduceSub,Nat.reduceEqDiff,↓reduceIte,Nat.reduceLT,reduceCtorEq,Nat.reduceLeDiff,Int.reduceToNat,Int.reduceEq,Int.reduceLE,Int.reduceLT,Nat.reduceBEq,hl22,ht22,hl24,ht24]; done)) (by rfl) ?_
         try simp (disch := first | assumption | (simp only [List.length_set]; assumption)) only [go_sem,Nat.reduceAdd,Nat.reduceMul,Nat.reduceSub,Nat.reduceEqDiff,↓reduceIte,Nat.reduceLT,reduceCtorEq,Nat.reduceLeDiff,Int.reduceToNat,Int.reduceEq,Int.reduceLE,Int.reduceLT,Nat.reduceBEq,hl22,ht22,hl24,ht24]
         obtain ⟨hp31,h⟩ := guard_some h
         have hl31 : c422.1.Tellings.Branches.length ≤ c465.2.length := by omega
         have ht31 : List.take (c422.1.Tellings.Branches.length) c465.2 = c465.2 := by rw [← hp31]; exact List.take_length
         try rw [← hp31]
         try simp (disch := first | assumption | (simp only [List.length_set]; assumption)) only [go_sem,Nat.reduceAdd,Nat.reduceMul,Nat.reduceSub,Nat.reduceEqDiff,↓reduceIte,Nat.reduceLT,reduceCtorEq,Nat.reduceLeDiff,Int.reduceToNat,Int.reduceEq,Int.reduceLE,Int.reduceLT,Nat.reduceBEq,hl22,ht22,hl24,ht24,hl31,ht31]
         obtain ⟨c480,hr32,h⟩ := bind_ok h
         refine Cl_shown (w_laws_heldRegion hr32) (by first | rfl | (simp (disch := first | assumption | (simp only [List.length_set]; assumption)) only [go_sem,Nat.reduceAdd,Nat.reduceMul,Nat.reduceSub,Nat.reduceEqDiff,↓reduceIte,Nat.reduceLT,reduceCtorEq,Nat.reduceLeDiff,Int.reduceToNat,Int.reduceEq,Int.reduceLE,Int.reduceLT,Nat.reduceBEq,hl22,ht22,hl24,ht24,hl31,ht31]; first | done | rfl) | (simp only [List.length_append,List.length_cons,List.length_nil,List.length_map,List.length_set,List.length_replicate,Nat.zero_add,Nat.reduceAdd]; rfl) | (simp (disch := first | assumption | (simp only [List.length_set]; assumption)) only [go_sem,Nat.reduceAdd,Nat.reduceMul,Nat.reduceSub,Nat.reduceEqDiff,↓reduceIte,Nat.reduceLT,reduceCtorEq,Nat.reduceLeDiff,Int.reduceToNat,Int.reduceEq,Int.reduceLE,Int.reduceLT,Nat.reduceBEq,hl22,ht22,hl24,ht24,hl31,ht31]; simp only [List.length_append,List.length_cons,List.length_nil,List.length_map,List.length_set,List.length_replicate,Nat.zero_add,Nat.reduceAdd]; rfl)) (FitAll.refl _) (.inr ⟨rfl,by simp [freeOb,free1]⟩) ?_
         try simp (disch := first | assumption | (simp only [List.length_set]; assumption)) only [go_sem,Nat.reduceAdd,Nat.reduceMul,Nat.reduceSub,Nat.reduceEqDiff,↓reduceIte,Nat.reduceLT,reduceCtorEq,Nat.reduceLeDiff,Int.reduceToNat,Int.reduceEq,Int.reduceLE,Int.reduceLT,Nat.reduceBEq,hl22,ht22,hl24,ht24,hl31,ht31]
         refine Bs_if h (fun h hc33 => ?_) (fun h hc33 => ?_)
         ·try simp (disch := first | assumption | (simp only [List.length_set]; assumption)) only [go_sem,Nat.reduceAdd,Nat.reduceMul,Nat.reduceSub,Nat.reduceEqDiff,↓reduceIte,Nat.reduceLT,reduceCtorEq,Nat.reduceLeDiff,Int.reduceToNat,Int.reduceEq,Int.reduceLE,Int.reduceLT,Nat.reduceBEq,hl22,ht22,hl24,ht24,hl31,ht31]
          obtain rfl:=Option.some.inj h
          refine ends_weak ⟨[(4,(B false))],[],0,119⟩ (weak_of (m := 0) [] rfl rfl rfl (by rfl) ?_ ?_) ?_
          all_goals ((try simp (disch := first | assumption | (simp only [List.length_set]; assumption)) only [go_sem,Nat.reduceAdd,Nat.reduceMul,Nat.reduceSub,Nat.reduceEqDiff,↓reduceIte,Nat.reduceLT,reduceCtorEq,Nat.reduceLeDiff,Int.reduceToNat,Int.reduceEq,Int.reduceLE,Int.reduceLT,Nat.reduceBEq,hl22,ht22,hl24,ht24,hl31,ht31]); (repeat' first | done | rfl | omega | refine And.intro ?_ ?_ | (simp; done) | (simp; omega)))
         ·try simp (disch := first | assumption | (simp only [List.length_set]; assumption)) only [go_sem,Nat.reduceAdd,Nat.reduceMul,Nat.reduceSub,Nat.reduceEqDiff,↓reduceIte,Nat.reduceLT,reduceCtorEq,Nat.reduceLeDiff,Int.reduceToNat,Int.reduceEq,Int.reduceLE,Int.reduceLT,Nat.reduceBEq,hl22,ht22,hl24,ht24,hl31,ht31]
          refine Bs_if h (fun h hc34 => ?_) (fun h hc34 => ?_)
          ·try simp (disch := first | assumption | (simp only [List.length_set]; assumption)) only [go_sem,Nat.reduceAdd,Nat.reduceMul,Nat.reduceSub,Nat.reduceEqDiff,↓reduceIte,Nat.reduceLT,reduceCtorEq,Nat.reduceLeDiff,Int.reduceToNat,Int.reduceEq,Int.reduceLE,Int.reduceLT,Nat.reduceBEq,hl22,ht22,hl24,ht24,hl31,ht31]
           obtain rfl:=Option.some.inj h
           refine ends_weak ⟨[(4,(B false))],[],0,119⟩ (weak_of (m := 0) [] rfl rfl rfl (by rfl) ?_ ?_) ?_
           all_goals ((try simp (disch := first | assumption | (simp only [List.length_set]; assumption)) only [go_sem,Nat.reduceAdd,Nat.reduceMul,Nat.reduceSub,Nat.reduceEqDiff,↓reduceIte,Nat.reduceLT,reduceCtorEq,Nat.reduceLeDiff,Int.reduceToNat,Int.reduceEq,Int.reduceLE,Int.reduceLT,Nat.reduceBEq,hl22,ht22,hl24,ht24,hl31,ht31]); (repeat' first | done | rfl | omega | refine And.intro ?_ ?_ | (simp; done) | (simp; omega)))
          ·try simp (disch := first | assumption | (simp only [List.length_set]; assumption)) only [go_sem,Nat.reduceAdd,Nat.reduceMul,Nat.reduceSub,Nat.reduceEqDiff,↓reduceIte,Nat.reduceLT,reduceCtorEq,Nat.reduceLeDiff,Int.reduceToNat,Int.reduceEq,Int.reduceLE,Int.reduceLT,Nat.reduceBEq,hl22,ht22,hl24,ht24,hl31,ht31]
           obtain ⟨c481,hr35,h⟩ := bind_ok h
           refine Cl_shown (w_laws_toRegion hr35) (by first | rfl | (simp (disch := first | assumption | (simp only [List.length_set]; assumption)) only [go_sem,Nat.reduceAdd,Nat.reduceMul,Nat.reduceSub,Nat.reduceEqDiff,↓reduceIte,Nat.reduceLT,reduceCtorEq,Nat.reduceLeDiff,Int.reduceToNat,Int.reduceEq,Int.reduceLE,Int.reduceLT,Nat.reduceBEq,hl22,ht22,hl24,ht24,hl31,ht31]; first | done | rfl) | (simp only [List.length_append,List.length_cons,List.length_nil,List.length_map,List.length_set,List.length_replicate,Nat.zero_add,Nat.reduceAdd]; rfl) | (simp (disch := first | assumption | (simp only [List.length_set]; assumption)) only [go_sem,Nat.reduceAdd,Nat.reduceMul,Nat.reduceSub,Nat.reduceEqDiff,↓reduceIte,Nat.reduceLT,reduceCtorEq,Nat.reduceLeDiff,Int.reduceToNat,Int.reduceEq,Int.reduceLE,Int.reduceLT,Nat.reduceBEq,hl22,ht22,hl24,ht24,hl31,ht31]; simp only [List.length_append,List.length_cons,List.length_nil,List.length_map,List.length_set,List.length_replicate,Nat.zero_add,Nat.reduceAdd]; rfl)) (FitAll.refl _) (.inl (by first | rfl | (simp (disch := first | assumption | (simp only [List.length_set]; assumption)) only [go_sem,Nat.reduceAdd,Nat.reduceMul,Nat.reduceSub,Nat.reduceEqDiff,↓reduceIte,Nat.reduceLT,reduceCtorEq,Nat.reduceLeDiff,Int.reduceToNat,Int.reduceEq,Int.reduceLE,Int.reduceLT,Nat.reduceBEq,hl22,ht22,hl24,ht24,hl31,ht31]; done))) ?_
           try simp (disch := first | assumption | (simp only [List.length_set]; assumption)) only [go_sem,Nat.reduceAdd,Nat.reduceMul,Nat.reduceSub,Nat.reduceEqDiff,↓reduceIte,Nat.reduceLT,reduceCtorEq,Nat.reduceLeDiff,Int.reduceToNat,Int.reduceEq,Int.reduceLE,Int.reduceLT,Nat.reduceBEq,hl22,ht22,hl24,ht24,hl31,ht31]
           obtain ⟨c482,hr36,h⟩ := bind_ok h
           refine Cl_shown (w_laws_toWord hr36) (by first | rfl | (simp (disch := first | assumption | (simp only [List.length_set]; assumption)) only [go_sem,Nat.reduceAdd,Nat.reduceMul,Nat.reduceSub,Nat.reduceEqDiff,↓reduceIte,Nat.reduceLT,reduceCtorEq,Nat.reduceLeDiff,Int.reduceToNat,Int.reduceEq,Int.reduceLE,Int.reduceLT,Nat.reduceBEq,hl22,ht22,hl24,ht24,hl31,ht31]; first | done | rfl) | (simp only [List.length_append,List.length_cons,List.length_nil,List.length_map,List.length_set,List.length_replicate,Nat.zero_add,Nat.reduceAdd]; rfl) | (simp (disch := first | assumption | (simp only [List.length_set]; assumption)) only [go_sem,Nat.reduceAdd,Nat.reduceMul,Nat.reduceSub,Nat.reduceEqDiff,↓reduceIte,Nat.reduceLT,reduceCtorEq,Nat.reduceLeDiff,Int.reduceToNat,Int.reduceEq,Int.reduceLE,Int.reduceLT,Nat.reduceBEq,hl22,ht22,hl24,ht24,hl31,ht31]; simp only [List.length_append,List.length_cons,List.length_nil,List.length_map,List.length_set,List.length_replicate,Nat.zero_add,Nat.reduceAdd]; rfl)) (FitAll.refl _) (.inl (by first | rfl | (simp (disch := first | assumption | (simp only [List.length_set]; assumption)) only [go_sem,Nat.reduceAdd,Nat.reduceMul,Nat.reduceSub,Nat.reduceEqDiff,↓reduceIte,Nat.reduceLT,reduceCtorEq,Nat.reduceLeDiff,Int.reduceToNat,Int.reduceEq,Int.reduceLE,Int.reduceLT,Nat.reduceBEq,hl22,ht22,hl24,ht24,hl31,ht31]; done))) ?_
           try simp (disch := first | assumption | (simp only [List.length_set]; assumption)) only [go_sem,Nat.reduceAdd,Nat.reduceMul,Nat.reduceSub,Nat.reduceEqDiff,↓reduceIte,Nat.reduceLT,reduceCtorEq,Nat.reduceLeDiff,Int.reduceToNat,Int.reduceEq,Int.reduceLE,Int.reduceLT,Nat.reduceBEq,hl22,ht22,hl24,ht24,hl31,ht31]
           obtain ⟨c483,hr37,h⟩ := bind_ok h
           refine Cl_shown (w_impl_HearWord hr37) (by first | rfl | (simp (disch := first | assumption | (simp only [List.length_set]; assumption)) only [go_sem,Nat.reduceAdd,Nat.reduceMul,Nat.reduceSub,Nat.reduceEqDiff,↓reduceIte,Nat.reduceLT,reduceCtorEq,Nat.reduceLeDiff,Int.reduceToNat,Int.reduceEq,Int.reduceLE,Int.reduceLT,Nat.reduceBEq,hl22,ht22,hl24,ht24,hl31,ht31]; first | done | rfl) | (simp only [List.length_append,List.length_cons,List.length_nil,List.length_map,List.length_set,List.length_replicate,Nat.zero_add,Nat.reduceAdd]; rfl) | (simp (disch := first | assumption | (simp only [List.length_set]; assumption)) only [go_sem,Nat.reduceAdd,Nat.reduceMul,Nat.reduceSub,Nat.reduceEqDiff,↓reduceIte,Nat.reduceLT,reduceCtorEq,Nat.reduceLeDiff,Int.reduceToNat,Int.reduceEq,Int.reduceLE,Int.reduceLT,Nat.reduceBEq,hl22,ht22,hl24,ht24,hl31,ht31]; simp only [List.length_append,List.length_cons,List.length_nil,List.length_map,List.length_set,List.length_replicate,Nat.zero_add,Nat.reduceAdd]; rfl)) (FitAll.refl _) (.inr ⟨rfl,by simp [freeOb,free1]⟩) ?_
           try simp (disch := first | assumption | (simp only [List.length_set]; assumption)) only [go_sem,Nat.reduceAdd,Nat.reduceMul,Nat.reduceSub,Nat.reduceEqDiff,↓reduceIte,Nat.reduceLT,reduceCtorEq,Nat.reduceLeDiff,Int.reduceToNat,Int.reduceEq,Int.reduceLE,Int.reduceLT,Nat.reduceBEq,hl22,ht22,hl24,ht24,hl31,ht31]
           obtain ⟨p485,hq38,h⟩ := bind_ok h
           refine Sq_cut (fun s2 => s2 = ⟨[(10,(.pb 0 0)),(13,(I c465.1)),(110,(B p485.t110))],[(0,some (true,.box [(I c422.1.Id),(I c422.1.Version),(.os 1 1 0 c465.2.length c422.1.Tellings.Branches.length false)])),(1,some (false,.deep [.sl [.sc,.sc,.sc,.sc]] (c465.2.map eBranch)))],2,119⟩) ?_ ?_
           ·try simp (disch := first | assumption | (simp only [List.length_set]; assumption)) only [go_sem,Nat.reduceAdd,Nat.reduceMul,Nat.reduceSub,Nat.reduceEqDiff,↓reduceIte,Nat.reduceLT,reduceCtorEq,Nat.reduceLeDiff,Int.reduceToNat,Int.reduceEq,Int.reduceLE,Int.reduceLT,Nat.reduceBEq,hl22,ht22,hl24,ht24,hl31,ht31]
            obtain ⟨c484,hr39,hq38⟩ := bind_ok hq38
            refine Cl_shown (w_laws_eqRegion hr39) (by first | rfl | (simp (disch := first | assumption | (simp only [List.length_set]; assumption)) only [go_sem,Nat.reduceAdd,Nat.reduceMul,Nat.reduceSub,Nat.reduceEqDiff,↓reduceIte,Nat.reduceLT,reduceCtorEq,Nat.reduceLeDiff,Int.reduceToNat,Int.reduceEq,Int.reduceLE,Int.reduceLT,Nat.reduceBEq,hl22,ht22,hl24,ht24,hl31,ht31]; first | done | rfl) | (simp only [List.length_append,List.length_cons,List.length_nil,List.length_map,List.length_set,List.length_replicate,Nat.zero_add,Nat.reduceAdd]; rfl) | (simp (disch := first | assumption | (simp only [List.length_set]; assumption)) only [go_sem,Nat.reduceAdd,Nat.reduceMul,Nat.reduceSub,Nat.reduceEqDiff,↓reduceIte,Nat.reduceLT,reduceCtorEq,Nat.reduceLeDiff,Int.reduceToNat,Int.reduceEq,Int.reduceLE,Int.reduceLT,Nat.reduceBEq,hl22,ht22,hl24,ht24,hl31,ht31]; simp only [List.length_append,List.length_cons,List.length_nil,List.length_map,List.length_set,List.length_replicate,Nat.zero_add,Nat.reduceAdd]; rfl)) (FitAll.refl _) (.inr ⟨rfl,by simp [freeOb,free1]⟩) ?_
            try simp (disch := first | assumption | (simp only [List.length_set]; assumption)) only [go_sem,Nat.reduceAdd,Nat.reduceMul,Nat.reduceSub,Nat.reduceEqDiff,↓reduceIte,Nat.reduceLT,reduceCtorEq,Nat.reduceLeDiff,Int.reduceToNat,Int.reduceEq,Int.reduceLE,Int.reduceLT,Nat.reduceBEq,hl22,ht22,hl24,ht24,hl31,ht31]
            refine Sp_if hq38 (fun hq38 hc40 => ?_) (fun hq38 hc40 => ?_)
            ·try simp (disch := first | assumption | (simp only [List.length_set]; assumption)) only [go_sem,Nat.reduceAdd,Nat.reduceMul,Nat.reduceSub,Nat.reduceEqDiff,↓reduceIte,Nat.reduceLT,reduceCtorEq,Nat.reduceLeDiff,Int.reduceToNat,Int.reduceEq,Int.reduceLE,Int.reduceLT,Nat.reduceBEq,hl22,ht22,hl24,ht24,hl31,ht31]
             cases hq38
             refine X_cut rfl ?_
             refine weak_of (m := 0) [some 3,some 5] rfl rfl rfl (by rfl) ?_ ?_
             all_goals ((try simp (disch := first | assumption | (simp only [List.length_set]; assumption)) only [go_sem,Nat.reduceAdd,Nat.reduceMul,Nat.reduceSub,Nat.reduceEqDiff,↓reduceIte,Nat.reduceLT,reduceCtorEq,Nat.reduceLeDiff,Int.reduceToNat,Int.reduceEq,Int.reduceLE,Int.reduceLT,Nat.reduceBEq,hl22,ht22,hl24,ht24,hl31,ht31]); (repeat' first | done | rfl | omega | refine And.intro ?_ ?_ | (simp; done) | (simp; omega)))
            ·try simp (disch := first | assumption | (simp only [List.length_set]; assumption)) only [go_sem,Nat.reduceAdd,Nat.reduceMul,Nat.reduceSub,Nat.reduceEqDiff,↓reduceIte,Nat.reduceLT,reduceCtorEq,Nat.reduceLeDiff,Int.reduceToNat,Int.reduceEq,Int.reduceLE,Int.reduceLT,Nat.reduceBEq,hl22,ht22,hl24,ht24,hl31,ht31]
             cases hq38
             refine X_cut rfl ?_
             refine weak_of (m := 0) [some 3,some 5] rfl rfl rfl (by rfl) ?_ ?_
             all_goals ((try simp (disch := first | assumption | (simp only [List.length_set]; assumption)) only [go_sem,Nat.reduceAdd,Nat.reduceMul,Nat.reduceSub,Nat.reduceEqDiff,↓reduceIte,Nat.reduceLT,reduceCtorEq,Nat.reduceLeDiff,Int.reduceToNat,Int.reduceEq,Int.reduceLE,Int.reduceLT,Nat.reduceBEq,hl22,ht22,hl24,ht24,hl31,ht31]); (repeat' first | done | rfl | omega | refine And.intro ?_ ?_ | (simp; done) | (simp; omega)))
           ·intro s2 hJ; subst hJ
            try dsimp only at h
            try simp (disch := first | assumption | (simp only [List.length_set]; assumption)) only [go_sem,Nat.reduceAdd,Nat.reduceMul,Nat.reduceSub,Nat.reduceEqDiff,↓reduceIte,Nat.reduceLT,reduceCtorEq,Nat.reduceLeDiff,Int.reduceToNat,Int.reduceEq,Int.reduceLE,Int.reduceLT,Nat.reduceBEq,hl22,ht22,hl24,ht24,hl31,ht31]
            refine Bs_if h (fun h hc41 => ?_) (fun h hc41 => ?_)
            ·try simp (disch := first | assumption | (simp only [List.length_set]; assumption)) only [go_sem,Nat.reduceAdd,Nat.reduceMul,Nat.reduceSub,Nat.reduceEqDiff,↓reduceIte,Nat.reduceLT,reduceCtorEq,Nat.reduceLeDiff,Int.reduceToNat,Int.reduceEq,Int.reduceLE,Int.reduceLT,Nat.reduceBEq,hl22,ht22,hl24,ht24,hl31,ht31]
             obtain rfl:=Option.some.inj h
             refine ends_weak ⟨[(4,(B false))],[],0,119⟩ (weak_of (m := 0) [] rfl rfl rfl (by rfl) ?_ ?_) ?_
             all_goals ((try simp (disch := first | assumption | (simp only [List.length_set]; assumption)) only [go_sem,Nat.reduceAdd,Nat.reduceMul,Nat.reduceSub,Nat.reduceEqDiff,↓reduceIte,Nat.reduceLT,reduceCtorEq,Nat.reduceLeDiff,Int.reduceToNat,Int.reduceEq,Int.reduceLE,Int.reduceLT,Nat.reduceBEq,hl22,ht22,hl24,ht24,hl31,ht31]); (repeat' first | done | rfl | omega | refine And.intro ?_ ?_ | (simp; done) | (simp; omega)))
            ·try simp (disch := first | assumption | (simp only [List.length_set]; assumption)) only [go_sem,Nat.reduceAdd,Nat.reduceMul,Nat.reduceSub,Nat.reduceEqDiff,↓reduceIte,Nat.reduceLT,reduceCtorEq,Nat.reduceLeDiff,Int.reduceToNat,Int.reduceEq,Int.reduceLE,Int.reduceLT,Nat.reduceBEq,hl22,ht22,hl24,ht24,hl31,ht31]
             obtain ⟨c486,hr42,h⟩ := bind_ok h
             refine Cl_shown (w_laws_heldRegion hr42) (by first | rfl | (simp (disch := first | assumption | (simp only [List.length_set]; assumption)) only [go_sem,Nat.reduceAdd,Nat.reduceMul,Nat.reduceSub,Nat.reduceEqDiff,↓reduceIte,Nat.reduceLT,reduceCtorEq,Nat.reduceLeDiff,Int.reduceToNat,Int.reduceEq,Int.reduceLE,Int.reduceLT,Nat.reduceBEq,hl22,ht22,hl24,ht24,hl31,ht31]; first | done | rfl) | (simp only [List.length_append,List.length_cons,List.length_nil,List.length_map,List.length_set,List.length_replicate,Nat.zero_add,Nat.reduceAdd]; rfl) | (simp (disch := first | assumption | (simp only [List.length_set]; assumption)) only [go_sem,Nat.reduceAdd,Nat.reduceMul,Nat.reduceSub,Nat.reduceEqDiff,↓reduceIte,Nat.reduceLT,reduceCtorEq,Nat.reduceLeDiff,Int.reduceToNat,Int.reduceEq,Int.reduceLE,Int.reduceLT,Nat.reduceBEq,hl22,ht22,hl24,ht24,hl31,ht31]; simp only [List.length_append,List.length_cons,List.length_nil,List.length_map,List.length_set,List.length_replicate,Nat.zero_add,Nat.reduceAdd]; rfl)) (FitAll.refl _) (.inr ⟨rfl,by simp [freeOb,free1]⟩) ?_
             try simp (disch := first | assumption | (simp only [List.length_set]; assumption)) only [go_sem,Nat.reduceAdd,Nat.reduceMul,Nat.reduceSub,Nat.reduceEqDiff,↓reduceIte,Nat.reduceLT,reduceCtorEq,Nat.reduceLeDiff,Int.reduceToNat,Int.reduceEq,Int.reduceLE,Int.reduceLT,Nat.reduceBEq,hl22,ht22,hl24,ht24,hl31,ht31]
             refine Bs_if h (fun h hc43 => ?_) (fun h hc43 => ?_)
             ·try simp (disch := first | assumption | (simp only [List.length_set]; assumption)) only [go_sem,Nat.reduceAdd,Nat.reduceMul,Nat.reduceSub,Nat.reduceEqDiff,↓reduceIte,Nat.reduceLT,reduceCtorEq,Nat.reduceLeDiff,Int.reduceToNat,Int.reduceEq,Int.reduceLE,Int.reduceLT,Nat.reduceBEq,hl22,ht22,hl24,ht24,hl31,ht31]
              obtain rfl:=Option.some.inj h
              refine ends_weak ⟨[(4,(B false))],[],0,119⟩ (weak_of (m := 0) [] rfl rfl rfl (by rfl) ?_ ?_) ?_
              all_goals ((try simp (disch := first | assumption | (simp only [List.length_set]; assumption)) only [go_sem,Nat.reduceAdd,Nat.reduceMul,Nat.reduceSub,Nat.reduceEqDiff,↓reduceIte,Nat.reduceLT,reduceCtorEq,Nat.reduceLeDiff,Int.reduceToNat,Int.reduceEq,Int.reduceLE,Int.reduceLT,Nat.reduceBEq,hl22,ht22,hl24,ht24,hl31,ht31]); (repeat' first | done | rfl | omega | refine And.intro ?_ ?_ | (simp; done) | (simp; omega)))
             ·try simp (disch := first | assumption | (simp only [List.length_set]; assumption)) only [go_sem,Nat.reduceAdd,Nat.reduceMul,Nat.reduceSub,Nat.reduceEqDiff,↓reduceIte,Nat.reduceLT,reduceCtorEq,Nat.reduceLeDiff,Int.reduceToNat,Int.reduceEq,Int.reduceLE,Int.reduceLT,Nat.reduceBEq,hl22,ht22,hl24,ht24,hl31,ht31]
              refine Bs_if h (fun h hc44 => ?_) (fun h hc44 => ?_)
              ·try simp (disch := first | assumption | (simp only [List.length_set]; assumption)) only [go_sem,Nat.reduceAdd,Nat.reduceMul,Nat.reduceSub,Nat.reduceEqDiff,↓reduceIte,Nat.reduceLT,reduceCtorEq,Nat.reduceLeDiff,Int.reduceToNat,Int.reduceEq,Int.reduceLE,Int.reduceLT,Nat.reduceBEq,hl22,ht22,hl24,ht24,hl31,ht31]
               obtain rfl:=Option.some.inj h
               refine ends_weak ⟨[(4,(B false))],[],0,119⟩ (weak_of (m := 0) [] rfl rfl rfl (by rfl) ?_ ?_) ?_
               all_goals ((try simp (disch := first | assumption | (simp only [List.length_set]; assumption)) only [go_sem,Nat.reduceAdd,Nat.reduceMul,Nat.reduceSub,Nat.reduceEqDiff,↓reduceIte,Nat.reduceLT,reduceCtorEq,Nat.reduceLeDiff,Int.reduceToNat,Int.reduceEq,Int.reduceLE,Int.reduceLT,Nat.reduceBEq,hl22,ht22,hl24,ht24,hl31,ht31]); (repeat' first | done | rfl | omega | refine And.intro ?_ ?_ | (simp; done) | (simp; omega)))
              ·try simp (disch := first | assumption | (simp only [List.length_set]; assumption)) only [go_sem,Nat.reduceAdd,Nat.reduceMul,Nat.reduceSub,Nat.reduceEqDiff,↓reduceIte,Nat.reduceLT,reduceCtorEq,Nat.reduceLeDiff,Int.reduceToNat,Int.reduceEq,Int.reduceLE,Int.reduceLT,Nat.reduceBEq,hl22,ht22,hl24,ht24,hl31,ht31]
               obtain rfl:=Option.some.inj h
               refine ends_weak ⟨[(4,(B true))],[],0,119⟩ (weak_of (m := 0) [] rfl rfl rfl (by rfl) ?_ ?_) ?_
               all_goals ((try simp (disch := first | assumption | (simp only [List.length_set]; assumption)) only [go_sem,Nat.reduceAdd,Nat.reduceMul,Nat.reduceSub,Nat.reduceEqDiff,↓reduceIte,Nat.reduceLT,reduceCtorEq,Nat.reduceLeDiff,Int.reduceToNat,Int.reduceEq,Int.reduceLE,Int.reduceLT,Nat.reduceBEq,hl22,ht22,hl24,ht24,hl31,ht31]); (repeat' first | done | rfl | omega | refine And.intro ?_ ?_ | (simp; done) | (simp; omega)))
end Go.TL.YtjkeoippmlmfbaaGreatDoor

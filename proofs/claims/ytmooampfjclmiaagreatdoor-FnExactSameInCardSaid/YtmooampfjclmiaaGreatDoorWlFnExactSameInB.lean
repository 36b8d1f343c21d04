import Derived.Test.YtmooampfjclmiaaGreatDoorWlFnExactSameInA
set_option linter.unusedSimpArgs false
set_option linter.unusedVariables false
set_option linter.unusedVariables false
set_option linter.unusedSimpArgs false
set_option maxRecDepth 8000
set_option maxHeartbeats 0
namespace Go.TL.YtmooampfjclmiaaGreatDoor
open Go Go.Proofs Go.TL
theorem w_impl_GoodWorld {a0 : WorldT} {r : Bool} (h : impl_GoodWorld a0 = some r) : Fn Tryz.prog 17 [(.ag [(.lf true (.sl (a0.Regions.map eRegion))), (.lf true (.sl (a0.Line.map eSaid)))])] [] 0 (.lf false (.sc (.bool r))) [] 0 := by
  unfold impl_GoodWorld at h
  refine fn_code tab_ok mixed [(1000, [(1, 0)]), (1001, [(1, 0), (14, 0)]), (1002, [(2, 0)]), (1003, [(1, 0), (16, 0), (17, 0), (18, 0)]), (1004, [(1, 0), (16, 0), (17, 0), (18, 0), (19, 0)]), (1005, [(1, 0), (3, 0), (4, 0), (16, 0), (17, 0), (18, 0)]), (1006, [(1, 0), (16, 0), (17, 0), (18, 0), (31, 0)]), (1007, [(2, 0)]), (1008, [(1, 0), (16, 0), (17, 0), (18, 0)]), (1009, [(2, 0)]), (4001, []), (4006, [])] Tryz.func17 rfl rfl (by simp [Tryz.f17]) (by kernel_rfl) ?_
  simp only [Tryz.f17]
  refine sA ?_
  obtain ⟨p223, hq1, h⟩ := bind_ok h
  refine Sq_cut (fun s2 => s2 = ⟨[(1, (.pb 0 0)), (14, (.lf false (.sc (.bool p223.t14))))], [(0, some (true, .box [(.lf true (.sl (a0.Regions.map eRegion))), (.lf true (.sl (a0.Line.map eSaid)))]))], 1, 37⟩) ?_ ?_
  · try refine sA ?_
    refine Sp_if hq1 (fun hq1 hc2 => ?_) (fun hq1 hc2 => ?_)
    · try refine sA ?_
      cases hq1
      exact X_cut rfl (weakA [some 0])
    · try refine sA ?_
      cases hq1
      exact X_cut rfl (weakA [some 0])
  · intro s2 hJ; subst hJ
    try dsimp only at h
    try refine sA ?_
    refine Bs_if h (fun h hc3 => ?_) (fun h hc3 => ?_)
    · try refine sA ?_
      have he := Option.some.inj h
      subst he
      exact endsA ⟨[(2, (.lf false (.sc (.bool false))))], [], 0, 37⟩ []
    · try refine sA ?_
      obtain ⟨y391, hl4, h⟩ := bind_ok h
      refine W_loopP (fun g224 : impl_GoodWorld_G1 => ⟨[(1, (.pb 0 0)), (16, (.lf true (.sl (a0.Regions.map eRegion)))), (17, (.lf false (.sc (.int .i64 ((a0.Regions.length : Nat) : Int))))), (18, (.lf false (.sc (.int .i64 g224.t18))))], [(0, some (true, .box [(.lf true (.sl (a0.Regions.map eRegion))), (.lf true (.sl (a0.Line.map eSaid)))]))], 1, 37⟩) (impl_GoodWorld_L1 a0) _ _ hl4 (weakA [some 0]) ?_
      · intro n1 g224 z1 hs1 hk1
        unfold impl_GoodWorld_L1 at hs1
        try dsimp only at hs1
        refine sA ?_
        refine Bs_if hs1 (fun hs1 hc5 => ?_) (fun hs1 hc5 => ?_)
        · try refine sA ?_
          obtain ⟨hp6, hs1⟩ := guard_some hs1
          have hn6 : g224.t18.toNat < a0.Regions.length := by first | omega | (simp only [List.length_set, List.length_append, List.length_replicate, List.length_map]; omega)
          try refine sA ?_
          try refine andA ?_
          obtain ⟨p390, hq7, hs1⟩ := bind_ok hs1
          refine Sq_cut (fun s2 => s2 = ⟨[(1, (.pb 0 0)), (16, (.lf true (.sl (a0.Regions.map eRegion)))), (17, (.lf false (.sc (.int .i64 ((a0.Regions.length : Nat) : Int))))), (18, (.lf false (.sc (.int .i64 g224.t18)))), (31, (.lf false (.sc (.bool p390.t31))))], [(0, some (true, .box [(.lf true (.sl (a0.Regions.map eRegion))), (.lf true (.sl (a0.Line.map eSaid)))]))], 1, 37⟩) ?_ ?_
          · try refine sA ?_
            refine Sp_if hq7 (fun hq7 hc8 => ?_) (fun hq7 hc8 => ?_)
            · try refine sA ?_
              cases hq7
              exact X_cut rfl (weakA [some 0])
            · try refine sA ?_
              obtain ⟨c389, hr9, hq7⟩ := bind_ok hq7
              refine Cl_sA (w_impl_GoodRegion hr9) ?_
              try refine sA ?_
              cases hq7
              exact X_cut rfl (weakA [some 0])
          · intro s2 hJ; subst hJ
            try dsimp only at hs1
            try refine sA ?_
            refine Bs_if hs1 (fun hs1 hc10 => ?_) (fun hs1 hc10 => ?_)
            · try refine sA ?_
              cases hs1
              cases hk1
              try dsimp only at h
              try refine sA ?_
              have he := Option.some.inj h
              subst he
              exact endsA ⟨[(2, (.lf false (.sc (.bool false))))], [], 0, 37⟩ []
            · try refine sA ?_
              cases hs1
              exact X_backP hk1 (weakA [some 0])
        · try refine sA ?_
          cases hs1
          cases hk1
          try dsimp only at h
          try refine sA ?_
          obtain ⟨c405, hr11, h⟩ := bind_ok h
          refine Cl_sA (w_slices_ContainsFunc_impl_Said_impl_GoodWorld_c1 hr11) ?_
          try refine sA ?_
          have he := Option.some.inj h
          subst he
          exact endsA ⟨[(2, (.lf false (.sc (.bool (!c405)))))], [], 0, 37⟩ []
theorem w_impl_sameTellings_c1 {a0 : BranchT} {a1 : BranchT} {r : Bool} (h : impl_sameTellings_c1 a0 a1 = some r) : Fn Tryz.prog 75 [(.ag [(.lf true (.sl (a0.Events.map eEvent)))]), (.ag [(.lf true (.sl (a1.Events.map eEvent)))])] [] 0 (.lf false (.sc (.bool r))) [] 0 := by
  unfold impl_sameTellings_c1 at h
  refine fn_code tab_ok mixed [] Tryz.func75 rfl rfl (by simp [Tryz.f75]) (by kernel_rfl) ?_
  simp only [Tryz.f75]
  refine sA ?_
  obtain ⟨c408, hr1, h⟩ := bind_ok h
  refine Cl_sA (w_slices_Equal_impl_Event hr1) ?_
  try refine sA ?_
  have he := Option.some.inj h
  subst he
  exact endsA ⟨[(4, (.lf false (.sc (.bool c408))))], [], 0, 10⟩ []
theorem w_slices_EqualFunc_impl_Branch_impl_sameTellings_c1 {a0 : (List BranchT)} {a1 : (List BranchT)} {r : Bool} (h : slices_EqualFunc_impl_Branch_impl_sameTellings_c1 a0 a1 = some r) : Fn Tryz.prog 74 [(.lf true (.sl (a0.map eBranch))), (.lf true (.sl (a1.map eBranch))), (.fn 75 [])] [] 0 (.lf false (.sc (.bool r))) [] 0 := by
  unfold slices_EqualFunc_impl_Branch_impl_sameTellings_c1 at h
  refine fn_code tab_ok mixed [(1000, [(0, 0), (1, 0), (2, 0)]), (1001, [(0, 0), (1, 0), (2, 0), (14, 0)]), (1002, [(6, 0)]), (1003, [(1, 0), (2, 0), (15, 0), (16, 0), (17, 0)]), (1004, [(1, 0), (2, 0), (15, 0), (16, 0), (17, 0), (18, 0)]), (1005, [(1, 0), (2, 0), (7, 0), (8, 0), (15, 0), (16, 0), (17, 0)]), (1006, [(1, 0), (2, 0), (8, 0), (9, 0), (15, 0), (16, 0), (17, 0)]), (1007, [(1, 0), (2, 0), (15, 0), (16, 0), (17, 0), (30, 0)]), (1008, [(6, 0)]), (1009, [(1, 0), (2, 0), (15, 0), (16, 0), (17, 0)]), (1010, [(6, 0)])] Tryz.func74 rfl rfl (by simp [Tryz.f74]) (by kernel_rfl) ?_
  simp only [Tryz.f74]
  refine sA ?_
  refine Bs_if h (fun h hc1 => ?_) (fun h hc1 => ?_)
  · try refine sA ?_
    have he := Option.some.inj h
    subst he
    exact endsA ⟨[(6, (.lf false (.sc (.bool false))))], [], 0, 32⟩ []
  · try refine sA ?_
    obtain ⟨y411, hl2, h⟩ := bind_ok h
    refine W_loopP (fun g407 : slices_EqualFunc_impl_Branch_impl_sameTellings_c1_G1 => ⟨[(1, (.lf true (.sl (a1.map eBranch)))), (2, (.fn 75 [])), (15, (.lf true (.sl (a0.map eBranch)))), (16, (.lf false (.sc (.int .i64 ((a0.length : Nat) : Int))))), (17, (.lf false (.sc (.int .i64 g407.t17))))], [], 0, 32⟩) (slices_EqualFunc_impl_Branch_impl_sameTellings_c1_L1 a0 a1) _ _ hl2 (weakA []) ?_
    · intro n1 g407 z1 hs1 hk1
      unfold slices_EqualFunc_impl_Branch_impl_sameTellings_c1_L1 at hs1
      try dsimp only at hs1
      refine sA ?_
      refine Bs_if hs1 (fun hs1 hc3 => ?_) (fun hs1 hc3 => ?_)
      · try refine sA ?_
        obtain ⟨hp4, hs1⟩ := guard_some hs1
        have hn4 : g407.t17.toNat < a0.length := by first | omega | (simp only [List.length_set, List.length_append, List.length_replicate, List.length_map]; omega)
        try refine sA ?_
        try refine andA ?_
        obtain ⟨hp5, hs1⟩ := guard_some hs1
        have hn5 : g407.t17.toNat < a1.length := by first | omega | (simp only [List.length_set, List.length_append, List.length_replicate, List.length_map]; omega)
        try refine sA ?_
        try refine andA ?_
        obtain ⟨c410, hr6, hs1⟩ := bind_ok hs1
        refine Cl_sA (w_impl_sameTellings_c1 hr6) ?_
        try refine sA ?_
        refine Bs_if hs1 (fun hs1 hc7 => ?_) (fun hs1 hc7 => ?_)
        · try refine sA ?_
          cases hs1
          cases hk1
          try dsimp only at h
          try refine sA ?_
          have he := Option.some.inj h
          subst he
          exact endsA ⟨[(6, (.lf false (.sc (.bool false))))], [], 0, 32⟩ []
        · try refine sA ?_
          cases hs1
          exact X_backP hk1 (weakA [])
      · try refine sA ?_
        cases hs1
        cases hk1
        try dsimp only at h
        try refine sA ?_
        have he := Option.some.inj h
        subst he
        exact endsA ⟨[(6, (.lf false (.sc (.bool true))))], [], 0, 32⟩ []
theorem w_impl_sameTellings {a0 : TellingsT} {a1 : TellingsT} {r : Bool} (h : impl_sameTellings a0 a1 = some r) : Fn Tryz.prog 60 [(.ag [(.lf true (.sl (a0.Branches.map eBranch)))]), (.ag [(.lf true (.sl (a1.Branches.map eBranch)))])] [] 0 (.lf false (.sc (.bool r))) [] 0 := by
  unfold impl_sameTellings at h
  refine fn_code tab_ok mixed [] Tryz.func60 rfl rfl (by simp [Tryz.f60]) (by kernel_rfl) ?_
  simp only [Tryz.f60]
  refine sA ?_
  obtain ⟨c414, hr1, h⟩ := bind_ok h
  refine Cl_sA (w_slices_EqualFunc_impl_Branch_impl_sameTellings_c1 hr1) ?_
  try refine sA ?_
  have he := Option.some.inj h
  subst he
  exact endsA ⟨[(4, (.lf false (.sc (.bool c414))))], [], 0, 10⟩ []
theorem w_impl_sameWord_rr {a0 : RegionT} {a1 : RegionT} {r : Bool} (h : impl_sameWord_rr a0 a1 = some r) : Fn Tryz.prog 41 [(.ra true [.sc (.int .i64 a0.Id), .sc (.int .i64 a0.Version), .sl (a0.Tellings.Branches.map eBranch)]), (.ra true [.sc (.int .i64 a1.Id), .sc (.int .i64 a1.Version), .sl (a1.Tellings.Branches.map eBranch)])] [] 0 (.lf false (.sc (.bool r))) [] 0 := by
  unfold impl_sameWord_rr at h
  refine fn_code tab_ok mixed [] Tryz.func41 rfl rfl (by simp [Tryz.f41]) (by kernel_rfl) ?_
  simp only [Tryz.f41]
  refine sA ?_
  refine Sp_if h (fun h hc1 => ?_) (fun h hc1 => ?_)
  · try refine sA ?_
    obtain ⟨c415, hr2, h⟩ := bind_ok h
    refine Cl_sA (w_impl_sameTellings hr2) ?_
    try refine sA ?_
    have he := Option.some.inj h
    subst he
    exact endsA ⟨[(4, (.lf false (.sc (.bool c415))))], [], 0, 25⟩ []
  · try refine sA ?_
    have he := Option.some.inj h
    subst he
    exact endsA ⟨[(4, (.lf false (.sc (.bool false))))], [], 0, 25⟩ []
theorem w_impl_SameIn {a0 : WorldT} {r : (Bool × Bool)} (h : impl_SameIn a0 = some r) : Fn Tryz.prog 20 [(.ag [(.lf true (.sl (a0.Regions.map eRegion))), (.lf true (.sl (a0.Line.map eSaid)))])] [] 0 (.tu [(.lf false (.sc (.bool r.1))), (.lf false (.sc (.bool r.2)))]) [] 0 := by
  unfold impl_SameIn at h
  refine fn_code tab_ok mixed [(1000, [(1, 0)]), (1001, [(1, 0), (6, 0)]), (1002, [(2, 0), (3, 0)]), (1003, [(2, 0), (3, 0)])] Tryz.func20 rfl rfl (by simp [Tryz.f20]) (by kernel_rfl) ?_
  simp only [Tryz.f20]
  refine sA ?_
  obtain ⟨c406, hr1, h⟩ := bind_ok h
  refine Cl_sA (w_impl_GoodWorld hr1) ?_
  try refine sA ?_
  refine Bs_if h (fun h hc2 => ?_) (fun h hc2 => ?_)
  · try refine sA ?_
    have he := Option.some.inj h
    subst he
    exact endsA ⟨[(2, (.lf false (.sc (.bool false)))), (3, (.lf false (.sc (.bool false))))], [], 0, 14⟩ []
  · try refine sA ?_
    obtain ⟨hp3, h⟩ := guard_some h
    have hn3 : 0 < a0.Regions.length := by first | omega | (simp only [List.length_set, List.length_append, List.length_replicate, List.length_map]; omega)
    try refine sA ?_
    try refine andA ?_
    obtain ⟨hp4, h⟩ := guard_some h
    have hn4 : 1 < a0.Regions.length := by first | omega | (simp only [List.length_set, List.length_append, List.length_replicate, List.length_map]; omega)
    try refine sA ?_
    try refine andA ?_
    obtain ⟨c416, hr5, h⟩ := bind_ok h
    refine Cl_sA (w_impl_sameWord_rr hr5) ?_
    try refine sA ?_
    have he := Option.some.inj h
    subst he
    exact endsA ⟨[(2, (.lf false (.sc (.bool c416)))), (3, (.lf false (.sc (.bool true))))], [], 0, 14⟩ []
theorem w_laws_eqEvent {a0 : EventT} {a1 : EventT} {r : Bool} (h : laws_eqEvent a0 a1 = some r) : Fn Tryz.prog 92 [(.ag [(.lf false (.sc (.int .i64 a0.Id))), (.lf false (.sc (.int .i64 a0.Version))), (.lf false (.sc (.int .i64 a0.Kind))), (.lf false (.sc (.string a0.Name)))]), (.ag [(.lf false (.sc (.int .i64 a1.Id))), (.lf false (.sc (.int .i64 a1.Version))), (.lf false (.sc (.int .i64 a1.Kind))), (.lf false (.sc (.string a1.Name)))])] [] 0 (.lf false (.sc (.bool r))) [] 0 := by
  unfold laws_eqEvent at h
  refine fn_code tab_ok mixed [(1000, [(2, 0), (3, 0)]), (1001, [(2, 0), (3, 0), (9, 0)]), (1002, [(4, 0)]), (1003, [(2, 0), (3, 0), (14, 0)]), (1004, [(4, 0)]), (1005, [(2, 0), (3, 0), (19, 0)]), (1006, [(4, 0)]), (1007, [(24, 0)]), (1008, [(4, 0)]), (1009, [(4, 0)])] Tryz.func92 rfl rfl (by simp [Tryz.f92]) (by kernel_rfl) ?_
  simp only [Tryz.f92]
  refine sA ?_
  refine Bs_if h (fun h hc1 => ?_) (fun h hc1 => ?_)
  · try refine sA ?_
    have he := Option.some.inj h
    subst he
    exact endsA ⟨[(4, (.lf false (.sc (.bool false))))], [], 0, 25⟩ []
  · try refine sA ?_
    refine Bs_if h (fun h hc2 => ?_) (fun h hc2 => ?_)
    · try refine sA ?_
      have he := Option.some.inj h
      subst he
      exact endsA ⟨[(4, (.lf false (.sc (.bool false))))], [], 0, 25⟩ []
    · try refine sA ?_
      refine Bs_if h (fun h hc3 => ?_) (fun h hc3 => ?_)
      · try refine sA ?_
        have he := Option.some.inj h
        subst he
        exact endsA ⟨[(4, (.lf false (.sc (.bool false))))], [], 0, 25⟩ []
      · try refine sA ?_
        refine Bs_if h (fun h hc4 => ?_) (fun h hc4 => ?_)
        · try refine sA ?_
          have he := Option.some.inj h
          subst he
          exact endsA ⟨[(4, (.lf false (.sc (.bool false))))], [], 0, 25⟩ []
        · try refine sA ?_
          have he := Option.some.inj h
          subst he
          exact endsA ⟨[(4, (.lf false (.sc (.bool true))))], [], 0, 25⟩ []
theorem w_laws_eqEventS {a0 : (List EventT)} {a1 : (List EventT)} {r : Bool} (h : laws_eqEventS a0 a1 = some r) : Fn Tryz.prog 83 [(.lf true (.sl (a0.map eEvent))), (.lf true (.sl (a1.map eEvent)))] [] 0 (.lf false (.sc (.bool r))) [] 0 := by
  unfold laws_eqEventS at h
  refine fn_code tab_ok mixed [(1000, [(0, 0), (1, 0)]), (1001, [(0, 0), (1, 0), (10, 0)]), (1002, [(4, 0)]), (1003, [(0, 0), (1, 0), (5, 0)]), (1004, [(0, 0), (1, 0), (5, 0), (14, 0)]), (1005, [(0, 0), (1, 0), (5, 0)]), (1006, [(0, 0), (1, 0), (5, 0), (26, 0)]), (1007, [(4, 0)]), (1008, [(4, 0)])] Tryz.func83 rfl rfl (by simp [Tryz.f83]) (by kernel_rfl) ?_
  simp only [Tryz.f83]
  refine sA ?_
  refine Bs_if h (fun h hc1 => ?_) (fun h hc1 => ?_)
  · try refine sA ?_
    have he := Option.some.inj h
    subst he
    exact endsA ⟨[(4, (.lf false (.sc (.bool false))))], [], 0, 27⟩ []
  · try refine sA ?_
    obtain ⟨y425, hl2, h⟩ := bind_ok h
    refine W_loopP (fun g422 : laws_eqEventS_G1 => ⟨[(0, (.lf true (.sl (a0.map eEvent)))), (1, (.lf true (.sl (a1.map eEvent)))), (5, (.lf false (.sc (.int .i64 g422.t5))))], [], 0, 27⟩) (laws_eqEventS_L1 a0 a1) _ _ hl2 (weakA []) ?_
    · intro n1 g422 z1 hs1 hk1
      unfold laws_eqEventS_L1 at hs1
      try dsimp only at hs1
      refine sA ?_
      refine Bs_if hs1 (fun hs1 hc3 => ?_) (fun hs1 hc3 => ?_)
      · try refine sA ?_
        obtain ⟨hp4, hs1⟩ := guard_some hs1
        have hn4 : g422.t5.toNat < a0.length := by first | omega | (simp only [List.length_set, List.length_append, List.length_replicate, List.length_map]; omega)
        try refine sA ?_
        try refine andA ?_
        obtain ⟨hp5, hs1⟩ := guard_some hs1
        have hn5 : g422.t5.toNat < a1.length := by first | omega | (simp only [List.length_set, List.length_append, List.length_replicate, List.length_map]; omega)
        try refine sA ?_
        try refine andA ?_
        obtain ⟨c424, hr6, hs1⟩ := bind_ok hs1
        refine Cl_sA (w_laws_eqEvent hr6) ?_
        try refine sA ?_
        refine Bs_if hs1 (fun hs1 hc7 => ?_) (fun hs1 hc7 => ?_)
        · try refine sA ?_
          cases hs1
          cases hk1
          try dsimp only at h
          try refine sA ?_
          have he := Option.some.inj h
          subst he
          exact endsA ⟨[(4, (.lf false (.sc (.bool false))))], [], 0, 27⟩ []
        · try refine sA ?_
          cases hs1
          exact X_backP hk1 (weakA [])
      · try refine sA ?_
        cases hs1
        cases hk1
        try dsimp only at h
        try refine sA ?_
        have he := Option.some.inj h
        subst he
        exact endsA ⟨[(4, (.lf false (.sc (.bool true))))], [], 0, 27⟩ []
theorem w_laws_eqBranch {a0 : BranchT} {a1 : BranchT} {r : Bool} (h : laws_eqBranch a0 a1 = some r) : Fn Tryz.prog 70 [(.ag [(.lf true (.sl (a0.Events.map eEvent)))]), (.ag [(.lf true (.sl (a1.Events.map eEvent)))])] [] 0 (.lf false (.sc (.bool r))) [] 0 := by
  unfold laws_eqBranch at h
  refine fn_code tab_ok mixed [(1000, [(2, 0), (3, 0)]), (1001, [(10, 0)]), (1002, [(4, 0)]), (1003, [(4, 0)])] Tryz.func70 rfl rfl (by simp [Tryz.f70]) (by kernel_rfl) ?_
  simp only [Tryz.f70]
  refine sA ?_
  obtain ⟨c428, hr1, h⟩ := bind_ok h
  refine Cl_sA (w_laws_eqEventS hr1) ?_
  try refine sA ?_
  refine Bs_if h (fun h hc2 => ?_) (fun h hc2 => ?_)
  · try refine sA ?_
    have he := Option.some.inj h
    subst he
    exact endsA ⟨[(4, (.lf false (.sc (.bool false))))], [], 0, 11⟩ []
  · try refine sA ?_
    have he := Option.some.inj h
    subst he
    exact endsA ⟨[(4, (.lf false (.sc (.bool true))))], [], 0, 11⟩ []
theorem w_laws_eqBranchS {a0 : (List BranchT)} {a1 : (List BranchT)} {r : Bool} (h : laws_eqBranchS a0 a1 = some r) : Fn Tryz.prog 54 [(.lf true (.sl (a0.map eBranch))), (.lf true (.sl (a1.map eBranch)))] [] 0 (.lf false (.sc (.bool r))) [] 0 := by
  unfold laws_eqBranchS at h
  refine fn_code tab_ok mixed [(1000, [(0, 0), (1, 0)]), (1001, [(0, 0), (1, 0), (10, 0)]), (1002, [(4, 0)]), (1003, [(0, 0), (1, 0), (5, 0)]), (1004, [(0, 0), (1, 0), (5, 0), (14, 0)]), (1005, [(0, 0), (1, 0), (5, 0)]), (1006, [(0, 0), (1, 0), (5, 0), (26, 0)]), (1007, [(4, 0)]), (1008, [(4, 0)])] Tryz.func54 rfl rfl (by simp [Tryz.f54]) (by kernel_rfl) ?_
  simp only [Tryz.f54]
  refine sA ?_
  refine Bs_if h (fun h hc1 => ?_) (fun h hc1 => ?_)
  · try refine sA ?_
    have he := Option.some.inj h
    subst he
    exact endsA ⟨[(4, (.lf false (.sc (.bool false))))], [], 0, 27⟩ []
  · try refine sA ?_
    obtain ⟨y431, hl2, h⟩ := bind_ok h
    refine W_loopP (fun g421 : laws_eqBranchS_G1 => ⟨[(0, (.lf true (.sl (a0.map eBranch)))), (1, (.lf true (.sl (a1.map eBranch)))), (5, (.lf false (.sc (.int .i64 g421.t5))))], [], 0, 27⟩) (laws_eqBranchS_L1 a0 a1) _ _ hl2 (weakA []) ?_
    · intro n1 g421 z1 hs1 hk1
      unfold laws_eqBranchS_L1 at hs1
      try dsimp only at hs1
      refine sA ?_
      refine Bs_if hs1 (fun hs1 hc3 => ?_) (fun hs1 hc3 => ?_)
      · try refine sA ?_
        obtain ⟨hp4, hs1⟩ := guard_some hs1
        have hn4 : g421.t5.toNat < a0.length := by first | omega | (simp only [List.length_set, List.length_append, List.length_replicate, List.length_map]; omega)
        try refine sA ?_
        try refine andA ?_
        obtain ⟨hp5, hs1⟩ := guard_some hs1
        have hn5 : g421.t5.toNat < a1.length := by first | omega | (simp only [List.length_set, List.length_append, List.length_replicate, List.length_map]; omega)
        try refine sA ?_
        try refine andA ?_
        obtain ⟨c430, hr6, hs1⟩ := bind_ok hs1
        refine Cl_sA (w_laws_eqBranch hr6) ?_
        try refine sA ?_
        refine Bs_if hs1 (fun hs1 hc7 => ?_) (fun hs1 hc7 => ?_)
        · try refine sA ?_
          cases hs1
          cases hk1
          try dsimp only at h
          try refine sA ?_
          have he := Option.some.inj h
          subst he
          exact endsA ⟨[(4, (.lf false (.sc (.bool false))))], [], 0, 27⟩ []
        · try refine sA ?_
          cases hs1
          exact X_backP hk1 (weakA [])
      · try refine sA ?_
        cases hs1
        cases hk1
        try dsimp only at h
        try refine sA ?_
        have he := Option.some.inj h
        subst he
        exact endsA ⟨[(4, (.lf false (.sc (.bool true))))], [], 0, 27⟩ []
theorem w_laws_eqTellings {a0 : TellingsT} {a1 : TellingsT} {r : Bool} (h : laws_eqTellings a0 a1 = some r) : Fn Tryz.prog 28 [(.ag [(.lf true (.sl (a0.Branches.map eBranch)))]), (.ag [(.lf true (.sl (a1.Branches.map eBranch)))])] [] 0 (.lf false (.sc (.bool r))) [] 0 := by
  unfold laws_eqTellings at h
  refine fn_code tab_ok mixed [(1000, [(2, 0), (3, 0)]), (1001, [(10, 0)]), (1002, [(4, 0)]), (1003, [(4, 0)])] Tryz.func28 rfl rfl (by simp [Tryz.f28]) (by kernel_rfl) ?_
  simp only [Tryz.f28]
  refine sA ?_
  obtain ⟨c434, hr1, h⟩ := bind_ok h
  refine Cl_sA (w_laws_eqBranchS hr1) ?_
  try refine sA ?_
  refine Bs_if h (fun h hc2 => ?_) (fun h hc2 => ?_)
  · try refine sA ?_
    have he := Option.some.inj h
    subst he
    exact endsA ⟨[(4, (.lf false (.sc (.bool false))))], [], 0, 11⟩ []
  · try refine sA ?_
    have he := Option.some.inj h
    subst he
    exact endsA ⟨[(4, (.lf false (.sc (.bool true))))], [], 0, 11⟩ []
theorem w_laws_eqRegion {a0 : RegionT} {a1 : RegionT} {r : Bool} (h : laws_eqRegion a0 a1 = some r) : Fn Tryz.prog 11 [(.ag [(.lf false (.sc (.int .i64 a0.Id))), (.lf false (.sc (.int .i64 a0.Version))), (.lf true (.sl (a0.Tellings.Branches.map eBranch)))]), (.ag [(.lf false (.sc (.int .i64 a1.Id))), (.lf false (.sc (.int .i64 a1.Version))), (.lf true (.sl (a1.Tellings.Branches.map eBranch)))])] [] 0 (.lf false (.sc (.bool r))) [] 0 := by
  unfold laws_eqRegion at h
  refine fn_code tab_ok mixed [(1000, [(2, 0), (3, 0)]), (1001, [(2, 0), (3, 0), (9, 0)]), (1002, [(4, 0)]), (1003, [(2, 0), (3, 0), (14, 0)]), (1004, [(4, 0)]), (1005, [(20, 0)]), (1006, [(4, 0)]), (1007, [(4, 0)])] Tryz.func11 rfl rfl (by simp [Tryz.f11]) (by kernel_rfl) ?_
  simp only [Tryz.f11]
  refine sA ?_
  refine Bs_if h (fun h hc1 => ?_) (fun h hc1 => ?_)
  · try refine sA ?_
    have he := Option.some.inj h
    subst he
    exact endsA ⟨[(4, (.lf false (.sc (.bool false))))], [], 0, 21⟩ []
  · try refine sA ?_
    refine Bs_if h (fun h hc2 => ?_) (fun h hc2 => ?_)
    · try refine sA ?_
      have he := Option.some.inj h
      subst he
      exact endsA ⟨[(4, (.lf false (.sc (.bool false))))], [], 0, 21⟩ []
    · try refine sA ?_
      obtain ⟨c435, hr3, h⟩ := bind_ok h
      refine Cl_sA (w_laws_eqTellings hr3) ?_
      try refine sA ?_
      refine Bs_if h (fun h hc4 => ?_) (fun h hc4 => ?_)
      · try refine sA ?_
        have he := Option.some.inj h
        subst he
        exact endsA ⟨[(4, (.lf false (.sc (.bool false))))], [], 0, 21⟩ []
      · try refine sA ?_
        have he := Option.some.inj h
        subst he
        exact endsA ⟨[(4, (.lf false (.sc (.bool true))))], [], 0, 21⟩ []
theorem w_laws_eqRegionS {a0 : (List RegionT)} {a1 : (List RegionT)} {r : Bool} (h : laws_eqRegionS a0 a1 = some r) : Fn Tryz.prog 38 [(.lf true (.sl (a0.map eRegion))), (.lf true (.sl (a1.map eRegion)))] [] 0 (.lf false (.sc (.bool r))) [] 0 := by
  unfold laws_eqRegionS at h
  refine fn_code tab_ok mixed [(1000, [(0, 0), (1, 0)]), (1001, [(0, 0), (1, 0), (10, 0)]), (1002, [(4, 0)]), (1003, [(0, 0), (1, 0), (5, 0)]), (1004, [(0, 0), (1, 0), (5, 0), (14, 0)]), (1005, [(0, 0), (1, 0), (5, 0)]), (1006, [(0, 0), (1, 0), (5, 0), (26, 0)]), (1007, [(4, 0)]), (1008, [(4, 0)])] Tryz.func38 rfl rfl (by simp [Tryz.f38]) (by kernel_rfl) ?_
  simp only [Tryz.f38]
  refine sA ?_
  refine Bs_if h (fun h hc1 => ?_) (fun h hc1 => ?_)
  · try refine sA ?_
    have he := Option.some.inj h
    subst he
    exact endsA ⟨[(4, (.lf false (.sc (.bool false))))], [], 0, 27⟩ []
  · try refine sA ?_
    obtain ⟨y438, hl2, h⟩ := bind_ok h
    refine W_loopP (fun g420 : laws_eqRegionS_G1 => ⟨[(0, (.lf true (.sl (a0.map eRegion)))), (1, (.lf true (.sl (a1.map eRegion)))), (5, (.lf false (.sc (.int .i64 g420.t5))))], [], 0, 27⟩) (laws_eqRegionS_L1 a0 a1) _ _ hl2 (weakA []) ?_
    · intro n1 g420 z1 hs1 hk1
      unfold laws_eqRegionS_L1 at hs1
      try dsimp only at hs1
      refine sA ?_
      refine Bs_if hs1 (fun hs1 hc3 => ?_) (fun hs1 hc3 => ?_)
      · try refine sA ?_
        obtain ⟨hp4, hs1⟩ := guard_some hs1
        have hn4 : g420.t5.toNat < a0.length := by first | omega | (simp only [List.length_set, List.length_append, List.length_replicate, List.length_map]; omega)
        try refine sA ?_
        try refine andA ?_
        obtain ⟨hp5, hs1⟩ := guard_some hs1
        have hn5 : g420.t5.toNat < a1.length := by first | omega | (simp only [List.length_set, List.length_append, List.length_replicate, List.length_map]; omega)
        try refine sA ?_
        try refine andA ?_
        obtain ⟨c437, hr6, hs1⟩ := bind_ok hs1
        refine Cl_sA (w_laws_eqRegion hr6) ?_
        try refine sA ?_
        refine Bs_if hs1 (fun hs1 hc7 => ?_) (fun hs1 hc7 => ?_)
        · try refine sA ?_
          cases hs1
          cases hk1
          try dsimp only at h
          try refine sA ?_
          have he := Option.some.inj h
          subst he
          exact endsA ⟨[(4, (.lf false (.sc (.bool false))))], [], 0, 27⟩ []
        · try refine sA ?_
          cases hs1
          exact X_backP hk1 (weakA [])
      · try refine sA ?_
        cases hs1
        cases hk1
        try dsimp only at h
        try refine sA ?_
        have he := Option.some.inj h
        subst he
        exact endsA ⟨[(4, (.lf false (.sc (.bool true))))], [], 0, 27⟩ []
theorem w_laws_eqWord {a0 : WordT} {a1 : WordT} {r : Bool} (h : laws_eqWord a0 a1 = some r) : Fn Tryz.prog 73 [(.ag [(.lf false (.sc (.int .i64 a0.Version))), (.lf true (.sl (a0.Tellings.Branches.map eBranch)))]), (.ag [(.lf false (.sc (.int .i64 a1.Version))), (.lf true (.sl (a1.Tellings.Branches.map eBranch)))])] [] 0 (.lf false (.sc (.bool r))) [] 0 := by
  unfold laws_eqWord at h
  refine fn_code tab_ok mixed [(1000, [(2, 0), (3, 0)]), (1001, [(2, 0), (3, 0), (9, 0)]), (1002, [(4, 0)]), (1003, [(15, 0)]), (1004, [(4, 0)]), (1005, [(4, 0)])] Tryz.func73 rfl rfl (by simp [Tryz.f73]) (by kernel_rfl) ?_
  simp only [Tryz.f73]
  refine sA ?_
  refine Bs_if h (fun h hc1 => ?_) (fun h hc1 => ?_)
  · try refine sA ?_
    have he := Option.some.inj h
    subst he
    exact endsA ⟨[(4, (.lf false (.sc (.bool false))))], [], 0, 16⟩ []
  · try refine sA ?_
    obtain ⟨c443, hr2, h⟩ := bind_ok h
    refine Cl_sA (w_laws_eqTellings hr2) ?_
    try refine sA ?_
    refine Bs_if h (fun h hc3 => ?_) (fun h hc3 => ?_)
    · try refine sA ?_
      have he := Option.some.inj h
      subst he
      exact endsA ⟨[(4, (.lf false (.sc (.bool false))))], [], 0, 16⟩ []
    · try refine sA ?_
      have he := Option.some.inj h
      subst he
      exact endsA ⟨[(4, (.lf false (.sc (.bool true))))], [], 0, 16⟩ []
theorem w_laws_eqSaid {a0 : SaidT} {a1 : SaidT} {r : Bool} (h : laws_eqSaid a0 a1 = some r) : Fn Tryz.prog 58 [(.ag [(.lf false (.sc (.int .i64 a0.To))), (.lf false (.sc (.int .i64 a0.Word.Version))), (.lf true (.sl (a0.Word.Tellings.Branches.map eBranch)))]), (.ag [(.lf false (.sc (.int .i64 a1.To))), (.lf false (.sc (.int .i64 a1.Word.Version))), (.lf true (.sl (a1.Word.Tellings.Branches.map eBranch)))])] [] 0 (.lf false (.sc (.bool r))) [] 0 := by
  unfold laws_eqSaid at h
  refine fn_code tab_ok mixed [(1000, [(2, 0), (3, 0)]), (1001, [(2, 0), (3, 0), (9, 0)]), (1002, [(4, 0)]), (1003, [(15, 0)]), (1004, [(4, 0)]), (1005, [(4, 0)])] Tryz.func58 rfl rfl (by simp [Tryz.f58]) (by kernel_rfl) ?_
  simp only [Tryz.f58]
  refine sA ?_
  refine Bs_if h (fun h hc1 => ?_) (fun h hc1 => ?_)
  · try refine sA ?_
    have he := Option.some.inj h
    subst he
    exact endsA ⟨[(4, (.lf false (.sc (.bool false))))], [], 0, 16⟩ []
  · try refine sA ?_
    obtain ⟨c444, hr2, h⟩ := bind_ok h
    refine Cl_sA (w_laws_eqWord hr2) ?_
    try refine sA ?_
    refine Bs_if h (fun h hc3 => ?_) (fun h hc3 => ?_)
    · try refine sA ?_
      have he := Option.some.inj h
      subst he
      exact endsA ⟨[(4, (.lf false (.sc (.bool false))))], [], 0, 16⟩ []
    · try refine sA ?_
      have he := Option.some.inj h
      subst he
      exact endsA ⟨[(4, (.lf false (.sc (.bool true))))], [], 0, 16⟩ []
theorem w_laws_eqSaidS {a0 : (List SaidT)} {a1 : (List SaidT)} {r : Bool} (h : laws_eqSaidS a0 a1 = some r) : Fn Tryz.prog 39 [(.lf true (.sl (a0.map eSaid))), (.lf true (.sl (a1.map eSaid)))] [] 0 (.lf false (.sc (.bool r))) [] 0 := by
  unfold laws_eqSaidS at h
  refine fn_code tab_ok mixed [(1000, [(0, 0), (1, 0)]), (1001, [(0, 0), (1, 0), (10, 0)]), (1002, [(4, 0)]), (1003, [(0, 0), (1, 0), (5, 0)]), (1004, [(0, 0), (1, 0), (5, 0), (14, 0)]), (1005, [(0, 0), (1, 0), (5, 0)]), (1006, [(0, 0), (1, 0), (5, 0), (26, 0)]), (1007, [(4, 0)]), (1008, [(4, 0)])] Tryz.func39 rfl rfl (by simp [Tryz.f39]) (by kernel_rfl) ?_
  simp only [Tryz.f39]
  refine sA ?_
  refine Bs_if h (fun h hc1 => ?_) (fun h hc1 => ?_)
  · try refine sA ?_
    have he := Option.some.inj h
    subst he
    exact endsA ⟨[(4, (.lf false (.sc (.bool false))))], [], 0, 27⟩ []
  · try refine sA ?_
    obtain ⟨y447, hl2, h⟩ := bind_ok h
    refine W_loopP (fun g442 : laws_eqSaidS_G1 => ⟨[(0, (.lf true (.sl (a0.map eSaid)))), (1, (.lf true (.sl (a1.map eSaid)))), (5, (.lf false (.sc (.int .i64 g442.t5))))], [], 0, 27⟩) (laws_eqSaidS_L1 a0 a1) _ _ hl2 (weakA []) ?_
    · intro n1 g442 z1 hs1 hk1
      unfold laws_eqSaidS_L1 at hs1
      try dsimp only at hs1
      refine sA ?_
      refine Bs_if hs1 (fun hs1 hc3 => ?_) (fun hs1 hc3 => ?_)
      · try refine sA ?_
        obtain ⟨hp4, hs1⟩ := guard_some hs1
        have hn4 : g442.t5.toNat < a0.length := by first | omega | (simp only [List.length_set, List.length_append, List.length_replicate, List.length_map]; omega)
        try refine sA ?_
        try refine andA ?_
        obtain ⟨hp5, hs1⟩ := guard_some hs1
        have hn5 : g442.t5.toNat < a1.length := by first | omega | (simp only [List.length_set, List.length_append, List.length_replicate, List.length_map]; omega)
        try refine sA ?_
        try refine andA ?_
        obtain ⟨c446, hr6, hs1⟩ := bind_ok hs1
        refine Cl_sA (w_laws_eqSaid hr6) ?_
        try refine sA ?_
        refine Bs_if hs1 (fun hs1 hc7 => ?_) (fun hs1 hc7 => ?_)
        · try refine sA ?_
          cases hs1
          cases hk1
          try dsimp only at h
          try refine sA ?_
          have he := Option.some.inj h
          subst he
          exact endsA ⟨[(4, (.lf false (.sc (.bool false))))], [], 0, 27⟩ []
        · try refine sA ?_
          cases hs1
          exact X_backP hk1 (weakA [])
      · try refine sA ?_
        cases hs1
        cases hk1
        try dsimp only at h
        try refine sA ?_
        have he := Option.some.inj h
        subst he
        exact endsA ⟨[(4, (.lf false (.sc (.bool true))))], [], 0, 27⟩ []
theorem w_laws_eqWorld {a0 : WorldT} {a1 : WorldT} {r : Bool} (h : laws_eqWorld a0 a1 = some r) : Fn Tryz.prog 18 [(.ag [(.lf true (.sl (a0.Regions.map eRegion))), (.lf true (.sl (a0.Line.map eSaid)))]), (.ag [(.lf true (.sl (a1.Regions.map eRegion))), (.lf true (.sl (a1.Line.map eSaid)))])] [] 0 (.lf false (.sc (.bool r))) [] 0 := by
  unfold laws_eqWorld at h
  refine fn_code tab_ok mixed [(1000, [(2, 0), (3, 0)]), (1001, [(2, 0), (3, 0), (10, 0)]), (1002, [(4, 0)]), (1003, [(16, 0)]), (1004, [(4, 0)]), (1005, [(4, 0)])] Tryz.func18 rfl rfl (by simp [Tryz.f18]) (by kernel_rfl) ?_
  simp only [Tryz.f18]
  refine sA ?_
  obtain ⟨c441, hr1, h⟩ := bind_ok h
  refine Cl_sA (w_laws_eqRegionS hr1) ?_
  try refine sA ?_
  refine Bs_if h (fun h hc2 => ?_) (fun h hc2 => ?_)
  · try refine sA ?_
    have he := Option.some.inj h
    subst he
    exact endsA ⟨[(4, (.lf false (.sc (.bool false))))], [], 0, 17⟩ []
  · try refine sA ?_
    obtain ⟨c450, hr3, h⟩ := bind_ok h
    refine Cl_sA (w_laws_eqSaidS hr3) ?_
    try refine sA ?_
    refine Bs_if h (fun h hc4 => ?_) (fun h hc4 => ?_)
    · try refine sA ?_
      have he := Option.some.inj h
      subst he
      exact endsA ⟨[(4, (.lf false (.sc (.bool false))))], [], 0, 17⟩ []
    · try refine sA ?_
      have he := Option.some.inj h
      subst he
      exact endsA ⟨[(4, (.lf false (.sc (.bool true))))], [], 0, 17⟩ []
theorem w_laws_FnExactSameIn {a0 : WorldT} {r : Bool} (h : laws_FnExactSameIn a0 = some r) : Fn Tryz.prog 6 [(.ag [(.lf true (.sl (a0.Regions.map eRegion))), (.lf true (.sl (a0.Line.map eSaid)))])] [] 0 (.lf false (.sc (.bool r))) [] 0 := by
  unfold laws_FnExactSameIn at h
  refine fn_code tab_ok mixed [(10, [(0, 2)]), (1000, [(1, 0)]), (1001, [(1, 0), (3, 0)]), (1002, [(1, 0), (3, 0)]), (1003, [(1, 0), (13, 0)]), (1004, [(2, 0)]), (1005, [(1, 0), (4, 0), (5, 0)]), (1006, [(1, 0), (4, 0), (5, 0), (6, 0)]), (1007, [(1, 0), (4, 0), (5, 0), (6, 0), (7, 0), (8, 0)]), (1008, [(1, 0), (6, 0), (34, 0)]), (1009, [(2, 0)]), (1010, [(39, 0)]), (1011, [(2, 0)]), (1012, [(2, 0)]), (4008, [])] Tryz.func6 rfl rfl (by simp [Tryz.f6]) (by kernel_rfl) ?_
  simp only [Tryz.f6]
  refine sA ?_
  obtain ⟨c32, hr1, h⟩ := bind_ok h
  refine Cl_sA (w_laws_szWorld hr1) ?_
  try refine sA ?_
  refine Bs_if h (fun h hc2 => ?_) (fun h hc2 => ?_)
  · try refine sA ?_
    have he := Option.some.inj h
    subst he
    exact endsA ⟨[(2, (.lf false (.sc (.bool true))))], [], 0, 40⟩ []
  · try refine sA ?_
    obtain ⟨c65, hr3, h⟩ := bind_ok h
    refine Cl_sA (w_laws_toWorld hr3) ?_
    try refine sA ?_
    obtain ⟨c221, hr4, h⟩ := bind_ok h
    refine Cl_sA (w_spec_SameIn hr4) ?_
    try refine sA ?_
    obtain ⟨c222, hr5, h⟩ := bind_ok h
    refine Cl_sA (w_laws_toWorld hr5) ?_
    try refine sA ?_
    obtain ⟨c417, hr6, h⟩ := bind_ok h
    refine Cl_sA (w_impl_SameIn hr6) ?_
    try refine sA ?_
    obtain ⟨p418, hq7, h⟩ := bind_ok h
    refine Sq_cut (fun s2 => s2 = ⟨[(1, (.pb 0 0)), (6, (.pb 1 0)), (34, (.lf false (.sc (.bool p418.t34))))], [(0, some (true, .box [(.lf true (.sl (a0.Regions.map eRegion))), (.lf true (.sl (a0.Line.map eSaid)))])), (1, some (true, .box [(.os 2 3 0 c222.Regions.length c222.Regions.length false), (.os 3 3 0 c222.Line.length c222.Line.length false)])), (2, some (true, .arr false 3 (c222.Regions.map eRegion))), (3, some (true, .arr false 3 (c222.Line.map eSaid)))], 4, 40⟩) ?_ ?_
    · try refine sA ?_
      refine Sp_if hq7 (fun hq7 hc8 => ?_) (fun hq7 hc8 => ?_)
      · try refine sA ?_
        cases hq7
        exact X_cut rfl (weakA [some 0, some 7, some 4, some 5])
      · try refine sA ?_
        cases hq7
        exact X_cut rfl (weakA [some 0, some 7, some 4, some 5])
    · intro s2 hJ; subst hJ
      try dsimp only at h
      try refine sA ?_
      refine Bs_if h (fun h hc9 => ?_) (fun h hc9 => ?_)
      · try refine sA ?_
        have he := Option.some.inj h
        subst he
        exact endsA ⟨[(2, (.lf false (.sc (.bool false))))], [], 0, 40⟩ []
      · try refine sA ?_
        obtain ⟨c419, hr10, h⟩ := bind_ok h
        refine Cl_sA (w_laws_toWorld hr10) ?_
        try refine sA ?_
        obtain ⟨c451, hr11, h⟩ := bind_ok h
        refine Cl_sA (w_laws_eqWorld hr11) ?_
        try refine sA ?_
        refine Bs_if h (fun h hc12 => ?_) (fun h hc12 => ?_)
        · try refine sA ?_
          have he := Option.some.inj h
          subst he
          exact endsA ⟨[(2, (.lf false (.sc (.bool false))))], [], 0, 40⟩ []
        · try refine sA ?_
          have he := Option.some.inj h
          subst he
          exact endsA ⟨[(2, (.lf false (.sc (.bool true))))], [], 0, 40⟩ []
end Go.TL.YtmooampfjclmiaaGreatDoor

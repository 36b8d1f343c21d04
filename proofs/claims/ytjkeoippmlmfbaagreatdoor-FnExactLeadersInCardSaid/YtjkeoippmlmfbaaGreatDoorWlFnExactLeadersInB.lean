import Derived.Test.YtjkeoippmlmfbaaGreatDoorWlFnExactLeadersInA
set_option linter.unusedSimpArgs false
set_option linter.unusedVariables false
set_option linter.unusedVariables false
set_option linter.unusedSimpArgs false
set_option maxRecDepth 8000
set_option maxHeartbeats 0
namespace Go.TL.YtjkeoippmlmfbaaGreatDoor
open Go Go.Proofs Go.TL
theorem w_impl_GoodWorld {a0 : WorldT} {r : Bool} (h : impl_GoodWorld a0 = some r) : Fn Tryz.prog 108 [(.ag [(.lf true (.sl (a0.Regions.map eRegion))), (.lf true (.sl (a0.Line.map eSaid)))])] [] 0 (.lf false (.sc (.bool r))) [] 0 := by
  unfold impl_GoodWorld at h
  refine fn_code tab_ok mixed [(1000, [(1, 0)]), (1001, [(1, 0), (14, 0)]), (1002, [(2, 0)]), (1003, [(1, 0), (16, 0), (17, 0), (18, 0)]), (1004, [(1, 0), (16, 0), (17, 0), (18, 0), (19, 0)]), (1005, [(1, 0), (3, 0), (4, 0), (16, 0), (17, 0), (18, 0)]), (1006, [(1, 0), (16, 0), (17, 0), (18, 0), (31, 0)]), (1007, [(2, 0)]), (1008, [(1, 0), (16, 0), (17, 0), (18, 0)]), (1009, [(2, 0)]), (4001, []), (4006, [])] Tryz.func108 rfl rfl (by simp [Tryz.f108]) (by kernel_rfl) ?_
  simp only [Tryz.f108]
  refine sA ?_
  obtain ⟨p216, hq1, h⟩ := bind_ok h
  refine Sq_cut (fun s2 => s2 = ⟨[(1, (.pb 0 0)), (14, (.lf false (.sc (.bool p216.t14))))], [(0, some (true, .box [(.lf true (.sl (a0.Regions.map eRegion))), (.lf true (.sl (a0.Line.map eSaid)))]))], 1, 37⟩) ?_ ?_
  · try refine sA ?_
    refine Sp_if hq1 (fun hq1 hc2 => ?_) (fun hq1 hc2 => ?_)
    · try refine sA ?_
      cases hq1
      exact X_cut rfl (weakA [some 0])
    · try refine sA ?_
      cases hq1
      exact X_cut rfl (weakA [some 0])
  · intro s2 hJ; subst hJ
    try dsimp only at h
    try refine sA ?_
    refine Bs_if h (fun h hc3 => ?_) (fun h hc3 => ?_)
    · try refine sA ?_
      have he := Option.some.inj h
      subst he
      exact endsA ⟨[(2, (.lf false (.sc (.bool false))))], [], 0, 37⟩ []
    · try refine sA ?_
      obtain ⟨y379, hl4, h⟩ := bind_ok h
      refine W_loopP (fun g217 : impl_GoodWorld_G1 => ⟨[(1, (.pb 0 0)), (16, (.lf true (.sl (a0.Regions.map eRegion)))), (17, (.lf false (.sc (.int .i64 ((a0.Regions.length : Nat) : Int))))), (18, (.lf false (.sc (.int .i64 g217.t18))))], [(0, some (true, .box [(.lf true (.sl (a0.Regions.map eRegion))), (.lf true (.sl (a0.Line.map eSaid)))]))], 1, 37⟩) (impl_GoodWorld_L1 a0) _ _ hl4 (weakA [some 0]) ?_
      · intro n1 g217 z1 hs1 hk1
        unfold impl_GoodWorld_L1 at hs1
        try dsimp only at hs1
        refine sA ?_
        refine Bs_if hs1 (fun hs1 hc5 => ?_) (fun hs1 hc5 => ?_)
        · try refine sA ?_
          obtain ⟨hp6, hs1⟩ := guard_some hs1
          have hn6 : g217.t18.toNat < a0.Regions.length := by first | omega | (simp only [List.length_set, List.length_append, List.length_replicate, List.length_map]; omega)
          try refine sA ?_
          try refine andA ?_
          obtain ⟨p378, hq7, hs1⟩ := bind_ok hs1
          refine Sq_cut (fun s2 => s2 = ⟨[(1, (.pb 0 0)), (16, (.lf true (.sl (a0.Regions.map eRegion)))), (17, (.lf false (.sc (.int .i64 ((a0.Regions.length : Nat) : Int))))), (18, (.lf false (.sc (.int .i64 g217.t18)))), (31, (.lf false (.sc (.bool p378.t31))))], [(0, some (true, .box [(.lf true (.sl (a0.Regions.map eRegion))), (.lf true (.sl (a0.Line.map eSaid)))]))], 1, 37⟩) ?_ ?_
          · try refine sA ?_
            refine Sp_if hq7 (fun hq7 hc8 => ?_) (fun hq7 hc8 => ?_)
            · try refine sA ?_
              cases hq7
              exact X_cut rfl (weakA [some 0])
            · try refine sA ?_
              obtain ⟨c377, hr9, hq7⟩ := bind_ok hq7
              refine Cl_sA (w_impl_GoodRegion hr9) ?_
              try refine sA ?_
              cases hq7
              exact X_cut rfl (weakA [some 0])
          · intro s2 hJ; subst hJ
            try dsimp only at hs1
            try refine sA ?_
            refine Bs_if hs1 (fun hs1 hc10 => ?_) (fun hs1 hc10 => ?_)
            · try refine sA ?_
              cases hs1
              cases hk1
              try dsimp only at h
              try refine sA ?_
              have he := Option.some.inj h
              subst he
              exact endsA ⟨[(2, (.lf false (.sc (.bool false))))], [], 0, 37⟩ []
            · try refine sA ?_
              cases hs1
              exact X_backP hk1 (weakA [some 0])
        · try refine sA ?_
          cases hs1
          cases hk1
          try dsimp only at h
          try refine sA ?_
          obtain ⟨c393, hr11, h⟩ := bind_ok h
          refine Cl_sA (w_slices_ContainsFunc_impl_Said_impl_GoodWorld_c1 hr11) ?_
          try refine sA ?_
          have he := Option.some.inj h
          subst he
          exact endsA ⟨[(2, (.lf false (.sc (.bool (!c393)))))], [], 0, 37⟩ []
theorem w_impl_Region_active_r {a0 : RegionT} {r : Bool} (h : impl_Region_active_r a0 = some r) : Fn Tryz.prog 109 [(.ra true [.sc (.int .i64 a0.Id), .sc (.int .i64 a0.Version), .sl (a0.Tellings.Branches.map eBranch)])] [] 0 (.lf false (.sc (.bool r))) [] 0 := by
  unfold impl_Region_active_r at h
  refine fn_code tab_ok mixed [] Tryz.func109 rfl rfl (by simp [Tryz.f109]) (by kernel_rfl) ?_
  simp only [Tryz.f109]
  refine sA ?_
  have he := Option.some.inj h
  subst he
  exact endsA ⟨[(2, (.lf false (.sc (.bool ((a0.Version.tmod 10) == a0.Id)))))], [], 0, 13⟩ []
theorem w_impl_LeadersIn {a0 : WorldT} {r : ((List Int) × Bool)} (h : impl_LeadersIn a0 = some r) : Fn Tryz.prog 43 [(.ag [(.lf true (.sl (a0.Regions.map eRegion))), (.lf true (.sl (a0.Line.map eSaid)))])] [] 0 (.tu [(.os 0 1 0 r.1.length r.1.length false), (.lf false (.sc (.bool r.2)))]) [(0, some (true, .arr false 1 (r.1.map eI)))] 1 := by
  unfold impl_LeadersIn at h
  refine fn_code tab_ok mixed [(1000, [(1, 0)]), (1001, [(1, 0), (8, 0)]), (1002, [(2, 0), (3, 0)]), (1003, [(1, 0), (4, 0)]), (1004, [(1, 0), (4, 0), (12, 0), (13, 0)]), (1005, [(1, 0), (4, 0), (12, 0), (13, 0), (14, 0)]), (1006, [(1, 0), (4, 0), (5, 0), (12, 0), (13, 0)]), (1007, [(1, 0), (4, 0), (5, 0), (12, 0), (13, 0), (20, 0)]), (1008, [(1, 0), (4, 0), (12, 0), (13, 0)]), (1009, [(1, 0), (4, 0), (12, 0), (13, 0)]), (1010, [(2, 0), (3, 0)])] Tryz.func43 rfl rfl (by simp [Tryz.f43]) (by kernel_rfl) ?_
  simp only [Tryz.f43]
  refine sA ?_
  obtain ⟨c394, hr1, h⟩ := bind_ok h
  refine Cl_sA (w_impl_GoodWorld hr1) ?_
  try refine sA ?_
  refine Bs_if h (fun h hc2 => ?_) (fun h hc2 => ?_)
  · try refine sA ?_
    have he := Option.some.inj h
    subst he
    exact endsA ⟨[(2, (.os 0 1 0 (([] : List Int).length) (([] : List Int).length) false)), (3, (.lf false (.sc (.bool false))))], [(0, some (true, .arr false 1 (([] : List Int).map eI)))], 1, 27⟩ [none]
  · try refine sA ?_
    obtain ⟨y398, hl3, h⟩ := bind_ok h
    refine W_loopP (fun g395 : impl_LeadersIn_G1 => ⟨[(1, (.pb 0 0)), (4, (.os 1 1 0 g395.c1.length g395.c1.length false)), (12, (.lf false (.sc (.int .i64 ((a0.Regions.length : Nat) : Int))))), (13, (.lf false (.sc (.int .i64 g395.t13))))], [(0, some (true, .box [(.lf true (.sl (a0.Regions.map eRegion))), (.lf true (.sl (a0.Line.map eSaid)))])), (1, some (true, .arr false 1 (g395.c1.map eI)))], 2, 27⟩) (impl_LeadersIn_L1 a0) _ _ hl3 (weakA [some 0, some 1]) ?_
    · intro n1 g395 z1 hs1 hk1
      unfold impl_LeadersIn_L1 at hs1
      try dsimp only at hs1
      refine sA ?_
      refine Bs_if hs1 (fun hs1 hc4 => ?_) (fun hs1 hc4 => ?_)
      · try refine sA ?_
        obtain ⟨hp5, hs1⟩ := guard_some hs1
        have hn5 : g395.t13.toNat < a0.Regions.length := by first | omega | (simp only [List.length_set, List.length_append, List.length_replicate, List.length_map]; omega)
        try refine sA ?_
        try refine andA ?_
        obtain ⟨c397, hr6, hs1⟩ := bind_ok hs1
        refine Cl_sA (w_impl_Region_active_r hr6) ?_
        try refine sA ?_
        refine Bs_if hs1 (fun hs1 hc7 => ?_) (fun hs1 hc7 => ?_)
        · try refine sA ?_
          obtain ⟨hp8, hs1⟩ := guard_some hs1
          try refine sA ?_
          try refine andA ?_
          cases hs1
          exact X_backP hk1 (weakA [some 0, some 3])
        · try refine sA ?_
          cases hs1
          exact X_backP hk1 (weakA [some 0, some 1])
      · try refine sA ?_
        cases hs1
        cases hk1
        try dsimp only at h
        try refine sA ?_
        have he := Option.some.inj h
        subst he
        exact endsA ⟨[(2, (.os 0 1 0 g395.c1.length g395.c1.length false)), (3, (.lf false (.sc (.bool true))))], [(0, some (true, .arr false 1 (g395.c1.map eI)))], 1, 27⟩ [some 1]
theorem w_laws_eqIntS {a0 : (List Int)} {a1 : (List Int)} {r : Bool} (h : laws_eqIntS a0 a1 = some r) : Fn Tryz.prog 44 [(.lf true (.sl (a0.map eI))), (.lf true (.sl (a1.map eI)))] [] 0 (.lf false (.sc (.bool r))) [] 0 := by
  unfold laws_eqIntS at h
  refine fn_code tab_ok mixed [(1000, [(0, 0), (1, 0)]), (1001, [(0, 0), (1, 0), (10, 0)]), (1002, [(4, 0)]), (1003, [(0, 0), (1, 0), (5, 0)]), (1004, [(0, 0), (1, 0), (5, 0), (14, 0)]), (1005, [(0, 0), (1, 0), (5, 0)]), (1006, [(0, 0), (1, 0), (5, 0), (25, 0)]), (1007, [(4, 0)]), (1008, [(4, 0)])] Tryz.func44 rfl rfl (by simp [Tryz.f44]) (by kernel_rfl) ?_
  simp only [Tryz.f44]
  refine sA ?_
  refine Bs_if h (fun h hc1 => ?_) (fun h hc1 => ?_)
  · try refine sA ?_
    have he := Option.some.inj h
    subst he
    exact endsA ⟨[(4, (.lf false (.sc (.bool false))))], [], 0, 26⟩ []
  · try refine sA ?_
    obtain ⟨y401, hl2, h⟩ := bind_ok h
    refine W_loopP (fun g400 : laws_eqIntS_G1 => ⟨[(0, (.lf true (.sl (a0.map eI)))), (1, (.lf true (.sl (a1.map eI)))), (5, (.lf false (.sc (.int .i64 g400.t5))))], [], 0, 26⟩) (laws_eqIntS_L1 a0 a1) _ _ hl2 (weakA []) ?_
    · intro n1 g400 z1 hs1 hk1
      unfold laws_eqIntS_L1 at hs1
      try dsimp only at hs1
      refine sA ?_
      refine Bs_if hs1 (fun hs1 hc3 => ?_) (fun hs1 hc3 => ?_)
      · try refine sA ?_
        obtain ⟨hp4, hs1⟩ := guard_some hs1
        have hn4 : g400.t5.toNat < a0.length := by first | omega | (simp only [List.length_set, List.length_append, List.length_replicate, List.length_map]; omega)
        try refine sA ?_
        try refine andA ?_
        obtain ⟨hp5, hs1⟩ := guard_some hs1
        have hn5 : g400.t5.toNat < a1.length := by first | omega | (simp only [List.length_set, List.length_append, List.length_replicate, List.length_map]; omega)
        try refine sA ?_
        try refine andA ?_
        refine Bs_if hs1 (fun hs1 hc6 => ?_) (fun hs1 hc6 => ?_)
        · try refine sA ?_
          cases hs1
          cases hk1
          try dsimp only at h
          try refine sA ?_
          have he := Option.some.inj h
          subst he
          exact endsA ⟨[(4, (.lf false (.sc (.bool false))))], [], 0, 26⟩ []
        · try refine sA ?_
          cases hs1
          exact X_backP hk1 (weakA [])
      · try refine sA ?_
        cases hs1
        cases hk1
        try dsimp only at h
        try refine sA ?_
        have he := Option.some.inj h
        subst he
        exact endsA ⟨[(4, (.lf false (.sc (.bool true))))], [], 0, 26⟩ []
theorem w_laws_eqEvent {a0 : EventT} {a1 : EventT} {r : Bool} (h : laws_eqEvent a0 a1 = some r) : Fn Tryz.prog 86 [(.ag [(.lf false (.sc (.int .i64 a0.Id))), (.lf false (.sc (.int .i64 a0.Version))), (.lf false (.sc (.int .i64 a0.Kind))), (.lf false (.sc (.string a0.Name)))]), (.ag [(.lf false (.sc (.int .i64 a1.Id))), (.lf false (.sc (.int .i64 a1.Version))), (.lf false (.sc (.int .i64 a1.Kind))), (.lf false (.sc (.string a1.Name)))])] [] 0 (.lf false (.sc (.bool r))) [] 0 := by
  unfold laws_eqEvent at h
  refine fn_code tab_ok mixed [(1000, [(2, 0), (3, 0)]), (1001, [(2, 0), (3, 0), (9, 0)]), (1002, [(4, 0)]), (1003, [(2, 0), (3, 0), (14, 0)]), (1004, [(4, 0)]), (1005, [(2, 0), (3, 0), (19, 0)]), (1006, [(4, 0)]), (1007, [(24, 0)]), (1008, [(4, 0)]), (1009, [(4, 0)])] Tryz.func86 rfl rfl (by simp [Tryz.f86]) (by kernel_rfl) ?_
  simp only [Tryz.f86]
  refine sA ?_
  refine Bs_if h (fun h hc1 => ?_) (fun h hc1 => ?_)
  · try refine sA ?_
    have he := Option.some.inj h
    subst he
    exact endsA ⟨[(4, (.lf false (.sc (.bool false))))], [], 0, 25⟩ []
  · try refine sA ?_
    refine Bs_if h (fun h hc2 => ?_) (fun h hc2 => ?_)
    · try refine sA ?_
      have he := Option.some.inj h
      subst he
      exact endsA ⟨[(4, (.lf false (.sc (.bool false))))], [], 0, 25⟩ []
    · try refine sA ?_
      refine Bs_if h (fun h hc3 => ?_) (fun h hc3 => ?_)
      · try refine sA ?_
        have he := Option.some.inj h
        subst he
        exact endsA ⟨[(4, (.lf false (.sc (.bool false))))], [], 0, 25⟩ []
      · try refine sA ?_
        refine Bs_if h (fun h hc4 => ?_) (fun h hc4 => ?_)
        · try refine sA ?_
          have he := Option.some.inj h
          subst he
          exact endsA ⟨[(4, (.lf false (.sc (.bool false))))], [], 0, 25⟩ []
        · try refine sA ?_
          have he := Option.some.inj h
          subst he
          exact endsA ⟨[(4, (.lf false (.sc (.bool true))))], [], 0, 25⟩ []
theorem w_laws_eqEventS {a0 : (List EventT)} {a1 : (List EventT)} {r : Bool} (h : laws_eqEventS a0 a1 = some r) : Fn Tryz.prog 18 [(.lf true (.sl (a0.map eEvent))), (.lf true (.sl (a1.map eEvent)))] [] 0 (.lf false (.sc (.bool r))) [] 0 := by
  unfold laws_eqEventS at h
  refine fn_code tab_ok mixed [(1000, [(0, 0), (1, 0)]), (1001, [(0, 0), (1, 0), (10, 0)]), (1002, [(4, 0)]), (1003, [(0, 0), (1, 0), (5, 0)]), (1004, [(0, 0), (1, 0), (5, 0), (14, 0)]), (1005, [(0, 0), (1, 0), (5, 0)]), (1006, [(0, 0), (1, 0), (5, 0), (26, 0)]), (1007, [(4, 0)]), (1008, [(4, 0)])] Tryz.func18 rfl rfl (by simp [Tryz.f18]) (by kernel_rfl) ?_
  simp only [Tryz.f18]
  refine sA ?_
  refine Bs_if h (fun h hc1 => ?_) (fun h hc1 => ?_)
  · try refine sA ?_
    have he := Option.some.inj h
    subst he
    exact endsA ⟨[(4, (.lf false (.sc (.bool false))))], [], 0, 27⟩ []
  · try refine sA ?_
    obtain ⟨y412, hl2, h⟩ := bind_ok h
    refine W_loopP (fun g409 : laws_eqEventS_G1 => ⟨[(0, (.lf true (.sl (a0.map eEvent)))), (1, (.lf true (.sl (a1.map eEvent)))), (5, (.lf false (.sc (.int .i64 g409.t5))))], [], 0, 27⟩) (laws_eqEventS_L1 a0 a1) _ _ hl2 (weakA []) ?_
    · intro n1 g409 z1 hs1 hk1
      unfold laws_eqEventS_L1 at hs1
      try dsimp only at hs1
      refine sA ?_
      refine Bs_if hs1 (fun hs1 hc3 => ?_) (fun hs1 hc3 => ?_)
      · try refine sA ?_
        obtain ⟨hp4, hs1⟩ := guard_some hs1
        have hn4 : g409.t5.toNat < a0.length := by first | omega | (simp only [List.length_set, List.length_append, List.length_replicate, List.length_map]; omega)
        try refine sA ?_
        try refine andA ?_
        obtain ⟨hp5, hs1⟩ := guard_some hs1
        have hn5 : g409.t5.toNat < a1.length := by first | omega | (simp only [List.length_set, List.length_append, List.length_replicate, List.length_map]; omega)
        try refine sA ?_
        try refine andA ?_
        obtain ⟨c411, hr6, hs1⟩ := bind_ok hs1
        refine Cl_sA (w_laws_eqEvent hr6) ?_
        try refine sA ?_
        refine Bs_if hs1 (fun hs1 hc7 => ?_) (fun hs1 hc7 => ?_)
        · try refine sA ?_
          cases hs1
          cases hk1
          try dsimp only at h
          try refine sA ?_
          have he := Option.some.inj h
          subst he
          exact endsA ⟨[(4, (.lf false (.sc (.bool false))))], [], 0, 27⟩ []
        · try refine sA ?_
          cases hs1
          exact X_backP hk1 (weakA [])
      · try refine sA ?_
        cases hs1
        cases hk1
        try dsimp only at h
        try refine sA ?_
        have he := Option.some.inj h
        subst he
        exact endsA ⟨[(4, (.lf false (.sc (.bool true))))], [], 0, 27⟩ []
theorem w_laws_eqBranch {a0 : BranchT} {a1 : BranchT} {r : Bool} (h : laws_eqBranch a0 a1 = some r) : Fn Tryz.prog 147 [(.ag [(.lf true (.sl (a0.Events.map eEvent)))]), (.ag [(.lf true (.sl (a1.Events.map eEvent)))])] [] 0 (.lf false (.sc (.bool r))) [] 0 := by
  unfold laws_eqBranch at h
  refine fn_code tab_ok mixed [(1000, [(2, 0), (3, 0)]), (1001, [(10, 0)]), (1002, [(4, 0)]), (1003, [(4, 0)])] Tryz.func147 rfl rfl (by simp [Tryz.f147]) (by kernel_rfl) ?_
  simp only [Tryz.f147]
  refine sA ?_
  obtain ⟨c415, hr1, h⟩ := bind_ok h
  refine Cl_sA (w_laws_eqEventS hr1) ?_
  try refine sA ?_
  refine Bs_if h (fun h hc2 => ?_) (fun h hc2 => ?_)
  · try refine sA ?_
    have he := Option.some.inj h
    subst he
    exact endsA ⟨[(4, (.lf false (.sc (.bool false))))], [], 0, 11⟩ []
  · try refine sA ?_
    have he := Option.some.inj h
    subst he
    exact endsA ⟨[(4, (.lf false (.sc (.bool true))))], [], 0, 11⟩ []
theorem w_laws_eqBranchS {a0 : (List BranchT)} {a1 : (List BranchT)} {r : Bool} (h : laws_eqBranchS a0 a1 = some r) : Fn Tryz.prog 87 [(.lf true (.sl (a0.map eBranch))), (.lf true (.sl (a1.map eBranch)))] [] 0 (.lf false (.sc (.bool r))) [] 0 := by
  unfold laws_eqBranchS at h
  refine fn_code tab_ok mixed [(1000, [(0, 0), (1, 0)]), (1001, [(0, 0), (1, 0), (10, 0)]), (1002, [(4, 0)]), (1003, [(0, 0), (1, 0), (5, 0)]), (1004, [(0, 0), (1, 0), (5, 0), (14, 0)]), (1005, [(0, 0), (1, 0), (5, 0)]), (1006, [(0, 0), (1, 0), (5, 0), (26, 0)]), (1007, [(4, 0)]), (1008, [(4, 0)])] Tryz.func87 rfl rfl (by simp [Tryz.f87]) (by kernel_rfl) ?_
  simp only [Tryz.f87]
  refine sA ?_
  refine Bs_if h (fun h hc1 => ?_) (fun h hc1 => ?_)
  · try refine sA ?_
    have he := Option.some.inj h
    subst he
    exact endsA ⟨[(4, (.lf false (.sc (.bool false))))], [], 0, 27⟩ []
  · try refine sA ?_
    obtain ⟨y418, hl2, h⟩ := bind_ok h
    refine W_loopP (fun g408 : laws_eqBranchS_G1 => ⟨[(0, (.lf true (.sl (a0.map eBranch)))), (1, (.lf true (.sl (a1.map eBranch)))), (5, (.lf false (.sc (.int .i64 g408.t5))))], [], 0, 27⟩) (laws_eqBranchS_L1 a0 a1) _ _ hl2 (weakA []) ?_
    · intro n1 g408 z1 hs1 hk1
      unfold laws_eqBranchS_L1 at hs1
      try dsimp only at hs1
      refine sA ?_
      refine Bs_if hs1 (fun hs1 hc3 => ?_) (fun hs1 hc3 => ?_)
      · try refine sA ?_
        obtain ⟨hp4, hs1⟩ := guard_some hs1
        have hn4 : g408.t5.toNat < a0.length := by first | omega | (simp only [List.length_set, List.length_append, List.length_replicate, List.length_map]; omega)
        try refine sA ?_
        try refine andA ?_
        obtain ⟨hp5, hs1⟩ := guard_some hs1
        have hn5 : g408.t5.toNat < a1.length := by first | omega | (simp only [List.length_set, List.length_append, List.length_replicate, List.length_map]; omega)
        try refine sA ?_
        try refine andA ?_
        obtain ⟨c417, hr6, hs1⟩ := bind_ok hs1
        refine Cl_sA (w_laws_eqBranch hr6) ?_
        try refine sA ?_
        refine Bs_if hs1 (fun hs1 hc7 => ?_) (fun hs1 hc7 => ?_)
        · try refine sA ?_
          cases hs1
          cases hk1
          try dsimp only at h
          try refine sA ?_
          have he := Option.some.inj h
          subst he
          exact endsA ⟨[(4, (.lf false (.sc (.bool false))))], [], 0, 27⟩ []
        · try refine sA ?_
          cases hs1
          exact X_backP hk1 (weakA [])
      · try refine sA ?_
        cases hs1
        cases hk1
        try dsimp only at h
        try refine sA ?_
        have he := Option.some.inj h
        subst he
        exact endsA ⟨[(4, (.lf false (.sc (.bool true))))], [], 0, 27⟩ []
theorem w_laws_eqTellings {a0 : TellingsT} {a1 : TellingsT} {r : Bool} (h : laws_eqTellings a0 a1 = some r) : Fn Tryz.prog 19 [(.ag [(.lf true (.sl (a0.Branches.map eBranch)))]), (.ag [(.lf true (.sl (a1.Branches.map eBranch)))])] [] 0 (.lf false (.sc (.bool r))) [] 0 := by
  unfold laws_eqTellings at h
  refine fn_code tab_ok mixed [(1000, [(2, 0), (3, 0)]), (1001, [(10, 0)]), (1002, [(4, 0)]), (1003, [(4, 0)])] Tryz.func19 rfl rfl (by simp [Tryz.f19]) (by kernel_rfl) ?_
  simp only [Tryz.f19]
  refine sA ?_
  obtain ⟨c421, hr1, h⟩ := bind_ok h
  refine Cl_sA (w_laws_eqBranchS hr1) ?_
  try refine sA ?_
  refine Bs_if h (fun h hc2 => ?_) (fun h hc2 => ?_)
  · try refine sA ?_
    have he := Option.some.inj h
    subst he
    exact endsA ⟨[(4, (.lf false (.sc (.bool false))))], [], 0, 11⟩ []
  · try refine sA ?_
    have he := Option.some.inj h
    subst he
    exact endsA ⟨[(4, (.lf false (.sc (.bool true))))], [], 0, 11⟩ []
theorem w_laws_eqRegion {a0 : RegionT} {a1 : RegionT} {r : Bool} (h : laws_eqRegion a0 a1 = some r) : Fn Tryz.prog 28 [(.ag [(.lf false (.sc (.int .i64 a0.Id))), (.lf false (.sc (.int .i64 a0.Version))), (.lf true (.sl (a0.Tellings.Branches.map eBranch)))]), (.ag [(.lf false (.sc (.int .i64 a1.Id))), (.lf false (.sc (.int .i64 a1.Version))), (.lf true (.sl (a1.Tellings.Branches.map eBranch)))])] [] 0 (.lf false (.sc (.bool r))) [] 0 := by
  unfold laws_eqRegion at h
  refine fn_code tab_ok mixed [(1000, [(2, 0), (3, 0)]), (1001, [(2, 0), (3, 0), (9, 0)]), (1002, [(4, 0)]), (1003, [(2, 0), (3, 0), (14, 0)]), (1004, [(4, 0)]), (1005, [(20, 0)]), (1006, [(4, 0)]), (1007, [(4, 0)])] Tryz.func28 rfl rfl (by simp [Tryz.f28]) (by kernel_rfl) ?_
  simp only [Tryz.f28]
  refine sA ?_
  refine Bs_if h (fun h hc1 => ?_) (fun h hc1 => ?_)
  · try refine sA ?_
    have he := Option.some.inj h
    subst he
    exact endsA ⟨[(4, (.lf false (.sc (.bool false))))], [], 0, 21⟩ []
  · try refine sA ?_
    refine Bs_if h (fun h hc2 => ?_) (fun h hc2 => ?_)
    · try refine sA ?_
      have he := Option.some.inj h
      subst he
      exact endsA ⟨[(4, (.lf false (.sc (.bool false))))], [], 0, 21⟩ []
    · try refine sA ?_
      obtain ⟨c422, hr3, h⟩ := bind_ok h
      refine Cl_sA (w_laws_eqTellings hr3) ?_
      try refine sA ?_
      refine Bs_if h (fun h hc4 => ?_) (fun h hc4 => ?_)
      · try refine sA ?_
        have he := Option.some.inj h
        subst he
        exact endsA ⟨[(4, (.lf false (.sc (.bool false))))], [], 0, 21⟩ []
      · try refine sA ?_
        have he := Option.some.inj h
        subst he
        exact endsA ⟨[(4, (.lf false (.sc (.bool true))))], [], 0, 21⟩ []
theorem w_laws_eqRegionS {a0 : (List RegionT)} {a1 : (List RegionT)} {r : Bool} (h : laws_eqRegionS a0 a1 = some r) : Fn Tryz.prog 110 [(.lf true (.sl (a0.map eRegion))), (.lf true (.sl (a1.map eRegion)))] [] 0 (.lf false (.sc (.bool r))) [] 0 := by
  unfold laws_eqRegionS at h
  refine fn_code tab_ok mixed [(1000, [(0, 0), (1, 0)]), (1001, [(0, 0), (1, 0), (10, 0)]), (1002, [(4, 0)]), (1003, [(0, 0), (1, 0), (5, 0)]), (1004, [(0, 0), (1, 0), (5, 0), (14, 0)]), (1005, [(0, 0), (1, 0), (5, 0)]), (1006, [(0, 0), (1, 0), (5, 0), (26, 0)]), (1007, [(4, 0)]), (1008, [(4, 0)])] Tryz.func110 rfl rfl (by simp [Tryz.f110]) (by kernel_rfl) ?_
  simp only [Tryz.f110]
  refine sA ?_
  refine Bs_if h (fun h hc1 => ?_) (fun h hc1 => ?_)
  · try refine sA ?_
    have he := Option.some.inj h
    subst he
    exact endsA ⟨[(4, (.lf false (.sc (.bool false))))], [], 0, 27⟩ []
  · try refine sA ?_
    obtain ⟨y425, hl2, h⟩ := bind_ok h
    refine W_loopP (fun g407 : laws_eqRegionS_G1 => ⟨[(0, (.lf true (.sl (a0.map eRegion)))), (1, (.lf true (.sl (a1.map eRegion)))), (5, (.lf false (.sc (.int .i64 g407.t5))))], [], 0, 27⟩) (laws_eqRegionS_L1 a0 a1) _ _ hl2 (weakA []) ?_
    · intro n1 g407 z1 hs1 hk1
      unfold laws_eqRegionS_L1 at hs1
      try dsimp only at hs1
      refine sA ?_
      refine Bs_if hs1 (fun hs1 hc3 => ?_) (fun hs1 hc3 => ?_)
      · try refine sA ?_
        obtain ⟨hp4, hs1⟩ := guard_some hs1
        have hn4 : g407.t5.toNat < a0.length := by first | omega | (simp only [List.length_set, List.length_append, List.length_replicate, List.length_map]; omega)
        try refine sA ?_
        try refine andA ?_
        obtain ⟨hp5, hs1⟩ := guard_some hs1
        have hn5 : g407.t5.toNat < a1.length := by first | omega | (simp only [List.length_set, List.length_append, List.length_replicate, List.length_map]; omega)
        try refine sA ?_
        try refine andA ?_
        obtain ⟨c424, hr6, hs1⟩ := bind_ok hs1
        refine Cl_sA (w_laws_eqRegion hr6) ?_
        try refine sA ?_
        refine Bs_if hs1 (fun hs1 hc7 => ?_) (fun hs1 hc7 => ?_)
        · try refine sA ?_
          cases hs1
          cases hk1
          try dsimp only at h
          try refine sA ?_
          have he := Option.some.inj h
          subst he
          exact endsA ⟨[(4, (.lf false (.sc (.bool false))))], [], 0, 27⟩ []
        · try refine sA ?_
          cases hs1
          exact X_backP hk1 (weakA [])
      · try refine sA ?_
        cases hs1
        cases hk1
        try dsimp only at h
        try refine sA ?_
        have he := Option.some.inj h
        subst he
        exact endsA ⟨[(4, (.lf false (.sc (.bool true))))], [], 0, 27⟩ []
theorem w_laws_eqWord {a0 : WordT} {a1 : WordT} {r : Bool} (h : laws_eqWord a0 a1 = some r) : Fn Tryz.prog 27 [(.ag [(.lf false (.sc (.int .i64 a0.Version))), (.lf true (.sl (a0.Tellings.Branches.map eBranch)))]), (.ag [(.lf false (.sc (.int .i64 a1.Version))), (.lf true (.sl (a1.Tellings.Branches.map eBranch)))])] [] 0 (.lf false (.sc (.bool r))) [] 0 := by
  unfold laws_eqWord at h
  refine fn_code tab_ok mixed [(1000, [(2, 0), (3, 0)]), (1001, [(2, 0), (3, 0), (9, 0)]), (1002, [(4, 0)]), (1003, [(15, 0)]), (1004, [(4, 0)]), (1005, [(4, 0)])] Tryz.func27 rfl rfl (by simp [Tryz.f27]) (by kernel_rfl) ?_
  simp only [Tryz.f27]
  refine sA ?_
  refine Bs_if h (fun h hc1 => ?_) (fun h hc1 => ?_)
  · try refine sA ?_
    have he := Option.some.inj h
    subst he
    exact endsA ⟨[(4, (.lf false (.sc (.bool false))))], [], 0, 16⟩ []
  · try refine sA ?_
    obtain ⟨c430, hr2, h⟩ := bind_ok h
    refine Cl_sA (w_laws_eqTellings hr2) ?_
    try refine sA ?_
    refine Bs_if h (fun h hc3 => ?_) (fun h hc3 => ?_)
    · try refine sA ?_
      have he := Option.some.inj h
      subst he
      exact endsA ⟨[(4, (.lf false (.sc (.bool false))))], [], 0, 16⟩ []
    · try refine sA ?_
      have he := Option.some.inj h
      subst he
      exact endsA ⟨[(4, (.lf false (.sc (.bool true))))], [], 0, 16⟩ []
theorem w_laws_eqSaid {a0 : SaidT} {a1 : SaidT} {r : Bool} (h : laws_eqSaid a0 a1 = some r) : Fn Tryz.prog 160 [(.ag [(.lf false (.sc (.int .i64 a0.To))), (.lf false (.sc (.int .i64 a0.Word.Version))), (.lf true (.sl (a0.Word.Tellings.Branches.map eBranch)))]), (.ag [(.lf false (.sc (.int .i64 a1.To))), (.lf false (.sc (.int .i64 a1.Word.Version))), (.lf true (.sl (a1.Word.Tellings.Branches.map eBranch)))])] [] 0 (.lf false (.sc (.bool r))) [] 0 := by
  unfold laws_eqSaid at h
  refine fn_code tab_ok mixed [(1000, [(2, 0), (3, 0)]), (1001, [(2, 0), (3, 0), (9, 0)]), (1002, [(4, 0)]), (1003, [(15, 0)]), (1004, [(4, 0)]), (1005, [(4, 0)])] Tryz.func160 rfl rfl (by simp [Tryz.f160]) (by kernel_rfl) ?_
  simp only [Tryz.f160]
  refine sA ?_
  refine Bs_if h (fun h hc1 => ?_) (fun h hc1 => ?_)
  · try refine sA ?_
    have he := Option.some.inj h
    subst he
    exact endsA ⟨[(4, (.lf false (.sc (.bool false))))], [], 0, 16⟩ []
  · try refine sA ?_
    obtain ⟨c431, hr2, h⟩ := bind_ok h
    refine Cl_sA (w_laws_eqWord hr2) ?_
    try refine sA ?_
    refine Bs_if h (fun h hc3 => ?_) (fun h hc3 => ?_)
    · try refine sA ?_
      have he := Option.some.inj h
      subst he
      exact endsA ⟨[(4, (.lf false (.sc (.bool false))))], [], 0, 16⟩ []
    · try refine sA ?_
      have he := Option.some.inj h
      subst he
      exact endsA ⟨[(4, (.lf false (.sc (.bool true))))], [], 0, 16⟩ []
theorem w_laws_eqSaidS {a0 : (List SaidT)} {a1 : (List SaidT)} {r : Bool} (h : laws_eqSaidS a0 a1 = some r) : Fn Tryz.prog 111 [(.lf true (.sl (a0.map eSaid))), (.lf true (.sl (a1.map eSaid)))] [] 0 (.lf false (.sc (.bool r))) [] 0 := by
  unfold laws_eqSaidS at h
  refine fn_code tab_ok mixed [(1000, [(0, 0), (1, 0)]), (1001, [(0, 0), (1, 0), (10, 0)]), (1002, [(4, 0)]), (1003, [(0, 0), (1, 0), (5, 0)]), (1004, [(0, 0), (1, 0), (5, 0), (14, 0)]), (1005, [(0, 0), (1, 0), (5, 0)]), (1006, [(0, 0), (1, 0), (5, 0), (26, 0)]), (1007, [(4, 0)]), (1008, [(4, 0)])] Tryz.func111 rfl rfl (by simp [Tryz.f111]) (by kernel_rfl) ?_
  simp only [Tryz.f111]
  refine sA ?_
  refine Bs_if h (fun h hc1 => ?_) (fun h hc1 => ?_)
  · try refine sA ?_
    have he := Option.some.inj h
    subst he
    exact endsA ⟨[(4, (.lf false (.sc (.bool false))))], [], 0, 27⟩ []
  · try refine sA ?_
    obtain ⟨y434, hl2, h⟩ := bind_ok h
    refine W_loopP (fun g429 : laws_eqSaidS_G1 => ⟨[(0, (.lf true (.sl (a0.map eSaid)))), (1, (.lf true (.sl (a1.map eSaid)))), (5, (.lf false (.sc (.int .i64 g429.t5))))], [], 0, 27⟩) (laws_eqSaidS_L1 a0 a1) _ _ hl2 (weakA []) ?_
    · intro n1 g429 z1 hs1 hk1
      unfold laws_eqSaidS_L1 at hs1
      try dsimp only at hs1
      refine sA ?_
      refine Bs_if hs1 (fun hs1 hc3 => ?_) (fun hs1 hc3 => ?_)
      · try refine sA ?_
        obtain ⟨hp4, hs1⟩ := guard_some hs1
        have hn4 : g429.t5.toNat < a0.length := by first | omega | (simp only [List.length_set, List.length_append, List.length_replicate, List.length_map]; omega)
        try refine sA ?_
        try refine andA ?_
        obtain ⟨hp5, hs1⟩ := guard_some hs1
        have hn5 : g429.t5.toNat < a1.length := by first | omega | (simp only [List.length_set, List.length_append, List.length_replicate, List.length_map]; omega)
        try refine sA ?_
        try refine andA ?_
        obtain ⟨c433, hr6, hs1⟩ := bind_ok hs1
        refine Cl_sA (w_laws_eqSaid hr6) ?_
        try refine sA ?_
        refine Bs_if hs1 (fun hs1 hc7 => ?_) (fun hs1 hc7 => ?_)
        · try refine sA ?_
          cases hs1
          cases hk1
          try dsimp only at h
          try refine sA ?_
          have he := Option.some.inj h
          subst he
          exact endsA ⟨[(4, (.lf false (.sc (.bool false))))], [], 0, 27⟩ []
        · try refine sA ?_
          cases hs1
          exact X_backP hk1 (weakA [])
      · try refine sA ?_
        cases hs1
        cases hk1
        try dsimp only at h
        try refine sA ?_
        have he := Option.some.inj h
        subst he
        exact endsA ⟨[(4, (.lf false (.sc (.bool true))))], [], 0, 27⟩ []
theorem w_laws_eqWorld {a0 : WorldT} {a1 : WorldT} {r : Bool} (h : laws_eqWorld a0 a1 = some r) : Fn Tryz.prog 45 [(.ag [(.lf true (.sl (a0.Regions.map eRegion))), (.lf true (.sl (a0.Line.map eSaid)))]), (.ag [(.lf true (.sl (a1.Regions.map eRegion))), (.lf true (.sl (a1.Line.map eSaid)))])] [] 0 (.lf false (.sc (.bool r))) [] 0 := by
  unfold laws_eqWorld at h
  refine fn_code tab_ok mixed [(1000, [(2, 0), (3, 0)]), (1001, [(2, 0), (3, 0), (10, 0)]), (1002, [(4, 0)]), (1003, [(16, 0)]), (1004, [(4, 0)]), (1005, [(4, 0)])] Tryz.func45 rfl rfl (by simp [Tryz.f45]) (by kernel_rfl) ?_
  simp only [Tryz.f45]
  refine sA ?_
  obtain ⟨c428, hr1, h⟩ := bind_ok h
  refine Cl_sA (w_laws_eqRegionS hr1) ?_
  try refine sA ?_
  refine Bs_if h (fun h hc2 => ?_) (fun h hc2 => ?_)
  · try refine sA ?_
    have he := Option.some.inj h
    subst he
    exact endsA ⟨[(4, (.lf false (.sc (.bool false))))], [], 0, 17⟩ []
  · try refine sA ?_
    obtain ⟨c437, hr3, h⟩ := bind_ok h
    refine Cl_sA (w_laws_eqSaidS hr3) ?_
    try refine sA ?_
    refine Bs_if h (fun h hc4 => ?_) (fun h hc4 => ?_)
    · try refine sA ?_
      have he := Option.some.inj h
      subst he
      exact endsA ⟨[(4, (.lf false (.sc (.bool false))))], [], 0, 17⟩ []
    · try refine sA ?_
      have he := Option.some.inj h
      subst he
      exact endsA ⟨[(4, (.lf false (.sc (.bool true))))], [], 0, 17⟩ []
theorem w_laws_markText {a0 : Int} {r : ByteArray} (h : laws_markText a0 = some r) : Fn Tryz.prog 89 [(.lf false (.sc (.int .i64 a0)))] [] 0 (.lf false (.sc (.string r))) [] 0 := by
  unfold laws_markText at h
  refine fn_code tab_ok mixed [(1000, [(0, 0)]), (1001, [(0, 0), (5, 0)]), (1002, [(2, 0)]), (1003, [(0, 0), (3, 0)]), (1004, [(0, 0), (3, 0), (7, 0)]), (1005, [(0, 0), (3, 0)]), (1006, [(0, 0), (3, 0)]), (1007, [(2, 0)])] Tryz.func89 rfl rfl (by simp [Tryz.f89]) (by kernel_rfl) ?_
  simp only [Tryz.f89]
  refine sA ?_
  refine Bs_if h (fun h hc1 => ?_) (fun h hc1 => ?_)
  · try refine sA ?_
    have he := Option.some.inj h
    subst he
    exact endsA ⟨[(2, (.lf false (.sc (.string (⟨#[109, 48]⟩ : ByteArray)))))], [], 0, 20⟩ []
  · try refine sA ?_
    obtain ⟨y448, hl2, h⟩ := bind_ok h
    refine W_loopP (fun g447 : laws_markText_G1 => ⟨[(0, (.lf false (.sc (.int .i64 g447.t0)))), (3, (.lf false (.sc (.string g447.t3))))], [], 0, 20⟩) (laws_markText_L1) _ _ hl2 (weakA []) ?_
    · intro n1 g447 z1 hs1 hk1
      unfold laws_markText_L1 at hs1
      try dsimp only at hs1
      refine sA ?_
      refine Bs_if hs1 (fun hs1 hc3 => ?_) (fun hs1 hc3 => ?_)
      · try refine sA ?_
        obtain ⟨hp4, hs1⟩ := guard_some hs1
        try refine sA ?_
        try refine andA ?_
        cases hs1
        exact X_backP hk1 (weakA [])
      · try refine sA ?_
        cases hs1
        cases hk1
        try dsimp only at h
        try refine sA ?_
        obtain ⟨hp5, h⟩ := guard_some h
        try refine sA ?_
        try refine andA ?_
        have he := Option.some.inj h
        subst he
        exact endsA ⟨[(2, (.lf false (.sc (.string ((⟨#[109]⟩ : ByteArray) ++ g447.t3)))))], [], 0, 20⟩ []
theorem w_laws_markEventS_w {a0 : (List EventT)} {a1 : Int} {m0 : Nat} {x0 : Bool} {r : (Int × (List EventT))} (h : laws_markEventS_w a0 a1 = some r) : Fn Tryz.prog 21 [(.os 0 4 0 a0.length m0 x0), (.lf false (.sc (.int .i64 a1)))] [(0, some (false, .arr true 4 (a0.map eEvent)))] 1 (.lf false (.sc (.int .i64 r.1))) [(0, some (false, .arr false 4 (r.2.map eEvent)))] 1 := by
  unfold laws_markEventS_w at h
  refine fn_code tab_ok mixed [(1000, [(0, 0), (1, 0)]), (1001, [(0, 0), (1, 0), (5, 0)]), (1002, [(0, 0), (1, 0), (5, 0), (9, 0)]), (1003, [(0, 0), (1, 0), (5, 0)]), (1004, [(0, 0), (1, 0), (5, 0)]), (1005, [(0, 0), (1, 0), (5, 0)]), (1006, [(0, 0), (1, 0), (5, 0)]), (1007, [(0, 0), (1, 0), (5, 0)]), (1008, [(0, 0), (1, 0), (5, 0)]), (1009, [(0, 0), (1, 0), (5, 0)]), (1010, [(0, 0), (1, 0), (5, 0)]), (1011, [(0, 0), (1, 0), (5, 0)]), (1012, [(4, 0)])] Tryz.func21 rfl rfl (by simp [Tryz.f21]) (by kernel_rfl) ?_
  simp only [Tryz.f21]
  refine sA ?_
  obtain ⟨y451, hl1, h⟩ := bind_ok h
  refine W_loopP (fun g446 : laws_markEventS_w_G1 => ⟨[(0, (.os 0 4 0 g446.c0.length g446.c0.length false)), (1, (.lf false (.sc (.int .i64 g446.t1)))), (5, (.lf false (.sc (.int .i64 g446.t5))))], [(0, some (false, .arr true 4 (g446.c0.map eEvent)))], 1, 42⟩) (laws_markEventS_w_L1) _ _ hl1 (weakA [some 0]) ?_
  · intro n1 g446 z1 hs1 hk1
    unfold laws_markEventS_w_L1 at hs1
    try dsimp only at hs1
    refine sA ?_
    refine Bs_if hs1 (fun hs1 hc2 => ?_) (fun hs1 hc2 => ?_)
    · try refine sA ?_
      obtain ⟨hp3, hs1⟩ := guard_some hs1
      have hn3 : g446.t5.toNat < g446.c0.length := by first | omega | (simp only [List.length_set, List.length_append, List.length_replicate, List.length_map]; omega)
      try refine sA ?_
      try refine andA ?_
      try refine andB ?_
      try refine sA ?_
      obtain ⟨hp5, hs1⟩ := guard_some hs1
      have hn5 : g446.t5.toNat < g446.c0.length := by first | omega | (simp only [List.length_set, List.length_append, List.length_replicate, List.length_map]; omega)
      try refine sA ?_
      try refine andA ?_
      try refine andB ?_
      try refine sA ?_
      obtain ⟨hp7, hs1⟩ := guard_some hs1
      have hn7 : g446.t5.toNat < g446.c0.length := by first | omega | (simp only [List.length_set, List.length_append, List.length_replicate, List.length_map]; omega)
      try refine sA ?_
      try refine andA ?_
      try refine andB ?_
      try refine sA ?_
      obtain ⟨c450, hr9, hs1⟩ := bind_ok hs1
      refine Cl_sA (w_laws_markText hr9) ?_
      try refine sA ?_
      obtain ⟨hp10, hs1⟩ := guard_some hs1
      have hn10 : g446.t5.toNat < g446.c0.length := by first | omega | (simp only [List.length_set, List.length_append, List.length_replicate, List.length_map]; omega)
      try refine sA ?_
      try refine andA ?_
      try refine andB ?_
      try refine sA ?_
      cases hs1
      exact X_backP hk1 (weakA [some 0])
    · try refine sA ?_
      cases hs1
      cases hk1
      try dsimp only at h
      try refine sA ?_
      have he := Option.some.inj h
      subst he
      exact endsA ⟨[(4, (.lf false (.sc (.int .i64 g446.t1))))], [(0, some (false, .arr false 4 (g446.c0.map eEvent)))], 1, 42⟩ [some 0]
theorem w_laws_markBranchS_wd {a0 : (List BranchT)} {a1 : Int} {m0 : Nat} {x0 : Bool} {r : (Int × (List BranchT))} (h : laws_markBranchS_wd a0 a1 = some r) : Fn Tryz.prog 88 [(.os 0 1 0 a0.length m0 x0), (.lf false (.sc (.int .i64 a1)))] [(0, some (false, .deep [.sl [.sc, .sc, .sc, .sc]] (a0.map eBranch)))] 1 (.lf false (.sc (.int .i64 r.1))) [(0, some (false, .deep [.sl [.sc, .sc, .sc, .sc]] (r.2.map eBranch)))] 1 := by
  unfold laws_markBranchS_wd at h
  refine fn_code tab_ok mixed [(1000, [(0, 0), (1, 0)]), (1001, [(0, 0), (1, 0), (5, 0)]), (1002, [(0, 0), (1, 0), (5, 0), (9, 0)]), (1003, [(0, 0), (1, 0), (5, 0)]), (1004, [(0, 0), (1, 0), (5, 0)]), (1005, [(4, 0)]), (5004, [])] Tryz.func88 rfl rfl (by simp [Tryz.f88]) (by kernel_rfl) ?_
  simp only [Tryz.f88]
  refine sA ?_
  obtain ⟨y454, hl1, h⟩ := bind_ok h
  refine W_loopP (fun g445 : laws_markBranchS_wd_G1 => ⟨[(0, (.os 0 1 0 g445.c0.length g445.c0.length false)), (1, (.lf false (.sc (.int .i64 g445.t1)))), (5, (.lf false (.sc (.int .i64 g445.t5))))], [(0, some (false, .deep [.sl [.sc, .sc, .sc, .sc]] (g445.c0.map eBranch)))], 1, 20⟩) (laws_markBranchS_wd_L1) _ _ hl1 (weakA [some 0]) ?_
  · intro n1 g445 z1 hs1 hk1
    unfold laws_markBranchS_wd_L1 at hs1
    try dsimp only at hs1
    refine sA ?_
    refine Bs_if hs1 (fun hs1 hc2 => ?_) (fun hs1 hc2 => ?_)
    · try refine sA ?_
      obtain ⟨hp3, hs1⟩ := guard_some hs1
      refine Gh_focus 0 g445.t5.toNat ?_
      try refine sA ?_
      obtain ⟨hp4, hs1⟩ := guard_some hs1
      have hn4 : g445.t5.toNat < g445.c0.length := by first | omega | (simp only [List.length_set, List.length_append, List.length_replicate, List.length_map]; omega)
      try refine sA ?_
      try refine andA ?_
      obtain ⟨c453, hr5, hs1⟩ := bind_ok hs1
      refine Cl_hA [1] (w_laws_markEventS_w hr5) ?_
      try refine sA ?_
      obtain ⟨hp6, hs1⟩ := guard_some hs1
      have hl6 : ((nth g445.c0 g445.t5.toNat).Events).length ≤ c453.2.length := by omega
      have ht6 : List.take (((nth g445.c0 g445.t5.toNat).Events).length) c453.2 = c453.2 := by rw [← hp6]; exact List.take_length
      try simp (disch := first | assumption | (simp only [List.length_set]; assumption)) only [go_sem, Nat.reduceAdd, Nat.reduceMul, Nat.reduceSub, Nat.reduceEqDiff, ↓reduceIte, Nat.reduceLT, reduceCtorEq, Nat.reduceLeDiff, Int.reduceToNat, Int.reduceEq, Int.reduceLE, Int.reduceLT, Nat.reduceBEq, hl6, ht6]
      cases hs1
      refine X_backP hk1 ?_
      refine packW 0 ?_
      refine weak_of (m := 1) [some 0] rfl rfl rfl (by rfl) ?_ ?_
      all_goals ((try simp (disch := first | assumption | (simp only [List.length_set]; assumption)) only [go_sem, Nat.reduceAdd, Nat.reduceMul, Nat.reduceSub, Nat.reduceEqDiff, ↓reduceIte, Nat.reduceLT, reduceCtorEq, Nat.reduceLeDiff, Int.reduceToNat, Int.reduceEq, Int.reduceLE, Int.reduceLT, Nat.reduceBEq, hl6, ht6]); (repeat' first | done | rfl | omega | refine And.intro ?_ ?_ | (simp; done) | (simp; omega)))
    · try refine sA ?_
      cases hs1
      cases hk1
      try dsimp only at h
      try refine sA ?_
      have he := Option.some.inj h
      subst he
      exact endsA ⟨[(4, (.lf false (.sc (.int .i64 g445.t1))))], [(0, some (false, .deep [.sl [.sc, .sc, .sc, .sc]] (g445.c0.map eBranch)))], 1, 20⟩ [some 0]
theorem w_laws_markRegionS_wd {a0 : (List RegionT)} {a1 : Int} {m0 : Nat} {x0 : Bool} {r : (Int × (List RegionT))} (h : laws_markRegionS_wd a0 a1 = some r) : Fn Tryz.prog 112 [(.os 0 3 0 a0.length m0 x0), (.lf false (.sc (.int .i64 a1)))] [(0, some (false, .deep [.sc, .sc, .sl [.sl [.sc, .sc, .sc, .sc]]] (a0.map eRegion)))] 1 (.lf false (.sc (.int .i64 r.1))) [(0, some (false, .deep [.sc, .sc, .sl [.sl [.sc, .sc, .sc, .sc]]] (r.2.map eRegion)))] 1 := by
  unfold laws_markRegionS_wd at h
  refine fn_code tab_ok mixed [(1000, [(0, 0), (1, 0)]), (1001, [(0, 0), (1, 0), (5, 0)]), (1002, [(0, 0), (1, 0), (5, 0), (9, 0)]), (1003, [(0, 0), (1, 0), (5, 0)]), (1004, [(0, 0), (1, 0), (5, 0)]), (1005, [(0, 0), (1, 0), (5, 0)]), (1006, [(0, 0), (1, 0), (5, 0)]), (1007, [(0, 0), (1, 0), (5, 0)]), (1008, [(0, 0), (1, 0), (5, 0)]), (1009, [(4, 0)]), (5004, [])] Tryz.func112 rfl rfl (by simp [Tryz.f112]) (by kernel_rfl) ?_
  simp only [Tryz.f112]
  refine sA ?_
  obtain ⟨y457, hl1, h⟩ := bind_ok h
  refine W_loopP (fun g441 : laws_markRegionS_wd_G1 => ⟨[(0, (.os 0 3 0 g441.c0.length g441.c0.length false)), (1, (.lf false (.sc (.int .i64 g441.t1)))), (5, (.lf false (.sc (.int .i64 g441.t5))))], [(0, some (false, .deep [.sc, .sc, .sl [.sl [.sc, .sc, .sc, .sc]]] (g441.c0.map eRegion)))], 1, 35⟩) (laws_markRegionS_wd_L1) _ _ hl1 (weakA [some 0]) ?_
  · intro n1 g441 z1 hs1 hk1
    unfold laws_markRegionS_wd_L1 at hs1
    try dsimp only at hs1
    refine sA ?_
    refine Bs_if hs1 (fun hs1 hc2 => ?_) (fun hs1 hc2 => ?_)
    · try refine sA ?_
      obtain ⟨hp3, hs1⟩ := guard_some hs1
      refine Gh_focus 0 g441.t5.toNat ?_
      try refine sA ?_
      obtain ⟨hp4, hs1⟩ := guard_some hs1
      have hn4 : g441.t5.toNat < g441.c0.length := by first | omega | (simp only [List.length_set, List.length_append, List.length_replicate, List.length_map]; omega)
      try refine sA ?_
      try refine andA ?_
      obtain ⟨hp5, hs1⟩ := guard_some hs1
      have hn5 : g441.t5.toNat < g441.c0.length := by first | omega | (simp only [List.length_set, List.length_append, List.length_replicate, List.length_map]; omega)
      try refine sA ?_
      try refine andA ?_
      obtain ⟨hp6, hs1⟩ := guard_some hs1
      have hn6 : g441.t5.toNat < g441.c0.length := by first | omega | (simp only [List.length_set, List.length_append, List.length_replicate, List.length_map]; omega)
      try refine sA ?_
      try refine andA ?_
      obtain ⟨c456, hr7, hs1⟩ := bind_ok hs1
      refine Cl_hA [3] (w_laws_markBranchS_wd hr7) ?_
      try refine sA ?_
      obtain ⟨hp8, hs1⟩ := guard_some hs1
      have hl8 : (((nth g441.c0 g441.t5.toNat).Tellings).Branches).length ≤ c456.2.length := by omega
      have ht8 : List.take ((((nth g441.c0 g441.t5.toNat).Tellings).Branches).length) c456.2 = c456.2 := by rw [← hp8]; exact List.take_length
      try simp (disch := first | assumption | (simp only [List.length_set]; assumption)) only [go_sem, Nat.reduceAdd, Nat.reduceMul, Nat.reduceSub, Nat.reduceEqDiff, ↓reduceIte, Nat.reduceLT, reduceCtorEq, Nat.reduceLeDiff, Int.reduceToNat, Int.reduceEq, Int.reduceLE, Int.reduceLT, Nat.reduceBEq, hl8, ht8]
      cases hs1
      refine X_backP hk1 ?_
      refine packW 0 ?_
      refine weak_of (m := 1) [some 0] rfl rfl rfl (by rfl) ?_ ?_
      all_goals ((try simp (disch := first | assumption | (simp only [List.length_set]; assumption)) only [go_sem, Nat.reduceAdd, Nat.reduceMul, Nat.reduceSub, Nat.reduceEqDiff, ↓reduceIte, Nat.reduceLT, reduceCtorEq, Nat.reduceLeDiff, Int.reduceToNat, Int.reduceEq, Int.reduceLE, Int.reduceLT, Nat.reduceBEq, hl8, ht8]); (repeat' first | done | rfl | omega | refine And.intro ?_ ?_ | (simp; done) | (simp; omega)))
    · try refine sA ?_
      cases hs1
      cases hk1
      try dsimp only at h
      try refine sA ?_
      have he := Option.some.inj h
      subst he
      exact endsA ⟨[(4, (.lf false (.sc (.int .i64 g441.t1))))], [(0, some (false, .deep [.sc, .sc, .sl [.sl [.sc, .sc, .sc, .sc]]] (g441.c0.map eRegion)))], 1, 35⟩ [some 0]
theorem w_laws_markSaidS_wd {a0 : (List SaidT)} {a1 : Int} {m0 : Nat} {x0 : Bool} {r : (Int × (List SaidT))} (h : laws_markSaidS_wd a0 a1 = some r) : Fn Tryz.prog 113 [(.os 0 3 0 a0.length m0 x0), (.lf false (.sc (.int .i64 a1)))] [(0, some (false, .deep [.sc, .sc, .sl [.sl [.sc, .sc, .sc, .sc]]] (a0.map eSaid)))] 1 (.lf false (.sc (.int .i64 r.1))) [(0, some (false, .deep [.sc, .sc, .sl [.sl [.sc, .sc, .sc, .sc]]] (r.2.map eSaid)))] 1 := by
  unfold laws_markSaidS_wd at h
  refine fn_code tab_ok mixed [(1000, [(0, 0), (1, 0)]), (1001, [(0, 0), (1, 0), (5, 0)]), (1002, [(0, 0), (1, 0), (5, 0), (9, 0)]), (1003, [(0, 0), (1, 0), (5, 0)]), (1004, [(0, 0), (1, 0), (5, 0)]), (1005, [(0, 0), (1, 0), (5, 0)]), (1006, [(0, 0), (1, 0), (5, 0)]), (1007, [(0, 0), (1, 0), (5, 0)]), (1008, [(0, 0), (1, 0), (5, 0)]), (1009, [(4, 0)]), (5004, [])] Tryz.func113 rfl rfl (by simp [Tryz.f113]) (by kernel_rfl) ?_
  simp only [Tryz.f113]
  refine sA ?_
  obtain ⟨y464, hl1, h⟩ := bind_ok h
  refine W_loopP (fun g461 : laws_markSaidS_wd_G1 => ⟨[(0, (.os 0 3 0 g461.c0.length g461.c0.length false)), (1, (.lf false (.sc (.int .i64 g461.t1)))), (5, (.lf false (.sc (.int .i64 g461.t5))))], [(0, some (false, .deep [.sc, .sc, .sl [.sl [.sc, .sc, .sc, .sc]]] (g461.c0.map eSaid)))], 1, 37⟩) (laws_markSaidS_wd_L1) _ _ hl1 (weakA [some 0]) ?_
  · intro n1 g461 z1 hs1 hk1
    unfold laws_markSaidS_wd_L1 at hs1
    try dsimp only at hs1
    refine sA ?_
    refine Bs_if hs1 (fun hs1 hc2 => ?_) (fun hs1 hc2 => ?_)
    · try refine sA ?_
      obtain ⟨hp3, hs1⟩ := guard_some hs1
      refine Gh_focus 0 g461.t5.toNat ?_
      try refine sA ?_
      obtain ⟨hp4, hs1⟩ := guard_some hs1
      have hn4 : g461.t5.toNat < g461.c0.length := by first | omega | (simp only [List.length_set, List.length_append, List.length_replicate, List.length_map]; omega)
      try refine sA ?_
      try refine andA ?_
      obtain ⟨hp5, hs1⟩ := guard_some hs1
      have hn5 : g461.t5.toNat < g461.c0.length := by first | omega | (simp only [List.length_set, List.length_append, List.length_replicate, List.length_map]; omega)
      try refine sA ?_
      try refine andA ?_
      obtain ⟨hp6, hs1⟩ := guard_some hs1
      have hn6 : g461.t5.toNat < g461.c0.length := by first | omega | (simp only [List.length_set, List.length_append, List.length_replicate, List.length_map]; omega)
      try refine sA ?_
      try refine andA ?_
      obtain ⟨c463, hr7, hs1⟩ := bind_ok hs1
      refine Cl_hA [3] (w_laws_markBranchS_wd hr7) ?_
      try refine sA ?_
      obtain ⟨hp8, hs1⟩ := guard_some hs1
      have hl8 : ((((nth g461.c0 g461.t5.toNat).Word).Tellings).Branches).length ≤ c463.2.length := by omega
      have ht8 : List.take (((((nth g461.c0 g461.t5.toNat).Word).Tellings).Branches).length) c463.2 = c463.2 := by rw [← hp8]; exact List.take_length
      try simp (disch := first | assumption | (simp only [List.length_set]; assumption)) only [go_sem, Nat.reduceAdd, Nat.reduceMul, Nat.reduceSub, Nat.reduceEqDiff, ↓reduceIte, Nat.reduceLT, reduceCtorEq, Nat.reduceLeDiff, Int.reduceToNat, Int.reduceEq, Int.reduceLE, Int.reduceLT, Nat.reduceBEq, hl8, ht8]
      cases hs1
      refine X_backP hk1 ?_
      refine packW 0 ?_
      refine weak_of (m := 1) [some 0] rfl rfl rfl (by rfl) ?_ ?_
      all_goals ((try simp (disch := first | assumption | (simp only [List.length_set]; assumption)) only [go_sem, Nat.reduceAdd, Nat.reduceMul, Nat.reduceSub, Nat.reduceEqDiff, ↓reduceIte, Nat.reduceLT, reduceCtorEq, Nat.reduceLeDiff, Int.reduceToNat, Int.reduceEq, Int.reduceLE, Int.reduceLT, Nat.reduceBEq, hl8, ht8]); (repeat' first | done | rfl | omega | refine And.intro ?_ ?_ | (simp; done) | (simp; omega)))
    · try refine sA ?_
      cases hs1
      cases hk1
      try dsimp only at h
      try refine sA ?_
      have he := Option.some.inj h
      subst he
      exact endsA ⟨[(4, (.lf false (.sc (.int .i64 g461.t1))))], [(0, some (false, .deep [.sc, .sc, .sl [.sl [.sc, .sc, .sc, .sc]]] (g461.c0.map eSaid)))], 1, 37⟩ [some 0]
theorem w_laws_markWorld_wwdd {a0 : WorldT} {a1 : Int} {m0 : Nat} {x0 : Bool} {m1 : Nat} {x1 : Bool} {r : (Int × (List RegionT) × (List SaidT))} (h : laws_markWorld_wwdd a0 a1 = some r) : Fn Tryz.prog 46 [(.ag [(.os 0 3 0 a0.Regions.length m0 x0), (.os 1 3 0 a0.Line.length m1 x1)]), (.lf false (.sc (.int .i64 a1)))] [(0, some (false, .deep [.sc, .sc, .sl [.sl [.sc, .sc, .sc, .sc]]] (a0.Regions.map eRegion))), (1, some (false, .deep [.sc, .sc, .sl [.sl [.sc, .sc, .sc, .sc]]] (a0.Line.map eSaid)))] 2 (.lf false (.sc (.int .i64 r.1))) [(0, some (false, .deep [.sc, .sc, .sl [.sl [.sc, .sc, .sc, .sc]]] (r.2.1.map eRegion))), (1, some (false, .deep [.sc, .sc, .sl [.sl [.sc, .sc, .sc, .sc]]] (r.2.2.map eSaid)))] 2 := by
  unfold laws_markWorld_wwdd at h
  refine fn_code tab_ok mixed [(1000, [(1, 0), (2, 0)]), (1001, [(1, 0), (2, 0)]), (1002, [(1, 0)]), (1003, [(4, 0)])] Tryz.func46 rfl rfl (by simp [Tryz.f46]) (by kernel_rfl) ?_
  simp only [Tryz.f46]
  refine sA ?_
  obtain ⟨c458, hr1, h⟩ := bind_ok h
  refine Cl_hA [0] (w_laws_markRegionS_wd hr1) ?_
  try refine sA ?_
  obtain ⟨hp2, h⟩ := guard_some h
  have hl2 : a0.Regions.length ≤ c458.2.length := by omega
  have ht2 : List.take (a0.Regions.length) c458.2 = c458.2 := by rw [← hp2]; exact List.take_length
  try simp (disch := first | assumption | (simp only [List.length_set]; assumption)) only [go_sem, Nat.reduceAdd, Nat.reduceMul, Nat.reduceSub, Nat.reduceEqDiff, ↓reduceIte, Nat.reduceLT, reduceCtorEq, Nat.reduceLeDiff, Int.reduceToNat, Int.reduceEq, Int.reduceLE, Int.reduceLT, Nat.reduceBEq, hl2, ht2]
  obtain ⟨c465, hr3, h⟩ := bind_ok h
  refine Cl_hand (ids := [1]) (w_laws_markSaidS_wd hr3) (by first | rfl | (simp (disch := first | assumption | (simp only [List.length_set]; assumption)) only [go_sem, Nat.reduceAdd, Nat.reduceMul, Nat.reduceSub, Nat.reduceEqDiff, ↓reduceIte, Nat.reduceLT, reduceCtorEq, Nat.reduceLeDiff, Int.reduceToNat, Int.reduceEq, Int.reduceLE, Int.reduceLT, Nat.reduceBEq, hl2, ht2]; first | done | rfl) | (simp only [List.length_append, List.length_cons, List.length_nil, List.length_map, List.length_set, List.length_replicate, Nat.zero_add, Nat.reduceAdd]; rfl) | (simp (disch := first | assumption | (simp only [List.length_set]; assumption)) only [go_sem, Nat.reduceAdd, Nat.reduceMul, Nat.reduceSub, Nat.reduceEqDiff, ↓reduceIte, Nat.reduceLT, reduceCtorEq, Nat.reduceLeDiff, Int.reduceToNat, Int.reduceEq, Int.reduceLE, Int.reduceLT, Nat.reduceBEq, hl2, ht2]; simp only [List.length_append, List.length_cons, List.length_nil, List.length_map, List.length_set, List.length_replicate, Nat.zero_add, Nat.reduceAdd]; rfl)) (FitAll.refl _) (by first | rfl | (simp (disch := first | assumption | (simp only [List.length_set]; assumption)) only [go_sem, Nat.reduceAdd, Nat.reduceMul, Nat.reduceSub, Nat.reduceEqDiff, ↓reduceIte, Nat.reduceLT, reduceCtorEq, Nat.reduceLeDiff, Int.reduceToNat, Int.reduceEq, Int.reduceLE, Int.reduceLT, Nat.reduceBEq, hl2, ht2]; first | done | rfl) | (simp only [List.length_append, List.length_cons, List.length_nil, List.length_map, List.length_set, List.length_replicate, Nat.zero_add, Nat.reduceAdd]; rfl) | (simp (disch := first | assumption | (simp only [List.length_set]; assumption)) only [go_sem, Nat.reduceAdd, Nat.reduceMul, Nat.reduceSub, Nat.reduceEqDiff, ↓reduceIte, Nat.reduceLT, reduceCtorEq, Nat.reduceLeDiff, Int.reduceToNat, Int.reduceEq, Int.reduceLE, Int.reduceLT, Nat.reduceBEq, hl2, ht2]; simp only [List.length_append, List.length_cons, List.length_nil, List.length_map, List.length_set, List.length_replicate, Nat.zero_add, Nat.reduceAdd]; rfl)) (by decide) (by first | rfl | (simp (disch := first | assumption | (simp only [List.length_set]; assumption)) only [go_sem, Nat.reduceAdd, Nat.reduceMul, Nat.reduceSub, Nat.reduceEqDiff, ↓reduceIte, Nat.reduceLT, reduceCtorEq, Nat.reduceLeDiff, Int.reduceToNat, Int.reduceEq, Int.reduceLE, Int.reduceLT, Nat.reduceBEq, hl2, ht2]; done)) (by rfl) ?_
  try simp (disch := first | assumption | (simp only [List.length_set]; assumption)) only [go_sem, Nat.reduceAdd, Nat.reduceMul, Nat.reduceSub, Nat.reduceEqDiff, ↓reduceIte, Nat.reduceLT, reduceCtorEq, Nat.reduceLeDiff, Int.reduceToNat, Int.reduceEq, Int.reduceLE, Int.reduceLT, Nat.reduceBEq, hl2, ht2]
  obtain ⟨hp4, h⟩ := guard_some h
  have hl4 : a0.Line.length ≤ c465.2.length := by omega
  have ht4 : List.take (a0.Line.length) c465.2 = c465.2 := by rw [← hp4]; exact List.take_length
  try simp (disch := first | assumption | (simp only [List.length_set]; assumption)) only [go_sem, Nat.reduceAdd, Nat.reduceMul, Nat.reduceSub, Nat.reduceEqDiff, ↓reduceIte, Nat.reduceLT, reduceCtorEq, Nat.reduceLeDiff, Int.reduceToNat, Int.reduceEq, Int.reduceLE, Int.reduceLT, Nat.reduceBEq, hl2, ht2, hl4, ht4]
  have he := Option.some.inj h
  subst he
  refine ends_weak ⟨[(4, (.lf false (.sc (.int .i64 c465.1))))], [(0, some (false, .deep [.sc, .sc, .sl [.sl [.sc, .sc, .sc, .sc]]] (c458.2.map eRegion))), (1, some (false, .deep [.sc, .sc, .sl [.sl [.sc, .sc, .sc, .sc]]] (c465.2.map eSaid)))], 2, 14⟩ (weak_of (m := 2) [some 0, some 1] rfl rfl rfl (by rfl) ?_ ?_) ?_
  all_goals ((try simp (disch := first | assumption | (simp only [List.length_set]; assumption)) only [go_sem, Nat.reduceAdd, Nat.reduceMul, Nat.reduceSub, Nat.reduceEqDiff, ↓reduceIte, Nat.reduceLT, reduceCtorEq, Nat.reduceLeDiff, Int.reduceToNat, Int.reduceEq, Int.reduceLE, Int.reduceLT, Nat.reduceBEq, hl2, ht2, hl4, ht4]); (repeat' first | done | rfl | omega | refine And.intro ?_ ?_ | (simp; done) | (simp; omega)))
theorem w_laws_markIntS_w {a0 : (List Int)} {a1 : Int} {m0 : Nat} {x0 : Bool} {r : (Int × (List Int))} (h : laws_markIntS_w a0 a1 = some r) : Fn Tryz.prog 47 [(.os 0 1 0 a0.length m0 x0), (.lf false (.sc (.int .i64 a1)))] [(0, some (false, .arr true 1 (a0.map eI)))] 1 (.lf false (.sc (.int .i64 r.1))) [(0, some (false, .arr false 1 (r.2.map eI)))] 1 := by
  unfold laws_markIntS_w at h
  refine fn_code tab_ok mixed [(1000, [(0, 0), (1, 0)]), (1001, [(0, 0), (1, 0), (5, 0)]), (1002, [(0, 0), (1, 0), (5, 0), (9, 0)]), (1003, [(0, 0), (1, 0), (5, 0)]), (1004, [(0, 0), (1, 0), (5, 0)]), (1005, [(0, 0), (1, 0), (5, 0)]), (1006, [(4, 0)])] Tryz.func47 rfl rfl (by simp [Tryz.f47]) (by kernel_rfl) ?_
  simp only [Tryz.f47]
  refine sA ?_
  obtain ⟨y471, hl1, h⟩ := bind_ok h
  refine W_loopP (fun g470 : laws_markIntS_w_G1 => ⟨[(0, (.os 0 1 0 g470.c0.length g470.c0.length false)), (1, (.lf false (.sc (.int .i64 g470.t1)))), (5, (.lf false (.sc (.int .i64 g470.t5))))], [(0, some (false, .arr true 1 (g470.c0.map eI)))], 1, 19⟩) (laws_markIntS_w_L1) _ _ hl1 (weakA [some 0]) ?_
  · intro n1 g470 z1 hs1 hk1
    unfold laws_markIntS_w_L1 at hs1
    try dsimp only at hs1
    refine sA ?_
    refine Bs_if hs1 (fun hs1 hc2 => ?_) (fun hs1 hc2 => ?_)
    · try refine sA ?_
      obtain ⟨hp3, hs1⟩ := guard_some hs1
      have hn3 : g470.t5.toNat < g470.c0.length := by first | omega | (simp only [List.length_set, List.length_append, List.length_replicate, List.length_map]; omega)
      try refine sA ?_
      try refine andA ?_
      try refine andB ?_
      try refine sA ?_
      cases hs1
      exact X_backP hk1 (weakA [some 0])
    · try refine sA ?_
      cases hs1
      cases hk1
      try dsimp only at h
      try refine sA ?_
      have he := Option.some.inj h
      subst he
      exact endsA ⟨[(4, (.lf false (.sc (.int .i64 g470.t1))))], [(0, some (false, .arr false 1 (g470.c0.map eI)))], 1, 19⟩ [some 0]
theorem w_laws_heldIntS {a0 : (List Int)} {a1 : Int} {r : Int} (h : laws_heldIntS a0 a1 = some r) : Fn Tryz.prog 48 [(.lf true (.sl (a0.map eI))), (.lf false (.sc (.int .i64 a1)))] [] 0 (.lf false (.sc (.int .i64 r))) [] 0 := by
  unfold laws_heldIntS at h
  refine fn_code tab_ok mixed [(1000, [(0, 0), (1, 0)]), (1001, [(0, 0), (1, 0), (5, 0)]), (1002, [(0, 0), (1, 0), (5, 0), (9, 0)]), (1003, [(0, 0), (1, 0), (5, 0)]), (1004, [(0, 0), (1, 0), (5, 0), (17, 0)]), (1005, [(4, 0)]), (1006, [(0, 0), (1, 0), (5, 0)]), (1007, [(4, 0)])] Tryz.func48 rfl rfl (by simp [Tryz.f48]) (by kernel_rfl) ?_
  simp only [Tryz.f48]
  refine sA ?_
  obtain ⟨y474, hl1, h⟩ := bind_ok h
  refine W_loopP (fun g473 : laws_heldIntS_G1 => ⟨[(0, (.lf true (.sl (a0.map eI)))), (1, (.lf false (.sc (.int .i64 g473.t1)))), (5, (.lf false (.sc (.int .i64 g473.t5))))], [], 0, 21⟩) (laws_heldIntS_L1 a0) _ _ hl1 (weakA []) ?_
  · intro n1 g473 z1 hs1 hk1
    unfold laws_heldIntS_L1 at hs1
    try dsimp only at hs1
    refine sA ?_
    refine Bs_if hs1 (fun hs1 hc2 => ?_) (fun hs1 hc2 => ?_)
    · try refine sA ?_
      obtain ⟨hp3, hs1⟩ := guard_some hs1
      have hn3 : g473.t5.toNat < a0.length := by first | omega | (simp only [List.length_set, List.length_append, List.length_replicate, List.length_map]; omega)
      try refine sA ?_
      try refine andA ?_
      refine Bs_if hs1 (fun hs1 hc4 => ?_) (fun hs1 hc4 => ?_)
      · try refine sA ?_
        cases hs1
        cases hk1
        try dsimp only at h
        try refine sA ?_
        have he := Option.some.inj h
        subst he
        exact endsA ⟨[(4, (.lf false (.sc (.int .i64 (-1)))))], [], 0, 21⟩ []
      · try refine sA ?_
        cases hs1
        exact X_backP hk1 (weakA [])
    · try refine sA ?_
      cases hs1
      cases hk1
      try dsimp only at h
      try refine sA ?_
      have he := Option.some.inj h
      subst he
      exact endsA ⟨[(4, (.lf false (.sc (.int .i64 g473.t1))))], [], 0, 21⟩ []
theorem w_laws_FnExactLeadersIn {a0 : WorldT} {r : Bool} (h : laws_FnExactLeadersIn a0 = some r) : Fn Tryz.prog 7 [(.ag [(.lf true (.sl (a0.Regions.map eRegion))), (.lf true (.sl (a0.Line.map eSaid)))])] [] 0 (.lf false (.sc (.bool r))) [] 0 := by
  unfold laws_FnExactLeadersIn at h
  refine fn_code tab_ok mixed [(10, [(0, 2)]), (1000, [(1, 0)]), (1001, [(1, 0), (3, 0)]), (1002, [(1, 0), (3, 0)]), (1003, [(1, 0), (18, 0)]), (1004, [(2, 0)]), (1005, [(1, 0), (4, 0), (5, 0)]), (1006, [(1, 0), (4, 0), (5, 0), (6, 0)]), (1007, [(1, 0), (4, 0), (5, 0), (6, 0), (7, 0), (8, 0)]), (1008, [(1, 0), (4, 0), (5, 0), (6, 0), (7, 0), (8, 0), (40, 0)]), (1009, [(2, 0)]), (1010, [(1, 0), (4, 0), (5, 0), (6, 0), (7, 0), (8, 0), (45, 0)]), (1011, [(2, 0)]), (1012, [(1, 0), (4, 0), (5, 0), (6, 0), (7, 0), (8, 0), (9, 0)]), (1013, [(1, 0), (4, 0), (5, 0), (7, 0), (8, 0), (9, 0)]), (1014, [(1, 0), (4, 0), (5, 0), (7, 0), (61, 0)]), (1015, [(2, 0)]), (1016, [(1, 0), (4, 0), (5, 0), (7, 0), (10, 0)]), (1017, [(1, 0), (4, 0), (5, 0), (7, 0), (10, 0)]), (1018, [(1, 0), (4, 0), (5, 0), (7, 0), (10, 0), (11, 0)]), (1019, [(1, 0), (4, 0), (5, 0), (7, 0), (10, 0), (11, 0)]), (1020, [(1, 0), (4, 0), (5, 0), (7, 0), (10, 0), (11, 0), (69, 0)]), (1021, [(2, 0)]), (1022, [(1, 0), (4, 0), (5, 0), (7, 0), (10, 0), (72, 0)]), (1023, [(2, 0)]), (1024, [(4, 0), (5, 0), (7, 0), (10, 0), (12, 0), (13, 0)]), (1025, [(7, 0), (10, 0), (87, 0)]), (1026, [(2, 0)]), (1027, [(7, 0), (10, 0), (11, 0)]), (1028, [(10, 0), (11, 0)]), (1029, [(10, 0), (11, 0), (92, 0)]), (1030, [(2, 0)]), (1031, [(95, 0)]), (1032, [(2, 0)]), (1033, [(2, 0)]), (4008, []), (4014, []), (4025, [])] Tryz.func7 rfl rfl (by simp [Tryz.f7]) (by kernel_rfl) ?_
  simp only [Tryz.f7]
  refine sA ?_
  obtain ⟨c32, hr1, h⟩ := bind_ok h
  refine Cl_sA (w_laws_szWorld hr1) ?_
  try refine sA ?_
  refine Bs_if h (fun h hc2 => ?_) (fun h hc2 => ?_)
  · try refine sA ?_
    have he := Option.some.inj h
    subst he
    exact endsA ⟨[(2, (.lf false (.sc (.bool true))))], [], 0, 96⟩ []
  · try refine sA ?_
    obtain ⟨c62, hr3, h⟩ := bind_ok h
    refine Cl_sA (w_laws_toWorld_d hr3) ?_
    try refine sA ?_
    obtain ⟨c214, hr4, h⟩ := bind_ok h
    refine Cl_sA (w_spec_LeadersIn hr4) ?_
    try refine sA ?_
    obtain ⟨c215, hr5, h⟩ := bind_ok h
    refine Cl_sA (w_laws_toWorld_d hr5) ?_
    try refine sA ?_
    obtain ⟨c399, hr6, h⟩ := bind_ok h
    refine Cl_sA (w_impl_LeadersIn hr6) ?_
    try refine sA ?_
    obtain ⟨p405, hq7, h⟩ := bind_ok h
    refine Sq_cut (fun s2 => s2 = ⟨[(1, (.pb 0 0)), (4, (.os 1 1 0 c214.1.length c214.1.length false)), (5, (.lf false (.sc (.bool c214.2)))), (6, (.pb 2 0)), (7, (.os 3 1 0 c399.1.length c399.1.length false)), (8, (.lf false (.sc (.bool c399.2)))), (40, (.lf false (.sc (.bool p405.t40))))], [(0, some (true, .box [(.lf true (.sl (a0.Regions.map eRegion))), (.lf true (.sl (a0.Line.map eSaid)))])), (1, some (true, .arr false 1 (c214.1.map eI))), (2, some (true, .box [(.os 4 3 0 c215.Regions.length c215.Regions.length false), (.os 5 3 0 c215.Line.length c215.Line.length false)])), (3, some (true, .arr false 1 (c399.1.map eI))), (4, some (true, .deep [.sc, .sc, .sl [.sl [.sc, .sc, .sc, .sc]]] (c215.Regions.map eRegion))), (5, some (true, .deep [.sc, .sc, .sl [.sl [.sc, .sc, .sc, .sc]]] (c215.Line.map eSaid)))], 6, 96⟩) ?_ ?_
    · try refine sA ?_
      obtain ⟨c404, hr8, hq7⟩ := bind_ok hq7
      refine Cl_sA (w_laws_eqIntS hr8) ?_
      try refine sA ?_
      refine Sp_if hq7 (fun hq7 hc9 => ?_) (fun hq7 hc9 => ?_)
      · try refine sA ?_
        cases hq7
        exact X_cut rfl (weakA [some 0, some 4, some 8, some 9, some 5, some 6])
      · try refine sA ?_
        cases hq7
        exact X_cut rfl (weakA [some 0, some 4, some 8, some 9, some 5, some 6])
    · intro s2 hJ; subst hJ
      try dsimp only at h
      try refine sA ?_
      refine Bs_if h (fun h hc10 => ?_) (fun h hc10 => ?_)
      · try refine sA ?_
        have he := Option.some.inj h
        subst he
        exact endsA ⟨[(2, (.lf false (.sc (.bool false))))], [], 0, 96⟩ []
      · try refine sA ?_
        obtain ⟨c406, hr11, h⟩ := bind_ok h
        refine Cl_sA (w_laws_toWorld_d hr11) ?_
        try refine sA ?_
        obtain ⟨c438, hr12, h⟩ := bind_ok h
        refine Cl_sA (w_laws_eqWorld hr12) ?_
        try refine sA ?_
        refine Bs_if h (fun h hc13 => ?_) (fun h hc13 => ?_)
        · try refine sA ?_
          have he := Option.some.inj h
          subst he
          exact endsA ⟨[(2, (.lf false (.sc (.bool false))))], [], 0, 96⟩ []
        · try refine sA ?_
          obtain ⟨c466, hr14, h⟩ := bind_ok h
          refine Cl_hA [4, 5] (w_laws_markWorld_wwdd hr14) ?_
          try refine sA ?_
          obtain ⟨hp15, h⟩ := guard_some h
          have hl15 : c215.Regions.length ≤ c466.2.1.length := by omega
          have ht15 : List.take (c215.Regions.length) c466.2.1 = c466.2.1 := by rw [← hp15]; exact List.take_length
          try simp (disch := first | assumption | (simp only [List.length_set]; assumption)) only [go_sem, Nat.reduceAdd, Nat.reduceMul, Nat.reduceSub, Nat.reduceEqDiff, ↓reduceIte, Nat.reduceLT, reduceCtorEq, Nat.reduceLeDiff, Int.reduceToNat, Int.reduceEq, Int.reduceLE, Int.reduceLT, Nat.reduceBEq, hl15, ht15]
          obtain ⟨hp16, h⟩ := guard_some h
          have hl16 : c215.Line.length ≤ c466.2.2.length := by omega
          have ht16 : List.take (c215.Line.length) c466.2.2 = c466.2.2 := by rw [← hp16]; exact List.take_length
          try simp (disch := first | assumption | (simp only [List.length_set]; assumption)) only [go_sem, Nat.reduceAdd, Nat.reduceMul, Nat.reduceSub, Nat.reduceEqDiff, ↓reduceIte, Nat.reduceLT, reduceCtorEq, Nat.reduceLeDiff, Int.reduceToNat, Int.reduceEq, Int.reduceLE, Int.reduceLT, Nat.reduceBEq, hl15, ht15, hl16, ht16]
          obtain ⟨p468, hq17, h⟩ := bind_ok h
          refine Sq_cut (fun s2 => s2 = ⟨[(1, (.pb 0 0)), (4, (.os 1 1 0 c214.1.length c214.1.length false)), (5, (.lf false (.sc (.bool c214.2)))), (7, (.os 2 1 0 c399.1.length c399.1.length false)), (61, (.lf false (.sc (.bool p468.t61))))], [(0, some (true, .box [(.lf true (.sl (a0.Regions.map eRegion))), (.lf true (.sl (a0.Line.map eSaid)))])), (1, some (true, .arr false 1 (c214.1.map eI))), (2, some (true, .arr false 1 (c399.1.map eI)))], 3, 96⟩) ?_ ?_
          · try simp (disch := first | assumption | (simp only [List.length_set]; assumption)) only [go_sem, Nat.reduceAdd, Nat.reduceMul, Nat.reduceSub, Nat.reduceEqDiff, ↓reduceIte, Nat.reduceLT, reduceCtorEq, Nat.reduceLeDiff, Int.reduceToNat, Int.reduceEq, Int.reduceLE, Int.reduceLT, Nat.reduceBEq, hl15, ht15, hl16, ht16]
            refine Sp_if hq17 (fun hq17 hc18 => ?_) (fun hq17 hc18 => ?_)
            · try simp (disch := first | assumption | (simp only [List.length_set]; assumption)) only [go_sem, Nat.reduceAdd, Nat.reduceMul, Nat.reduceSub, Nat.reduceEqDiff, ↓reduceIte, Nat.reduceLT, reduceCtorEq, Nat.reduceLeDiff, Int.reduceToNat, Int.reduceEq, Int.reduceLE, Int.reduceLT, Nat.reduceBEq, hl15, ht15, hl16, ht16]
              cases hq17
              refine X_cut rfl ?_
              refine weak_of (m := 0) [some 0, some 1, some 3] rfl rfl rfl (by rfl) ?_ ?_
              all_goals ((try simp (disch := first | assumption | (simp only [List.length_set]; assumption)) only [go_sem, Nat.reduceAdd, Nat.reduceMul, Nat.reduceSub, Nat.reduceEqDiff, ↓reduceIte, Nat.reduceLT, reduceCtorEq, Nat.reduceLeDiff, Int.reduceToNat, Int.reduceEq, Int.reduceLE, Int.reduceLT, Nat.reduceBEq, hl15, ht15, hl16, ht16]); (repeat' first | done | rfl | omega | refine And.intro ?_ ?_ | (simp; done) | (simp; omega)))
            · try simp (disch := first | assumption | (simp only [List.length_set]; assumption)) only [go_sem, Nat.reduceAdd, Nat.reduceMul, Nat.reduceSub, Nat.reduceEqDiff, ↓reduceIte, Nat.reduceLT, reduceCtorEq, Nat.reduceLeDiff, Int.reduceToNat, Int.reduceEq, Int.reduceLE, Int.reduceLT, Nat.reduceBEq, hl15, ht15, hl16, ht16]
              obtain ⟨c467, hr19, hq17⟩ := bind_ok hq17
              refine Cl_shown (w_laws_eqIntS hr19) (by first | rfl | (simp (disch := first | assumption | (simp only [List.length_set]; assumption)) only [go_sem, Nat.reduceAdd, Nat.reduceMul, Nat.reduceSub, Nat.reduceEqDiff, ↓reduceIte, Nat.reduceLT, reduceCtorEq, Nat.reduceLeDiff, Int.reduceToNat, Int.reduceEq, Int.reduceLE, Int.reduceLT, Nat.reduceBEq, hl15, ht15, hl16, ht16]; first | done | rfl) | (simp only [List.length_append, List.length_cons, List.length_nil, List.length_map, List.length_set, List.length_replicate, Nat.zero_add, Nat.reduceAdd]; rfl) | (simp (disch := first | assumption | (simp only [List.length_set]; assumption)) only [go_sem, Nat.reduceAdd, Nat.reduceMul, Nat.reduceSub, Nat.reduceEqDiff, ↓reduceIte, Nat.reduceLT, reduceCtorEq, Nat.reduceLeDiff, Int.reduceToNat, Int.reduceEq, Int.reduceLE, Int.reduceLT, Nat.reduceBEq, hl15, ht15, hl16, ht16]; simp only [List.length_append, List.length_cons, List.length_nil, List.length_map, List.length_set, List.length_replicate, Nat.zero_add, Nat.reduceAdd]; rfl)) (FitAll.refl _) (.inr ⟨rfl, by simp [freeOb, free1]⟩) ?_
              try simp (disch := first | assumption | (simp only [List.length_set]; assumption)) only [go_sem, Nat.reduceAdd, Nat.reduceMul, Nat.reduceSub, Nat.reduceEqDiff, ↓reduceIte, Nat.reduceLT, reduceCtorEq, Nat.reduceLeDiff, Int.reduceToNat, Int.reduceEq, Int.reduceLE, Int.reduceLT, Nat.reduceBEq, hl15, ht15, hl16, ht16]
              refine Sp_if hq17 (fun hq17 hc20 => ?_) (fun hq17 hc20 => ?_)
              · try simp (disch := first | assumption | (simp only [List.length_set]; assumption)) only [go_sem, Nat.reduceAdd, Nat.reduceMul, Nat.reduceSub, Nat.reduceEqDiff, ↓reduceIte, Nat.reduceLT, reduceCtorEq, Nat.reduceLeDiff, Int.reduceToNat, Int.reduceEq, Int.reduceLE, Int.reduceLT, Nat.reduceBEq, hl15, ht15, hl16, ht16]
                cases hq17
                refine X_cut rfl ?_
                refine weak_of (m := 0) [some 0, some 1, some 3] rfl rfl rfl (by rfl) ?_ ?_
                all_goals ((try simp (disch := first | assumption | (simp only [List.length_set]; assumption)) only [go_sem, Nat.reduceAdd, Nat.reduceMul, Nat.reduceSub, Nat.reduceEqDiff, ↓reduceIte, Nat.reduceLT, reduceCtorEq, Nat.reduceLeDiff, Int.reduceToNat, Int.reduceEq, Int.reduceLE, Int.reduceLT, Nat.reduceBEq, hl15, ht15, hl16, ht16]); (repeat' first | done | rfl | omega | refine And.intro ?_ ?_ | (simp; done) | (simp; omega)))
              · try simp (disch := first | assumption | (simp only [List.length_set]; assumption)) only [go_sem, Nat.reduceAdd, Nat.reduceMul, Nat.reduceSub, Nat.reduceEqDiff, ↓reduceIte, Nat.reduceLT, reduceCtorEq, Nat.reduceLeDiff, Int.reduceToNat, Int.reduceEq, Int.reduceLE, Int.reduceLT, Nat.reduceBEq, hl15, ht15, hl16, ht16]
                cases hq17
                refine X_cut rfl ?_
                refine weak_of (m := 0) [some 0, some 1, some 3] rfl rfl rfl (by rfl) ?_ ?_
                all_goals ((try simp (disch := first | assumption | (simp only [List.length_set]; assumption)) only [go_sem, Nat.reduceAdd, Nat.reduceMul, Nat.reduceSub, Nat.reduceEqDiff, ↓reduceIte, Nat.reduceLT, reduceCtorEq, Nat.reduceLeDiff, Int.reduceToNat, Int.reduceEq, Int.reduceLE, Int.reduceLT, Nat.reduceBEq, hl15, ht15, hl16, ht16]); (repeat' first | done | rfl | omega | refine And.intro ?_ ?_ | (simp; done) | (simp; omega)))
          · intro s2 hJ; subst hJ
            try dsimp only at h
            try simp (disch := first | assumption | (simp only [List.length_set]; assumption)) only [go_sem, Nat.reduceAdd, Nat.reduceMul, Nat.reduceSub, Nat.reduceEqDiff, ↓reduceIte, Nat.reduceLT, reduceCtorEq, Nat.reduceLeDiff, Int.reduceToNat, Int.reduceEq, Int.reduceLE, Int.reduceLT, Nat.reduceBEq, hl15, ht15, hl16, ht16]
            refine Bs_if h (fun h hc21 => ?_) (fun h hc21 => ?_)
            · try simp (disch := first | assumption | (simp only [List.length_set]; assumption)) only [go_sem, Nat.reduceAdd, Nat.reduceMul, Nat.reduceSub, Nat.reduceEqDiff, ↓reduceIte, Nat.reduceLT, reduceCtorEq, Nat.reduceLeDiff, Int.reduceToNat, Int.reduceEq, Int.reduceLE, Int.reduceLT, Nat.reduceBEq, hl15, ht15, hl16, ht16]
              have he := Option.some.inj h
              subst he
              refine ends_weak ⟨[(2, (.lf false (.sc (.bool false))))], [], 0, 96⟩ (weak_of (m := 0) [] rfl rfl rfl (by rfl) ?_ ?_) ?_
              all_goals ((try simp (disch := first | assumption | (simp only [List.length_set]; assumption)) only [go_sem, Nat.reduceAdd, Nat.reduceMul, Nat.reduceSub, Nat.reduceEqDiff, ↓reduceIte, Nat.reduceLT, reduceCtorEq, Nat.reduceLeDiff, Int.reduceToNat, Int.reduceEq, Int.reduceLE, Int.reduceLT, Nat.reduceBEq, hl15, ht15, hl16, ht16]); (repeat' first | done | rfl | omega | refine And.intro ?_ ?_ | (simp; done) | (simp; omega)))
            · try simp (disch := first | assumption | (simp only [List.length_set]; assumption)) only [go_sem, Nat.reduceAdd, Nat.reduceMul, Nat.reduceSub, Nat.reduceEqDiff, ↓reduceIte, Nat.reduceLT, reduceCtorEq, Nat.reduceLeDiff, Int.reduceToNat, Int.reduceEq, Int.reduceLE, Int.reduceLT, Nat.reduceBEq, hl15, ht15, hl16, ht16]
              obtain ⟨c472, hr22, h⟩ := bind_ok h
              refine Cl_hand (ids := [2]) (w_laws_markIntS_w hr22) (by first | rfl | (simp (disch := first | assumption | (simp only [List.length_set]; assumption)) only [go_sem, Nat.reduceAdd, Nat.reduceMul, Nat.reduceSub, Nat.reduceEqDiff, ↓reduceIte, Nat.reduceLT, reduceCtorEq, Nat.reduceLeDiff, Int.reduceToNat, Int.reduceEq, Int.reduceLE, Int.reduceLT, Nat.reduceBEq, hl15, ht15, hl16, ht16]; first | done | rfl) | (simp only [List.length_append, List.length_cons, List.length_nil, List.length_map, List.length_set, List.length_replicate, Nat.zero_add, Nat.reduceAdd]; rfl) | (simp (disch := first | assumption | (simp only [List.length_set]; assumption)) only [go_sem, Nat.reduceAdd, Nat.reduceMul, Nat.reduceSub, Nat.reduceEqDiff, ↓reduceIte, Nat.reduceLT, reduceCtorEq, Nat.reduceLeDiff, Int.reduceToNat, Int.reduceEq, Int.reduceLE, Int.reduceLT, Nat.reduceBEq, hl15, ht15, hl16, ht16]; simp only [List.length_append, List.length_cons, List.length_nil, List.length_map, List.length_set, List.length_replicate, Nat.zero_add, Nat.reduceAdd]; rfl)) (FitAll.refl _) (by first | rfl | (simp (disch := first | assumption | (simp only [List.length_set]; assumption)) only [go_sem, Nat.reduceAdd, Nat.reduceMul, Nat.reduceSub, Nat.reduceEqDiff, ↓reduceIte, Nat.reduceLT, reduceCtorEq, Nat.reduceLeDiff, Int.reduceToNat, Int.reduceEq, Int.reduceLE, Int.reduceLT, Nat.reduceBEq, hl15, ht15, hl16, ht16]; first | done | rfl) | (simp only [List.length_append, List.length_cons, List.length_nil, List.length_map, List.length_set, List.length_replicate, Nat.zero_add, Nat.reduceAdd]; rfl) | (simp (disch := first | assumption | (simp only [List.length_set]; assumption)) only [go_sem, Nat.reduceAdd, Nat.reduceMul, Nat.reduceSub, Nat.reduceEqDiff, ↓reduceIte, Nat.reduceLT, reduceCtorEq, Nat.reduceLeDiff, Int.reduceToNat, Int.reduceEq, Int.reduceLE, Int.reduceLT, Nat.reduceBEq, hl15, ht15, hl16, ht16]; simp only [List.length_append, List.length_cons, List.length_nil, List.length_map, List.length_set, List.length_replicate, Nat.zero_add, Nat.reduceAdd]; rfl)) (by decide) (by first | rfl | (simp (disch := first | assumption | (simp only [List.length_set]; assumption)) only [go_sem, Nat.reduceAdd, Nat.reduceMul, Nat.reduceSub, Nat.reduceEqDiff, ↓reduceIte, Nat.reduceLT, reduceCtorEq, Nat.reduceLeDiff, Int.reduceToNat, Int.reduceEq, Int.reduceLE, Int.reduceLT, Nat.reduceBEq, hl15, ht15, hl16, ht16]; done)) (by rfl) ?_
              try simp (disch := first | assumption | (simp only [List.length_set]; assumption)) only [go_sem, Nat.reduceAdd, Nat.reduceMul, Nat.reduceSub, Nat.reduceEqDiff, ↓reduceIte, Nat.reduceLT, reduceCtorEq, Nat.reduceLeDiff, Int.reduceToNat, Int.reduceEq, Int.reduceLE, Int.reduceLT, Nat.reduceBEq, hl15, ht15, hl16, ht16]
              obtain ⟨hp23, h⟩ := guard_some h
              have hl23 : c399.1.length ≤ c472.2.length := by omega
              have ht23 : List.take (c399.1.length) c472.2 = c472.2 := by rw [← hp23]; exact List.take_length
              try simp (disch := first | assumption | (simp only [List.length_set]; assumption)) only [go_sem, Nat.reduceAdd, Nat.reduceMul, Nat.reduceSub, Nat.reduceEqDiff, ↓reduceIte, Nat.reduceLT, reduceCtorEq, Nat.reduceLeDiff, Int.reduceToNat, Int.reduceEq, Int.reduceLE, Int.reduceLT, Nat.reduceBEq, hl15, ht15, hl16, ht16, hl23, ht23]
              obtain ⟨c477, hr24, h⟩ := bind_ok h
              refine Cl_shown (w_laws_heldIntS hr24) (by first | rfl | (simp (disch := first | assumption | (simp only [List.length_set]; assumption)) only [go_sem, Nat.reduceAdd, Nat.reduceMul, Nat.reduceSub, Nat.reduceEqDiff, ↓reduceIte, Nat.reduceLT, reduceCtorEq, Nat.reduceLeDiff, Int.reduceToNat, Int.reduceEq, Int.reduceLE, Int.reduceLT, Nat.reduceBEq, hl15, ht15, hl16, ht16, hl23, ht23]; first | done | rfl) | (simp only [List.length_append, List.length_cons, List.length_nil, List.length_map, List.length_set, List.length_replicate, Nat.zero_add, Nat.reduceAdd]; rfl) | (simp (disch := first | assumption | (simp only [List.length_set]; assumption)) only [go_sem, Nat.reduceAdd, Nat.reduceMul, Nat.reduceSub, Nat.reduceEqDiff, ↓reduceIte, Nat.reduceLT, reduceCtorEq, Nat.reduceLeDiff, Int.reduceToNat, Int.reduceEq, Int.reduceLE, Int.reduceLT, Nat.reduceBEq, hl15, ht15, hl16, ht16, hl23, ht23]; simp only [List.length_append, List.length_cons, List.length_nil, List.length_map, List.length_set, List.length_replicate, Nat.zero_add, Nat.reduceAdd]; rfl)) (FitAll.refl _) (.inr ⟨rfl, by simp [freeOb, free1]⟩) ?_
              try simp (disch := first | assumption | (simp only [List.length_set]; assumption)) only [go_sem, Nat.reduceAdd, Nat.reduceMul, Nat.reduceSub, Nat.reduceEqDiff, ↓reduceIte, Nat.reduceLT, reduceCtorEq, Nat.reduceLeDiff, Int.reduceToNat, Int.reduceEq, Int.reduceLE, Int.reduceLT, Nat.reduceBEq, hl15, ht15, hl16, ht16, hl23, ht23]
              refine Bs_if h (fun h hc25 => ?_) (fun h hc25 => ?_)
              · try simp (disch := first | assumption | (simp only [List.length_set]; assumption)) only [go_sem, Nat.reduceAdd, Nat.reduceMul, Nat.reduceSub, Nat.reduceEqDiff, ↓reduceIte, Nat.reduceLT, reduceCtorEq, Nat.reduceLeDiff, Int.reduceToNat, Int.reduceEq, Int.reduceLE, Int.reduceLT, Nat.reduceBEq, hl15, ht15, hl16, ht16, hl23, ht23]
                have he := Option.some.inj h
                subst he
                refine ends_weak ⟨[(2, (.lf false (.sc (.bool false))))], [], 0, 96⟩ (weak_of (m := 0) [] rfl rfl rfl (by rfl) ?_ ?_) ?_
                all_goals ((try simp (disch := first | assumption | (simp only [List.length_set]; assumption)) only [go_sem, Nat.reduceAdd, Nat.reduceMul, Nat.reduceSub, Nat.reduceEqDiff, ↓reduceIte, Nat.reduceLT, reduceCtorEq, Nat.reduceLeDiff, Int.reduceToNat, Int.reduceEq, Int.reduceLE, Int.reduceLT, Nat.reduceBEq, hl15, ht15, hl16, ht16, hl23, ht23]); (repeat' first | done | rfl | omega | refine And.intro ?_ ?_ | (simp; done) | (simp; omega)))
              · try simp (disch := first | assumption | (simp only [List.length_set]; assumption)) only [go_sem, Nat.reduceAdd, Nat.reduceMul, Nat.reduceSub, Nat.reduceEqDiff, ↓reduceIte, Nat.reduceLT, reduceCtorEq, Nat.reduceLeDiff, Int.reduceToNat, Int.reduceEq, Int.reduceLE, Int.reduceLT, Nat.reduceBEq, hl15, ht15, hl16, ht16, hl23, ht23]
                refine Bs_if h (fun h hc26 => ?_) (fun h hc26 => ?_)
                · try simp (disch := first | assumption | (simp only [List.length_set]; assumption)) only [go_sem, Nat.reduceAdd, Nat.reduceMul, Nat.reduceSub, Nat.reduceEqDiff, ↓reduceIte, Nat.reduceLT, reduceCtorEq, Nat.reduceLeDiff, Int.reduceToNat, Int.reduceEq, Int.reduceLE, Int.reduceLT, Nat.reduceBEq, hl15, ht15, hl16, ht16, hl23, ht23]
                  have he := Option.some.inj h
                  subst he
                  refine ends_weak ⟨[(2, (.lf false (.sc (.bool false))))], [], 0, 96⟩ (weak_of (m := 0) [] rfl rfl rfl (by rfl) ?_ ?_) ?_
                  all_goals ((try simp (disch := first | assumption | (simp only [List.length_set]; assumption)) only [go_sem, Nat.reduceAdd, Nat.reduceMul, Nat.reduceSub, Nat.reduceEqDiff, ↓reduceIte, Nat.reduceLT, reduceCtorEq, Nat.reduceLeDiff, Int.reduceToNat, Int.reduceEq, Int.reduceLE, Int.reduceLT, Nat.reduceBEq, hl15, ht15, hl16, ht16, hl23, ht23]); (repeat' first | done | rfl | omega | refine And.intro ?_ ?_ | (simp; done) | (simp; omega)))
                · try simp (disch := first | assumption | (simp only [List.length_set]; assumption)) only [go_sem, Nat.reduceAdd, Nat.reduceMul, Nat.reduceSub, Nat.reduceEqDiff, ↓reduceIte, Nat.reduceLT, reduceCtorEq, Nat.reduceLeDiff, Int.reduceToNat, Int.reduceEq, Int.reduceLE, Int.reduceLT, Nat.reduceBEq, hl15, ht15, hl16, ht16, hl23, ht23]
                  obtain ⟨c478, hr27, h⟩ := bind_ok h
                  refine Cl_shown (w_laws_toWorld_d hr27) (by first | rfl | (simp (disch := first | assumption | (simp only [List.length_set]; assumption)) only [go_sem, Nat.reduceAdd, Nat.reduceMul, Nat.reduceSub, Nat.reduceEqDiff, ↓reduceIte, Nat.reduceLT, reduceCtorEq, Nat.reduceLeDiff, Int.reduceToNat, Int.reduceEq, Int.reduceLE, Int.reduceLT, Nat.reduceBEq, hl15, ht15, hl16, ht16, hl23, ht23]; first | done | rfl) | (simp only [List.length_append, List.length_cons, List.length_nil, List.length_map, List.length_set, List.length_replicate, Nat.zero_add, Nat.reduceAdd]; rfl) | (simp (disch := first | assumption | (simp only [List.length_set]; assumption)) only [go_sem, Nat.reduceAdd, Nat.reduceMul, Nat.reduceSub, Nat.reduceEqDiff, ↓reduceIte, Nat.reduceLT, reduceCtorEq, Nat.reduceLeDiff, Int.reduceToNat, Int.reduceEq, Int.reduceLE, Int.reduceLT, Nat.reduceBEq, hl15, ht15, hl16, ht16, hl23, ht23]; simp only [List.length_append, List.length_cons, List.length_nil, List.length_map, List.length_set, List.length_replicate, Nat.zero_add, Nat.reduceAdd]; rfl)) (FitAll.refl _) (.inl (by first | rfl | (simp (disch := first | assumption | (simp only [List.length_set]; assumption)) only [go_sem, Nat.reduceAdd, Nat.reduceMul, Nat.reduceSub, Nat.reduceEqDiff, ↓reduceIte, Nat.reduceLT, reduceCtorEq, Nat.reduceLeDiff, Int.reduceToNat, Int.reduceEq, Int.reduceLE, Int.reduceLT, Nat.reduceBEq, hl15, ht15, hl16, ht16, hl23, ht23]; done))) ?_
                  try simp (disch := first | assumption | (simp only [List.length_set]; assumption)) only [go_sem, Nat.reduceAdd, Nat.reduceMul, Nat.reduceSub, Nat.reduceEqDiff, ↓reduceIte, Nat.reduceLT, reduceCtorEq, Nat.reduceLeDiff, Int.reduceToNat, Int.reduceEq, Int.reduceLE, Int.reduceLT, Nat.reduceBEq, hl15, ht15, hl16, ht16, hl23, ht23]
                  obtain ⟨c479, hr28, h⟩ := bind_ok h
                  refine Cl_shown (w_impl_LeadersIn hr28) (by first | rfl | (simp (disch := first | assumption | (simp only [List.length_set]; assumption)) only [go_sem, Nat.reduceAdd, Nat.reduceMul, Nat.reduceSub, Nat.reduceEqDiff, ↓reduceIte, Nat.reduceLT, reduceCtorEq, Nat.reduceLeDiff, Int.reduceToNat, Int.reduceEq, Int.reduceLE, Int.reduceLT, Nat.reduceBEq, hl15, ht15, hl16, ht16, hl23, ht23]; first | done | rfl) | (simp only [List.length_append, List.length_cons, List.length_nil, List.length_map, List.length_set, List.length_replicate, Nat.zero_add, Nat.reduceAdd]; rfl) | (simp (disch := first | assumption | (simp only [List.length_set]; assumption)) only [go_sem, Nat.reduceAdd, Nat.reduceMul, Nat.reduceSub, Nat.reduceEqDiff, ↓reduceIte, Nat.reduceLT, reduceCtorEq, Nat.reduceLeDiff, Int.reduceToNat, Int.reduceEq, Int.reduceLE, Int.reduceLT, Nat.reduceBEq, hl15, ht15, hl16, ht16, hl23, ht23]; simp only [List.length_append, List.length_cons, List.length_nil, List.length_map, List.length_set, List.length_replicate, Nat.zero_add, Nat.reduceAdd]; rfl)) (FitAll.refl _) (.inr ⟨rfl, by simp [freeOb, free1]⟩) ?_
                  try simp (disch := first | assumption | (simp only [List.length_set]; assumption)) only [go_sem, Nat.reduceAdd, Nat.reduceMul, Nat.reduceSub, Nat.reduceEqDiff, ↓reduceIte, Nat.reduceLT, reduceCtorEq, Nat.reduceLeDiff, Int.reduceToNat, Int.reduceEq, Int.reduceLE, Int.reduceLT, Nat.reduceBEq, hl15, ht15, hl16, ht16, hl23, ht23]
                  obtain ⟨p481, hq29, h⟩ := bind_ok h
                  refine Sq_cut (fun s2 => s2 = ⟨[(7, (.os 0 1 0 c399.1.length c399.1.length false)), (10, (.lf false (.sc (.int .i64 c472.1)))), (87, (.lf false (.sc (.bool p481.t87))))], [(0, some (true, .arr false 1 (c472.2.map eI)))], 1, 96⟩) ?_ ?_
                  · try simp (disch := first | assumption | (simp only [List.length_set]; assumption)) only [go_sem, Nat.reduceAdd, Nat.reduceMul, Nat.reduceSub, Nat.reduceEqDiff, ↓reduceIte, Nat.reduceLT, reduceCtorEq, Nat.reduceLeDiff, Int.reduceToNat, Int.reduceEq, Int.reduceLE, Int.reduceLT, Nat.reduceBEq, hl15, ht15, hl16, ht16, hl23, ht23]
                    obtain ⟨c480, hr30, hq29⟩ := bind_ok hq29
                    refine Cl_shown (w_laws_eqIntS hr30) (by first | rfl | (simp (disch := first | assumption | (simp only [List.length_set]; assumption)) only [go_sem, Nat.reduceAdd, Nat.reduceMul, Nat.reduceSub, Nat.reduceEqDiff, ↓reduceIte, Nat.reduceLT, reduceCtorEq, Nat.reduceLeDiff, Int.reduceToNat, Int.reduceEq, Int.reduceLE, Int.reduceLT, Nat.reduceBEq, hl15, ht15, hl16, ht16, hl23, ht23]; first | done | rfl) | (simp only [List.length_append, List.length_cons, List.length_nil, List.length_map, List.length_set, List.length_replicate, Nat.zero_add, Nat.reduceAdd]; rfl) | (simp (disch := first | assumption | (simp only [List.length_set]; assumption)) only [go_sem, Nat.reduceAdd, Nat.reduceMul, Nat.reduceSub, Nat.reduceEqDiff, ↓reduceIte, Nat.reduceLT, reduceCtorEq, Nat.reduceLeDiff, Int.reduceToNat, Int.reduceEq, Int.reduceLE, Int.reduceLT, Nat.reduceBEq, hl15, ht15, hl16, ht16, hl23, ht23]; simp only [List.length_append, List.length_cons, List.length_nil, List.length_map, List.length_set, List.length_replicate, Nat.zero_add, Nat.reduceAdd]; rfl)) (FitAll.refl _) (.inr ⟨rfl, by simp [freeOb, free1]⟩) ?_
                    try simp (disch := first | assumption | (simp only [List.length_set]; assumption)) only [go_sem, Nat.reduceAdd, Nat.reduceMul, Nat.reduceSub, Nat.reduceEqDiff, ↓reduceIte, Nat.reduceLT, reduceCtorEq, Nat.reduceLeDiff, Int.reduceToNat, Int.reduceEq, Int.reduceLE, Int.reduceLT, Nat.reduceBEq, hl15, ht15, hl16, ht16, hl23, ht23]
                    refine Sp_if hq29 (fun hq29 hc31 => ?_) (fun hq29 hc31 => ?_)
                    · try simp (disch := first | assumption | (simp only [List.length_set]; assumption)) only [go_sem, Nat.reduceAdd, Nat.reduceMul, Nat.reduceSub, Nat.reduceEqDiff, ↓reduceIte, Nat.reduceLT, reduceCtorEq, Nat.reduceLeDiff, Int.reduceToNat, Int.reduceEq, Int.reduceLE, Int.reduceLT, Nat.reduceBEq, hl15, ht15, hl16, ht16, hl23, ht23]
                      cases hq29
                      refine X_cut rfl ?_
                      refine weak_of (m := 0) [some 2] rfl rfl rfl (by rfl) ?_ ?_
                      all_goals ((try simp (disch := first | assumption | (simp only [List.length_set]; assumption)) only [go_sem, Nat.reduceAdd, Nat.reduceMul, Nat.reduceSub, Nat.reduceEqDiff, ↓reduceIte, Nat.reduceLT, reduceCtorEq, Nat.reduceLeDiff, Int.reduceToNat, Int.reduceEq, Int.reduceLE, Int.reduceLT, Nat.reduceBEq, hl15, ht15, hl16, ht16, hl23, ht23]); (repeat' first | done | rfl | omega | refine And.intro ?_ ?_ | (simp; done) | (simp; omega)))
                    · try simp (disch := first | assumption | (simp only [List.length_set]; assumption)) only [go_sem, Nat.reduceAdd, Nat.reduceMul, Nat.reduceSub, Nat.reduceEqDiff, ↓reduceIte, Nat.reduceLT, reduceCtorEq, Nat.reduceLeDiff, Int.reduceToNat, Int.reduceEq, Int.reduceLE, Int.reduceLT, Nat.reduceBEq, hl15, ht15, hl16, ht16, hl23, ht23]
                      cases hq29
                      refine X_cut rfl ?_
                      refine weak_of (m := 0) [some 2] rfl rfl rfl (by rfl) ?_ ?_
                      all_goals ((try simp (disch := first | assumption | (simp only [List.length_set]; assumption)) only [go_sem, Nat.reduceAdd, Nat.reduceMul, Nat.reduceSub, Nat.reduceEqDiff, ↓reduceIte, Nat.reduceLT, reduceCtorEq, Nat.reduceLeDiff, Int.reduceToNat, Int.reduceEq, Int.reduceLE, Int.reduceLT, Nat.reduceBEq, hl15, ht15, hl16, ht16, hl23, ht23]); (repeat' first | done | rfl | omega | refine And.intro ?_ ?_ | (simp; done) | (simp; omega)))
                  · intro s2 hJ; subst hJ
                    try dsimp only at h
                    try simp (disch := first | assumption | (simp only [List.length_set]; assumption)) only [go_sem, Nat.reduceAdd, Nat.reduceMul, Nat.reduceSub, Nat.reduceEqDiff, ↓reduceIte, Nat.reduceLT, reduceCtorEq, Nat.reduceLeDiff, Int.reduceToNat, Int.reduceEq, Int.reduceLE, Int.reduceLT, Nat.reduceBEq, hl15, ht15, hl16, ht16, hl23, ht23]
                    refine Bs_if h (fun h hc32 => ?_) (fun h hc32 => ?_)
                    · try simp (disch := first | assumption | (simp only [List.length_set]; assumption)) only [go_sem, Nat.reduceAdd, Nat.reduceMul, Nat.reduceSub, Nat.reduceEqDiff, ↓reduceIte, Nat.reduceLT, reduceCtorEq, Nat.reduceLeDiff, Int.reduceToNat, Int.reduceEq, Int.reduceLE, Int.reduceLT, Nat.reduceBEq, hl15, ht15, hl16, ht16, hl23, ht23]
                      have he := Option.some.inj h
                      subst he
                      refine ends_weak ⟨[(2, (.lf false (.sc (.bool false))))], [], 0, 96⟩ (weak_of (m := 0) [] rfl rfl rfl (by rfl) ?_ ?_) ?_
                      all_goals ((try simp (disch := first | assumption | (simp only [List.length_set]; assumption)) only [go_sem, Nat.reduceAdd, Nat.reduceMul, Nat.reduceSub, Nat.reduceEqDiff, ↓reduceIte, Nat.reduceLT, reduceCtorEq, Nat.reduceLeDiff, Int.reduceToNat, Int.reduceEq, Int.reduceLE, Int.reduceLT, Nat.reduceBEq, hl15, ht15, hl16, ht16, hl23, ht23]); (repeat' first | done | rfl | omega | refine And.intro ?_ ?_ | (simp; done) | (simp; omega)))
                    · try simp (disch := first | assumption | (simp only [List.length_set]; assumption)) only [go_sem, Nat.reduceAdd, Nat.reduceMul, Nat.reduceSub, Nat.reduceEqDiff, ↓reduceIte, Nat.reduceLT, reduceCtorEq, Nat.reduceLeDiff, Int.reduceToNat, Int.reduceEq, Int.reduceLE, Int.reduceLT, Nat.reduceBEq, hl15, ht15, hl16, ht16, hl23, ht23]
                      obtain ⟨c482, hr33, h⟩ := bind_ok h
                      refine Cl_shown (w_laws_heldIntS hr33) (by first | rfl | (simp (disch := first | assumption | (simp only [List.length_set]; assumption)) only [go_sem, Nat.reduceAdd, Nat.reduceMul, Nat.reduceSub, Nat.reduceEqDiff, ↓reduceIte, Nat.reduceLT, reduceCtorEq, Nat.reduceLeDiff, Int.reduceToNat, Int.reduceEq, Int.reduceLE, Int.reduceLT, Nat.reduceBEq, hl15, ht15, hl16, ht16, hl23, ht23]; first | done | rfl) | (simp only [List.length_append, List.length_cons, List.length_nil, List.length_map, List.length_set, List.length_replicate, Nat.zero_add, Nat.reduceAdd]; rfl) | (simp (disch := first | assumption | (simp only [List.length_set]; assumption)) only [go_sem, Nat.reduceAdd, Nat.reduceMul, Nat.reduceSub, Nat.reduceEqDiff, ↓reduceIte, Nat.reduceLT, reduceCtorEq, Nat.reduceLeDiff, Int.reduceToNat, Int.reduceEq, Int.reduceLE, Int.reduceLT, Nat.reduceBEq, hl15, ht15, hl16, ht16, hl23, ht23]; simp only [List.length_append, List.length_cons, List.length_nil, List.length_map, List.length_set, List.length_replicate, Nat.zero_add, Nat.reduceAdd]; rfl)) (FitAll.refl _) (.inr ⟨rfl, by simp [freeOb, free1]⟩) ?_
                      try simp (disch := first | assumption | (simp only [List.length_set]; assumption)) only [go_sem, Nat.reduceAdd, Nat.reduceMul, Nat.reduceSub, Nat.reduceEqDiff, ↓reduceIte, Nat.reduceLT, reduceCtorEq, Nat.reduceLeDiff, Int.reduceToNat, Int.reduceEq, Int.reduceLE, Int.reduceLT, Nat.reduceBEq, hl15, ht15, hl16, ht16, hl23, ht23]
                      refine Bs_if h (fun h hc34 => ?_) (fun h hc34 => ?_)
                      · try simp (disch := first | assumption | (simp only [List.length_set]; assumption)) only [go_sem, Nat.reduceAdd, Nat.reduceMul, Nat.reduceSub, Nat.reduceEqDiff, ↓reduceIte, Nat.reduceLT, reduceCtorEq, Nat.reduceLeDiff, Int.reduceToNat, Int.reduceEq, Int.reduceLE, Int.reduceLT, Nat.reduceBEq, hl15, ht15, hl16, ht16, hl23, ht23]
                        have he := Option.some.inj h
                        subst he
                        refine ends_weak ⟨[(2, (.lf false (.sc (.bool false))))], [], 0, 96⟩ (weak_of (m := 0) [] rfl rfl rfl (by rfl) ?_ ?_) ?_
                        all_goals ((try simp (disch := first | assumption | (simp only [List.length_set]; assumption)) only [go_sem, Nat.reduceAdd, Nat.reduceMul, Nat.reduceSub, Nat.reduceEqDiff, ↓reduceIte, Nat.reduceLT, reduceCtorEq, Nat.reduceLeDiff, Int.reduceToNat, Int.reduceEq, Int.reduceLE, Int.reduceLT, Nat.reduceBEq, hl15, ht15, hl16, ht16, hl23, ht23]); (repeat' first | done | rfl | omega | refine And.intro ?_ ?_ | (simp; done) | (simp; omega)))
                      · try simp (disch := first | assumption | (simp only [List.length_set]; assumption)) only [go_sem, Nat.reduceAdd, Nat.reduceMul, Nat.reduceSub, Nat.reduceEqDiff, ↓reduceIte, Nat.reduceLT, reduceCtorEq, Nat.reduceLeDiff, Int.reduceToNat, Int.reduceEq, Int.reduceLE, Int.reduceLT, Nat.reduceBEq, hl15, ht15, hl16, ht16, hl23, ht23]
                        refine Bs_if h (fun h hc35 => ?_) (fun h hc35 => ?_)
                        · try simp (disch := first | assumption | (simp only [List.length_set]; assumption)) only [go_sem, Nat.reduceAdd, Nat.reduceMul, Nat.reduceSub, Nat.reduceEqDiff, ↓reduceIte, Nat.reduceLT, reduceCtorEq, Nat.reduceLeDiff, Int.reduceToNat, Int.reduceEq, Int.reduceLE, Int.reduceLT, Nat.reduceBEq, hl15, ht15, hl16, ht16, hl23, ht23]
                          have he := Option.some.inj h
                          subst he
                          refine ends_weak ⟨[(2, (.lf false (.sc (.bool false))))], [], 0, 96⟩ (weak_of (m := 0) [] rfl rfl rfl (by rfl) ?_ ?_) ?_
                          all_goals ((try simp (disch := first | assumption | (simp only [List.length_set]; assumption)) only [go_sem, Nat.reduceAdd, Nat.reduceMul, Nat.reduceSub, Nat.reduceEqDiff, ↓reduceIte, Nat.reduceLT, reduceCtorEq, Nat.reduceLeDiff, Int.reduceToNat, Int.reduceEq, Int.reduceLE, Int.reduceLT, Nat.reduceBEq, hl15, ht15, hl16, ht16, hl23, ht23]); (repeat' first | done | rfl | omega | refine And.intro ?_ ?_ | (simp; done) | (simp; omega)))
                        · try simp (disch := first | assumption | (simp only [List.length_set]; assumption)) only [go_sem, Nat.reduceAdd, Nat.reduceMul, Nat.reduceSub, Nat.reduceEqDiff, ↓reduceIte, Nat.reduceLT, reduceCtorEq, Nat.reduceLeDiff, Int.reduceToNat, Int.reduceEq, Int.reduceLE, Int.reduceLT, Nat.reduceBEq, hl15, ht15, hl16, ht16, hl23, ht23]
                          have he := Option.some.inj h
                          subst he
                          refine ends_weak ⟨[(2, (.lf false (.sc (.bool true))))], [], 0, 96⟩ (weak_of (m := 0) [] rfl rfl rfl (by rfl) ?_ ?_) ?_
                          all_goals ((try simp (disch := first | assumption | (simp only [List.length_set]; assumption)) only [go_sem, Nat.reduceAdd, Nat.reduceMul, Nat.reduceSub, Nat.reduceEqDiff, ↓reduceIte, Nat.reduceLT, reduceCtorEq, Nat.reduceLeDiff, Int.reduceToNat, Int.reduceEq, Int.reduceLE, Int.reduceLT, Nat.reduceBEq, hl15, ht15, hl16, ht16, hl23, ht23]); (repeat' first | done | rfl | omega | refine And.intro ?_ ?_ | (simp; done) | (simp; omega)))
end Go.TL.YtjkeoippmlmfbaaGreatDoor

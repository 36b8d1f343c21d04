import Derived.Test.YtjkeoippmlmfbaaGreatDoorWlFnExactStateOfA
set_option linter.unusedSimpArgs false
set_option linter.unusedVariables false
set_option linter.unusedVariables false
set_option linter.unusedSimpArgs false
set_option maxRecDepth 8000
set_option maxHeartbeats 0
namespace Go.TL.YtjkeoippmlmfbaaGreatDoor
open Go Go.Proofs Go.TL
theorem w_laws_markStringS_w {a0 : (List ByteArray)} {a1 : Int} {m0 : Nat} {x0 : Bool} {r : (Int × (List ByteArray))} (h : laws_markStringS_w a0 a1 = some r) : Fn Tryz.prog 66 [(.os 0 1 0 a0.length m0 x0), (.lf false (.sc (.int .i64 a1)))] [(0, some (false, .arr true 1 (a0.map eS)))] 1 (.lf false (.sc (.int .i64 r.1))) [(0, some (false, .arr false 1 (r.2.map eS)))] 1 := by
  unfold laws_markStringS_w at h
  refine fn_code tab_ok mixed [(1000, [(0, 0), (1, 0)]), (1001, [(0, 0), (1, 0), (5, 0)]), (1002, [(0, 0), (1, 0), (5, 0), (9, 0)]), (1003, [(0, 0), (1, 0), (5, 0)]), (1004, [(0, 0), (1, 0), (5, 0)]), (1005, [(0, 0), (1, 0), (5, 0)]), (1006, [(4, 0)])] Tryz.func66 rfl rfl (by simp [Tryz.f66]) (by kernel_rfl) ?_
  simp only [Tryz.f66]
  refine sA ?_
  obtain ⟨y378, hl1, h⟩ := bind_ok h
  refine W_loopP (fun g375 : laws_markStringS_w_G1 => ⟨[(0, (.os 0 1 0 g375.c0.length g375.c0.length false)), (1, (.lf false (.sc (.int .i64 g375.t1)))), (5, (.lf false (.sc (.int .i64 g375.t5))))], [(0, some (false, .arr true 1 (g375.c0.map eS)))], 1, 20⟩) (laws_markStringS_w_L1) _ _ hl1 (weakA [some 0]) ?_
  · intro n1 g375 z1 hs1 hk1
    unfold laws_markStringS_w_L1 at hs1
    try dsimp only at hs1
    refine sA ?_
    refine Bs_if hs1 (fun hs1 hc2 => ?_) (fun hs1 hc2 => ?_)
    · try refine sA ?_
      obtain ⟨c377, hr3, hs1⟩ := bind_ok hs1
      refine Cl_sA (w_laws_markText hr3) ?_
      try refine sA ?_
      obtain ⟨hp4, hs1⟩ := guard_some hs1
      have hn4 : g375.t5.toNat < g375.c0.length := by first | omega | (simp only [List.length_set, List.length_append, List.length_replicate, List.length_map]; omega)
      try refine sA ?_
      try refine andA ?_
      try refine andB ?_
      try refine sA ?_
      cases hs1
      exact X_backP hk1 (weakA [some 0])
    · try refine sA ?_
      cases hs1
      cases hk1
      try dsimp only at h
      try refine sA ?_
      have he := Option.some.inj h
      subst he
      exact endsA ⟨[(4, (.lf false (.sc (.int .i64 g375.t1))))], [(0, some (false, .arr false 1 (g375.c0.map eS)))], 1, 20⟩ [some 0]
theorem w_laws_markState_ww {a0 : StateT} {a1 : Int} {m0 : Nat} {x0 : Bool} {m1 : Nat} {x1 : Bool} {r : (Int × (List ByteArray) × (List ByteArray))} (h : laws_markState_ww a0 a1 = some r) : Fn Tryz.prog 35 [(.ag [(.lf false (.sc (.int .i64 a0.Status))), (.lf false (.sc (.int .i64 a0.Next))), (.lf false (.sc (.bool a0.Cancel))), (.lf false (.sc (.int .i64 a0.Done))), (.os 0 1 0 a0.Signals.length m0 x0), (.os 1 1 0 a0.Timers.length m1 x1)]), (.lf false (.sc (.int .i64 a1)))] [(0, some (false, .arr true 1 (a0.Signals.map eS))), (1, some (false, .arr true 1 (a0.Timers.map eS)))] 2 (.lf false (.sc (.int .i64 r.1))) [(0, some (false, .arr false 1 (r.2.1.map eS))), (1, some (false, .arr false 1 (r.2.2.map eS)))] 2 := by
  unfold laws_markState_ww at h
  refine fn_code tab_ok mixed [(1000, [(1, 0), (2, 0)]), (1001, [(1, 0), (2, 0)]), (1002, [(1, 0)]), (1003, [(4, 0)])] Tryz.func35 rfl rfl (by simp [Tryz.f35]) (by kernel_rfl) ?_
  simp only [Tryz.f35]
  refine sA ?_
  obtain ⟨c379, hr1, h⟩ := bind_ok h
  refine Cl_hA [0] (w_laws_markStringS_w hr1) ?_
  try refine sA ?_
  obtain ⟨hp2, h⟩ := guard_some h
  have hl2 : a0.Signals.length ≤ c379.2.length := by omega
  have ht2 : List.take (a0.Signals.length) c379.2 = c379.2 := by rw [← hp2]; exact List.take_length
  try simp (disch := first | assumption | (simp only [List.length_set]; assumption)) only [go_sem, Nat.reduceAdd, Nat.reduceMul, Nat.reduceSub, Nat.reduceEqDiff, ↓reduceIte, Nat.reduceLT, reduceCtorEq, Nat.reduceLeDiff, Int.reduceToNat, Int.reduceEq, Int.reduceLE, Int.reduceLT, Nat.reduceBEq, hl2, ht2]
  obtain ⟨c380, hr3, h⟩ := bind_ok h
  refine Cl_hand (ids := [1]) (w_laws_markStringS_w hr3) (by first | rfl | (simp (disch := first | assumption | (simp only [List.length_set]; assumption)) only [go_sem, Nat.reduceAdd, Nat.reduceMul, Nat.reduceSub, Nat.reduceEqDiff, ↓reduceIte, Nat.reduceLT, reduceCtorEq, Nat.reduceLeDiff, Int.reduceToNat, Int.reduceEq, Int.reduceLE, Int.reduceLT, Nat.reduceBEq, hl2, ht2]; first | done | rfl) | (simp only [List.length_append, List.length_cons, List.length_nil, List.length_map, List.length_set, List.length_replicate, Nat.zero_add, Nat.reduceAdd]; rfl) | (simp (disch := first | assumption | (simp only [List.length_set]; assumption)) only [go_sem, Nat.reduceAdd, Nat.reduceMul, Nat.reduceSub, Nat.reduceEqDiff, ↓reduceIte, Nat.reduceLT, reduceCtorEq, Nat.reduceLeDiff, Int.reduceToNat, Int.reduceEq, Int.reduceLE, Int.reduceLT, Nat.reduceBEq, hl2, ht2]; simp only [List.length_append, List.length_cons, List.length_nil, List.length_map, List.length_set, List.length_replicate, Nat.zero_add, Nat.reduceAdd]; rfl)) (FitAll.refl _) (by first | rfl | (simp (disch := first | assumption | (simp only [List.length_set]; assumption)) only [go_sem, Nat.reduceAdd, Nat.reduceMul, Nat.reduceSub, Nat.reduceEqDiff, ↓reduceIte, Nat.reduceLT, reduceCtorEq, Nat.reduceLeDiff, Int.reduceToNat, Int.reduceEq, Int.reduceLE, Int.reduceLT, Nat.reduceBEq, hl2, ht2]; first | done | rfl) | (simp only [List.length_append, List.length_cons, List.length_nil, List.length_map, List.length_set, List.length_replicate, Nat.zero_add, Nat.reduceAdd]; rfl) | (simp (disch := first | assumption | (simp only [List.length_set]; assumption)) only [go_sem, Nat.reduceAdd, Nat.reduceMul, Nat.reduceSub, Nat.reduceEqDiff, ↓reduceIte, Nat.reduceLT, reduceCtorEq, Nat.reduceLeDiff, Int.reduceToNat, Int.reduceEq, Int.reduceLE, Int.reduceLT, Nat.reduceBEq, hl2, ht2]; simp only [List.length_append, List.length_cons, List.length_nil, List.length_map, List.length_set, List.length_replicate, Nat.zero_add, Nat.reduceAdd]; rfl)) (by decide) (by first | rfl | (simp (disch := first | assumption | (simp only [List.length_set]; assumption)) only [go_sem, Nat.reduceAdd, Nat.reduceMul, Nat.reduceSub, Nat.reduceEqDiff, ↓reduceIte, Nat.reduceLT, reduceCtorEq, Nat.reduceLeDiff, Int.reduceToNat, Int.reduceEq, Int.reduceLE, Int.reduceLT, Nat.reduceBEq, hl2, ht2]; done)) (by rfl) ?_
  try simp (disch := first | assumption | (simp only [List.length_set]; assumption)) only [go_sem, Nat.reduceAdd, Nat.reduceMul, Nat.reduceSub, Nat.reduceEqDiff, ↓reduceIte, Nat.reduceLT, reduceCtorEq, Nat.reduceLeDiff, Int.reduceToNat, Int.reduceEq, Int.reduceLE, Int.reduceLT, Nat.reduceBEq, hl2, ht2]
  obtain ⟨hp4, h⟩ := guard_some h
  have hl4 : a0.Timers.length ≤ c380.2.length := by omega
  have ht4 : List.take (a0.Timers.length) c380.2 = c380.2 := by rw [← hp4]; exact List.take_length
  try simp (disch := first | assumption | (simp only [List.length_set]; assumption)) only [go_sem, Nat.reduceAdd, Nat.reduceMul, Nat.reduceSub, Nat.reduceEqDiff, ↓reduceIte, Nat.reduceLT, reduceCtorEq, Nat.reduceLeDiff, Int.reduceToNat, Int.reduceEq, Int.reduceLE, Int.reduceLT, Nat.reduceBEq, hl2, ht2, hl4, ht4]
  have he := Option.some.inj h
  subst he
  refine ends_weak ⟨[(4, (.lf false (.sc (.int .i64 c380.1))))], [(0, some (false, .arr false 1 (c379.2.map eS))), (1, some (false, .arr false 1 (c380.2.map eS)))], 2, 14⟩ (weak_of (m := 2) [some 0, some 1] rfl rfl rfl (by rfl) ?_ ?_) ?_
  all_goals ((try simp (disch := first | assumption | (simp only [List.length_set]; assumption)) only [go_sem, Nat.reduceAdd, Nat.reduceMul, Nat.reduceSub, Nat.reduceEqDiff, ↓reduceIte, Nat.reduceLT, reduceCtorEq, Nat.reduceLeDiff, Int.reduceToNat, Int.reduceEq, Int.reduceLE, Int.reduceLT, Nat.reduceBEq, hl2, ht2, hl4, ht4]); (repeat' first | done | rfl | omega | refine And.intro ?_ ?_ | (simp; done) | (simp; omega)))
theorem w_laws_heldStringS {a0 : (List ByteArray)} {a1 : Int} {r : Int} (h : laws_heldStringS a0 a1 = some r) : Fn Tryz.prog 67 [(.lf true (.sl (a0.map eS))), (.lf false (.sc (.int .i64 a1)))] [] 0 (.lf false (.sc (.int .i64 r))) [] 0 := by
  unfold laws_heldStringS at h
  refine fn_code tab_ok mixed [(4, [(3, 5)]), (1000, [(0, 0), (1, 0)]), (1001, [(0, 0), (1, 0), (5, 0)]), (1002, [(0, 0), (1, 0), (5, 0), (9, 0)]), (1003, [(0, 0), (1, 0), (5, 0)]), (1004, [(0, 0), (1, 0), (5, 0), (18, 0)]), (1005, [(4, 0)]), (1006, [(0, 0), (1, 0), (5, 0)]), (1007, [(4, 0)])] Tryz.func67 rfl rfl (by simp [Tryz.f67]) (by kernel_rfl) ?_
  simp only [Tryz.f67]
  refine sA ?_
  obtain ⟨y385, hl1, h⟩ := bind_ok h
  refine W_loopP (fun g382 : laws_heldStringS_G1 => ⟨[(0, (.lf true (.sl (a0.map eS)))), (1, (.lf false (.sc (.int .i64 g382.t1)))), (5, (.lf false (.sc (.int .i64 g382.t5))))], [], 0, 22⟩) (laws_heldStringS_L1 a0) _ _ hl1 (weakA []) ?_
  · intro n1 g382 z1 hs1 hk1
    unfold laws_heldStringS_L1 at hs1
    try dsimp only at hs1
    refine sA ?_
    refine Bs_if hs1 (fun hs1 hc2 => ?_) (fun hs1 hc2 => ?_)
    · try refine sA ?_
      obtain ⟨hp3, hs1⟩ := guard_some hs1
      have hn3 : g382.t5.toNat < a0.length := by first | omega | (simp only [List.length_set, List.length_append, List.length_replicate, List.length_map]; omega)
      try refine sA ?_
      try refine andA ?_
      obtain ⟨c384, hr4, hs1⟩ := bind_ok hs1
      refine Cl_sA (w_laws_markText hr4) ?_
      try refine sA ?_
      refine Bs_if hs1 (fun hs1 hc5 => ?_) (fun hs1 hc5 => ?_)
      · try refine sA ?_
        cases hs1
        cases hk1
        try dsimp only at h
        try refine sA ?_
        have he := Option.some.inj h
        subst he
        exact endsA ⟨[(4, (.lf false (.sc (.int .i64 (-1)))))], [], 0, 22⟩ []
      · try refine sA ?_
        cases hs1
        exact X_backP hk1 (weakA [])
    · try refine sA ?_
      cases hs1
      cases hk1
      try dsimp only at h
      try refine sA ?_
      have he := Option.some.inj h
      subst he
      exact endsA ⟨[(4, (.lf false (.sc (.int .i64 g382.t1))))], [], 0, 22⟩ []
theorem w_laws_heldState {a0 : StateT} {a1 : Int} {r : Int} (h : laws_heldState a0 a1 = some r) : Fn Tryz.prog 36 [(.ag [(.lf false (.sc (.int .i64 a0.Status))), (.lf false (.sc (.int .i64 a0.Next))), (.lf false (.sc (.bool a0.Cancel))), (.lf false (.sc (.int .i64 a0.Done))), (.lf true (.sl (a0.Signals.map eS))), (.lf true (.sl (a0.Timers.map eS)))]), (.lf false (.sc (.int .i64 a1)))] [] 0 (.lf false (.sc (.int .i64 r))) [] 0 := by
  unfold laws_heldState at h
  refine fn_code tab_ok mixed [(1000, [(1, 0), (2, 0)]), (1001, [(1, 0), (2, 0)]), (1002, [(1, 0), (2, 0), (10, 0)]), (1003, [(4, 0)]), (1004, [(1, 0)]), (1005, [(1, 0), (16, 0)]), (1006, [(4, 0)]), (1007, [(4, 0)])] Tryz.func36 rfl rfl (by simp [Tryz.f36]) (by kernel_rfl) ?_
  simp only [Tryz.f36]
  refine sA ?_
  obtain ⟨c388, hr1, h⟩ := bind_ok h
  refine Cl_sA (w_laws_heldStringS hr1) ?_
  try refine sA ?_
  refine Bs_if h (fun h hc2 => ?_) (fun h hc2 => ?_)
  · try refine sA ?_
    have he := Option.some.inj h
    subst he
    exact endsA ⟨[(4, (.lf false (.sc (.int .i64 (-1)))))], [], 0, 18⟩ []
  · try refine sA ?_
    obtain ⟨c389, hr3, h⟩ := bind_ok h
    refine Cl_sA (w_laws_heldStringS hr3) ?_
    try refine sA ?_
    refine Bs_if h (fun h hc4 => ?_) (fun h hc4 => ?_)
    · try refine sA ?_
      have he := Option.some.inj h
      subst he
      exact endsA ⟨[(4, (.lf false (.sc (.int .i64 (-1)))))], [], 0, 18⟩ []
    · try refine sA ?_
      have he := Option.some.inj h
      subst he
      exact endsA ⟨[(4, (.lf false (.sc (.int .i64 c389))))], [], 0, 18⟩ []
theorem w_laws_FnExactStateOf {a0 : RegionT} {r : Bool} (h : laws_FnExactStateOf a0 = some r) : Fn Tryz.prog 5 [(.ag [(.lf false (.sc (.int .i64 a0.Id))), (.lf false (.sc (.int .i64 a0.Version))), (.lf true (.sl (a0.Tellings.Branches.map eBranch)))])] [] 0 (.lf false (.sc (.bool r))) [] 0 := by
  unfold laws_FnExactStateOf at h
  refine fn_code tab_ok mixed [(10, [(0, 2)]), (1000, [(1, 0)]), (1001, [(1, 0), (3, 0)]), (1002, [(1, 0), (3, 0)]), (1003, [(1, 0), (18, 0)]), (1004, [(2, 0)]), (1005, [(1, 0), (4, 0), (5, 0)]), (1006, [(1, 0), (4, 0), (5, 0), (6, 0)]), (1007, [(1, 0), (4, 0), (5, 0), (6, 0), (7, 0), (8, 0)]), (1008, [(1, 0), (4, 0), (5, 0), (6, 0), (7, 0), (8, 0), (40, 0)]), (1009, [(2, 0)]), (1010, [(1, 0), (4, 0), (5, 0), (6, 0), (7, 0), (8, 0), (45, 0)]), (1011, [(2, 0)]), (1012, [(1, 0), (4, 0), (5, 0), (6, 0), (7, 0), (8, 0), (9, 0)]), (1013, [(1, 0), (4, 0), (5, 0), (7, 0), (8, 0), (9, 0)]), (1014, [(1, 0), (4, 0), (5, 0), (7, 0), (61, 0)]), (1015, [(2, 0)]), (1016, [(1, 0), (4, 0), (5, 0), (7, 0), (10, 0)]), (1017, [(1, 0), (4, 0), (5, 0), (7, 0), (10, 0)]), (1018, [(1, 0), (4, 0), (5, 0), (7, 0), (10, 0), (11, 0)]), (1019, [(1, 0), (4, 0), (5, 0), (7, 0), (10, 0), (11, 0)]), (1020, [(1, 0), (4, 0), (5, 0), (7, 0), (10, 0), (11, 0), (69, 0)]), (1021, [(2, 0)]), (1022, [(1, 0), (4, 0), (5, 0), (7, 0), (10, 0), (72, 0)]), (1023, [(2, 0)]), (1024, [(4, 0), (5, 0), (7, 0), (10, 0), (12, 0), (13, 0)]), (1025, [(7, 0), (10, 0), (87, 0)]), (1026, [(2, 0)]), (1027, [(7, 0), (10, 0), (11, 0)]), (1028, [(10, 0), (11, 0)]), (1029, [(10, 0), (11, 0), (92, 0)]), (1030, [(2, 0)]), (1031, [(95, 0)]), (1032, [(2, 0)]), (1033, [(2, 0)]), (4008, []), (4014, []), (4025, [])] Tryz.func5 rfl rfl (by simp [Tryz.f5]) (by kernel_rfl) ?_
  simp only [Tryz.f5]
  refine sA ?_
  obtain ⟨c16, hr1, h⟩ := bind_ok h
  refine Cl_sA (w_laws_szRegion hr1) ?_
  try refine sA ?_
  refine Bs_if h (fun h hc2 => ?_) (fun h hc2 => ?_)
  · try refine sA ?_
    have he := Option.some.inj h
    subst he
    exact endsA ⟨[(2, (.lf false (.sc (.bool true))))], [], 0, 96⟩ []
  · try refine sA ?_
    obtain ⟨c28, hr3, h⟩ := bind_ok h
    refine Cl_sA (w_laws_toRegion hr3) ?_
    try refine sA ?_
    obtain ⟨c154, hr4, h⟩ := bind_ok h
    refine Cl_sA (w_spec_StateOf hr4) ?_
    try refine sA ?_
    obtain ⟨c155, hr5, h⟩ := bind_ok h
    refine Cl_sA (w_laws_toRegion hr5) ?_
    try refine sA ?_
    obtain ⟨c329, hr6, h⟩ := bind_ok h
    refine Cl_sA (w_impl_StateOf hr6) ?_
    try refine sA ?_
    obtain ⟨p337, hq7, h⟩ := bind_ok h
    refine Sq_cut (fun s2 => s2 = ⟨[(1, (.pb 0 0)), (4, (.pb 1 0)), (5, (.lf false (.sc (.bool c154.2)))), (6, (.pb 2 0)), (7, (.pb 3 0)), (8, (.lf false (.sc (.bool c329.2)))), (40, (.lf false (.sc (.bool p337.t40))))], [(0, some (true, .box [(.lf false (.sc (.int .i64 a0.Id))), (.lf false (.sc (.int .i64 a0.Version))), (.lf true (.sl (a0.Tellings.Branches.map eBranch)))])), (1, some (true, .box [(.lf false (.sc (.int .i64 c154.1.Status))), (.lf false (.sc (.int .i64 c154.1.Next))), (.lf false (.sc (.bool c154.1.Cancel))), (.lf false (.sc (.int .i64 c154.1.Done))), (.os 4 1 0 c154.1.Signals.length c154.1.Signals.length false), (.os 5 1 0 c154.1.Timers.length c154.1.Timers.length false)])), (2, some (true, .box [(.lf false (.sc (.int .i64 c155.Id))), (.lf false (.sc (.int .i64 c155.Version))), (.os 6 1 0 c155.Tellings.Branches.length c155.Tellings.Branches.length false)])), (3, some (true, .box [(.lf false (.sc (.int .i64 c329.1.Status))), (.lf false (.sc (.int .i64 c329.1.Next))), (.lf false (.sc (.bool c329.1.Cancel))), (.lf false (.sc (.int .i64 c329.1.Done))), (.os 7 1 0 c329.1.Signals.length c329.1.Signals.length false), (.os 8 1 0 c329.1.Timers.length c329.1.Timers.length false)])), (4, some (true, .arr false 1 (c154.1.Signals.map eS))), (5, some (true, .arr false 1 (c154.1.Timers.map eS))), (6, some (true, .deep [.sl [.sc, .sc, .sc, .sc]] (c155.Tellings.Branches.map eBranch))), (7, some (false, .arr false 1 (c329.1.Signals.map eS))), (8, some (false, .arr false 1 (c329.1.Timers.map eS)))], 9, 96⟩) ?_ ?_
    · try refine sA ?_
      obtain ⟨c336, hr8, hq7⟩ := bind_ok hq7
      refine Cl_sA (w_laws_eqState hr8) ?_
      try refine sA ?_
      refine Sp_if hq7 (fun hq7 hc9 => ?_) (fun hq7 hc9 => ?_)
      · try refine sA ?_
        cases hq7
        exact X_cut rfl (weakA [some 0, some 6, some 9, some 13, some 3, some 4, some 7, some 10, some 11])
      · try refine sA ?_
        cases hq7
        exact X_cut rfl (weakA [some 0, some 6, some 9, some 13, some 3, some 4, some 7, some 10, some 11])
    · intro s2 hJ; subst hJ
      try dsimp only at h
      try refine sA ?_
      refine Bs_if h (fun h hc10 => ?_) (fun h hc10 => ?_)
      · try refine sA ?_
        have he := Option.some.inj h
        subst he
        exact endsA ⟨[(2, (.lf false (.sc (.bool false))))], [], 0, 96⟩ []
      · try refine sA ?_
        obtain ⟨c338, hr11, h⟩ := bind_ok h
        refine Cl_sA (w_laws_toRegion hr11) ?_
        try refine sA ?_
        obtain ⟨c354, hr12, h⟩ := bind_ok h
        refine Cl_sA (w_laws_eqRegion hr12) ?_
        try refine sA ?_
        refine Bs_if h (fun h hc13 => ?_) (fun h hc13 => ?_)
        · try refine sA ?_
          have he := Option.some.inj h
          subst he
          exact endsA ⟨[(2, (.lf false (.sc (.bool false))))], [], 0, 96⟩ []
        · try refine sA ?_
          obtain ⟨c370, hr14, h⟩ := bind_ok h
          refine Cl_hA [6] (w_laws_markRegion_wd hr14) ?_
          try refine sA ?_
          obtain ⟨hp15, h⟩ := guard_some h
          have hl15 : c155.Tellings.Branches.length ≤ c370.2.length := by omega
          have ht15 : List.take (c155.Tellings.Branches.length) c370.2 = c370.2 := by rw [← hp15]; exact List.take_length
          try simp (disch := first | assumption | (simp only [List.length_set]; assumption)) only [go_sem, Nat.reduceAdd, Nat.reduceMul, Nat.reduceSub, Nat.reduceEqDiff, ↓reduceIte, Nat.reduceLT, reduceCtorEq, Nat.reduceLeDiff, Int.reduceToNat, Int.reduceEq, Int.reduceLE, Int.reduceLT, Nat.reduceBEq, hl15, ht15]
          obtain ⟨p372, hq16, h⟩ := bind_ok h
          refine Sq_cut (fun s2 => s2 = ⟨[(1, (.pb 0 0)), (4, (.pb 1 0)), (5, (.lf false (.sc (.bool c154.2)))), (7, (.pb 2 0)), (61, (.lf false (.sc (.bool p372.t61))))], [(0, some (true, .box [(.lf false (.sc (.int .i64 a0.Id))), (.lf false (.sc (.int .i64 a0.Version))), (.lf true (.sl (a0.Tellings.Branches.map eBranch)))])), (1, some (true, .box [(.lf false (.sc (.int .i64 c154.1.Status))), (.lf false (.sc (.int .i64 c154.1.Next))), (.lf false (.sc (.bool c154.1.Cancel))), (.lf false (.sc (.int .i64 c154.1.Done))), (.os 3 1 0 c154.1.Signals.length c154.1.Signals.length false), (.os 4 1 0 c154.1.Timers.length c154.1.Timers.length false)])), (2, some (true, .box [(.lf false (.sc (.int .i64 c329.1.Status))), (.lf false (.sc (.int .i64 c329.1.Next))), (.lf false (.sc (.bool c329.1.Cancel))), (.lf false (.sc (.int .i64 c329.1.Done))), (.os 5 1 0 c329.1.Signals.length c329.1.Signals.length false), (.os 6 1 0 c329.1.Timers.length c329.1.Timers.length false)])), (3, some (true, .arr false 1 (c154.1.Signals.map eS))), (4, some (true, .arr false 1 (c154.1.Timers.map eS))), (5, some (false, .arr false 1 (c329.1.Signals.map eS))), (6, some (false, .arr false 1 (c329.1.Timers.map eS)))], 7, 96⟩) ?_ ?_
          · try simp (disch := first | assumption | (simp only [List.length_set]; assumption)) only [go_sem, Nat.reduceAdd, Nat.reduceMul, Nat.reduceSub, Nat.reduceEqDiff, ↓reduceIte, Nat.reduceLT, reduceCtorEq, Nat.reduceLeDiff, Int.reduceToNat, Int.reduceEq, Int.reduceLE, Int.reduceLT, Nat.reduceBEq, hl15, ht15]
            refine Sp_if hq16 (fun hq16 hc17 => ?_) (fun hq16 hc17 => ?_)
            · try simp (disch := first | assumption | (simp only [List.length_set]; assumption)) only [go_sem, Nat.reduceAdd, Nat.reduceMul, Nat.reduceSub, Nat.reduceEqDiff, ↓reduceIte, Nat.reduceLT, reduceCtorEq, Nat.reduceLeDiff, Int.reduceToNat, Int.reduceEq, Int.reduceLE, Int.reduceLT, Nat.reduceBEq, hl15, ht15]
              cases hq16
              refine X_cut rfl ?_
              refine weak_of (m := 0) [some 0, some 1, some 3, some 4, some 5, some 7, some 8] rfl rfl rfl (by rfl) ?_ ?_
              all_goals ((try simp (disch := first | assumption | (simp only [List.length_set]; assumption)) only [go_sem, Nat.reduceAdd, Nat.reduceMul, Nat.reduceSub, Nat.reduceEqDiff, ↓reduceIte, Nat.reduceLT, reduceCtorEq, Nat.reduceLeDiff, Int.reduceToNat, Int.reduceEq, Int.reduceLE, Int.reduceLT, Nat.reduceBEq, hl15, ht15]); (repeat' first | done | rfl | omega | refine And.intro ?_ ?_ | (simp; done) | (simp; omega)))
            · try simp (disch := first | assumption | (simp only [List.length_set]; assumption)) only [go_sem, Nat.reduceAdd, Nat.reduceMul, Nat.reduceSub, Nat.reduceEqDiff, ↓reduceIte, Nat.reduceLT, reduceCtorEq, Nat.reduceLeDiff, Int.reduceToNat, Int.reduceEq, Int.reduceLE, Int.reduceLT, Nat.reduceBEq, hl15, ht15]
              obtain ⟨c371, hr18, hq16⟩ := bind_ok hq16
              refine Cl_shown (w_laws_eqState hr18) (by first | rfl | (simp (disch := first | assumption | (simp only [List.length_set]; assumption)) only [go_sem, Nat.reduceAdd, Nat.reduceMul, Nat.reduceSub, Nat.reduceEqDiff, ↓reduceIte, Nat.reduceLT, reduceCtorEq, Nat.reduceLeDiff, Int.reduceToNat, Int.reduceEq, Int.reduceLE, Int.reduceLT, Nat.reduceBEq, hl15, ht15]; first | done | rfl) | (simp only [List.length_append, List.length_cons, List.length_nil, List.length_map, List.length_set, List.length_replicate, Nat.zero_add, Nat.reduceAdd]; rfl) | (simp (disch := first | assumption | (simp only [List.length_set]; assumption)) only [go_sem, Nat.reduceAdd, Nat.reduceMul, Nat.reduceSub, Nat.reduceEqDiff, ↓reduceIte, Nat.reduceLT, reduceCtorEq, Nat.reduceLeDiff, Int.reduceToNat, Int.reduceEq, Int.reduceLE, Int.reduceLT, Nat.reduceBEq, hl15, ht15]; simp only [List.length_append, List.length_cons, List.length_nil, List.length_map, List.length_set, List.length_replicate, Nat.zero_add, Nat.reduceAdd]; rfl)) (FitAll.refl _) (.inr ⟨rfl, by simp [freeOb, free1]⟩) ?_
              try simp (disch := first | assumption | (simp only [List.length_set]; assumption)) only [go_sem, Nat.reduceAdd, Nat.reduceMul, Nat.reduceSub, Nat.reduceEqDiff, ↓reduceIte, Nat.reduceLT, reduceCtorEq, Nat.reduceLeDiff, Int.reduceToNat, Int.reduceEq, Int.reduceLE, Int.reduceLT, Nat.reduceBEq, hl15, ht15]
              refine Sp_if hq16 (fun hq16 hc19 => ?_) (fun hq16 hc19 => ?_)
              · try simp (disch := first | assumption | (simp only [List.length_set]; assumption)) only [go_sem, Nat.reduceAdd, Nat.reduceMul, Nat.reduceSub, Nat.reduceEqDiff, ↓reduceIte, Nat.reduceLT, reduceCtorEq, Nat.reduceLeDiff, Int.reduceToNat, Int.reduceEq, Int.reduceLE, Int.reduceLT, Nat.reduceBEq, hl15, ht15]
                cases hq16
                refine X_cut rfl ?_
                refine weak_of (m := 0) [some 0, some 1, some 3, some 4, some 5, some 7, some 8] rfl rfl rfl (by rfl) ?_ ?_
                all_goals ((try simp (disch := first | assumption | (simp only [List.length_set]; assumption)) only [go_sem, Nat.reduceAdd, Nat.reduceMul, Nat.reduceSub, Nat.reduceEqDiff, ↓reduceIte, Nat.reduceLT, reduceCtorEq, Nat.reduceLeDiff, Int.reduceToNat, Int.reduceEq, Int.reduceLE, Int.reduceLT, Nat.reduceBEq, hl15, ht15]); (repeat' first | done | rfl | omega | refine And.intro ?_ ?_ | (simp; done) | (simp; omega)))
              · try simp (disch := first | assumption | (simp only [List.length_set]; assumption)) only [go_sem, Nat.reduceAdd, Nat.reduceMul, Nat.reduceSub, Nat.reduceEqDiff, ↓reduceIte, Nat.reduceLT, reduceCtorEq, Nat.reduceLeDiff, Int.reduceToNat, Int.reduceEq, Int.reduceLE, Int.reduceLT, Nat.reduceBEq, hl15, ht15]
                cases hq16
                refine X_cut rfl ?_
                refine weak_of (m := 0) [some 0, some 1, some 3, some 4, some 5, some 7, some 8] rfl rfl rfl (by rfl) ?_ ?_
                all_goals ((try simp (disch := first | assumption | (simp only [List.length_set]; assumption)) only [go_sem, Nat.reduceAdd, Nat.reduceMul, Nat.reduceSub, Nat.reduceEqDiff, ↓reduceIte, Nat.reduceLT, reduceCtorEq, Nat.reduceLeDiff, Int.reduceToNat, Int.reduceEq, Int.reduceLE, Int.reduceLT, Nat.reduceBEq, hl15, ht15]); (repeat' first | done | rfl | omega | refine And.intro ?_ ?_ | (simp; done) | (simp; omega)))
          · intro s2 hJ; subst hJ
            try dsimp only at h
            try simp (disch := first | assumption | (simp only [List.length_set]; assumption)) only [go_sem, Nat.reduceAdd, Nat.reduceMul, Nat.reduceSub, Nat.reduceEqDiff, ↓reduceIte, Nat.reduceLT, reduceCtorEq, Nat.reduceLeDiff, Int.reduceToNat, Int.reduceEq, Int.reduceLE, Int.reduceLT, Nat.reduceBEq, hl15, ht15]
            refine Bs_if h (fun h hc20 => ?_) (fun h hc20 => ?_)
            · try simp (disch := first | assumption | (simp only [List.length_set]; assumption)) only [go_sem, Nat.reduceAdd, Nat.reduceMul, Nat.reduceSub, Nat.reduceEqDiff, ↓reduceIte, Nat.reduceLT, reduceCtorEq, Nat.reduceLeDiff, Int.reduceToNat, Int.reduceEq, Int.reduceLE, Int.reduceLT, Nat.reduceBEq, hl15, ht15]
              have he := Option.some.inj h
              subst he
              refine ends_weak ⟨[(2, (.lf false (.sc (.bool false))))], [], 0, 96⟩ (weak_of (m := 0) [] rfl rfl rfl (by rfl) ?_ ?_) ?_
              all_goals ((try simp (disch := first | assumption | (simp only [List.length_set]; assumption)) only [go_sem, Nat.reduceAdd, Nat.reduceMul, Nat.reduceSub, Nat.reduceEqDiff, ↓reduceIte, Nat.reduceLT, reduceCtorEq, Nat.reduceLeDiff, Int.reduceToNat, Int.reduceEq, Int.reduceLE, Int.reduceLT, Nat.reduceBEq, hl15, ht15]); (repeat' first | done | rfl | omega | refine And.intro ?_ ?_ | (simp; done) | (simp; omega)))
            · try simp (disch := first | assumption | (simp only [List.length_set]; assumption)) only [go_sem, Nat.reduceAdd, Nat.reduceMul, Nat.reduceSub, Nat.reduceEqDiff, ↓reduceIte, Nat.reduceLT, reduceCtorEq, Nat.reduceLeDiff, Int.reduceToNat, Int.reduceEq, Int.reduceLE, Int.reduceLT, Nat.reduceBEq, hl15, ht15]
              obtain ⟨c381, hr21, h⟩ := bind_ok h
              refine Cl_hand (ids := [5, 6]) (w_laws_markState_ww hr21) (by first | rfl | (simp (disch := first | assumption | (simp only [List.length_set]; assumption)) only [go_sem, Nat.reduceAdd, Nat.reduceMul, Nat.reduceSub, Nat.reduceEqDiff, ↓reduceIte, Nat.reduceLT, reduceCtorEq, Nat.reduceLeDiff, Int.reduceToNat, Int.reduceEq, Int.reduceLE, Int.reduceLT, Nat.reduceBEq, hl15, ht15]; first | done | rfl) | (simp only [List.length_append, List.length_cons, List.length_nil, List.length_map, List.length_set, List.length_replicate, Nat.zero_add, Nat.reduceAdd]; rfl) | (simp (disch := first | assumption | (simp only [List.length_set]; assumption)) only [go_sem, Nat.reduceAdd, Nat.reduceMul, Nat.reduceSub, Nat.reduceEqDiff, ↓reduceIte, Nat.reduceLT, reduceCtorEq, Nat.reduceLeDiff, Int.reduceToNat, Int.reduceEq, Int.reduceLE, Int.reduceLT, Nat.reduceBEq, hl15, ht15]; simp only [List.length_append, List.length_cons, List.length_nil, List.length_map, List.length_set, List.length_replicate, Nat.zero_add, Nat.reduceAdd]; rfl)) (FitAll.refl _) (by first | rfl | (simp (disch := first | assumption | (simp only [List.length_set]; assumption)) only [go_sem, Nat.reduceAdd, Nat.reduceMul, Nat.reduceSub, Nat.reduceEqDiff, ↓reduceIte, Nat.reduceLT, reduceCtorEq, Nat.reduceLeDiff, Int.reduceToNat, Int.reduceEq, Int.reduceLE, Int.reduceLT, Nat.reduceBEq, hl15, ht15]; first | done | rfl) | (simp only [List.length_append, List.length_cons, List.length_nil, List.length_map, List.length_set, List.length_replicate, Nat.zero_add, Nat.reduceAdd]; rfl) | (simp (disch := first | assumption | (simp only [List.length_set]; assumption)) only [go_sem, Nat.reduceAdd, Nat.reduceMul, Nat.reduceSub, Nat.reduceEqDiff, ↓reduceIte, Nat.reduceLT, reduceCtorEq, Nat.reduceLeDiff, Int.reduceToNat, Int.reduceEq, Int.reduceLE, Int.reduceLT, Nat.reduceBEq, hl15, ht15]; simp only [List.length_append, List.length_cons, List.length_nil, List.length_map, List.length_set, List.length_replicate, Nat.zero_add, Nat.reduceAdd]; rfl)) (by decide) (by first | rfl | (simp (disch := first | assumption | (simp only [List.length_set]; assumption)) only [go_sem, Nat.reduceAdd, Nat.reduceMul, Nat.reduceSub, Nat.reduceEqDiff, ↓reduceIte, Nat.reduceLT, reduceCtorEq, Nat.reduceLeDiff, Int.reduceToNat, Int.reduceEq, Int.reduceLE, Int.reduceLT, Nat.reduceBEq, hl15, ht15]; done)) (by rfl) ?_
              try simp (disch := first | assumption | (simp only [List.length_set]; assumption)) only [go_sem, Nat.reduceAdd, Nat.reduceMul, Nat.reduceSub, Nat.reduceEqDiff, ↓reduceIte, Nat.reduceLT, reduceCtorEq, Nat.reduceLeDiff, Int.reduceToNat, Int.reduceEq, Int.reduceLE, Int.reduceLT, Nat.reduceBEq, hl15, ht15]
              obtain ⟨hp22, h⟩ := guard_some h
              have hl22 : c329.1.Signals.length ≤ c381.2.1.length := by omega
              have ht22 : List.take (c329.1.Signals.length) c381.2.1 = c381.2.1 := by rw [← hp22]; exact List.take_length
              try simp (disch := first | assumption | (simp only [List.length_set]; assumption)) only [go_sem, Nat.reduceAdd, Nat.reduceMul, Nat.reduceSub, Nat.reduceEqDiff, ↓reduceIte, Nat.reduceLT, reduceCtorEq, Nat.reduceLeDiff, Int.reduceToNat, Int.reduceEq, Int.reduceLE, Int.reduceLT, Nat.reduceBEq, hl15, ht15, hl22, ht22]
              obtain ⟨hp23, h⟩ := guard_some h
              have hl23 : c329.1.Timers.length ≤ c381.2.2.length := by omega
              have ht23 : List.take (c329.1.Timers.length) c381.2.2 = c381.2.2 := by rw [← hp23]; exact List.take_length
              try simp (disch := first | assumption | (simp only [List.length_set]; assumption)) only [go_sem, Nat.reduceAdd, Nat.reduceMul, Nat.reduceSub, Nat.reduceEqDiff, ↓reduceIte, Nat.reduceLT, reduceCtorEq, Nat.reduceLeDiff, Int.reduceToNat, Int.reduceEq, Int.reduceLE, Int.reduceLT, Nat.reduceBEq, hl15, ht15, hl22, ht22, hl23, ht23]
              obtain ⟨c390, hr24, h⟩ := bind_ok h
              refine Cl_shown (w_laws_heldState hr24) (by first | rfl | (simp (disch := first | assumption | (simp only [List.length_set]; assumption)) only [go_sem, Nat.reduceAdd, Nat.reduceMul, Nat.reduceSub, Nat.reduceEqDiff, ↓reduceIte, Nat.reduceLT, reduceCtorEq, Nat.reduceLeDiff, Int.reduceToNat, Int.reduceEq, Int.reduceLE, Int.reduceLT, Nat.reduceBEq, hl15, ht15, hl22, ht22, hl23, ht23]; first | done | rfl) | (simp only [List.length_append, List.length_cons, List.length_nil, List.length_map, List.length_set, List.length_replicate, Nat.zero_add, Nat.reduceAdd]; rfl) | (simp (disch := first | assumption | (simp only [List.length_set]; assumption)) only [go_sem, Nat.reduceAdd, Nat.reduceMul, Nat.reduceSub, Nat.reduceEqDiff, ↓reduceIte, Nat.reduceLT, reduceCtorEq, Nat.reduceLeDiff, Int.reduceToNat, Int.reduceEq, Int.reduceLE, Int.reduceLT, Nat.reduceBEq, hl15, ht15, hl22, ht22, hl23, ht23]; simp only [List.length_append, List.length_cons, List.length_nil, List.length_map, List.length_set, List.length_replicate, Nat.zero_add, Nat.reduceAdd]; rfl)) (FitAll.refl _) (.inr ⟨rfl, by simp [freeOb, free1]⟩) ?_
              try simp (disch := first | assumption | (simp only [List.length_set]; assumption)) only [go_sem, Nat.reduceAdd, Nat.reduceMul, Nat.reduceSub, Nat.reduceEqDiff, ↓reduceIte, Nat.reduceLT, reduceCtorEq, Nat.reduceLeDiff, Int.reduceToNat, Int.reduceEq, Int.reduceLE, Int.reduceLT, Nat.reduceBEq, hl15, ht15, hl22, ht22, hl23, ht23]
              refine Bs_if h (fun h hc25 => ?_) (fun h hc25 => ?_)
              · try simp (disch := first | assumption | (simp only [List.length_set]; assumption)) only [go_sem, Nat.reduceAdd, Nat.reduceMul, Nat.reduceSub, Nat.reduceEqDiff, ↓reduceIte, Nat.reduceLT, reduceCtorEq, Nat.reduceLeDiff, Int.reduceToNat, Int.reduceEq, Int.reduceLE, Int.reduceLT, Nat.reduceBEq, hl15, ht15, hl22, ht22, hl23, ht23]
                have he := Option.some.inj h
                subst he
                refine ends_weak ⟨[(2, (.lf false (.sc (.bool false))))], [], 0, 96⟩ (weak_of (m := 0) [] rfl rfl rfl (by rfl) ?_ ?_) ?_
                all_goals ((try simp (disch := first | assumption | (simp only [List.length_set]; assumption)) only [go_sem, Nat.reduceAdd, Nat.reduceMul, Nat.reduceSub, Nat.reduceEqDiff, ↓reduceIte, Nat.reduceLT, reduceCtorEq, Nat.reduceLeDiff, Int.reduceToNat, Int.reduceEq, Int.reduceLE, Int.reduceLT, Nat.reduceBEq, hl15, ht15, hl22, ht22, hl23, ht23]); (repeat' first | done | rfl | omega | refine And.intro ?_ ?_ | (simp; done) | (simp; omega)))
              · try simp (disch := first | assumption | (simp only [List.length_set]; assumption)) only [go_sem, Nat.reduceAdd, Nat.reduceMul, Nat.reduceSub, Nat.reduceEqDiff, ↓reduceIte, Nat.reduceLT, reduceCtorEq, Nat.reduceLeDiff, Int.reduceToNat, Int.reduceEq, Int.reduceLE, Int.reduceLT, Nat.reduceBEq, hl15, ht15, hl22, ht22, hl23, ht23]
                refine Bs_if h (fun h hc26 => ?_) (fun h hc26 => ?_)
                · try simp (disch := first | assumption | (simp only [List.length_set]; assumption)) only [go_sem, Nat.reduceAdd, Nat.reduceMul, Nat.reduceSub, Nat.reduceEqDiff, ↓reduceIte, Nat.reduceLT, reduceCtorEq, Nat.reduceLeDiff, Int.reduceToNat, Int.reduceEq, Int.reduceLE, Int.reduceLT, Nat.reduceBEq, hl15, ht15, hl22, ht22, hl23, ht23]
                  have he := Option.some.inj h
                  subst he
                  refine ends_weak ⟨[(2, (.lf false (.sc (.bool false))))], [], 0, 96⟩ (weak_of (m := 0) [] rfl rfl rfl (by rfl) ?_ ?_) ?_
                  all_goals ((try simp (disch := first | assumption | (simp only [List.length_set]; assumption)) only [go_sem, Nat.reduceAdd, Nat.reduceMul, Nat.reduceSub, Nat.reduceEqDiff, ↓reduceIte, Nat.reduceLT, reduceCtorEq, Nat.reduceLeDiff, Int.reduceToNat, Int.reduceEq, Int.reduceLE, Int.reduceLT, Nat.reduceBEq, hl15, ht15, hl22, ht22, hl23, ht23]); (repeat' first | done | rfl | omega | refine And.intro ?_ ?_ | (simp; done) | (simp; omega)))
                · try simp (disch := first | assumption | (simp only [List.length_set]; assumption)) only [go_sem, Nat.reduceAdd, Nat.reduceMul, Nat.reduceSub, Nat.reduceEqDiff, ↓reduceIte, Nat.reduceLT, reduceCtorEq, Nat.reduceLeDiff, Int.reduceToNat, Int.reduceEq, Int.reduceLE, Int.reduceLT, Nat.reduceBEq, hl15, ht15, hl22, ht22, hl23, ht23]
                  obtain ⟨c391, hr27, h⟩ := bind_ok h
                  refine Cl_shown (w_laws_toRegion hr27) (by first | rfl | (simp (disch := first | assumption | (simp only [List.length_set]; assumption)) only [go_sem, Nat.reduceAdd, Nat.reduceMul, Nat.reduceSub, Nat.reduceEqDiff, ↓reduceIte, Nat.reduceLT, reduceCtorEq, Nat.reduceLeDiff, Int.reduceToNat, Int.reduceEq, Int.reduceLE, Int.reduceLT, Nat.reduceBEq, hl15, ht15, hl22, ht22, hl23, ht23]; first | done | rfl) | (simp only [List.length_append, List.length_cons, List.length_nil, List.length_map, List.length_set, List.length_replicate, Nat.zero_add, Nat.reduceAdd]; rfl) | (simp (disch := first | assumption | (simp only [List.length_set]; assumption)) only [go_sem, Nat.reduceAdd, Nat.reduceMul, Nat.reduceSub, Nat.reduceEqDiff, ↓reduceIte, Nat.reduceLT, reduceCtorEq, Nat.reduceLeDiff, Int.reduceToNat, Int.reduceEq, Int.reduceLE, Int.reduceLT, Nat.reduceBEq, hl15, ht15, hl22, ht22, hl23, ht23]; simp only [List.length_append, List.length_cons, List.length_nil, List.length_map, List.length_set, List.length_replicate, Nat.zero_add, Nat.reduceAdd]; rfl)) (FitAll.refl _) (.inl (by first | rfl | (simp (disch := first | assumption | (simp only [List.length_set]; assumption)) only [go_sem, Nat.reduceAdd, Nat.reduceMul, Nat.reduceSub, Nat.reduceEqDiff, ↓reduceIte, Nat.reduceLT, reduceCtorEq, Nat.reduceLeDiff, Int.reduceToNat, Int.reduceEq, Int.reduceLE, Int.reduceLT, Nat.reduceBEq, hl15, ht15, hl22, ht22, hl23, ht23]; done))) ?_
                  try simp (disch := first | assumption | (simp only [List.length_set]; assumption)) only [go_sem, Nat.reduceAdd, Nat.reduceMul, Nat.reduceSub, Nat.reduceEqDiff, ↓reduceIte, Nat.reduceLT, reduceCtorEq, Nat.reduceLeDiff, Int.reduceToNat, Int.reduceEq, Int.reduceLE, Int.reduceLT, Nat.reduceBEq, hl15, ht15, hl22, ht22, hl23, ht23]
                  obtain ⟨c392, hr28, h⟩ := bind_ok h
                  refine Cl_shown (w_impl_StateOf hr28) (by first | rfl | (simp (disch := first | assumption | (simp only [List.length_set]; assumption)) only [go_sem, Nat.reduceAdd, Nat.reduceMul, Nat.reduceSub, Nat.reduceEqDiff, ↓reduceIte, Nat.reduceLT, reduceCtorEq, Nat.reduceLeDiff, Int.reduceToNat, Int.reduceEq, Int.reduceLE, Int.reduceLT, Nat.reduceBEq, hl15, ht15, hl22, ht22, hl23, ht23]; first | done | rfl) | (simp only [List.length_append, List.length_cons, List.length_nil, List.length_map, List.length_set, List.length_replicate, Nat.zero_add, Nat.reduceAdd]; rfl) | (simp (disch := first | assumption | (simp only [List.length_set]; assumption)) only [go_sem, Nat.reduceAdd, Nat.reduceMul, Nat.reduceSub, Nat.reduceEqDiff, ↓reduceIte, Nat.reduceLT, reduceCtorEq, Nat.reduceLeDiff, Int.reduceToNat, Int.reduceEq, Int.reduceLE, Int.reduceLT, Nat.reduceBEq, hl15, ht15, hl22, ht22, hl23, ht23]; simp only [List.length_append, List.length_cons, List.length_nil, List.length_map, List.length_set, List.length_replicate, Nat.zero_add, Nat.reduceAdd]; rfl)) (FitAll.refl _) (.inr ⟨rfl, by simp [freeOb, free1]⟩) ?_
                  try simp (disch := first | assumption | (simp only [List.length_set]; assumption)) only [go_sem, Nat.reduceAdd, Nat.reduceMul, Nat.reduceSub, Nat.reduceEqDiff, ↓reduceIte, Nat.reduceLT, reduceCtorEq, Nat.reduceLeDiff, Int.reduceToNat, Int.reduceEq, Int.reduceLE, Int.reduceLT, Nat.reduceBEq, hl15, ht15, hl22, ht22, hl23, ht23]
                  obtain ⟨p394, hq29, h⟩ := bind_ok h
                  refine Sq_cut (fun s2 => s2 = ⟨[(7, (.pb 0 0)), (10, (.lf false (.sc (.int .i64 c381.1)))), (87, (.lf false (.sc (.bool p394.t87))))], [(0, some (true, .box [(.lf false (.sc (.int .i64 c329.1.Status))), (.lf false (.sc (.int .i64 c329.1.Next))), (.lf false (.sc (.bool c329.1.Cancel))), (.lf false (.sc (.int .i64 c329.1.Done))), (.os 1 1 0 c329.1.Signals.length c329.1.Signals.length false), (.os 2 1 0 c329.1.Timers.length c329.1.Timers.length false)])), (1, some (false, .arr false 1 (c381.2.1.map eS))), (2, some (false, .arr false 1 (c381.2.2.map eS)))], 3, 96⟩) ?_ ?_
                  · try simp (disch := first | assumption | (simp only [List.length_set]; assumption)) only [go_sem, Nat.reduceAdd, Nat.reduceMul, Nat.reduceSub, Nat.reduceEqDiff, ↓reduceIte, Nat.reduceLT, reduceCtorEq, Nat.reduceLeDiff, Int.reduceToNat, Int.reduceEq, Int.reduceLE, Int.reduceLT, Nat.reduceBEq, hl15, ht15, hl22, ht22, hl23, ht23]
                    obtain ⟨c393, hr30, hq29⟩ := bind_ok hq29
                    refine Cl_shown (w_laws_eqState hr30) (by first | rfl | (simp (disch := first | assumption | (simp only [List.length_set]; assumption)) only [go_sem, Nat.reduceAdd, Nat.reduceMul, Nat.reduceSub, Nat.reduceEqDiff, ↓reduceIte, Nat.reduceLT, reduceCtorEq, Nat.reduceLeDiff, Int.reduceToNat, Int.reduceEq, Int.reduceLE, Int.reduceLT, Nat.reduceBEq, hl15, ht15, hl22, ht22, hl23, ht23]; first | done | rfl) | (simp only [List.length_append, List.length_cons, List.length_nil, List.length_map, List.length_set, List.length_replicate, Nat.zero_add, Nat.reduceAdd]; rfl) | (simp (disch := first | assumption | (simp only [List.length_set]; assumption)) only [go_sem, Nat.reduceAdd, Nat.reduceMul, Nat.reduceSub, Nat.reduceEqDiff, ↓reduceIte, Nat.reduceLT, reduceCtorEq, Nat.reduceLeDiff, Int.reduceToNat, Int.reduceEq, Int.reduceLE, Int.reduceLT, Nat.reduceBEq, hl15, ht15, hl22, ht22, hl23, ht23]; simp only [List.length_append, List.length_cons, List.length_nil, List.length_map, List.length_set, List.length_replicate, Nat.zero_add, Nat.reduceAdd]; rfl)) (FitAll.refl _) (.inr ⟨rfl, by simp [freeOb, free1]⟩) ?_
                    try simp (disch := first | assumption | (simp only [List.length_set]; assumption)) only [go_sem, Nat.reduceAdd, Nat.reduceMul, Nat.reduceSub, Nat.reduceEqDiff, ↓reduceIte, Nat.reduceLT, reduceCtorEq, Nat.reduceLeDiff, Int.reduceToNat, Int.reduceEq, Int.reduceLE, Int.reduceLT, Nat.reduceBEq, hl15, ht15, hl22, ht22, hl23, ht23]
                    refine Sp_if hq29 (fun hq29 hc31 => ?_) (fun hq29 hc31 => ?_)
                    · try simp (disch := first | assumption | (simp only [List.length_set]; assumption)) only [go_sem, Nat.reduceAdd, Nat.reduceMul, Nat.reduceSub, Nat.reduceEqDiff, ↓reduceIte, Nat.reduceLT, reduceCtorEq, Nat.reduceLeDiff, Int.reduceToNat, Int.reduceEq, Int.reduceLE, Int.reduceLT, Nat.reduceBEq, hl15, ht15, hl22, ht22, hl23, ht23]
                      cases hq29
                      refine X_cut rfl ?_
                      refine weak_of (m := 0) [some 2, some 5, some 6] rfl rfl rfl (by rfl) ?_ ?_
                      all_goals ((try simp (disch := first | assumption | (simp only [List.length_set]; assumption)) only [go_sem, Nat.reduceAdd, Nat.reduceMul, Nat.reduceSub, Nat.reduceEqDiff, ↓reduceIte, Nat.reduceLT, reduceCtorEq, Nat.reduceLeDiff, Int.reduceToNat, Int.reduceEq, Int.reduceLE, Int.reduceLT, Nat.reduceBEq, hl15, ht15, hl22, ht22, hl23, ht23]); (repeat' first | done | rfl | omega | refine And.intro ?_ ?_ | (simp; done) | (simp; omega)))
                    · try simp (disch := first | assumption | (simp only [List.length_set]; assumption)) only [go_sem, Nat.reduceAdd, Nat.reduceMul, Nat.reduceSub, Nat.reduceEqDiff, ↓reduceIte, Nat.reduceLT, reduceCtorEq, Nat.reduceLeDiff, Int.reduceToNat, Int.reduceEq, Int.reduceLE, Int.reduceLT, Nat.reduceBEq, hl15, ht15, hl22, ht22, hl23, ht23]
                      cases hq29
                      refine X_cut rfl ?_
                      refine weak_of (m := 0) [some 2, some 5, some 6] rfl rfl rfl (by rfl) ?_ ?_
                      all_goals ((try simp (disch := first | assumption | (simp only [List.length_set]; assumption)) only [go_sem, Nat.reduceAdd, Nat.reduceMul, Nat.reduceSub, Nat.reduceEqDiff, ↓reduceIte, Nat.reduceLT, reduceCtorEq, Nat.reduceLeDiff, Int.reduceToNat, Int.reduceEq, Int.reduceLE, Int.reduceLT, Nat.reduceBEq, hl15, ht15, hl22, ht22, hl23, ht23]); (repeat' first | done | rfl | omega | refine And.intro ?_ ?_ | (simp; done) | (simp; omega)))
                  · intro s2 hJ; subst hJ
                    try dsimp only at h
                    try simp (disch := first | assumption | (simp only [List.length_set]; assumption)) only [go_sem, Nat.reduceAdd, Nat.reduceMul, Nat.reduceSub, Nat.reduceEqDiff, ↓reduceIte, Nat.reduceLT, reduceCtorEq, Nat.reduceLeDiff, Int.reduceToNat, Int.reduceEq, Int.reduceLE, Int.reduceLT, Nat.reduceBEq, hl15, ht15, hl22, ht22, hl23, ht23]
                    refine Bs_if h (fun h hc32 => ?_) (fun h hc32 => ?_)
                    · try simp (disch := first | assumption | (simp only [List.length_set]; assumption)) only [go_sem, Nat.reduceAdd, Nat.reduceMul, Nat.reduceSub, Nat.reduceEqDiff, ↓reduceIte, Nat.reduceLT, reduceCtorEq, Nat.reduceLeDiff, Int.reduceToNat, Int.reduceEq, Int.reduceLE, Int.reduceLT, Nat.reduceBEq, hl15, ht15, hl22, ht22, hl23, ht23]
                      have he := Option.some.inj h
                      subst he
                      refine ends_weak ⟨[(2, (.lf false (.sc (.bool false))))], [], 0, 96⟩ (weak_of (m := 0) [] rfl rfl rfl (by rfl) ?_ ?_) ?_
                      all_goals ((try simp (disch := first | assumption | (simp only [List.length_set]; assumption)) only [go_sem, Nat.reduceAdd, Nat.reduceMul, Nat.reduceSub, Nat.reduceEqDiff, ↓reduceIte, Nat.reduceLT, reduceCtorEq, Nat.reduceLeDiff, Int.reduceToNat, Int.reduceEq, Int.reduceLE, Int.reduceLT, Nat.reduceBEq, hl15, ht15, hl22, ht22, hl23, ht23]); (repeat' first | done | rfl | omega | refine And.intro ?_ ?_ | (simp; done) | (simp; omega)))
                    · try simp (disch := first | assumption | (simp only [List.length_set]; assumption)) only [go_sem, Nat.reduceAdd, Nat.reduceMul, Nat.reduceSub, Nat.reduceEqDiff, ↓reduceIte, Nat.reduceLT, reduceCtorEq, Nat.reduceLeDiff, Int.reduceToNat, Int.reduceEq, Int.reduceLE, Int.reduceLT, Nat.reduceBEq, hl15, ht15, hl22, ht22, hl23, ht23]
                      obtain ⟨c395, hr33, h⟩ := bind_ok h
                      refine Cl_shown (w_laws_heldState hr33) (by first | rfl | (simp (disch := first | assumption | (simp only [List.length_set]; assumption)) only [go_sem, Nat.reduceAdd, Nat.reduceMul, Nat.reduceSub, Nat.reduceEqDiff, ↓reduceIte, Nat.reduceLT, reduceCtorEq, Nat.reduceLeDiff, Int.reduceToNat, Int.reduceEq, Int.reduceLE, Int.reduceLT, Nat.reduceBEq, hl15, ht15, hl22, ht22, hl23, ht23]; first | done | rfl) | (simp only [List.length_append, List.length_cons, List.length_nil, List.length_map, List.length_set, List.length_replicate, Nat.zero_add, Nat.reduceAdd]; rfl) | (simp (disch := first | assumption | (simp only [List.length_set]; assumption)) only [go_sem, Nat.reduceAdd, Nat.reduceMul, Nat.reduceSub, Nat.reduceEqDiff, ↓reduceIte, Nat.reduceLT, reduceCtorEq, Nat.reduceLeDiff, Int.reduceToNat, Int.reduceEq, Int.reduceLE, Int.reduceLT, Nat.reduceBEq, hl15, ht15, hl22, ht22, hl23, ht23]; simp only [List.length_append, List.length_cons, List.length_nil, List.length_map, List.length_set, List.length_replicate, Nat.zero_add, Nat.reduceAdd]; rfl)) (FitAll.refl _) (.inr ⟨rfl, by simp [freeOb, free1]⟩) ?_
                      try simp (disch := first | assumption | (simp only [List.length_set]; assumption)) only [go_sem, Nat.reduceAdd, Nat.reduceMul, Nat.reduceSub, Nat.reduceEqDiff, ↓reduceIte, Nat.reduceLT, reduceCtorEq, Nat.reduceLeDiff, Int.reduceToNat, Int.reduceEq, Int.reduceLE, Int.reduceLT, Nat.reduceBEq, hl15, ht15, hl22, ht22, hl23, ht23]
                      refine Bs_if h (fun h hc34 => ?_) (fun h hc34 => ?_)
                      · try simp (disch := first | assumption | (simp only [List.length_set]; assumption)) only [go_sem, Nat.reduceAdd, Nat.reduceMul, Nat.reduceSub, Nat.reduceEqDiff, ↓reduceIte, Nat.reduceLT, reduceCtorEq, Nat.reduceLeDiff, Int.reduceToNat, Int.reduceEq, Int.reduceLE, Int.reduceLT, Nat.reduceBEq, hl15, ht15, hl22, ht22, hl23, ht23]
                        have he := Option.some.inj h
                        subst he
                        refine ends_weak ⟨[(2, (.lf false (.sc (.bool false))))], [], 0, 96⟩ (weak_of (m := 0) [] rfl rfl rfl (by rfl) ?_ ?_) ?_
                        all_goals ((try simp (disch := first | assumption | (simp only [List.length_set]; assumption)) only [go_sem, Nat.reduceAdd, Nat.reduceMul, Nat.reduceSub, Nat.reduceEqDiff, ↓reduceIte, Nat.reduceLT, reduceCtorEq, Nat.reduceLeDiff, Int.reduceToNat, Int.reduceEq, Int.reduceLE, Int.reduceLT, Nat.reduceBEq, hl15, ht15, hl22, ht22, hl23, ht23]); (repeat' first | done | rfl | omega | refine And.intro ?_ ?_ | (simp; done) | (simp; omega)))
                      · try simp (disch := first | assumption | (simp only [List.length_set]; assumption)) only [go_sem, Nat.reduceAdd, Nat.reduceMul, Nat.reduceSub, Nat.reduceEqDiff, ↓reduceIte, Nat.reduceLT, reduceCtorEq, Nat.reduceLeDiff, Int.reduceToNat, Int.reduceEq, Int.reduceLE, Int.reduceLT, Nat.reduceBEq, hl15, ht15, hl22, ht22, hl23, ht23]
                        refine Bs_if h (fun h hc35 => ?_) (fun h hc35 => ?_)
                        · try simp (disch := first | assumption | (simp only [List.length_set]; assumption)) only [go_sem, Nat.reduceAdd, Nat.reduceMul, Nat.reduceSub, Nat.reduceEqDiff, ↓reduceIte, Nat.reduceLT, reduceCtorEq, Nat.reduceLeDiff, Int.reduceToNat, Int.reduceEq, Int.reduceLE, Int.reduceLT, Nat.reduceBEq, hl15, ht15, hl22, ht22, hl23, ht23]
                          have he := Option.some.inj h
                          subst he
                          refine ends_weak ⟨[(2, (.lf false (.sc (.bool false))))], [], 0, 96⟩ (weak_of (m := 0) [] rfl rfl rfl (by rfl) ?_ ?_) ?_
                          all_goals ((try simp (disch := first | assumption | (simp only [List.length_set]; assumption)) only [go_sem, Nat.reduceAdd, Nat.reduceMul, Nat.reduceSub, Nat.reduceEqDiff, ↓reduceIte, Nat.reduceLT, reduceCtorEq, Nat.reduceLeDiff, Int.reduceToNat, Int.reduceEq, Int.reduceLE, Int.reduceLT, Nat.reduceBEq, hl15, ht15, hl22, ht22, hl23, ht23]); (repeat' first | done | rfl | omega | refine And.intro ?_ ?_ | (simp; done) | (simp; omega)))
                        · try simp (disch := first | assumption | (simp only [List.length_set]; assumption)) only [go_sem, Nat.reduceAdd, Nat.reduceMul, Nat.reduceSub, Nat.reduceEqDiff, ↓reduceIte, Nat.reduceLT, reduceCtorEq, Nat.reduceLeDiff, Int.reduceToNat, Int.reduceEq, Int.reduceLE, Int.reduceLT, Nat.reduceBEq, hl15, ht15, hl22, ht22, hl23, ht23]
                          have he := Option.some.inj h
                          subst he
                          refine ends_weak ⟨[(2, (.lf false (.sc (.bool true))))], [], 0, 96⟩ (weak_of (m := 0) [] rfl rfl rfl (by rfl) ?_ ?_) ?_
                          all_goals ((try simp (disch := first | assumption | (simp only [List.length_set]; assumption)) only [go_sem, Nat.reduceAdd, Nat.reduceMul, Nat.reduceSub, Nat.reduceEqDiff, ↓reduceIte, Nat.reduceLT, reduceCtorEq, Nat.reduceLeDiff, Int.reduceToNat, Int.reduceEq, Int.reduceLE, Int.reduceLT, Nat.reduceBEq, hl15, ht15, hl22, ht22, hl23, ht23]); (repeat' first | done | rfl | omega | refine And.intro ?_ ?_ | (simp; done) | (simp; omega)))
end Go.TL.YtjkeoippmlmfbaaGreatDoor

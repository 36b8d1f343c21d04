import Derived.Test.YtjkeoippmlmfbaaGreatDoorWlFnExactTakeLeadA
set_option linter.unusedSimpArgs false
set_option linter.unusedVariables false
set_option linter.unusedVariables false
set_option linter.unusedSimpArgs false
set_option maxRecDepth 8000
set_option maxHeartbeats 0
namespace Go.TL.YtjkeoippmlmfbaaGreatDoor
open Go Go.Proofs Go.TL
theorem w_laws_markTellings_wd {a0 : TellingsT} {a1 : Int} {m0 : Nat} {x0 : Bool} {r : (Int × (List BranchT))} (h : laws_markTellings_wd a0 a1 = some r) : Fn Tryz.prog 20 [(.ag [(.os 0 1 0 a0.Branches.length m0 x0)]), (.lf false (.sc (.int .i64 a1)))] [(0, some (false, .deep [.sl [.sc, .sc, .sc, .sc]] (a0.Branches.map eBranch)))] 1 (.lf false (.sc (.int .i64 r.1))) [(0, some (false, .deep [.sl [.sc, .sc, .sc, .sc]] (r.2.map eBranch)))] 1 := by
  unfold laws_markTellings_wd at h
  refine fn_code tab_ok mixed [(1000, [(1, 0), (2, 0)]), (1001, [(1, 0)]), (1002, [(4, 0)])] Tryz.func20 rfl rfl (by simp [Tryz.f20]) (by kernel_rfl) ?_
  simp only [Tryz.f20]
  refine sA ?_
  obtain ⟨c376, hr1, h⟩ := bind_ok h
  refine Cl_hA [0] (w_laws_markBranchS_wd hr1) ?_
  try refine sA ?_
  obtain ⟨hp2, h⟩ := guard_some h
  have hl2 : a0.Branches.length ≤ c376.2.length := by omega
  have ht2 : List.take (a0.Branches.length) c376.2 = c376.2 := by rw [← hp2]; exact List.take_length
  try simp (disch := first | assumption | (simp only [List.length_set]; assumption)) only [go_sem, Nat.reduceAdd, Nat.reduceMul, Nat.reduceSub, Nat.reduceEqDiff, ↓reduceIte, Nat.reduceLT, reduceCtorEq, Nat.reduceLeDiff, Int.reduceToNat, Int.reduceEq, Int.reduceLE, Int.reduceLT, Nat.reduceBEq, hl2, ht2]
  have he := Option.some.inj h
  subst he
  refine ends_weak ⟨[(4, (.lf false (.sc (.int .i64 c376.1))))], [(0, some (false, .deep [.sl [.sc, .sc, .sc, .sc]] (c376.2.map eBranch)))], 1, 10⟩ (weak_of (m := 1) [some 0] rfl rfl rfl (by rfl) ?_ ?_) ?_
  all_goals ((try simp (disch := first | assumption | (simp only [List.length_set]; assumption)) only [go_sem, Nat.reduceAdd, Nat.reduceMul, Nat.reduceSub, Nat.reduceEqDiff, ↓reduceIte, Nat.reduceLT, reduceCtorEq, Nat.reduceLeDiff, Int.reduceToNat, Int.reduceEq, Int.reduceLE, Int.reduceLT, Nat.reduceBEq, hl2, ht2]); (repeat' first | done | rfl | omega | refine And.intro ?_ ?_ | (simp; done) | (simp; omega)))
theorem w_laws_markRegion_wd {a0 : RegionT} {a1 : Int} {m0 : Nat} {x0 : Bool} {r : (Int × (List BranchT))} (h : laws_markRegion_wd a0 a1 = some r) : Fn Tryz.prog 29 [(.ag [(.lf false (.sc (.int .i64 a0.Id))), (.lf false (.sc (.int .i64 a0.Version))), (.os 0 1 0 a0.Tellings.Branches.length m0 x0)]), (.lf false (.sc (.int .i64 a1)))] [(0, some (false, .deep [.sl [.sc, .sc, .sc, .sc]] (a0.Tellings.Branches.map eBranch)))] 1 (.lf false (.sc (.int .i64 r.1))) [(0, some (false, .deep [.sl [.sc, .sc, .sc, .sc]] (r.2.map eBranch)))] 1 := by
  unfold laws_markRegion_wd at h
  refine fn_code tab_ok mixed [(1000, [(1, 0), (2, 0)]), (1001, [(1, 0)]), (1002, [(4, 0)])] Tryz.func29 rfl rfl (by simp [Tryz.f29]) (by kernel_rfl) ?_
  simp only [Tryz.f29]
  refine sA ?_
  obtain ⟨c377, hr1, h⟩ := bind_ok h
  refine Cl_hA [0] (w_laws_markTellings_wd hr1) ?_
  try refine sA ?_
  obtain ⟨hp2, h⟩ := guard_some h
  have hl2 : a0.Tellings.Branches.length ≤ c377.2.length := by omega
  have ht2 : List.take (a0.Tellings.Branches.length) c377.2 = c377.2 := by rw [← hp2]; exact List.take_length
  try simp (disch := first | assumption | (simp only [List.length_set]; assumption)) only [go_sem, Nat.reduceAdd, Nat.reduceMul, Nat.reduceSub, Nat.reduceEqDiff, ↓reduceIte, Nat.reduceLT, reduceCtorEq, Nat.reduceLeDiff, Int.reduceToNat, Int.reduceEq, Int.reduceLE, Int.reduceLT, Nat.reduceBEq, hl2, ht2]
  have he := Option.some.inj h
  subst he
  refine ends_weak ⟨[(4, (.lf false (.sc (.int .i64 c377.1))))], [(0, some (false, .deep [.sl [.sc, .sc, .sc, .sc]] (c377.2.map eBranch)))], 1, 10⟩ (weak_of (m := 1) [some 0] rfl rfl rfl (by rfl) ?_ ?_) ?_
  all_goals ((try simp (disch := first | assumption | (simp only [List.length_set]; assumption)) only [go_sem, Nat.reduceAdd, Nat.reduceMul, Nat.reduceSub, Nat.reduceEqDiff, ↓reduceIte, Nat.reduceLT, reduceCtorEq, Nat.reduceLeDiff, Int.reduceToNat, Int.reduceEq, Int.reduceLE, Int.reduceLT, Nat.reduceBEq, hl2, ht2]); (repeat' first | done | rfl | omega | refine And.intro ?_ ?_ | (simp; done) | (simp; omega)))
theorem w_laws_heldEventS {a0 : (List EventT)} {a1 : Int} {r : Int} (h : laws_heldEventS a0 a1 = some r) : Fn Tryz.prog 22 [(.lf true (.sl (a0.map eEvent))), (.lf false (.sc (.int .i64 a1)))] [] 0 (.lf false (.sc (.int .i64 r))) [] 0 := by
  unfold laws_heldEventS at h
  refine fn_code tab_ok mixed [(13, [(4, 6)]), (1000, [(0, 0), (1, 0)]), (1001, [(0, 0), (1, 0), (5, 0)]), (1002, [(0, 0), (1, 0), (5, 0), (9, 0)]), (1003, [(0, 0), (1, 0), (5, 0)]), (1004, [(0, 0), (1, 0), (5, 0), (18, 0)]), (1005, [(4, 0)]), (1006, [(0, 0), (1, 0), (5, 0)]), (1007, [(0, 0), (1, 0), (5, 0), (27, 0)]), (1008, [(4, 0)]), (1009, [(0, 0), (1, 0), (5, 0)]), (1010, [(0, 0), (1, 0), (5, 0), (36, 0)]), (1011, [(4, 0)]), (1012, [(0, 0), (1, 0), (5, 0)]), (1013, [(0, 0), (1, 0), (5, 0), (46, 0)]), (1014, [(4, 0)]), (1015, [(0, 0), (1, 0), (5, 0)]), (1016, [(4, 0)])] Tryz.func22 rfl rfl (by simp [Tryz.f22]) (by kernel_rfl) ?_
  simp only [Tryz.f22]
  refine sA ?_
  obtain ⟨y386, hl1, h⟩ := bind_ok h
  refine W_loopP (fun g383 : laws_heldEventS_G1 => ⟨[(0, (.lf true (.sl (a0.map eEvent)))), (1, (.lf false (.sc (.int .i64 g383.t1)))), (5, (.lf false (.sc (.int .i64 g383.t5))))], [], 0, 50⟩) (laws_heldEventS_L1 a0) _ _ hl1 (weakA []) ?_
  · intro n1 g383 z1 hs1 hk1
    unfold laws_heldEventS_L1 at hs1
    try dsimp only at hs1
    refine sA ?_
    refine Bs_if hs1 (fun hs1 hc2 => ?_) (fun hs1 hc2 => ?_)
    · try refine sA ?_
      obtain ⟨hp3, hs1⟩ := guard_some hs1
      have hn3 : g383.t5.toNat < a0.length := by first | omega | (simp only [List.length_set, List.length_append, List.length_replicate, List.length_map]; omega)
      try refine sA ?_
      try refine andA ?_
      refine Bs_if hs1 (fun hs1 hc4 => ?_) (fun hs1 hc4 => ?_)
      · try refine sA ?_
        cases hs1
        cases hk1
        try dsimp only at h
        try refine sA ?_
        have he := Option.some.inj h
        subst he
        exact endsA ⟨[(4, (.lf false (.sc (.int .i64 (-1)))))], [], 0, 50⟩ []
      · try refine sA ?_
        obtain ⟨hp5, hs1⟩ := guard_some hs1
        have hn5 : g383.t5.toNat < a0.length := by first | omega | (simp only [List.length_set, List.length_append, List.length_replicate, List.length_map]; omega)
        try refine sA ?_
        try refine andA ?_
        refine Bs_if hs1 (fun hs1 hc6 => ?_) (fun hs1 hc6 => ?_)
        · try refine sA ?_
          cases hs1
          cases hk1
          try dsimp only at h
          try refine sA ?_
          have he := Option.some.inj h
          subst he
          exact endsA ⟨[(4, (.lf false (.sc (.int .i64 (-1)))))], [], 0, 50⟩ []
        · try refine sA ?_
          obtain ⟨hp7, hs1⟩ := guard_some hs1
          have hn7 : g383.t5.toNat < a0.length := by first | omega | (simp only [List.length_set, List.length_append, List.length_replicate, List.length_map]; omega)
          try refine sA ?_
          try refine andA ?_
          refine Bs_if hs1 (fun hs1 hc8 => ?_) (fun hs1 hc8 => ?_)
          · try refine sA ?_
            cases hs1
            cases hk1
            try dsimp only at h
            try refine sA ?_
            have he := Option.some.inj h
            subst he
            exact endsA ⟨[(4, (.lf false (.sc (.int .i64 (-1)))))], [], 0, 50⟩ []
          · try refine sA ?_
            obtain ⟨hp9, hs1⟩ := guard_some hs1
            have hn9 : g383.t5.toNat < a0.length := by first | omega | (simp only [List.length_set, List.length_append, List.length_replicate, List.length_map]; omega)
            try refine sA ?_
            try refine andA ?_
            obtain ⟨c385, hr10, hs1⟩ := bind_ok hs1
            refine Cl_sA (w_laws_markText hr10) ?_
            try refine sA ?_
            refine Bs_if hs1 (fun hs1 hc11 => ?_) (fun hs1 hc11 => ?_)
            · try refine sA ?_
              cases hs1
              cases hk1
              try dsimp only at h
              try refine sA ?_
              have he := Option.some.inj h
              subst he
              exact endsA ⟨[(4, (.lf false (.sc (.int .i64 (-1)))))], [], 0, 50⟩ []
            · try refine sA ?_
              cases hs1
              exact X_backP hk1 (weakA [])
    · try refine sA ?_
      cases hs1
      cases hk1
      try dsimp only at h
      try refine sA ?_
      have he := Option.some.inj h
      subst he
      exact endsA ⟨[(4, (.lf false (.sc (.int .i64 g383.t1))))], [], 0, 50⟩ []
theorem w_laws_heldBranchS {a0 : (List BranchT)} {a1 : Int} {r : Int} (h : laws_heldBranchS a0 a1 = some r) : Fn Tryz.prog 120 [(.lf true (.sl (a0.map eBranch))), (.lf false (.sc (.int .i64 a1)))] [] 0 (.lf false (.sc (.int .i64 r))) [] 0 := by
  unfold laws_heldBranchS at h
  refine fn_code tab_ok mixed [(1000, [(0, 0), (1, 0)]), (1001, [(0, 0), (1, 0), (5, 0)]), (1002, [(0, 0), (1, 0), (5, 0), (9, 0)]), (1003, [(0, 0), (1, 0), (5, 0)]), (1004, [(0, 0), (1, 0), (5, 0)]), (1005, [(0, 0), (1, 0), (5, 0), (20, 0)]), (1006, [(4, 0)]), (1007, [(4, 0)])] Tryz.func120 rfl rfl (by simp [Tryz.f120]) (by kernel_rfl) ?_
  simp only [Tryz.f120]
  refine sA ?_
  obtain ⟨y391, hl1, h⟩ := bind_ok h
  refine W_loopP (fun g382 : laws_heldBranchS_G1 => ⟨[(0, (.lf true (.sl (a0.map eBranch)))), (1, (.lf false (.sc (.int .i64 g382.t1)))), (5, (.lf false (.sc (.int .i64 g382.t5))))], [], 0, 22⟩) (laws_heldBranchS_L1 a0) _ _ hl1 (weakA []) ?_
  · intro n1 g382 z1 hs1 hk1
    unfold laws_heldBranchS_L1 at hs1
    try dsimp only at hs1
    refine sA ?_
    refine Bs_if hs1 (fun hs1 hc2 => ?_) (fun hs1 hc2 => ?_)
    · try refine sA ?_
      obtain ⟨hp3, hs1⟩ := guard_some hs1
      have hn3 : g382.t5.toNat < a0.length := by first | omega | (simp only [List.length_set, List.length_append, List.length_replicate, List.length_map]; omega)
      try refine sA ?_
      try refine andA ?_
      obtain ⟨c390, hr4, hs1⟩ := bind_ok hs1
      refine Cl_sA (w_laws_heldEventS hr4) ?_
      try refine sA ?_
      refine Bs_if hs1 (fun hs1 hc5 => ?_) (fun hs1 hc5 => ?_)
      · try refine sA ?_
        cases hs1
        cases hk1
        try dsimp only at h
        try refine sA ?_
        have he := Option.some.inj h
        subst he
        exact endsA ⟨[(4, (.lf false (.sc (.int .i64 (-1)))))], [], 0, 22⟩ []
      · try refine sA ?_
        cases hs1
        exact X_backP hk1 (weakA [])
    · try refine sA ?_
      cases hs1
      cases hk1
      try dsimp only at h
      try refine sA ?_
      have he := Option.some.inj h
      subst he
      exact endsA ⟨[(4, (.lf false (.sc (.int .i64 g382.t1))))], [], 0, 22⟩ []
theorem w_laws_heldTellings {a0 : TellingsT} {a1 : Int} {r : Int} (h : laws_heldTellings a0 a1 = some r) : Fn Tryz.prog 53 [(.ag [(.lf true (.sl (a0.Branches.map eBranch)))]), (.lf false (.sc (.int .i64 a1)))] [] 0 (.lf false (.sc (.int .i64 r))) [] 0 := by
  unfold laws_heldTellings at h
  refine fn_code tab_ok mixed [(1000, [(1, 0), (2, 0)]), (1001, [(1, 0)]), (1002, [(1, 0), (10, 0)]), (1003, [(4, 0)]), (1004, [(4, 0)])] Tryz.func53 rfl rfl (by simp [Tryz.f53]) (by kernel_rfl) ?_
  simp only [Tryz.f53]
  refine sA ?_
  obtain ⟨c394, hr1, h⟩ := bind_ok h
  refine Cl_sA (w_laws_heldBranchS hr1) ?_
  try refine sA ?_
  refine Bs_if h (fun h hc2 => ?_) (fun h hc2 => ?_)
  · try refine sA ?_
    have he := Option.some.inj h
    subst he
    exact endsA ⟨[(4, (.lf false (.sc (.int .i64 (-1)))))], [], 0, 12⟩ []
  · try refine sA ?_
    have he := Option.some.inj h
    subst he
    exact endsA ⟨[(4, (.lf false (.sc (.int .i64 c394))))], [], 0, 12⟩ []
theorem w_laws_heldRegion {a0 : RegionT} {a1 : Int} {r : Int} (h : laws_heldRegion a0 a1 = some r) : Fn Tryz.prog 39 [(.ag [(.lf false (.sc (.int .i64 a0.Id))), (.lf false (.sc (.int .i64 a0.Version))), (.lf true (.sl (a0.Tellings.Branches.map eBranch)))]), (.lf false (.sc (.int .i64 a1)))] [] 0 (.lf false (.sc (.int .i64 r))) [] 0 := by
  unfold laws_heldRegion at h
  refine fn_code tab_ok mixed [(1000, [(1, 0), (2, 0)]), (1001, [(1, 0)]), (1002, [(1, 0), (10, 0)]), (1003, [(4, 0)]), (1004, [(4, 0)])] Tryz.func39 rfl rfl (by simp [Tryz.f39]) (by kernel_rfl) ?_
  simp only [Tryz.f39]
  refine sA ?_
  obtain ⟨c395, hr1, h⟩ := bind_ok h
  refine Cl_sA (w_laws_heldTellings hr1) ?_
  try refine sA ?_
  refine Bs_if h (fun h hc2 => ?_) (fun h hc2 => ?_)
  · try refine sA ?_
    have he := Option.some.inj h
    subst he
    exact endsA ⟨[(4, (.lf false (.sc (.int .i64 (-1)))))], [], 0, 12⟩ []
  · try refine sA ?_
    have he := Option.some.inj h
    subst he
    exact endsA ⟨[(4, (.lf false (.sc (.int .i64 c395))))], [], 0, 12⟩ []
theorem w_laws_FnExactTakeLead {a0 : RegionT} {r : Bool} (h : laws_FnExactTakeLead a0 = some r) : Fn Tryz.prog 6 [(.ag [(.lf false (.sc (.int .i64 a0.Id))), (.lf false (.sc (.int .i64 a0.Version))), (.lf true (.sl (a0.Tellings.Branches.map eBranch)))])] [] 0 (.lf false (.sc (.bool r))) [] 0 := by
  unfold laws_FnExactTakeLead at h
  refine fn_code tab_ok mixed [(10, [(0, 2)]), (1000, [(1, 0)]), (1001, [(1, 0), (3, 0)]), (1002, [(1, 0), (3, 0)]), (1003, [(1, 0), (18, 0)]), (1004, [(2, 0)]), (1005, [(1, 0), (4, 0), (5, 0)]), (1006, [(1, 0), (4, 0), (5, 0), (6, 0)]), (1007, [(1, 0), (4, 0), (5, 0), (6, 0), (7, 0), (8, 0)]), (1008, [(1, 0), (4, 0), (5, 0), (6, 0), (7, 0), (8, 0), (40, 0)]), (1009, [(2, 0)]), (1010, [(1, 0), (4, 0), (5, 0), (6, 0), (7, 0), (8, 0), (45, 0)]), (1011, [(2, 0)]), (1012, [(1, 0), (4, 0), (5, 0), (6, 0), (7, 0), (8, 0), (9, 0)]), (1013, [(1, 0), (4, 0), (5, 0), (7, 0), (8, 0), (9, 0)]), (1014, [(1, 0), (4, 0), (5, 0), (7, 0), (61, 0)]), (1015, [(2, 0)]), (1016, [(1, 0), (4, 0), (5, 0), (7, 0), (10, 0)]), (1017, [(1, 0), (4, 0), (5, 0), (7, 0), (10, 0)]), (1018, [(1, 0), (4, 0), (5, 0), (7, 0), (10, 0), (11, 0)]), (1019, [(1, 0), (4, 0), (5, 0), (7, 0), (10, 0), (11, 0)]), (1020, [(1, 0), (4, 0), (5, 0), (7, 0), (10, 0), (11, 0), (69, 0)]), (1021, [(2, 0)]), (1022, [(1, 0), (4, 0), (5, 0), (7, 0), (10, 0), (72, 0)]), (1023, [(2, 0)]), (1024, [(4, 0), (5, 0), (7, 0), (10, 0), (12, 0), (13, 0)]), (1025, [(7, 0), (10, 0), (87, 0)]), (1026, [(2, 0)]), (1027, [(7, 0), (10, 0), (11, 0)]), (1028, [(10, 0), (11, 0)]), (1029, [(10, 0), (11, 0), (92, 0)]), (1030, [(2, 0)]), (1031, [(95, 0)]), (1032, [(2, 0)]), (1033, [(2, 0)]), (4008, []), (4014, []), (4025, [])] Tryz.func6 rfl rfl (by simp [Tryz.f6]) (by kernel_rfl) ?_
  simp only [Tryz.f6]
  refine sA ?_
  obtain ⟨c16, hr1, h⟩ := bind_ok h
  refine Cl_sA (w_laws_szRegion hr1) ?_
  try refine sA ?_
  refine Bs_if h (fun h hc2 => ?_) (fun h hc2 => ?_)
  · try refine sA ?_
    have he := Option.some.inj h
    subst he
    exact endsA ⟨[(2, (.lf false (.sc (.bool true))))], [], 0, 96⟩ []
  · try refine sA ?_
    obtain ⟨c28, hr3, h⟩ := bind_ok h
    refine Cl_sA (w_laws_toRegion hr3) ?_
    try refine sA ?_
    obtain ⟨c170, hr4, h⟩ := bind_ok h
    refine Cl_hA [1] (w_spec_TakeLead_wd hr4) ?_
    try refine sA ?_
    obtain ⟨hp5, h⟩ := guard_some h
    have hl5 : c28.Tellings.Branches.length ≤ c170.2.2.length := by omega
    have ht5 : List.take (c28.Tellings.Branches.length) c170.2.2 = c170.2.2 := by rw [← hp5]; exact List.take_length
    try simp (disch := first | assumption | (simp only [List.length_set]; assumption)) only [go_sem, Nat.reduceAdd, Nat.reduceMul, Nat.reduceSub, Nat.reduceEqDiff, ↓reduceIte, Nat.reduceLT, reduceCtorEq, Nat.reduceLeDiff, Int.reduceToNat, Int.reduceEq, Int.reduceLE, Int.reduceLT, Nat.reduceBEq, hl5, ht5]
    obtain ⟨c171, hr6, h⟩ := bind_ok h
    refine Cl_shown (w_laws_toRegion hr6) (by first | rfl | (simp (disch := first | assumption | (simp only [List.length_set]; assumption)) only [go_sem, Nat.reduceAdd, Nat.reduceMul, Nat.reduceSub, Nat.reduceEqDiff, ↓reduceIte, Nat.reduceLT, reduceCtorEq, Nat.reduceLeDiff, Int.reduceToNat, Int.reduceEq, Int.reduceLE, Int.reduceLT, Nat.reduceBEq, hl5, ht5]; first | done | rfl) | (simp only [List.length_append, List.length_cons, List.length_nil, List.length_map, List.length_set, List.length_replicate, Nat.zero_add, Nat.reduceAdd]; rfl) | (simp (disch := first | assumption | (simp only [List.length_set]; assumption)) only [go_sem, Nat.reduceAdd, Nat.reduceMul, Nat.reduceSub, Nat.reduceEqDiff, ↓reduceIte, Nat.reduceLT, reduceCtorEq, Nat.reduceLeDiff, Int.reduceToNat, Int.reduceEq, Int.reduceLE, Int.reduceLT, Nat.reduceBEq, hl5, ht5]; simp only [List.length_append, List.length_cons, List.length_nil, List.length_map, List.length_set, List.length_replicate, Nat.zero_add, Nat.reduceAdd]; rfl)) (FitAll.refl _) (.inl (by first | rfl | (simp (disch := first | assumption | (simp only [List.length_set]; assumption)) only [go_sem, Nat.reduceAdd, Nat.reduceMul, Nat.reduceSub, Nat.reduceEqDiff, ↓reduceIte, Nat.reduceLT, reduceCtorEq, Nat.reduceLeDiff, Int.reduceToNat, Int.reduceEq, Int.reduceLE, Int.reduceLT, Nat.reduceBEq, hl5, ht5]; done))) ?_
    try simp (disch := first | assumption | (simp only [List.length_set]; assumption)) only [go_sem, Nat.reduceAdd, Nat.reduceMul, Nat.reduceSub, Nat.reduceEqDiff, ↓reduceIte, Nat.reduceLT, reduceCtorEq, Nat.reduceLeDiff, Int.reduceToNat, Int.reduceEq, Int.reduceLE, Int.reduceLT, Nat.reduceBEq, hl5, ht5]
    obtain ⟨c343, hr7, h⟩ := bind_ok h
    refine Cl_shown (w_impl_TakeLead hr7) (by first | rfl | (simp (disch := first | assumption | (simp only [List.length_set]; assumption)) only [go_sem, Nat.reduceAdd, Nat.reduceMul, Nat.reduceSub, Nat.reduceEqDiff, ↓reduceIte, Nat.reduceLT, reduceCtorEq, Nat.reduceLeDiff, Int.reduceToNat, Int.reduceEq, Int.reduceLE, Int.reduceLT, Nat.reduceBEq, hl5, ht5]; first | done | rfl) | (simp only [List.length_append, List.length_cons, List.length_nil, List.length_map, List.length_set, List.length_replicate, Nat.zero_add, Nat.reduceAdd]; rfl) | (simp (disch := first | assumption | (simp only [List.length_set]; assumption)) only [go_sem, Nat.reduceAdd, Nat.reduceMul, Nat.reduceSub, Nat.reduceEqDiff, ↓reduceIte, Nat.reduceLT, reduceCtorEq, Nat.reduceLeDiff, Int.reduceToNat, Int.reduceEq, Int.reduceLE, Int.reduceLT, Nat.reduceBEq, hl5, ht5]; simp only [List.length_append, List.length_cons, List.length_nil, List.length_map, List.length_set, List.length_replicate, Nat.zero_add, Nat.reduceAdd]; rfl)) (FitAll.refl _) (.inr ⟨rfl, by simp [freeOb, free1]⟩) ?_
    try simp (disch := first | assumption | (simp only [List.length_set]; assumption)) only [go_sem, Nat.reduceAdd, Nat.reduceMul, Nat.reduceSub, Nat.reduceEqDiff, ↓reduceIte, Nat.reduceLT, reduceCtorEq, Nat.reduceLeDiff, Int.reduceToNat, Int.reduceEq, Int.reduceLE, Int.reduceLT, Nat.reduceBEq, hl5, ht5]
    obtain ⟨p360, hq8, h⟩ := bind_ok h
    refine Sq_cut (fun s2 => s2 = ⟨[(1, (.pb 0 0)), (4, (.pb 1 0)), (5, (.lf false (.sc (.bool c170.2.1)))), (6, (.pb 2 0)), (7, (.pb 3 0)), (8, (.lf false (.sc (.bool c343.2)))), (40, (.lf false (.sc (.bool p360.t40))))], [(0, some (true, .box [(.lf false (.sc (.int .i64 a0.Id))), (.lf false (.sc (.int .i64 a0.Version))), (.lf true (.sl (a0.Tellings.Branches.map eBranch)))])), (1, some (true, .box [(.lf false (.sc (.int .i64 c170.1.Id))), (.lf false (.sc (.int .i64 c170.1.Version))), (.os 4 1 0 c170.1.Tellings.Branches.length c170.1.Tellings.Branches.length false)])), (2, some (true, .box [(.lf false (.sc (.int .i64 c171.Id))), (.lf false (.sc (.int .i64 c171.Version))), (.os 5 1 0 c171.Tellings.Branches.length c171.Tellings.Branches.length false)])), (3, some (true, .box [(.lf false (.sc (.int .i64 c343.1.Id))), (.lf false (.sc (.int .i64 c343.1.Version))), (.os 6 1 0 c343.1.Tellings.Branches.length c343.1.Tellings.Branches.length false)])), (4, some (true, .arr true 1 (c170.1.Tellings.Branches.map eBranch))), (5, some (true, .deep [.sl [.sc, .sc, .sc, .sc]] (c171.Tellings.Branches.map eBranch))), (6, some (true, .deep [.sl [.sc, .sc, .sc, .sc]] (c343.1.Tellings.Branches.map eBranch)))], 7, 96⟩) ?_ ?_
    · try simp (disch := first | assumption | (simp only [List.length_set]; assumption)) only [go_sem, Nat.reduceAdd, Nat.reduceMul, Nat.reduceSub, Nat.reduceEqDiff, ↓reduceIte, Nat.reduceLT, reduceCtorEq, Nat.reduceLeDiff, Int.reduceToNat, Int.reduceEq, Int.reduceLE, Int.reduceLT, Nat.reduceBEq, hl5, ht5]
      obtain ⟨c359, hr9, hq8⟩ := bind_ok hq8
      refine Cl_shown (w_laws_eqRegion hr9) (by first | rfl | (simp (disch := first | assumption | (simp only [List.length_set]; assumption)) only [go_sem, Nat.reduceAdd, Nat.reduceMul, Nat.reduceSub, Nat.reduceEqDiff, ↓reduceIte, Nat.reduceLT, reduceCtorEq, Nat.reduceLeDiff, Int.reduceToNat, Int.reduceEq, Int.reduceLE, Int.reduceLT, Nat.reduceBEq, hl5, ht5]; first | done | rfl) | (simp only [List.length_append, List.length_cons, List.length_nil, List.length_map, List.length_set, List.length_replicate, Nat.zero_add, Nat.reduceAdd]; rfl) | (simp (disch := first | assumption | (simp only [List.length_set]; assumption)) only [go_sem, Nat.reduceAdd, Nat.reduceMul, Nat.reduceSub, Nat.reduceEqDiff, ↓reduceIte, Nat.reduceLT, reduceCtorEq, Nat.reduceLeDiff, Int.reduceToNat, Int.reduceEq, Int.reduceLE, Int.reduceLT, Nat.reduceBEq, hl5, ht5]; simp only [List.length_append, List.length_cons, List.length_nil, List.length_map, List.length_set, List.length_replicate, Nat.zero_add, Nat.reduceAdd]; rfl)) (FitAll.refl _) (.inr ⟨rfl, by simp [freeOb, free1]⟩) ?_
      try simp (disch := first | assumption | (simp only [List.length_set]; assumption)) only [go_sem, Nat.reduceAdd, Nat.reduceMul, Nat.reduceSub, Nat.reduceEqDiff, ↓reduceIte, Nat.reduceLT, reduceCtorEq, Nat.reduceLeDiff, Int.reduceToNat, Int.reduceEq, Int.reduceLE, Int.reduceLT, Nat.reduceBEq, hl5, ht5]
      refine Sp_if hq8 (fun hq8 hc10 => ?_) (fun hq8 hc10 => ?_)
      · try simp (disch := first | assumption | (simp only [List.length_set]; assumption)) only [go_sem, Nat.reduceAdd, Nat.reduceMul, Nat.reduceSub, Nat.reduceEqDiff, ↓reduceIte, Nat.reduceLT, reduceCtorEq, Nat.reduceLeDiff, Int.reduceToNat, Int.reduceEq, Int.reduceLE, Int.reduceLT, Nat.reduceBEq, hl5, ht5]
        cases hq8
        refine X_cut rfl ?_
        refine weak_of (m := 0) [some 0, some 5, some 8, some 11, some 3, some 6, some 9] rfl rfl rfl (by rfl) ?_ ?_
        all_goals ((try simp (disch := first | assumption | (simp only [List.length_set]; assumption)) only [go_sem, Nat.reduceAdd, Nat.reduceMul, Nat.reduceSub, Nat.reduceEqDiff, ↓reduceIte, Nat.reduceLT, reduceCtorEq, Nat.reduceLeDiff, Int.reduceToNat, Int.reduceEq, Int.reduceLE, Int.reduceLT, Nat.reduceBEq, hl5, ht5]); (repeat' first | done | rfl | omega | refine And.intro ?_ ?_ | (simp; done) | (simp; omega)))
      · try simp (disch := first | assumption | (simp only [List.length_set]; assumption)) only [go_sem, Nat.reduceAdd, Nat.reduceMul, Nat.reduceSub, Nat.reduceEqDiff, ↓reduceIte, Nat.reduceLT, reduceCtorEq, Nat.reduceLeDiff, Int.reduceToNat, Int.reduceEq, Int.reduceLE, Int.reduceLT, Nat.reduceBEq, hl5, ht5]
        cases hq8
        refine X_cut rfl ?_
        refine weak_of (m := 0) [some 0, some 5, some 8, some 11, some 3, some 6, some 9] rfl rfl rfl (by rfl) ?_ ?_
        all_goals ((try simp (disch := first | assumption | (simp only [List.length_set]; assumption)) only [go_sem, Nat.reduceAdd, Nat.reduceMul, Nat.reduceSub, Nat.reduceEqDiff, ↓reduceIte, Nat.reduceLT, reduceCtorEq, Nat.reduceLeDiff, Int.reduceToNat, Int.reduceEq, Int.reduceLE, Int.reduceLT, Nat.reduceBEq, hl5, ht5]); (repeat' first | done | rfl | omega | refine And.intro ?_ ?_ | (simp; done) | (simp; omega)))
    · intro s2 hJ; subst hJ
      try dsimp only at h
      try simp (disch := first | assumption | (simp only [List.length_set]; assumption)) only [go_sem, Nat.reduceAdd, Nat.reduceMul, Nat.reduceSub, Nat.reduceEqDiff, ↓reduceIte, Nat.reduceLT, reduceCtorEq, Nat.reduceLeDiff, Int.reduceToNat, Int.reduceEq, Int.reduceLE, Int.reduceLT, Nat.reduceBEq, hl5, ht5]
      refine Bs_if h (fun h hc11 => ?_) (fun h hc11 => ?_)
      · try simp (disch := first | assumption | (simp only [List.length_set]; assumption)) only [go_sem, Nat.reduceAdd, Nat.reduceMul, Nat.reduceSub, Nat.reduceEqDiff, ↓reduceIte, Nat.reduceLT, reduceCtorEq, Nat.reduceLeDiff, Int.reduceToNat, Int.reduceEq, Int.reduceLE, Int.reduceLT, Nat.reduceBEq, hl5, ht5]
        have he := Option.some.inj h
        subst he
        refine ends_weak ⟨[(2, (.lf false (.sc (.bool false))))], [], 0, 96⟩ (weak_of (m := 0) [] rfl rfl rfl (by rfl) ?_ ?_) ?_
        all_goals ((try simp (disch := first | assumption | (simp only [List.length_set]; assumption)) only [go_sem, Nat.reduceAdd, Nat.reduceMul, Nat.reduceSub, Nat.reduceEqDiff, ↓reduceIte, Nat.reduceLT, reduceCtorEq, Nat.reduceLeDiff, Int.reduceToNat, Int.reduceEq, Int.reduceLE, Int.reduceLT, Nat.reduceBEq, hl5, ht5]); (repeat' first | done | rfl | omega | refine And.intro ?_ ?_ | (simp; done) | (simp; omega)))
      · try simp (disch := first | assumption | (simp only [List.length_set]; assumption)) only [go_sem, Nat.reduceAdd, Nat.reduceMul, Nat.reduceSub, Nat.reduceEqDiff, ↓reduceIte, Nat.reduceLT, reduceCtorEq, Nat.reduceLeDiff, Int.reduceToNat, Int.reduceEq, Int.reduceLE, Int.reduceLT, Nat.reduceBEq, hl5, ht5]
        obtain ⟨c361, hr12, h⟩ := bind_ok h
        refine Cl_shown (w_laws_toRegion hr12) (by first | rfl | (simp (disch := first | assumption | (simp only [List.length_set]; assumption)) only [go_sem, Nat.reduceAdd, Nat.reduceMul, Nat.reduceSub, Nat.reduceEqDiff, ↓reduceIte, Nat.reduceLT, reduceCtorEq, Nat.reduceLeDiff, Int.reduceToNat, Int.reduceEq, Int.reduceLE, Int.reduceLT, Nat.reduceBEq, hl5, ht5]; first | done | rfl) | (simp only [List.length_append, List.length_cons, List.length_nil, List.length_map, List.length_set, List.length_replicate, Nat.zero_add, Nat.reduceAdd]; rfl) | (simp (disch := first | assumption | (simp only [List.length_set]; assumption)) only [go_sem, Nat.reduceAdd, Nat.reduceMul, Nat.reduceSub, Nat.reduceEqDiff, ↓reduceIte, Nat.reduceLT, reduceCtorEq, Nat.reduceLeDiff, Int.reduceToNat, Int.reduceEq, Int.reduceLE, Int.reduceLT, Nat.reduceBEq, hl5, ht5]; simp only [List.length_append, List.length_cons, List.length_nil, List.length_map, List.length_set, List.length_replicate, Nat.zero_add, Nat.reduceAdd]; rfl)) (FitAll.refl _) (.inl (by first | rfl | (simp (disch := first | assumption | (simp only [List.length_set]; assumption)) only [go_sem, Nat.reduceAdd, Nat.reduceMul, Nat.reduceSub, Nat.reduceEqDiff, ↓reduceIte, Nat.reduceLT, reduceCtorEq, Nat.reduceLeDiff, Int.reduceToNat, Int.reduceEq, Int.reduceLE, Int.reduceLT, Nat.reduceBEq, hl5, ht5]; done))) ?_
        try simp (disch := first | assumption | (simp only [List.length_set]; assumption)) only [go_sem, Nat.reduceAdd, Nat.reduceMul, Nat.reduceSub, Nat.reduceEqDiff, ↓reduceIte, Nat.reduceLT, reduceCtorEq, Nat.reduceLeDiff, Int.reduceToNat, Int.reduceEq, Int.reduceLE, Int.reduceLT, Nat.reduceBEq, hl5, ht5]
        obtain ⟨c362, hr13, h⟩ := bind_ok h
        refine Cl_shown (w_laws_eqRegion hr13) (by first | rfl | (simp (disch := first | assumption | (simp only [List.length_set]; assumption)) only [go_sem, Nat.reduceAdd, Nat.reduceMul, Nat.reduceSub, Nat.reduceEqDiff, ↓reduceIte, Nat.reduceLT, reduceCtorEq, Nat.reduceLeDiff, Int.reduceToNat, Int.reduceEq, Int.reduceLE, Int.reduceLT, Nat.reduceBEq, hl5, ht5]; first | done | rfl) | (simp only [List.length_append, List.length_cons, List.length_nil, List.length_map, List.length_set, List.length_replicate, Nat.zero_add, Nat.reduceAdd]; rfl) | (simp (disch := first | assumption | (simp only [List.length_set]; assumption)) only [go_sem, Nat.reduceAdd, Nat.reduceMul, Nat.reduceSub, Nat.reduceEqDiff, ↓reduceIte, Nat.reduceLT, reduceCtorEq, Nat.reduceLeDiff, Int.reduceToNat, Int.reduceEq, Int.reduceLE, Int.reduceLT, Nat.reduceBEq, hl5, ht5]; simp only [List.length_append, List.length_cons, List.length_nil, List.length_map, List.length_set, List.length_replicate, Nat.zero_add, Nat.reduceAdd]; rfl)) (FitAll.refl _) (.inr ⟨rfl, by simp [freeOb, free1]⟩) ?_
        try simp (disch := first | assumption | (simp only [List.length_set]; assumption)) only [go_sem, Nat.reduceAdd, Nat.reduceMul, Nat.reduceSub, Nat.reduceEqDiff, ↓reduceIte, Nat.reduceLT, reduceCtorEq, Nat.reduceLeDiff, Int.reduceToNat, Int.reduceEq, Int.reduceLE, Int.reduceLT, Nat.reduceBEq, hl5, ht5]
        refine Bs_if h (fun h hc14 => ?_) (fun h hc14 => ?_)
        · try simp (disch := first | assumption | (simp only [List.length_set]; assumption)) only [go_sem, Nat.reduceAdd, Nat.reduceMul, Nat.reduceSub, Nat.reduceEqDiff, ↓reduceIte, Nat.reduceLT, reduceCtorEq, Nat.reduceLeDiff, Int.reduceToNat, Int.reduceEq, Int.reduceLE, Int.reduceLT, Nat.reduceBEq, hl5, ht5]
          have he := Option.some.inj h
          subst he
          refine ends_weak ⟨[(2, (.lf false (.sc (.bool false))))], [], 0, 96⟩ (weak_of (m := 0) [] rfl rfl rfl (by rfl) ?_ ?_) ?_
          all_goals ((try simp (disch := first | assumption | (simp only [List.length_set]; assumption)) only [go_sem, Nat.reduceAdd, Nat.reduceMul, Nat.reduceSub, Nat.reduceEqDiff, ↓reduceIte, Nat.reduceLT, reduceCtorEq, Nat.reduceLeDiff, Int.reduceToNat, Int.reduceEq, Int.reduceLE, Int.reduceLT, Nat.reduceBEq, hl5, ht5]); (repeat' first | done | rfl | omega | refine And.intro ?_ ?_ | (simp; done) | (simp; omega)))
        · try simp (disch := first | assumption | (simp only [List.length_set]; assumption)) only [go_sem, Nat.reduceAdd, Nat.reduceMul, Nat.reduceSub, Nat.reduceEqDiff, ↓reduceIte, Nat.reduceLT, reduceCtorEq, Nat.reduceLeDiff, Int.reduceToNat, Int.reduceEq, Int.reduceLE, Int.reduceLT, Nat.reduceBEq, hl5, ht5]
          obtain ⟨c378, hr15, h⟩ := bind_ok h
          refine Cl_hand (ids := [5]) (w_laws_markRegion_wd hr15) (by first | rfl | (simp (disch := first | assumption | (simp only [List.length_set]; assumption)) only [go_sem, Nat.reduceAdd, Nat.reduceMul, Nat.reduceSub, Nat.reduceEqDiff, ↓reduceIte, Nat.reduceLT, reduceCtorEq, Nat.reduceLeDiff, Int.reduceToNat, Int.reduceEq, Int.reduceLE, Int.reduceLT, Nat.reduceBEq, hl5, ht5]; first | done | rfl) | (simp only [List.length_append, List.length_cons, List.length_nil, List.length_map, List.length_set, List.length_replicate, Nat.zero_add, Nat.reduceAdd]; rfl) | (simp (disch := first | assumption | (simp only [List.length_set]; assumption)) only [go_sem, Nat.reduceAdd, Nat.reduceMul, Nat.reduceSub, Nat.reduceEqDiff, ↓reduceIte, Nat.reduceLT, reduceCtorEq, Nat.reduceLeDiff, Int.reduceToNat, Int.reduceEq, Int.reduceLE, Int.reduceLT, Nat.reduceBEq, hl5, ht5]; simp only [List.length_append, List.length_cons, List.length_nil, List.length_map, List.length_set, List.length_replicate, Nat.zero_add, Nat.reduceAdd]; rfl)) (FitAll.refl _) (by first | rfl | (simp (disch := first | assumption | (simp only [List.length_set]; assumption)) only [go_sem, Nat.reduceAdd, Nat.reduceMul, Nat.reduceSub, Nat.reduceEqDiff, ↓reduceIte, Nat.reduceLT, reduceCtorEq, Nat.reduceLeDiff, Int.reduceToNat, Int.reduceEq, Int.reduceLE, Int.reduceLT, Nat.reduceBEq, hl5, ht5]; first | done | rfl) | (simp only [List.length_append, List.length_cons, List.length_nil, List.length_map, List.length_set, List.length_replicate, Nat.zero_add, Nat.reduceAdd]; rfl) | (simp (disch := first | assumption | (simp only [List.length_set]; assumption)) only [go_sem, Nat.reduceAdd, Nat.reduceMul, Nat.reduceSub, Nat.reduceEqDiff, ↓reduceIte, Nat.reduceLT, reduceCtorEq, Nat.reduceLeDiff, Int.reduceToNat, Int.reduceEq, Int.reduceLE, Int.reduceLT, Nat.reduceBEq, hl5, ht5]; simp only [List.length_append, List.length_cons, List.length_nil, List.length_map, List.length_set, List.length_replicate, Nat.zero_add, Nat.reduceAdd]; rfl)) (by decide) (by first | rfl | (simp (disch := first | assumption | (simp only [List.length_set]; assumption)) only [go_sem, Nat.reduceAdd, Nat.reduceMul, Nat.reduceSub, Nat.reduceEqDiff, ↓reduceIte, Nat.reduceLT, reduceCtorEq, Nat.reduceLeDiff, Int.reduceToNat, Int.reduceEq, Int.reduceLE, Int.reduceLT, Nat.reduceBEq, hl5, ht5]; done)) (by rfl) ?_
          try simp (disch := first | assumption | (simp only [List.length_set]; assumption)) only [go_sem, Nat.reduceAdd, Nat.reduceMul, Nat.reduceSub, Nat.reduceEqDiff, ↓reduceIte, Nat.reduceLT, reduceCtorEq, Nat.reduceLeDiff, Int.reduceToNat, Int.reduceEq, Int.reduceLE, Int.reduceLT, Nat.reduceBEq, hl5, ht5]
          obtain ⟨hp16, h⟩ := guard_some h
          have hl16 : c171.Tellings.Branches.length ≤ c378.2.length := by omega
          have ht16 : List.take (c171.Tellings.Branches.length) c378.2 = c378.2 := by rw [← hp16]; exact List.take_length
          try simp (disch := first | assumption | (simp only [List.length_set]; assumption)) only [go_sem, Nat.reduceAdd, Nat.reduceMul, Nat.reduceSub, Nat.reduceEqDiff, ↓reduceIte, Nat.reduceLT, reduceCtorEq, Nat.reduceLeDiff, Int.reduceToNat, Int.reduceEq, Int.reduceLE, Int.reduceLT, Nat.reduceBEq, hl5, ht5, hl16, ht16]
          obtain ⟨p380, hq17, h⟩ := bind_ok h
          refine Sq_cut (fun s2 => s2 = ⟨[(1, (.pb 0 0)), (4, (.pb 1 0)), (5, (.lf false (.sc (.bool c170.2.1)))), (7, (.pb 2 0)), (61, (.lf false (.sc (.bool p380.t61))))], [(0, some (true, .box [(.lf false (.sc (.int .i64 a0.Id))), (.lf false (.sc (.int .i64 a0.Version))), (.lf true (.sl (a0.Tellings.Branches.map eBranch)))])), (1, some (true, .box [(.lf false (.sc (.int .i64 c170.1.Id))), (.lf false (.sc (.int .i64 c170.1.Version))), (.os 3 1 0 c170.1.Tellings.Branches.length c170.1.Tellings.Branches.length false)])), (2, some (true, .box [(.lf false (.sc (.int .i64 c343.1.Id))), (.lf false (.sc (.int .i64 c343.1.Version))), (.os 4 1 0 c343.1.Tellings.Branches.length c343.1.Tellings.Branches.length false)])), (3, some (true, .arr true 1 (c170.1.Tellings.Branches.map eBranch))), (4, some (true, .deep [.sl [.sc, .sc, .sc, .sc]] (c343.1.Tellings.Branches.map eBranch)))], 5, 96⟩) ?_ ?_
          · try simp (disch := first | assumption | (simp only [List.length_set]; assumption)) only [go_sem, Nat.reduceAdd, Nat.reduceMul, Nat.reduceSub, Nat.reduceEqDiff, ↓reduceIte, Nat.reduceLT, reduceCtorEq, Nat.reduceLeDiff, Int.reduceToNat, Int.reduceEq, Int.reduceLE, Int.reduceLT, Nat.reduceBEq, hl5, ht5, hl16, ht16]
            refine Sp_if hq17 (fun hq17 hc18 => ?_) (fun hq17 hc18 => ?_)
            · try simp (disch := first | assumption | (simp only [List.length_set]; assumption)) only [go_sem, Nat.reduceAdd, Nat.reduceMul, Nat.reduceSub, Nat.reduceEqDiff, ↓reduceIte, Nat.reduceLT, reduceCtorEq, Nat.reduceLeDiff, Int.reduceToNat, Int.reduceEq, Int.reduceLE, Int.reduceLT, Nat.reduceBEq, hl5, ht5, hl16, ht16]
              cases hq17
              refine X_cut rfl ?_
              refine weak_of (m := 0) [some 0, some 1, some 3, some 4, some 6] rfl rfl rfl (by rfl) ?_ ?_
              all_goals ((try simp (disch := first | assumption | (simp only [List.length_set]; assumption)) only [go_sem, Nat.reduceAdd, Nat.reduceMul, Nat.reduceSub, Nat.reduceEqDiff, ↓reduceIte, Nat.reduceLT, reduceCtorEq, Nat.reduceLeDiff, Int.reduceToNat, Int.reduceEq, Int.reduceLE, Int.reduceLT, Nat.reduceBEq, hl5, ht5, hl16, ht16]); (repeat' first | done | rfl | omega | refine And.intro ?_ ?_ | (simp; done) | (simp; omega)))
            · try simp (disch := first | assumption | (simp only [List.length_set]; assumption)) only [go_sem, Nat.reduceAdd, Nat.reduceMul, Nat.reduceSub, Nat.reduceEqDiff, ↓reduceIte, Nat.reduceLT, reduceCtorEq, Nat.reduceLeDiff, Int.reduceToNat, Int.reduceEq, Int.reduceLE, Int.reduceLT, Nat.reduceBEq, hl5, ht5, hl16, ht16]
              obtain ⟨c379, hr19, hq17⟩ := bind_ok hq17
              refine Cl_shown (w_laws_eqRegion hr19) (by first | rfl | (simp (disch := first | assumption | (simp only [List.length_set]; assumption)) only [go_sem, Nat.reduceAdd, Nat.reduceMul, Nat.reduceSub, Nat.reduceEqDiff, ↓reduceIte, Nat.reduceLT, reduceCtorEq, Nat.reduceLeDiff, Int.reduceToNat, Int.reduceEq, Int.reduceLE, Int.reduceLT, Nat.reduceBEq, hl5, ht5, hl16, ht16]; first | done | rfl) | (simp only [List.length_append, List.length_cons, List.length_nil, List.length_map, List.length_set, List.length_replicate, Nat.zero_add, Nat.reduceAdd]; rfl) | (simp (disch := first | assumption | (simp only [List.length_set]; assumption)) only [go_sem, Nat.reduceAdd, Nat.reduceMul, Nat.reduceSub, Nat.reduceEqDiff, ↓reduceIte, Nat.reduceLT, reduceCtorEq, Nat.reduceLeDiff, Int.reduceToNat, Int.reduceEq, Int.reduceLE, Int.reduceLT, Nat.reduceBEq, hl5, ht5, hl16, ht16]; simp only [List.length_append, List.length_cons, List.length_nil, List.length_map, List.length_set, List.length_replicate, Nat.zero_add, Nat.reduceAdd]; rfl)) (FitAll.refl _) (.inr ⟨rfl, by simp [freeOb, free1]⟩) ?_
              try simp (disch := first | assumption | (simp only [List.length_set]; assumption)) only [go_sem, Nat.reduceAdd, Nat.reduceMul, Nat.reduceSub, Nat.reduceEqDiff, ↓reduceIte, Nat.reduceLT, reduceCtorEq, Nat.reduceLeDiff, Int.reduceToNat, Int.reduceEq, Int.reduceLE, Int.reduceLT, Nat.reduceBEq, hl5, ht5, hl16, ht16]
              refine Sp_if hq17 (fun hq17 hc20 => ?_) (fun hq17 hc20 => ?_)
              · try simp (disch := first | assumption | (simp only [List.length_set]; assumption)) only [go_sem, Nat.reduceAdd, Nat.reduceMul, Nat.reduceSub, Nat.reduceEqDiff, ↓reduceIte, Nat.reduceLT, reduceCtorEq, Nat.reduceLeDiff, Int.reduceToNat, Int.reduceEq, Int.reduceLE, Int.reduceLT, Nat.reduceBEq, hl5, ht5, hl16, ht16]
                cases hq17
                refine X_cut rfl ?_
                refine weak_of (m := 0) [some 0, some 1, some 3, some 4, some 6] rfl rfl rfl (by rfl) ?_ ?_
                all_goals ((try simp (disch := first | assumption | (simp only [List.length_set]; assumption)) only [go_sem, Nat.reduceAdd, Nat.reduceMul, Nat.reduceSub, Nat.reduceEqDiff, ↓reduceIte, Nat.reduceLT, reduceCtorEq, Nat.reduceLeDiff, Int.reduceToNat, Int.reduceEq, Int.reduceLE, Int.reduceLT, Nat.reduceBEq, hl5, ht5, hl16, ht16]); (repeat' first | done | rfl | omega | refine And.intro ?_ ?_ | (simp; done) | (simp; omega)))
              · try simp (disch := first | assumption | (simp only [List.length_set]; assumption)) only [go_sem, Nat.reduceAdd, Nat.reduceMul, Nat.reduceSub, Nat.reduceEqDiff, ↓reduceIte, Nat.reduceLT, reduceCtorEq, Nat.reduceLeDiff, Int.reduceToNat, Int.reduceEq, Int.reduceLE, Int.reduceLT, Nat.reduceBEq, hl5, ht5, hl16, ht16]
                cases hq17
                refine X_cut rfl ?_
                refine weak_of (m := 0) [some 0, some 1, some 3, some 4, some 6] rfl rfl rfl (by rfl) ?_ ?_
                all_goals ((try simp (disch := first | assumption | (simp only [List.length_set]; assumption)) only [go_sem, Nat.reduceAdd, Nat.reduceMul, Nat.reduceSub, Nat.reduceEqDiff, ↓reduceIte, Nat.reduceLT, reduceCtorEq, Nat.reduceLeDiff, Int.reduceToNat, Int.reduceEq, Int.reduceLE, Int.reduceLT, Nat.reduceBEq, hl5, ht5, hl16, ht16]); (repeat' first | done | rfl | omega | refine And.intro ?_ ?_ | (simp; done) | (simp; omega)))
          · intro s2 hJ; subst hJ
            try dsimp only at h
            try simp (disch := first | assumption | (simp only [List.length_set]; assumption)) only [go_sem, Nat.reduceAdd, Nat.reduceMul, Nat.reduceSub, Nat.reduceEqDiff, ↓reduceIte, Nat.reduceLT, reduceCtorEq, Nat.reduceLeDiff, Int.reduceToNat, Int.reduceEq, Int.reduceLE, Int.reduceLT, Nat.reduceBEq, hl5, ht5, hl16, ht16]
            refine Bs_if h (fun h hc21 => ?_) (fun h hc21 => ?_)
            · try simp (disch := first | assumption | (simp only [List.length_set]; assumption)) only [go_sem, Nat.reduceAdd, Nat.reduceMul, Nat.reduceSub, Nat.reduceEqDiff, ↓reduceIte, Nat.reduceLT, reduceCtorEq, Nat.reduceLeDiff, Int.reduceToNat, Int.reduceEq, Int.reduceLE, Int.reduceLT, Nat.reduceBEq, hl5, ht5, hl16, ht16]
              have he := Option.some.inj h
              subst he
              refine ends_weak ⟨[(2, (.lf false (.sc (.bool false))))], [], 0, 96⟩ (weak_of (m := 0) [] rfl rfl rfl (by rfl) ?_ ?_) ?_
              all_goals ((try simp (disch := first | assumption | (simp only [List.length_set]; assumption)) only [go_sem, Nat.reduceAdd, Nat.reduceMul, Nat.reduceSub, Nat.reduceEqDiff, ↓reduceIte, Nat.reduceLT, reduceCtorEq, Nat.reduceLeDiff, Int.reduceToNat, Int.reduceEq, Int.reduceLE, Int.reduceLT, Nat.reduceBEq, hl5, ht5, hl16, ht16]); (repeat' first | done | rfl | omega | refine And.intro ?_ ?_ | (simp; done) | (simp; omega)))
            · try simp (disch := first | assumption | (simp only [List.length_set]; assumption)) only [go_sem, Nat.reduceAdd, Nat.reduceMul, Nat.reduceSub, Nat.reduceEqDiff, ↓reduceIte, Nat.reduceLT, reduceCtorEq, Nat.reduceLeDiff, Int.reduceToNat, Int.reduceEq, Int.reduceLE, Int.reduceLT, Nat.reduceBEq, hl5, ht5, hl16, ht16]
              obtain ⟨c381, hr22, h⟩ := bind_ok h
              refine Cl_hand (ids := [4]) (w_laws_markRegion_wd hr22) (by first | rfl | (simp (disch := first | assumption | (simp only [List.length_set]; assumption)) only [go_sem, Nat.reduceAdd, Nat.reduceMul, Nat.reduceSub, Nat.reduceEqDiff, ↓reduceIte, Nat.reduceLT, reduceCtorEq, Nat.reduceLeDiff, Int.reduceToNat, Int.reduceEq, Int.reduceLE, Int.reduceLT, Nat.reduceBEq, hl5, ht5, hl16, ht16]; first | done | rfl) | (simp only [List.length_append, List.length_cons, List.length_nil, List.length_map, List.length_set, List.length_replicate, Nat.zero_add, Nat.reduceAdd]; rfl) | (simp (disch := first | assumption | (simp only [List.length_set]; assumption)) only [go_sem, Nat.reduceAdd, Nat.reduceMul, Nat.reduceSub, Nat.reduceEqDiff, ↓reduceIte, Nat.reduceLT, reduceCtorEq, Nat.reduceLeDiff, Int.reduceToNat, Int.reduceEq, Int.reduceLE, Int.reduceLT, Nat.reduceBEq, hl5, ht5, hl16, ht16]; simp only [List.length_append, List.length_cons, List.length_nil, List.length_map, List.length_set, List.length_replicate, Nat.zero_add, Nat.reduceAdd]; rfl)) (FitAll.refl _) (by first | rfl | (simp (disch := first | assumption | (simp only [List.length_set]; assumption)) only [go_sem, Nat.reduceAdd, Nat.reduceMul, Nat.reduceSub, Nat.reduceEqDiff, ↓reduceIte, Nat.reduceLT, reduceCtorEq, Nat.reduceLeDiff, Int.reduceToNat, Int.reduceEq, Int.reduceLE, Int.reduceLT, Nat.reduceBEq, hl5, ht5, hl16, ht16]; first | done | rfl) | (simp only [List.length_append, List.length_cons, List.length_nil, List.length_map, List.length_set, List.length_replicate, Nat.zero_add, Nat.reduceAdd]; rfl) | (simp (disch := first | assumption | (simp only [List.length_set]; assumption)) only [go_sem, Nat.reduceAdd, Nat.reduceMul, Nat.reduceSub, Nat.reduceEqDiff, ↓reduceIte, Nat.reduceLT, reduceCtorEq, Nat.reduceLeDiff, Int.reduceToNat, Int.reduceEq, Int.reduceLE, Int.reduceLT, Nat.reduceBEq, hl5, ht5, hl16, ht16]; simp only [List.length_append, List.length_cons, List.length_nil, List.length_map, List.length_set, List.length_replicate, Nat.zero_add, Nat.reduceAdd]; rfl)) (by decide) (by first | rfl | (simp (disch := first | assumption | (simp only [List.length_set]; assumption)) only [go_sem, Nat.reduceAdd, Nat.reduceMul, Nat.reduceSub, Nat.reduceEqDiff, ↓reduceIte, Nat.reduceLT, reduceCtorEq, Nat.reduceLeDiff, Int.reduceToNat, Int.reduceEq, Int.reduceLE, Int.reduceLT, Nat.reduceBEq, hl5, ht5, hl16, ht16]; done)) (by rfl) ?_
              try simp (disch := first | assumption | (simp only [List.length_set]; assumption)) only [go_sem, Nat.reduceAdd, Nat.reduceMul, Nat.reduceSub, Nat.reduceEqDiff, ↓reduceIte, Nat.reduceLT, reduceCtorEq, Nat.reduceLeDiff, Int.reduceToNat, Int.reduceEq, Int.reduceLE, Int.reduceLT, Nat.reduceBEq, hl5, ht5, hl16, ht16]
              obtain ⟨hp23, h⟩ := guard_some h
              have hl23 : c343.1.Tellings.Branches.length ≤ c381.2.length := by omega
              have ht23 : List.take (c343.1.Tellings.Branches.length) c381.2 = c381.2 := by rw [← hp23]; exact List.take_length
              try simp (disch := first | assumption | (simp only [List.length_set]; assumption)) only [go_sem, Nat.reduceAdd, Nat.reduceMul, Nat.reduceSub, Nat.reduceEqDiff, ↓reduceIte, Nat.reduceLT, reduceCtorEq, Nat.reduceLeDiff, Int.reduceToNat, Int.reduceEq, Int.reduceLE, Int.reduceLT, Nat.reduceBEq, hl5, ht5, hl16, ht16, hl23, ht23]
              obtain ⟨c396, hr24, h⟩ := bind_ok h
              refine Cl_shown (w_laws_heldRegion hr24) (by first | rfl | (simp (disch := first | assumption | (simp only [List.length_set]; assumption)) only [go_sem, Nat.reduceAdd, Nat.reduceMul, Nat.reduceSub, Nat.reduceEqDiff, ↓reduceIte, Nat.reduceLT, reduceCtorEq, Nat.reduceLeDiff, Int.reduceToNat, Int.reduceEq, Int.reduceLE, Int.reduceLT, Nat.reduceBEq, hl5, ht5, hl16, ht16, hl23, ht23]; first | done | rfl) | (simp only [List.length_append, List.length_cons, List.length_nil, List.length_map, List.length_set, List.length_replicate, Nat.zero_add, Nat.reduceAdd]; rfl) | (simp (disch := first | assumption | (simp only [List.length_set]; assumption)) only [go_sem, Nat.reduceAdd, Nat.reduceMul, Nat.reduceSub, Nat.reduceEqDiff, ↓reduceIte, Nat.reduceLT, reduceCtorEq, Nat.reduceLeDiff, Int.reduceToNat, Int.reduceEq, Int.reduceLE, Int.reduceLT, Nat.reduceBEq, hl5, ht5, hl16, ht16, hl23, ht23]; simp only [List.length_append, List.length_cons, List.length_nil, List.length_map, List.length_set, List.length_replicate, Nat.zero_add, Nat.reduceAdd]; rfl)) (FitAll.refl _) (.inr ⟨rfl, by simp [freeOb, free1]⟩) ?_
              try simp (disch := first | assumption | (simp only [List.length_set]; assumption)) only [go_sem, Nat.reduceAdd, Nat.reduceMul, Nat.reduceSub, Nat.reduceEqDiff, ↓reduceIte, Nat.reduceLT, reduceCtorEq, Nat.reduceLeDiff, Int.reduceToNat, Int.reduceEq, Int.reduceLE, Int.reduceLT, Nat.reduceBEq, hl5, ht5, hl16, ht16, hl23, ht23]
              refine Bs_if h (fun h hc25 => ?_) (fun h hc25 => ?_)
              · try simp (disch := first | assumption | (simp only [List.length_set]; assumption)) only [go_sem, Nat.reduceAdd, Nat.reduceMul, Nat.reduceSub, Nat.reduceEqDiff, ↓reduceIte, Nat.reduceLT, reduceCtorEq, Nat.reduceLeDiff, Int.reduceToNat, Int.reduceEq, Int.reduceLE, Int.reduceLT, Nat.reduceBEq, hl5, ht5, hl16, ht16, hl23, ht23]
                have he := Option.some.inj h
                subst he
                refine ends_weak ⟨[(2, (.lf false (.sc (.bool false))))], [], 0, 96⟩ (weak_of (m := 0) [] rfl rfl rfl (by rfl) ?_ ?_) ?_
                all_goals ((try simp (disch := first | assumption | (simp only [List.length_set]; assumption)) only [go_sem, Nat.reduceAdd, Nat.reduceMul, Nat.reduceSub, Nat.reduceEqDiff, ↓reduceIte, Nat.reduceLT, reduceCtorEq, Nat.reduceLeDiff, Int.reduceToNat, Int.reduceEq, Int.reduceLE, Int.reduceLT, Nat.reduceBEq, hl5, ht5, hl16, ht16, hl23, ht23]); (repeat' first | done | rfl | omega | refine And.intro ?_ ?_ | (simp; done) | (simp; omega)))
              · try simp (disch := first | assumption | (simp only [List.length_set]; assumption)) only [go_sem, Nat.reduceAdd, Nat.reduceMul, Nat.reduceSub, Nat.reduceEqDiff, ↓reduceIte, Nat.reduceLT, reduceCtorEq, Nat.reduceLeDiff, Int.reduceToNat, Int.reduceEq, Int.reduceLE, Int.reduceLT, Nat.reduceBEq, hl5, ht5, hl16, ht16, hl23, ht23]
                refine Bs_if h (fun h hc26 => ?_) (fun h hc26 => ?_)
                · try simp (disch := first | assumption | (simp only [List.length_set]; assumption)) only [go_sem, Nat.reduceAdd, Nat.reduceMul, Nat.reduceSub, Nat.reduceEqDiff, ↓reduceIte, Nat.reduceLT, reduceCtorEq, Nat.reduceLeDiff, Int.reduceToNat, Int.reduceEq, Int.reduceLE, Int.reduceLT, Nat.reduceBEq, hl5, ht5, hl16, ht16, hl23, ht23]
                  have he := Option.some.inj h
                  subst he
                  refine ends_weak ⟨[(2, (.lf false (.sc (.bool false))))], [], 0, 96⟩ (weak_of (m := 0) [] rfl rfl rfl (by rfl) ?_ ?_) ?_
                  all_goals ((try simp (disch := first | assumption | (simp only [List.length_set]; assumption)) only [go_sem, Nat.reduceAdd, Nat.reduceMul, Nat.reduceSub, Nat.reduceEqDiff, ↓reduceIte, Nat.reduceLT, reduceCtorEq, Nat.reduceLeDiff, Int.reduceToNat, Int.reduceEq, Int.reduceLE, Int.reduceLT, Nat.reduceBEq, hl5, ht5, hl16, ht16, hl23, ht23]); (repeat' first | done | rfl | omega | refine And.intro ?_ ?_ | (simp; done) | (simp; omega)))
                · try simp (disch := first | assumption | (simp only [List.length_set]; assumption)) only [go_sem, Nat.reduceAdd, Nat.reduceMul, Nat.reduceSub, Nat.reduceEqDiff, ↓reduceIte, Nat.reduceLT, reduceCtorEq, Nat.reduceLeDiff, Int.reduceToNat, Int.reduceEq, Int.reduceLE, Int.reduceLT, Nat.reduceBEq, hl5, ht5, hl16, ht16, hl23, ht23]
                  obtain ⟨c397, hr27, h⟩ := bind_ok h
                  refine Cl_shown (w_laws_toRegion hr27) (by first | rfl | (simp (disch := first | assumption | (simp only [List.length_set]; assumption)) only [go_sem, Nat.reduceAdd, Nat.reduceMul, Nat.reduceSub, Nat.reduceEqDiff, ↓reduceIte, Nat.reduceLT, reduceCtorEq, Nat.reduceLeDiff, Int.reduceToNat, Int.reduceEq, Int.reduceLE, Int.reduceLT, Nat.reduceBEq, hl5, ht5, hl16, ht16, hl23, ht23]; first | done | rfl) | (simp only [List.length_append, List.length_cons, List.length_nil, List.length_map, List.length_set, List.length_replicate, Nat.zero_add, Nat.reduceAdd]; rfl) | (simp (disch := first | assumption | (simp only [List.length_set]; assumption)) only [go_sem, Nat.reduceAdd, Nat.reduceMul, Nat.reduceSub, Nat.reduceEqDiff, ↓reduceIte, Nat.reduceLT, reduceCtorEq, Nat.reduceLeDiff, Int.reduceToNat, Int.reduceEq, Int.reduceLE, Int.reduceLT, Nat.reduceBEq, hl5, ht5, hl16, ht16, hl23, ht23]; simp only [List.length_append, List.length_cons, List.length_nil, List.length_map, List.length_set, List.length_replicate, Nat.zero_add, Nat.reduceAdd]; rfl)) (FitAll.refl _) (.inl (by first | rfl | (simp (disch := first | assumption | (simp only [List.length_set]; assumption)) only [go_sem, Nat.reduceAdd, Nat.reduceMul, Nat.reduceSub, Nat.reduceEqDiff, ↓reduceIte, Nat.reduceLT, reduceCtorEq, Nat.reduceLeDiff, Int.reduceToNat, Int.reduceEq, Int.reduceLE, Int.reduceLT, Nat.reduceBEq, hl5, ht5, hl16, ht16, hl23, ht23]; done))) ?_
                  try simp (disch := first | assumption | (simp only [List.length_set]; assumption)) only [go_sem, Nat.reduceAdd, Nat.reduceMul, Nat.reduceSub, Nat.reduceEqDiff, ↓reduceIte, Nat.reduceLT, reduceCtorEq, Nat.reduceLeDiff, Int.reduceToNat, Int.reduceEq, Int.reduceLE, Int.reduceLT, Nat.reduceBEq, hl5, ht5, hl16, ht16, hl23, ht23]
                  obtain ⟨c398, hr28, h⟩ := bind_ok h
                  refine Cl_shown (w_impl_TakeLead hr28) (by first | rfl | (simp (disch := first | assumption | (simp only [List.length_set]; assumption)) only [go_sem, Nat.reduceAdd, Nat.reduceMul, Nat.reduceSub, Nat.reduceEqDiff, ↓reduceIte, Nat.reduceLT, reduceCtorEq, Nat.reduceLeDiff, Int.reduceToNat, Int.reduceEq, Int.reduceLE, Int.reduceLT, Nat.reduceBEq, hl5, ht5, hl16, ht16, hl23, ht23]; first | done | rfl) | (simp only [List.length_append, List.length_cons, List.length_nil, List.length_map, List.length_set, List.length_replicate, Nat.zero_add, Nat.reduceAdd]; rfl) | (simp (disch := first | assumption | (simp only [List.length_set]; assumption)) only [go_sem, Nat.reduceAdd, Nat.reduceMul, Nat.reduceSub, Nat.reduceEqDiff, ↓reduceIte, Nat.reduceLT, reduceCtorEq, Nat.reduceLeDiff, Int.reduceToNat, Int.reduceEq, Int.reduceLE, Int.reduceLT, Nat.reduceBEq, hl5, ht5, hl16, ht16, hl23, ht23]; simp only [List.length_append, List.length_cons, List.length_nil, List.length_map, List.length_set, List.length_replicate, Nat.zero_add, Nat.reduceAdd]; rfl)) (FitAll.refl _) (.inr ⟨rfl, by simp [freeOb, free1]⟩) ?_
                  try simp (disch := first | assumption | (simp only [List.length_set]; assumption)) only [go_sem, Nat.reduceAdd, Nat.reduceMul, Nat.reduceSub, Nat.reduceEqDiff, ↓reduceIte, Nat.reduceLT, reduceCtorEq, Nat.reduceLeDiff, Int.reduceToNat, Int.reduceEq, Int.reduceLE, Int.reduceLT, Nat.reduceBEq, hl5, ht5, hl16, ht16, hl23, ht23]
                  obtain ⟨p400, hq29, h⟩ := bind_ok h
                  refine Sq_cut (fun s2 => s2 = ⟨[(7, (.pb 0 0)), (10, (.lf false (.sc (.int .i64 c381.1)))), (87, (.lf false (.sc (.bool p400.t87))))], [(0, some (true, .box [(.lf false (.sc (.int .i64 c343.1.Id))), (.lf false (.sc (.int .i64 c343.1.Version))), (.os 1 1 0 c343.1.Tellings.Branches.length c343.1.Tellings.Branches.length false)])), (1, some (true, .deep [.sl [.sc, .sc, .sc, .sc]] (c381.2.map eBranch)))], 2, 96⟩) ?_ ?_
                  · try simp (disch := first | assumption | (simp only [List.length_set]; assumption)) only [go_sem, Nat.reduceAdd, Nat.reduceMul, Nat.reduceSub, Nat.reduceEqDiff, ↓reduceIte, Nat.reduceLT, reduceCtorEq, Nat.reduceLeDiff, Int.reduceToNat, Int.reduceEq, Int.reduceLE, Int.reduceLT, Nat.reduceBEq, hl5, ht5, hl16, ht16, hl23, ht23]
                    obtain ⟨c399, hr30, hq29⟩ := bind_ok hq29
                    refine Cl_shown (w_laws_eqRegion hr30) (by first | rfl | (simp (disch := first | assumption | (simp only [List.length_set]; assumption)) only [go_sem, Nat.reduceAdd, Nat.reduceMul, Nat.reduceSub, Nat.reduceEqDiff, ↓reduceIte, Nat.reduceLT, reduceCtorEq, Nat.reduceLeDiff, Int.reduceToNat, Int.reduceEq, Int.reduceLE, Int.reduceLT, Nat.reduceBEq, hl5, ht5, hl16, ht16, hl23, ht23]; first | done | rfl) | (simp only [List.length_append, List.length_cons, List.length_nil, List.length_map, List.length_set, List.length_replicate, Nat.zero_add, Nat.reduceAdd]; rfl) | (simp (disch := first | assumption | (simp only [List.length_set]; assumption)) only [go_sem, Nat.reduceAdd, Nat.reduceMul, Nat.reduceSub, Nat.reduceEqDiff, ↓reduceIte, Nat.reduceLT, reduceCtorEq, Nat.reduceLeDiff, Int.reduceToNat, Int.reduceEq, Int.reduceLE, Int.reduceLT, Nat.reduceBEq, hl5, ht5, hl16, ht16, hl23, ht23]; simp only [List.length_append, List.length_cons, List.length_nil, List.length_map, List.length_set, List.length_replicate, Nat.zero_add, Nat.reduceAdd]; rfl)) (FitAll.refl _) (.inr ⟨rfl, by simp [freeOb, free1]⟩) ?_
                    try simp (disch := first | assumption | (simp only [List.length_set]; assumption)) only [go_sem, Nat.reduceAdd, Nat.reduceMul, Nat.reduceSub, Nat.reduceEqDiff, ↓reduceIte, Nat.reduceLT, reduceCtorEq, Nat.reduceLeDiff, Int.reduceToNat, Int.reduceEq, Int.reduceLE, Int.reduceLT, Nat.reduceBEq, hl5, ht5, hl16, ht16, hl23, ht23]
                    refine Sp_if hq29 (fun hq29 hc31 => ?_) (fun hq29 hc31 => ?_)
                    · try simp (disch := first | assumption | (simp only [List.length_set]; assumption)) only [go_sem, Nat.reduceAdd, Nat.reduceMul, Nat.reduceSub, Nat.reduceEqDiff, ↓reduceIte, Nat.reduceLT, reduceCtorEq, Nat.reduceLeDiff, Int.reduceToNat, Int.reduceEq, Int.reduceLE, Int.reduceLT, Nat.reduceBEq, hl5, ht5, hl16, ht16, hl23, ht23]
                      cases hq29
                      refine X_cut rfl ?_
                      refine weak_of (m := 0) [some 2, some 4] rfl rfl rfl (by rfl) ?_ ?_
                      all_goals ((try simp (disch := first | assumption | (simp only [List.length_set]; assumption)) only [go_sem, Nat.reduceAdd, Nat.reduceMul, Nat.reduceSub, Nat.reduceEqDiff, ↓reduceIte, Nat.reduceLT, reduceCtorEq, Nat.reduceLeDiff, Int.reduceToNat, Int.reduceEq, Int.reduceLE, Int.reduceLT, Nat.reduceBEq, hl5, ht5, hl16, ht16, hl23, ht23]); (repeat' first | done | rfl | omega | refine And.intro ?_ ?_ | (simp; done) | (simp; omega)))
                    · try simp (disch := first | assumption | (simp only [List.length_set]; assumption)) only [go_sem, Nat.reduceAdd, Nat.reduceMul, Nat.reduceSub, Nat.reduceEqDiff, ↓reduceIte, Nat.reduceLT, reduceCtorEq, Nat.reduceLeDiff, Int.reduceToNat, Int.reduceEq, Int.reduceLE, Int.reduceLT, Nat.reduceBEq, hl5, ht5, hl16, ht16, hl23, ht23]
                      cases hq29
                      refine X_cut rfl ?_
                      refine weak_of (m := 0) [some 2, some 4] rfl rfl rfl (by rfl) ?_ ?_
                      all_goals ((try simp (disch := first | assumption | (simp only [List.length_set]; assumption)) only [go_sem, Nat.reduceAdd, Nat.reduceMul, Nat.reduceSub, Nat.reduceEqDiff, ↓reduceIte, Nat.reduceLT, reduceCtorEq, Nat.reduceLeDiff, Int.reduceToNat, Int.reduceEq, Int.reduceLE, Int.reduceLT, Nat.reduceBEq, hl5, ht5, hl16, ht16, hl23, ht23]); (repeat' first | done | rfl | omega | refine And.intro ?_ ?_ | (simp; done) | (simp; omega)))
                  · intro s2 hJ; subst hJ
                    try dsimp only at h
                    try simp (disch := first | assumption | (simp only [List.length_set]; assumption)) only [go_sem, Nat.reduceAdd, Nat.reduceMul, Nat.reduceSub, Nat.reduceEqDiff, ↓reduceIte, Nat.reduceLT, reduceCtorEq, Nat.reduceLeDiff, Int.reduceToNat, Int.reduceEq, Int.reduceLE, Int.reduceLT, Nat.reduceBEq, hl5, ht5, hl16, ht16, hl23, ht23]
                    refine Bs_if h (fun h hc32 => ?_) (fun h hc32 => ?_)
                    · try simp (disch := first | assumption | (simp only [List.length_set]; assumption)) only [go_sem, Nat.reduceAdd, Nat.reduceMul, Nat.reduceSub, Nat.reduceEqDiff, ↓reduceIte, Nat.reduceLT, reduceCtorEq, Nat.reduceLeDiff, Int.reduceToNat, Int.reduceEq, Int.reduceLE, Int.reduceLT, Nat.reduceBEq, hl5, ht5, hl16, ht16, hl23, ht23]
                      have he := Option.some.inj h
                      subst he
                      refine ends_weak ⟨[(2, (.lf false (.sc (.bool false))))], [], 0, 96⟩ (weak_of (m := 0) [] rfl rfl rfl (by rfl) ?_ ?_) ?_
                      all_goals ((try simp (disch := first | assumption | (simp only [List.length_set]; assumption)) only [go_sem, Nat.reduceAdd, Nat.reduceMul, Nat.reduceSub, Nat.reduceEqDiff, ↓reduceIte, Nat.reduceLT, reduceCtorEq, Nat.reduceLeDiff, Int.reduceToNat, Int.reduceEq, Int.reduceLE, Int.reduceLT, Nat.reduceBEq, hl5, ht5, hl16, ht16, hl23, ht23]); (repeat' first | done | rfl | omega | refine And.intro ?_ ?_ | (simp; done) | (simp; omega)))
                    · try simp (disch := first | assumption | (simp only [List.length_set]; assumption)) only [go_sem, Nat.reduceAdd, Nat.reduceMul, Nat.reduceSub, Nat.reduceEqDiff, ↓reduceIte, Nat.reduceLT, reduceCtorEq, Nat.reduceLeDiff, Int.reduceToNat, Int.reduceEq, Int.reduceLE, Int.reduceLT, Nat.reduceBEq, hl5, ht5, hl16, ht16, hl23, ht23]
                      obtain ⟨c401, hr33, h⟩ := bind_ok h
                      refine Cl_shown (w_laws_heldRegion hr33) (by first | rfl | (simp (disch := first | assumption | (simp only [List.length_set]; assumption)) only [go_sem, Nat.reduceAdd, Nat.reduceMul, Nat.reduceSub, Nat.reduceEqDiff, ↓reduceIte, Nat.reduceLT, reduceCtorEq, Nat.reduceLeDiff, Int.reduceToNat, Int.reduceEq, Int.reduceLE, Int.reduceLT, Nat.reduceBEq, hl5, ht5, hl16, ht16, hl23, ht23]; first | done | rfl) | (simp only [List.length_append, List.length_cons, List.length_nil, List.length_map, List.length_set, List.length_replicate, Nat.zero_add, Nat.reduceAdd]; rfl) | (simp (disch := first | assumption | (simp only [List.length_set]; assumption)) only [go_sem, Nat.reduceAdd, Nat.reduceMul, Nat.reduceSub, Nat.reduceEqDiff, ↓reduceIte, Nat.reduceLT, reduceCtorEq, Nat.reduceLeDiff, Int.reduceToNat, Int.reduceEq, Int.reduceLE, Int.reduceLT, Nat.reduceBEq, hl5, ht5, hl16, ht16, hl23, ht23]; simp only [List.length_append, List.length_cons, List.length_nil, List.length_map, List.length_set, List.length_replicate, Nat.zero_add, Nat.reduceAdd]; rfl)) (FitAll.refl _) (.inr ⟨rfl, by simp [freeOb, free1]⟩) ?_
                      try simp (disch := first | assumption | (simp only [List.length_set]; assumption)) only [go_sem, Nat.reduceAdd, Nat.reduceMul, Nat.reduceSub, Nat.reduceEqDiff, ↓reduceIte, Nat.reduceLT, reduceCtorEq, Nat.reduceLeDiff, Int.reduceToNat, Int.reduceEq, Int.reduceLE, Int.reduceLT, Nat.reduceBEq, hl5, ht5, hl16, ht16, hl23, ht23]
                      refine Bs_if h (fun h hc34 => ?_) (fun h hc34 => ?_)
                      · try simp (disch := first | assumption | (simp only [List.length_set]; assumption)) only [go_sem, Nat.reduceAdd, Nat.reduceMul, Nat.reduceSub, Nat.reduceEqDiff, ↓reduceIte, Nat.reduceLT, reduceCtorEq, Nat.reduceLeDiff, Int.reduceToNat, Int.reduceEq, Int.reduceLE, Int.reduceLT, Nat.reduceBEq, hl5, ht5, hl16, ht16, hl23, ht23]
                        have he := Option.some.inj h
                        subst he
                        refine ends_weak ⟨[(2, (.lf false (.sc (.bool false))))], [], 0, 96⟩ (weak_of (m := 0) [] rfl rfl rfl (by rfl) ?_ ?_) ?_
                        all_goals ((try simp (disch := first | assumption | (simp only [List.length_set]; assumption)) only [go_sem, Nat.reduceAdd, Nat.reduceMul, Nat.reduceSub, Nat.reduceEqDiff, ↓reduceIte, Nat.reduceLT, reduceCtorEq, Nat.reduceLeDiff, Int.reduceToNat, Int.reduceEq, Int.reduceLE, Int.reduceLT, Nat.reduceBEq, hl5, ht5, hl16, ht16, hl23, ht23]); (repeat' first | done | rfl | omega | refine And.intro ?_ ?_ | (simp; done) | (simp; omega)))
                      · try simp (disch := first | assumption | (simp only [List.length_set]; assumption)) only [go_sem, Nat.reduceAdd, Nat.reduceMul, Nat.reduceSub, Nat.reduceEqDiff, ↓reduceIte, Nat.reduceLT, reduceCtorEq, Nat.reduceLeDiff, Int.reduceToNat, Int.reduceEq, Int.reduceLE, Int.reduceLT, Nat.reduceBEq, hl5, ht5, hl16, ht16, hl23, ht23]
                        refine Bs_if h (fun h hc35 => ?_) (fun h hc35 => ?_)
                        · try simp (disch := first | assumption | (simp only [List.length_set]; assumption)) only [go_sem, Nat.reduceAdd, Nat.reduceMul, Nat.reduceSub, Nat.reduceEqDiff, ↓reduceIte, Nat.reduceLT, reduceCtorEq, Nat.reduceLeDiff, Int.reduceToNat, Int.reduceEq, Int.reduceLE, Int.reduceLT, Nat.reduceBEq, hl5, ht5, hl16, ht16, hl23, ht23]
                          have he := Option.some.inj h
                          subst he
                          refine ends_weak ⟨[(2, (.lf false (.sc (.bool false))))], [], 0, 96⟩ (weak_of (m := 0) [] rfl rfl rfl (by rfl) ?_ ?_) ?_
                          all_goals ((try simp (disch := first | assumption | (simp only [List.length_set]; assumption)) only [go_sem, Nat.reduceAdd, Nat.reduceMul, Nat.reduceSub, Nat.reduceEqDiff, ↓reduceIte, Nat.reduceLT, reduceCtorEq, Nat.reduceLeDiff, Int.reduceToNat, Int.reduceEq, Int.reduceLE, Int.reduceLT, Nat.reduceBEq, hl5, ht5, hl16, ht16, hl23, ht23]); (repeat' first | done | rfl | omega | refine And.intro ?_ ?_ | (simp; done) | (simp; omega)))
                        · try simp (disch := first | assumption | (simp only [List.length_set]; assumption)) only [go_sem, Nat.reduceAdd, Nat.reduceMul, Nat.reduceSub, Nat.reduceEqDiff, ↓reduceIte, Nat.reduceLT, reduceCtorEq, Nat.reduceLeDiff, Int.reduceToNat, Int.reduceEq, Int.reduceLE, Int.reduceLT, Nat.reduceBEq, hl5, ht5, hl16, ht16, hl23, ht23]
                          have he := Option.some.inj h
                          subst he
                          refine ends_weak ⟨[(2, (.lf false (.sc (.bool true))))], [], 0, 96⟩ (weak_of (m := 0) [] rfl rfl rfl (by rfl) ?_ ?_) ?_
                          all_goals ((try simp (disch := first | assumption | (simp only [List.length_set]; assumption)) only [go_sem, Nat.reduceAdd, Nat.reduceMul, Nat.reduceSub, Nat.reduceEqDiff, ↓reduceIte, Nat.reduceLT, reduceCtorEq, Nat.reduceLeDiff, Int.reduceToNat, Int.reduceEq, Int.reduceLE, Int.reduceLT, Nat.reduceBEq, hl5, ht5, hl16, ht16, hl23, ht23]); (repeat' first | done | rfl | omega | refine And.intro ?_ ?_ | (simp; done) | (simp; omega)))
end Go.TL.YtjkeoippmlmfbaaGreatDoor

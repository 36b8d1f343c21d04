import Derived.Test.YtjkeoippmlmfbaaGreatDoorWlFnCurrentA
set_option linter.unusedSimpArgs false
set_option linter.unusedVariables false
set_option linter.unusedVariables false
set_option linter.unusedSimpArgs false
set_option maxRecDepth 8000
set_option maxHeartbeats 0
namespace Go.TL.YtjkeoippmlmfbaaGreatDoor
open Go Go.Proofs Go.TL
theorem w_impl_lostSignals {a0 : TellingsT} {r : (List ByteArray)} (h : impl_lostSignals a0 = some r) : Fn Tryz.prog 134 [(.ag [(.lf true (.sl (a0.Branches.map eBranch)))])] [] 0 (.os 0 1 0 r.length r.length false) [(0, some (false, .arr false 1 (r.map eS)))] 1 := by
  unfold impl_lostSignals at h
  refine fn_code tab_ok mixed [(1000, [(1, 0)]), (1001, [(1, 0), (3, 0), (4, 0)]), (1002, [(3, 0), (4, 0), (14, 0), (15, 0), (16, 0)]), (1003, [(3, 0), (4, 0), (14, 0), (15, 0), (16, 0), (17, 0)]), (1004, [(3, 0), (4, 0), (6, 0), (14, 0), (15, 0), (16, 0)]), (1005, [(3, 0), (4, 0), (14, 0), (15, 0), (16, 0), (22, 0), (23, 0), (24, 0)]), (1006, [(3, 0), (4, 0), (14, 0), (15, 0), (16, 0), (22, 0), (23, 0), (24, 0), (25, 0)]), (1007, [(3, 0), (4, 0), (8, 0), (14, 0), (15, 0), (16, 0), (22, 0), (23, 0), (24, 0)]), (1008, [(3, 0), (4, 0), (8, 0), (14, 0), (15, 0), (16, 0), (22, 0), (23, 0), (24, 0), (31, 0)]), (1009, [(3, 0), (4, 0), (14, 0), (15, 0), (16, 0), (22, 0), (23, 0), (24, 0)]), (1010, [(3, 0), (4, 0), (14, 0), (15, 0), (16, 0), (22, 0), (23, 0), (24, 0)]), (1011, [(3, 0), (4, 0), (14, 0), (15, 0), (16, 0)]), (1012, [(4, 0)]), (1013, [(2, 0)])] Tryz.func134 rfl rfl (by simp [Tryz.f134]) (by kernel_rfl) ?_
  simp only [Tryz.f134]
  refine sA ?_
  obtain ⟨c431, hr1, h⟩ := bind_ok h
  refine Cl_sA (w_impl_current hr1) ?_
  try refine sA ?_
  obtain ⟨c434, hr2, h⟩ := bind_ok h
  refine Cl_sA (w_impl_signals hr2) ?_
  try refine sA ?_
  obtain ⟨y446, hl3, h⟩ := bind_ok h
  refine W_loopP (fun g435 : impl_lostSignals_G1 => ⟨[(3, (.os 0 1 0 c434.length c434.length false)), (4, (.os 1 1 0 g435.c1.length g435.c1.length false)), (14, (.lf true (.sl (a0.Branches.map eBranch)))), (15, (.lf false (.sc (.int .i64 ((a0.Branches.length : Nat) : Int))))), (16, (.lf false (.sc (.int .i64 g435.t16))))], [(0, some (true, .arr false 1 (c434.map eS))), (1, some (true, .arr false 1 (g435.c1.map eS)))], 2, 42⟩) (impl_lostSignals_L1 a0 c434) _ _ hl3 (weakA [some 1, some 2]) ?_
  · intro n1 g435 z1 hs1 hk1
    unfold impl_lostSignals_L1 at hs1
    try dsimp only at hs1
    refine sA ?_
    refine Bs_if hs1 (fun hs1 hc4 => ?_) (fun hs1 hc4 => ?_)
    · try refine sA ?_
      obtain ⟨hp5, hs1⟩ := guard_some hs1
      have hn5 : g435.t16.toNat < a0.Branches.length := by first | omega | (simp only [List.length_set, List.length_append, List.length_replicate, List.length_map]; omega)
      try refine sA ?_
      try refine andA ?_
      obtain ⟨c441, hr6, hs1⟩ := bind_ok hs1
      refine Cl_sA (w_impl_signals hr6) ?_
      try refine sA ?_
      obtain ⟨y445, hl7, hs1⟩ := bind_ok hs1
      refine W_loopP (fun g442 : impl_lostSignals_G2 => ⟨[(3, (.os 0 1 0 c434.length c434.length false)), (4, (.os 1 1 0 g442.c1.length g442.c1.length false)), (14, (.lf true (.sl (a0.Branches.map eBranch)))), (15, (.lf false (.sc (.int .i64 ((a0.Branches.length : Nat) : Int))))), (16, (.lf false (.sc (.int .i64 g435.t16)))), (22, (.os 2 1 0 c441.length c441.length false)), (23, (.lf false (.sc (.int .i64 ((c441.length : Nat) : Int))))), (24, (.lf false (.sc (.int .i64 g442.t24))))], [(0, some (true, .arr false 1 (c434.map eS))), (1, some (true, .arr false 1 (g442.c1.map eS))), (2, some (true, .arr false 1 (c441.map eS)))], 3, 42⟩) (impl_lostSignals_L2 c441 c434) _ _ hl7 (weakA [some 0, some 1, some 3]) ?_
      · intro n2 g442 z2 hs2 hk2
        unfold impl_lostSignals_L2 at hs2
        try dsimp only at hs2
        refine sA ?_
        refine Bs_if hs2 (fun hs2 hc8 => ?_) (fun hs2 hc8 => ?_)
        · try refine sA ?_
          obtain ⟨hp9, hs2⟩ := guard_some hs2
          have hn9 : g442.t24.toNat < c441.length := by first | omega | (simp only [List.length_set, List.length_append, List.length_replicate, List.length_map]; omega)
          try refine sA ?_
          try refine andA ?_
          try refine andB ?_
          try refine sA ?_
          obtain ⟨c444, hr11, hs2⟩ := bind_ok hs2
          refine Cl_sA (w_slices_Contains_string hr11) ?_
          try refine sA ?_
          refine Bs_if hs2 (fun hs2 hc12 => ?_) (fun hs2 hc12 => ?_)
          · try refine sA ?_
            obtain ⟨hp13, hs2⟩ := guard_some hs2
            try refine sA ?_
            try refine andA ?_
            cases hs2
            exact X_backP hk2 (weakA [some 0, some 4, some 2])
          · try refine sA ?_
            cases hs2
            exact X_backP hk2 (weakA [some 0, some 1, some 2])
        · try refine sA ?_
          cases hs2
          cases hk2
          try dsimp only at hs1
          try refine sA ?_
          cases hs1
          exact X_backP hk1 (weakA [some 0, some 1])
    · try refine sA ?_
      cases hs1
      cases hk1
      try dsimp only at h
      try refine sA ?_
      obtain ⟨c449, hr14, h⟩ := bind_ok h
      refine Cl_hA [1] (w_slices_Sort_string_w hr14) ?_
      try refine sA ?_
      obtain ⟨hp15, h⟩ := guard_some h
      have hl15 : g435.c1.length ≤ c449.length := by omega
      have ht15 : List.take (g435.c1.length) c449 = c449 := by rw [← hp15]; exact List.take_length
      try rw [← hp15]
      try simp (disch := first | assumption | (simp only [List.length_set]; assumption)) only [go_sem, Nat.reduceAdd, Nat.reduceMul, Nat.reduceSub, Nat.reduceEqDiff, ↓reduceIte, Nat.reduceLT, reduceCtorEq, Nat.reduceLeDiff, Int.reduceToNat, Int.reduceEq, Int.reduceLE, Int.reduceLT, Nat.reduceBEq, hl15, ht15]
      obtain ⟨c450, hr16, h⟩ := bind_ok h
      refine Cl_hand (ids := [1]) (w_slices_Compact_string_w hr16) (by first | rfl | (simp (disch := first | assumption | (simp only [List.length_set]; assumption)) only [go_sem, Nat.reduceAdd, Nat.reduceMul, Nat.reduceSub, Nat.reduceEqDiff, ↓reduceIte, Nat.reduceLT, reduceCtorEq, Nat.reduceLeDiff, Int.reduceToNat, Int.reduceEq, Int.reduceLE, Int.reduceLT, Nat.reduceBEq, hl15, ht15]; first | done | rfl) | (simp only [List.length_append, List.length_cons, List.length_nil, List.length_map, List.length_set, List.length_replicate, Nat.zero_add, Nat.reduceAdd]; rfl) | (simp (disch := first | assumption | (simp only [List.length_set]; assumption)) only [go_sem, Nat.reduceAdd, Nat.reduceMul, Nat.reduceSub, Nat.reduceEqDiff, ↓reduceIte, Nat.reduceLT, reduceCtorEq, Nat.reduceLeDiff, Int.reduceToNat, Int.reduceEq, Int.reduceLE, Int.reduceLT, Nat.reduceBEq, hl15, ht15]; simp only [List.length_append, List.length_cons, List.length_nil, List.length_map, List.length_set, List.length_replicate, Nat.zero_add, Nat.reduceAdd]; rfl)) (FitAll.refl _) (by first | rfl | (simp (disch := first | assumption | (simp only [List.length_set]; assumption)) only [go_sem, Nat.reduceAdd, Nat.reduceMul, Nat.reduceSub, Nat.reduceEqDiff, ↓reduceIte, Nat.reduceLT, reduceCtorEq, Nat.reduceLeDiff, Int.reduceToNat, Int.reduceEq, Int.reduceLE, Int.reduceLT, Nat.reduceBEq, hl15, ht15]; first | done | rfl) | (simp only [List.length_append, List.length_cons, List.length_nil, List.length_map, List.length_set, List.length_replicate, Nat.zero_add, Nat.reduceAdd]; rfl) | (simp (disch := first | assumption | (simp only [List.length_set]; assumption)) only [go_sem, Nat.reduceAdd, Nat.reduceMul, Nat.reduceSub, Nat.reduceEqDiff, ↓reduceIte, Nat.reduceLT, reduceCtorEq, Nat.reduceLeDiff, Int.reduceToNat, Int.reduceEq, Int.reduceLE, Int.reduceLT, Nat.reduceBEq, hl15, ht15]; simp only [List.length_append, List.length_cons, List.length_nil, List.length_map, List.length_set, List.length_replicate, Nat.zero_add, Nat.reduceAdd]; rfl)) (by decide) (by first | rfl | (simp (disch := first | assumption | (simp only [List.length_set]; assumption)) only [go_sem, Nat.reduceAdd, Nat.reduceMul, Nat.reduceSub, Nat.reduceEqDiff, ↓reduceIte, Nat.reduceLT, reduceCtorEq, Nat.reduceLeDiff, Int.reduceToNat, Int.reduceEq, Int.reduceLE, Int.reduceLT, Nat.reduceBEq, hl15, ht15]; done)) (by rfl) ?_
      try simp (disch := first | assumption | (simp only [List.length_set]; assumption)) only [go_sem, Nat.reduceAdd, Nat.reduceMul, Nat.reduceSub, Nat.reduceEqDiff, ↓reduceIte, Nat.reduceLT, reduceCtorEq, Nat.reduceLeDiff, Int.reduceToNat, Int.reduceEq, Int.reduceLE, Int.reduceLT, Nat.reduceBEq, hl15, ht15]
      have he := Option.some.inj h
      subst he
      refine ends_weak ⟨[(2, (.os 0 1 0 c450.length c450.length false))], [(0, some (false, .arr false 1 (c450.map eS)))], 1, 42⟩ (weak_of (m := 0) [some 2] rfl rfl rfl (by rfl) ?_ ?_) ?_
      all_goals ((try simp (disch := first | assumption | (simp only [List.length_set]; assumption)) only [go_sem, Nat.reduceAdd, Nat.reduceMul, Nat.reduceSub, Nat.reduceEqDiff, ↓reduceIte, Nat.reduceLT, reduceCtorEq, Nat.reduceLeDiff, Int.reduceToNat, Int.reduceEq, Int.reduceLE, Int.reduceLT, Nat.reduceBEq, hl15, ht15]); (repeat' first | done | rfl | omega | refine And.intro ?_ ?_ | (simp; done) | (simp; omega)))
theorem w_impl_LostSignals {a0 : TellingsT} {r : ((List ByteArray) × Bool)} (h : impl_LostSignals a0 = some r) : Fn Tryz.prog 64 [(.ag [(.lf true (.sl (a0.Branches.map eBranch)))])] [] 0 (.tu [(.os 0 1 0 r.1.length r.1.length false), (.lf false (.sc (.bool r.2)))]) [(0, some (false, .arr false 1 (r.1.map eS)))] 1 := by
  unfold impl_LostSignals at h
  refine fn_code tab_ok mixed [(1000, [(1, 0)]), (1001, [(1, 0), (6, 0)]), (1002, [(2, 0), (3, 0)]), (1003, [(2, 0), (3, 0)])] Tryz.func64 rfl rfl (by simp [Tryz.f64]) (by kernel_rfl) ?_
  simp only [Tryz.f64]
  refine sA ?_
  obtain ⟨c430, hr1, h⟩ := bind_ok h
  refine Cl_sA (w_impl_GoodTellings hr1) ?_
  try refine sA ?_
  refine Bs_if h (fun h hc2 => ?_) (fun h hc2 => ?_)
  · try refine sA ?_
    have he := Option.some.inj h
    subst he
    exact endsA ⟨[(2, (.os 0 1 0 (([] : List ByteArray).length) (([] : List ByteArray).length) false)), (3, (.lf false (.sc (.bool false))))], [(0, some (false, .arr false 1 (([] : List ByteArray).map eS)))], 1, 9⟩ [none]
  · try refine sA ?_
    obtain ⟨c451, hr3, h⟩ := bind_ok h
    refine Cl_sA (w_impl_lostSignals hr3) ?_
    try refine sA ?_
    have he := Option.some.inj h
    subst he
    exact endsA ⟨[(2, (.os 0 1 0 c451.length c451.length false)), (3, (.lf false (.sc (.bool true))))], [(0, some (false, .arr false 1 (c451.map eS)))], 1, 9⟩ [some 1]
theorem w_spec_l15Lost {a0 : (List BranchT)} {r : (List ByteArray)} (h : spec_l15Lost a0 = some r) : Fn Tryz.prog 133 [(.lf true (.sl (a0.map eBranch)))] [] 0 (.os 0 1 0 r.length r.length false) [(0, some (true, .arr false 1 (r.map eS)))] 1 := by
  unfold spec_l15Lost at h
  refine fn_code tab_ok mixed [(1000, [(0, 0)]), (1001, [(0, 0), (3, 0)]), (1002, [(0, 0), (3, 0), (16, 0)]), (1003, [(2, 0)]), (1004, [(0, 0), (4, 0)]), (1005, [(0, 0), (4, 0), (6, 0)]), (1006, [(4, 0), (6, 0), (26, 0), (27, 0), (28, 0)]), (1007, [(4, 0), (6, 0), (26, 0), (27, 0), (28, 0), (29, 0)]), (1008, [(4, 0), (6, 0), (8, 0), (26, 0), (27, 0), (28, 0)]), (1009, [(4, 0), (6, 0), (9, 0), (26, 0), (27, 0), (28, 0)]), (1010, [(4, 0), (6, 0), (26, 0), (27, 0), (28, 0), (39, 0), (40, 0), (41, 0)]), (1011, [(4, 0), (6, 0), (26, 0), (27, 0), (28, 0), (39, 0), (40, 0), (41, 0), (42, 0)]), (1012, [(4, 0), (6, 0), (12, 0), (26, 0), (27, 0), (28, 0), (39, 0), (40, 0), (41, 0)]), (1013, [(4, 0), (6, 0), (12, 0), (26, 0), (27, 0), (28, 0), (39, 0), (40, 0), (41, 0), (55, 0)]), (1014, [(4, 0), (6, 0), (26, 0), (27, 0), (28, 0), (39, 0), (40, 0), (41, 0)]), (1015, [(4, 0), (6, 0), (26, 0), (27, 0), (28, 0), (39, 0), (40, 0), (41, 0)]), (1016, [(4, 0), (6, 0), (26, 0), (27, 0), (28, 0)]), (1017, [(2, 0)]), (4013, [])] Tryz.func133 rfl rfl (by simp [Tryz.f133]) (by kernel_rfl) ?_
  simp only [Tryz.f133]
  refine sA ?_
  obtain ⟨c454, hr1, h⟩ := bind_ok h
  refine Cl_sA (w_spec_l15Current hr1) ?_
  try refine sA ?_
  refine Bs_if h (fun h hc2 => ?_) (fun h hc2 => ?_)
  · try refine sA ?_
    have he := Option.some.inj h
    subst he
    exact endsA ⟨[(2, (.os 0 1 0 (([] : List ByteArray).length) (([] : List ByteArray).length) false))], [(0, some (true, .arr false 1 (([] : List ByteArray).map eS)))], 1, 62⟩ [none]
  · try refine sA ?_
    obtain ⟨hp3, h⟩ := guard_some h
    have hn3 : c454.toNat < a0.length := by first | omega | (simp only [List.length_set, List.length_append, List.length_replicate, List.length_map]; omega)
    try refine sA ?_
    try refine andA ?_
    obtain ⟨c455, hr4, h⟩ := bind_ok h
    refine Cl_sA (w_spec_l12Fold hr4) ?_
    try refine sA ?_
    obtain ⟨y479, hl5, h⟩ := bind_ok h
    refine W_loopP (fun g456 : spec_l15Lost_G1 => ⟨[(4, (.pb 0 0)), (6, (.os 1 1 0 g456.c1.length g456.c1.length false)), (26, (.lf true (.sl (a0.map eBranch)))), (27, (.lf false (.sc (.int .i64 ((a0.length : Nat) : Int))))), (28, (.lf false (.sc (.int .i64 g456.t28))))], [(0, some (true, .box [(.lf false (.sc (.int .i64 c455.1.Status))), (.lf false (.sc (.int .i64 c455.1.Next))), (.lf false (.sc (.bool c455.1.Cancel))), (.lf false (.sc (.int .i64 c455.1.Done))), (.lf true (.sl (c455.1.Signals.map eS))), (.lf true (.sl (c455.1.Timers.map eS)))])), (1, some (true, .arr false 1 (g456.c1.map eS)))], 2, 62⟩) (spec_l15Lost_L1 a0 c455) _ _ hl5 (weakA [some 1, none]) ?_
    · intro n1 g456 z1 hs1 hk1
      unfold spec_l15Lost_L1 at hs1
      try dsimp only at hs1
      refine sA ?_
      refine Bs_if hs1 (fun hs1 hc6 => ?_) (fun hs1 hc6 => ?_)
      · try refine sA ?_
        obtain ⟨hp7, hs1⟩ := guard_some hs1
        have hn7 : g456.t28.toNat < a0.length := by first | omega | (simp only [List.length_set, List.length_append, List.length_replicate, List.length_map]; omega)
        try refine sA ?_
        try refine andA ?_
        obtain ⟨c468, hr8, hs1⟩ := bind_ok hs1
        refine Cl_sA (w_spec_l12Fold hr8) ?_
        try refine sA ?_
        obtain ⟨y478, hl9, hs1⟩ := bind_ok hs1
        refine W_loopP (fun g469 : spec_l15Lost_G2 => ⟨[(4, (.pb 0 0)), (6, (.os 1 1 0 g469.c1.length g469.c1.length false)), (26, (.lf true (.sl (a0.map eBranch)))), (27, (.lf false (.sc (.int .i64 ((a0.length : Nat) : Int))))), (28, (.lf false (.sc (.int .i64 g456.t28)))), (39, (.lf true (.sl (c468.1.Signals.map eS)))), (40, (.lf false (.sc (.int .i64 ((c468.1.Signals.length : Nat) : Int))))), (41, (.lf false (.sc (.int .i64 g469.t41))))], [(0, some (true, .box [(.lf false (.sc (.int .i64 c455.1.Status))), (.lf false (.sc (.int .i64 c455.1.Next))), (.lf false (.sc (.bool c455.1.Cancel))), (.lf false (.sc (.int .i64 c455.1.Done))), (.lf true (.sl (c455.1.Signals.map eS))), (.lf true (.sl (c455.1.Timers.map eS)))])), (1, some (true, .arr false 1 (g469.c1.map eS)))], 2, 62⟩) (spec_l15Lost_L2 c468 c455) _ _ hl9 (weakA [some 0, some 1]) ?_
        · intro n2 g469 z2 hs2 hk2
          unfold spec_l15Lost_L2 at hs2
          try dsimp only at hs2
          refine sA ?_
          refine Bs_if hs2 (fun hs2 hc10 => ?_) (fun hs2 hc10 => ?_)
          · try refine sA ?_
            obtain ⟨hp11, hs2⟩ := guard_some hs2
            have hn11 : g469.t41.toNat < c468.1.Signals.length := by first | omega | (simp only [List.length_set, List.length_append, List.length_replicate, List.length_map]; omega)
            try refine sA ?_
            try refine andA ?_
            obtain ⟨p476, hq12, hs2⟩ := bind_ok hs2
            refine Sq_cut (fun s2 => s2 = ⟨[(4, (.pb 0 0)), (6, (.os 1 1 0 g469.c1.length g469.c1.length false)), (12, (.lf false (.sc (.string (nth c468.1.Signals g469.t41.toNat))))), (26, (.lf true (.sl (a0.map eBranch)))), (27, (.lf false (.sc (.int .i64 ((a0.length : Nat) : Int))))), (28, (.lf false (.sc (.int .i64 g456.t28)))), (39, (.lf true (.sl (c468.1.Signals.map eS)))), (40, (.lf false (.sc (.int .i64 ((c468.1.Signals.length : Nat) : Int))))), (41, (.lf false (.sc (.int .i64 g469.t41)))), (55, (.lf false (.sc (.bool p476.t55))))], [(0, some (true, .box [(.lf false (.sc (.int .i64 c455.1.Status))), (.lf false (.sc (.int .i64 c455.1.Next))), (.lf false (.sc (.bool c455.1.Cancel))), (.lf false (.sc (.int .i64 c455.1.Done))), (.lf true (.sl (c455.1.Signals.map eS))), (.lf true (.sl (c455.1.Timers.map eS)))])), (1, some (true, .arr false 1 (g469.c1.map eS)))], 2, 62⟩) ?_ ?_
            · try refine sA ?_
              obtain ⟨c474, hr13, hq12⟩ := bind_ok hq12
              refine Cl_sA (w_spec_l12At hr13) ?_
              try refine sA ?_
              refine Sp_if hq12 (fun hq12 hc14 => ?_) (fun hq12 hc14 => ?_)
              · try refine sA ?_
                obtain ⟨c475, hr15, hq12⟩ := bind_ok hq12
                refine Cl_sA (w_spec_l12At hr15) ?_
                try refine sA ?_
                cases hq12
                exact X_cut rfl (weakA [some 0, some 1])
              · try refine sA ?_
                cases hq12
                exact X_cut rfl (weakA [some 0, some 1])
            · intro s2 hJ; subst hJ
              try dsimp only at hs2
              try refine sA ?_
              refine Bs_if hs2 (fun hs2 hc16 => ?_) (fun hs2 hc16 => ?_)
              · try refine sA ?_
                obtain ⟨c477, hr17, hs2⟩ := bind_ok hs2
                refine Cl_sA (w_spec_l12Timer hr17) ?_
                try refine sA ?_
                cases hs2
                exact X_backP hk2 (weakA [some 0, some 2])
              · try refine sA ?_
                cases hs2
                exact X_backP hk2 (weakA [some 0, some 1])
          · try refine sA ?_
            cases hs2
            cases hk2
            try dsimp only at hs1
            try refine sA ?_
            cases hs1
            exact X_backP hk1 (weakA [some 0, some 1])
      · try refine sA ?_
        cases hs1
        cases hk1
        try dsimp only at h
        try refine sA ?_
        have he := Option.some.inj h
        subst he
        exact endsA ⟨[(2, (.os 0 1 0 g456.c1.length g456.c1.length false))], [(0, some (true, .arr false 1 (g456.c1.map eS)))], 1, 62⟩ [some 1]
theorem w_spec_LostSignals {a0 : TellingsT} {r : ((List ByteArray) × Bool)} (h : spec_LostSignals a0 = some r) : Fn Tryz.prog 63 [(.ag [(.lf true (.sl (a0.Branches.map eBranch)))])] [] 0 (.tu [(.os 0 1 0 r.1.length r.1.length false), (.lf false (.sc (.bool r.2)))]) [(0, some (true, .arr false 1 (r.1.map eS)))] 1 := by
  unfold spec_LostSignals at h
  refine fn_code tab_ok mixed [(1000, [(1, 0)]), (1001, [(1, 0), (6, 0)]), (1002, [(2, 0), (3, 0)]), (1003, [(2, 0), (3, 0)])] Tryz.func63 rfl rfl (by simp [Tryz.f63]) (by kernel_rfl) ?_
  simp only [Tryz.f63]
  refine sA ?_
  obtain ⟨c453, hr1, h⟩ := bind_ok h
  refine Cl_sA (w_spec_GoodTellings hr1) ?_
  try refine sA ?_
  refine Bs_if h (fun h hc2 => ?_) (fun h hc2 => ?_)
  · try refine sA ?_
    have he := Option.some.inj h
    subst he
    exact endsA ⟨[(2, (.os 0 1 0 (([] : List ByteArray).length) (([] : List ByteArray).length) false)), (3, (.lf false (.sc (.bool false))))], [(0, some (true, .arr false 1 (([] : List ByteArray).map eS)))], 1, 10⟩ [none]
  · try refine sA ?_
    obtain ⟨c480, hr3, h⟩ := bind_ok h
    refine Cl_sA (w_spec_l15Lost hr3) ?_
    try refine sA ?_
    have he := Option.some.inj h
    subst he
    exact endsA ⟨[(2, (.os 0 1 0 c480.length c480.length false)), (3, (.lf false (.sc (.bool true))))], [(0, some (true, .arr false 1 (c480.map eS)))], 1, 10⟩ [some 1]
theorem w_laws_sameEvents {a0 : (List EventT)} {a1 : (List EventT)} {r : Bool} (h : laws_sameEvents a0 a1 = some r) : Fn Tryz.prog 69 [(.lf true (.sl (a0.map eEvent))), (.lf true (.sl (a1.map eEvent)))] [] 0 (.lf false (.sc (.bool r))) [] 0 := by
  unfold laws_sameEvents at h
  refine fn_code tab_ok mixed [(1000, [(0, 0), (1, 0)]), (1001, [(0, 0), (1, 0), (10, 0)]), (1002, [(4, 0)]), (1003, [(0, 0), (1, 0), (12, 0), (13, 0)]), (1004, [(0, 0), (1, 0), (12, 0), (13, 0), (14, 0)]), (1005, [(0, 0), (1, 0), (5, 0), (12, 0), (13, 0)]), (1006, [(0, 0), (1, 0), (12, 0), (13, 0), (24, 0)]), (1007, [(4, 0)]), (1008, [(0, 0), (1, 0), (12, 0), (13, 0)]), (1009, [(4, 0)])] Tryz.func69 rfl rfl (by simp [Tryz.f69]) (by kernel_rfl) ?_
  simp only [Tryz.f69]
  refine sA ?_
  refine Bs_if h (fun h hc1 => ?_) (fun h hc1 => ?_)
  · try refine sA ?_
    have he := Option.some.inj h
    subst he
    exact endsA ⟨[(4, (.lf false (.sc (.bool false))))], [], 0, 26⟩ []
  · try refine sA ?_
    obtain ⟨y483, hl2, h⟩ := bind_ok h
    refine W_loopP (fun g482 : laws_sameEvents_G1 => ⟨[(0, (.lf true (.sl (a0.map eEvent)))), (1, (.lf true (.sl (a1.map eEvent)))), (12, (.lf false (.sc (.int .i64 ((a0.length : Nat) : Int))))), (13, (.lf false (.sc (.int .i64 g482.t13))))], [], 0, 26⟩) (laws_sameEvents_L1 a0 a1) _ _ hl2 (weakA []) ?_
    · intro n1 g482 z1 hs1 hk1
      unfold laws_sameEvents_L1 at hs1
      try dsimp only at hs1
      refine sA ?_
      refine Bs_if hs1 (fun hs1 hc3 => ?_) (fun hs1 hc3 => ?_)
      · try refine sA ?_
        obtain ⟨hp4, hs1⟩ := guard_some hs1
        have hn4 : g482.t13.toNat < a0.length := by first | omega | (simp only [List.length_set, List.length_append, List.length_replicate, List.length_map]; omega)
        try refine sA ?_
        try refine andA ?_
        obtain ⟨hp5, hs1⟩ := guard_some hs1
        have hn5 : g482.t13.toNat < a1.length := by first | omega | (simp only [List.length_set, List.length_append, List.length_replicate, List.length_map]; omega)
        try refine sA ?_
        try refine andA ?_
        first | refine And.intro ⟨by kernel_rfl, by kernel_rfl, by kernel_rfl⟩ ?_ | skip
        try refine sA ?_
        refine Bs_if hs1 (fun hs1 hc7 => ?_) (fun hs1 hc7 => ?_)
        · try refine sA ?_
          cases hs1
          cases hk1
          try dsimp only at h
          try refine sA ?_
          have he := Option.some.inj h
          subst he
          exact endsA ⟨[(4, (.lf false (.sc (.bool false))))], [], 0, 26⟩ []
        · try refine sA ?_
          cases hs1
          exact X_backP hk1 (weakA [])
      · try refine sA ?_
        cases hs1
        cases hk1
        try dsimp only at h
        try refine sA ?_
        have he := Option.some.inj h
        subst he
        exact endsA ⟨[(4, (.lf false (.sc (.bool true))))], [], 0, 26⟩ []
theorem w_laws_sameTexts {a0 : (List ByteArray)} {a1 : (List ByteArray)} {r : Bool} (h : laws_sameTexts a0 a1 = some r) : Fn Tryz.prog 70 [(.lf true (.sl (a0.map eS))), (.lf true (.sl (a1.map eS)))] [] 0 (.lf false (.sc (.bool r))) [] 0 := by
  unfold laws_sameTexts at h
  refine fn_code tab_ok mixed [(1000, [(0, 0), (1, 0)]), (1001, [(0, 0), (1, 0), (10, 0)]), (1002, [(4, 0)]), (1003, [(0, 0), (1, 0), (12, 0), (13, 0)]), (1004, [(0, 0), (1, 0), (12, 0), (13, 0), (14, 0)]), (1005, [(0, 0), (1, 0), (5, 0), (12, 0), (13, 0)]), (1006, [(0, 0), (1, 0), (12, 0), (13, 0), (24, 0)]), (1007, [(4, 0)]), (1008, [(0, 0), (1, 0), (12, 0), (13, 0)]), (1009, [(4, 0)])] Tryz.func70 rfl rfl (by simp [Tryz.f70]) (by kernel_rfl) ?_
  simp only [Tryz.f70]
  refine sA ?_
  refine Bs_if h (fun h hc1 => ?_) (fun h hc1 => ?_)
  · try refine sA ?_
    have he := Option.some.inj h
    subst he
    exact endsA ⟨[(4, (.lf false (.sc (.bool false))))], [], 0, 26⟩ []
  · try refine sA ?_
    obtain ⟨y488, hl2, h⟩ := bind_ok h
    refine W_loopP (fun g487 : laws_sameTexts_G1 => ⟨[(0, (.lf true (.sl (a0.map eS)))), (1, (.lf true (.sl (a1.map eS)))), (12, (.lf false (.sc (.int .i64 ((a0.length : Nat) : Int))))), (13, (.lf false (.sc (.int .i64 g487.t13))))], [], 0, 26⟩) (laws_sameTexts_L1 a0 a1) _ _ hl2 (weakA []) ?_
    · intro n1 g487 z1 hs1 hk1
      unfold laws_sameTexts_L1 at hs1
      try dsimp only at hs1
      refine sA ?_
      refine Bs_if hs1 (fun hs1 hc3 => ?_) (fun hs1 hc3 => ?_)
      · try refine sA ?_
        obtain ⟨hp4, hs1⟩ := guard_some hs1
        have hn4 : g487.t13.toNat < a0.length := by first | omega | (simp only [List.length_set, List.length_append, List.length_replicate, List.length_map]; omega)
        try refine sA ?_
        try refine andA ?_
        obtain ⟨hp5, hs1⟩ := guard_some hs1
        have hn5 : g487.t13.toNat < a1.length := by first | omega | (simp only [List.length_set, List.length_append, List.length_replicate, List.length_map]; omega)
        try refine sA ?_
        try refine andA ?_
        refine Bs_if hs1 (fun hs1 hc6 => ?_) (fun hs1 hc6 => ?_)
        · try refine sA ?_
          cases hs1
          cases hk1
          try dsimp only at h
          try refine sA ?_
          have he := Option.some.inj h
          subst he
          exact endsA ⟨[(4, (.lf false (.sc (.bool false))))], [], 0, 26⟩ []
        · try refine sA ?_
          cases hs1
          exact X_backP hk1 (weakA [])
      · try refine sA ?_
        cases hs1
        cases hk1
        try dsimp only at h
        try refine sA ?_
        have he := Option.some.inj h
        subst he
        exact endsA ⟨[(4, (.lf false (.sc (.bool true))))], [], 0, 26⟩ []
theorem w_impl_SignalsIn {a0 : (List EventT)} {r : ((List ByteArray) × Bool)} (h : impl_SignalsIn a0 = some r) : Fn Tryz.prog 71 [(.lf true (.sl (a0.map eEvent)))] [] 0 (.tu [(.os 0 1 0 r.1.length r.1.length false), (.lf false (.sc (.bool r.2)))]) [(0, some (false, .arr false 1 (r.1.map eS)))] 1 := by
  unfold impl_SignalsIn at h
  refine fn_code tab_ok mixed [(1000, [(0, 0)]), (1001, [(0, 0), (8, 0)]), (1002, [(2, 0), (3, 0)]), (1003, [(4, 0)]), (1004, [(2, 0), (3, 0)])] Tryz.func71 rfl rfl (by simp [Tryz.f71]) (by kernel_rfl) ?_
  simp only [Tryz.f71]
  refine sA ?_
  obtain ⟨c493, hr1, h⟩ := bind_ok h
  refine Cl_sA (w_impl_IsHistory hr1) ?_
  try refine sA ?_
  refine Bs_if h (fun h hc2 => ?_) (fun h hc2 => ?_)
  · try refine sA ?_
    have he := Option.some.inj h
    subst he
    exact endsA ⟨[(2, (.os 0 1 0 (([] : List ByteArray).length) (([] : List ByteArray).length) false)), (3, (.lf false (.sc (.bool false))))], [(0, some (false, .arr false 1 (([] : List ByteArray).map eS)))], 1, 16⟩ [none]
  · try refine sA ?_
    obtain ⟨c494, hr3, h⟩ := bind_ok h
    refine Cl_sA (w_impl_FoldEvents hr3) ?_
    try refine sA ?_
    have he := Option.some.inj h
    subst he
    exact endsA ⟨[(2, (.os 0 1 0 c494.1.Signals.length c494.1.Signals.length false)), (3, (.lf false (.sc (.bool true))))], [(0, some (false, .arr false 1 (c494.1.Signals.map eS)))], 1, 16⟩ [some 0]
theorem w_spec_DrawBranchLess {a0 : (List Int)} {r : ((List EventT) × (List EventT))} (h : spec_DrawBranchLess a0 = some r) : Fn Tryz.prog 72 [(.lf true (.sl (a0.map eU8)))] [] 0 (.tu [(.lf false (.sl (r.1.map eEvent))), (.lf false (.sl (r.2.map eEvent)))]) [] 0 := by
  unfold spec_DrawBranchLess at h
  refine fn_code tab_ok mixed [(1000, [(0, 0)]), (1001, [(4, 0)]), (1002, [(4, 0), (5, 0)]), (1003, [(2, 0), (3, 0)])] Tryz.func72 rfl rfl (by simp [Tryz.f72]) (by kernel_rfl) ?_
  simp only [Tryz.f72]
  refine sA ?_
  obtain ⟨c545, hr1, h⟩ := bind_ok h
  refine Cl_hA [0] (w_spec_l1Cur_stem_o_F hr1) ?_
  try refine sA ?_
  obtain ⟨c546, hr2, h⟩ := bind_ok h
  refine Cl_hA [0] (w_spec_l1Cur_grown_o_F hr2) ?_
  try refine sA ?_
  obtain ⟨c547, hr3, h⟩ := bind_ok h
  refine Cl_hA [0] (w_spec_l1Cur_grown_o_F hr3) ?_
  try refine sA ?_
  have he := Option.some.inj h
  subst he
  exact endsA ⟨[(2, (.lf false (.sl (c546.1.map eEvent)))), (3, (.lf false (.sl (c547.1.map eEvent))))], [], 0, 17⟩ []
theorem w_impl_BranchLess {a0 : (List EventT)} {a1 : (List EventT)} {r : (Bool × Bool)} (h : impl_BranchLess a0 a1 = some r) : Fn Tryz.prog 73 [(.lf true (.sl (a0.map eEvent))), (.lf true (.sl (a1.map eEvent)))] [] 0 (.tu [(.lf false (.sc (.bool r.1))), (.lf false (.sc (.bool r.2)))]) [] 0 := by
  unfold impl_BranchLess at h
  refine fn_code tab_ok mixed [(1000, [(0, 0), (1, 0)]), (1001, [(0, 0), (1, 0), (13, 0)]), (1002, [(4, 0), (5, 0)]), (1003, [(4, 0), (5, 0)]), (4001, [])] Tryz.func73 rfl rfl (by simp [Tryz.f73]) (by kernel_rfl) ?_
  simp only [Tryz.f73]
  refine sA ?_
  obtain ⟨p551, hq1, h⟩ := bind_ok h
  refine Sq_cut (fun s2 => s2 = ⟨[(0, (.lf true (.sl (a0.map eEvent)))), (1, (.lf true (.sl (a1.map eEvent)))), (13, (.lf false (.sc (.bool p551.t13))))], [], 0, 18⟩) ?_ ?_
  · try refine sA ?_
    obtain ⟨c549, hr2, hq1⟩ := bind_ok hq1
    refine Cl_sA (w_impl_isTelling hr2) ?_
    try refine sA ?_
    refine Sp_if hq1 (fun hq1 hc3 => ?_) (fun hq1 hc3 => ?_)
    · try refine sA ?_
      cases hq1
      exact X_cut rfl (weakA [])
    · try refine sA ?_
      obtain ⟨c550, hr4, hq1⟩ := bind_ok hq1
      refine Cl_sA (w_impl_isTelling hr4) ?_
      try refine sA ?_
      cases hq1
      exact X_cut rfl (weakA [])
  · intro s2 hJ; subst hJ
    try dsimp only at h
    try refine sA ?_
    refine Bs_if h (fun h hc5 => ?_) (fun h hc5 => ?_)
    · try refine sA ?_
      have he := Option.some.inj h
      subst he
      exact endsA ⟨[(4, (.lf false (.sc (.bool false)))), (5, (.lf false (.sc (.bool false))))], [], 0, 18⟩ []
    · try refine sA ?_
      obtain ⟨c552, hr6, h⟩ := bind_ok h
      refine Cl_sA (w_impl_branchOrder hr6) ?_
      try refine sA ?_
      have he := Option.some.inj h
      subst he
      exact endsA ⟨[(4, (.lf false (.sc (.bool (decide (c552 < 0)))))), (5, (.lf false (.sc (.bool true))))], [], 0, 18⟩ []
theorem w_spec_BranchLess {a0 : (List EventT)} {a1 : (List EventT)} {r : (Bool × Bool)} (h : spec_BranchLess a0 a1 = some r) : Fn Tryz.prog 74 [(.lf true (.sl (a0.map eEvent))), (.lf true (.sl (a1.map eEvent)))] [] 0 (.tu [(.lf false (.sc (.bool r.1))), (.lf false (.sc (.bool r.2)))]) [] 0 := by
  unfold spec_BranchLess at h
  refine fn_code tab_ok mixed [(1000, [(0, 0), (1, 0)]), (1001, [(0, 0), (1, 0), (15, 0)]), (1002, [(4, 0), (5, 0)]), (1003, [(6, 0)]), (1004, [(4, 0), (5, 0)]), (4001, [])] Tryz.func74 rfl rfl (by simp [Tryz.f74]) (by kernel_rfl) ?_
  simp only [Tryz.f74]
  refine sA ?_
  obtain ⟨p556, hq1, h⟩ := bind_ok h
  refine Sq_cut (fun s2 => s2 = ⟨[(0, (.lf true (.sl (a0.map eEvent)))), (1, (.lf true (.sl (a1.map eEvent)))), (15, (.lf false (.sc (.bool p556.t15))))], [], 0, 24⟩) ?_ ?_
  · try refine sA ?_
    obtain ⟨c554, hr2, hq1⟩ := bind_ok hq1
    refine Cl_sA (w_spec_l15History hr2) ?_
    try refine sA ?_
    refine Sp_if hq1 (fun hq1 hc3 => ?_) (fun hq1 hc3 => ?_)
    · try refine sA ?_
      cases hq1
      exact X_cut rfl (weakA [])
    · try refine sA ?_
      obtain ⟨c555, hr4, hq1⟩ := bind_ok hq1
      refine Cl_sA (w_spec_l15History hr4) ?_
      try refine sA ?_
      cases hq1
      exact X_cut rfl (weakA [])
  · intro s2 hJ; subst hJ
    try dsimp only at h
    try refine sA ?_
    refine Bs_if h (fun h hc5 => ?_) (fun h hc5 => ?_)
    · try refine sA ?_
      have he := Option.some.inj h
      subst he
      exact endsA ⟨[(4, (.lf false (.sc (.bool false)))), (5, (.lf false (.sc (.bool false))))], [], 0, 24⟩ []
    · try refine sA ?_
      obtain ⟨c557, hr6, h⟩ := bind_ok h
      refine Cl_sA (w_spec_l15Compare hr6) ?_
      try refine sA ?_
      have he := Option.some.inj h
      subst he
      exact endsA ⟨[(4, (.lf false (.sc (.bool (decide (c557.1 < 0)))))), (5, (.lf false (.sc (.bool true))))], [], 0, 24⟩ []
theorem w_spec_PartAt {a0 : (List EventT)} {a1 : (List EventT)} {r : (Int × Bool)} (h : spec_PartAt a0 a1 = some r) : Fn Tryz.prog 75 [(.lf true (.sl (a0.map eEvent))), (.lf true (.sl (a1.map eEvent)))] [] 0 (.tu [(.lf false (.sc (.int .i64 r.1))), (.lf false (.sc (.bool r.2)))]) [] 0 := by
  unfold spec_PartAt at h
  refine fn_code tab_ok mixed [(1000, [(0, 0), (1, 0)]), (1001, [(0, 0), (1, 0), (15, 0)]), (1002, [(4, 0), (5, 0)]), (1003, [(7, 0)]), (1004, [(4, 0), (5, 0)]), (4001, [])] Tryz.func75 rfl rfl (by simp [Tryz.f75]) (by kernel_rfl) ?_
  simp only [Tryz.f75]
  refine sA ?_
  obtain ⟨p563, hq1, h⟩ := bind_ok h
  refine Sq_cut (fun s2 => s2 = ⟨[(0, (.lf true (.sl (a0.map eEvent)))), (1, (.lf true (.sl (a1.map eEvent)))), (15, (.lf false (.sc (.bool p563.t15))))], [], 0, 23⟩) ?_ ?_
  · try refine sA ?_
    obtain ⟨c561, hr2, hq1⟩ := bind_ok hq1
    refine Cl_sA (w_spec_l15History hr2) ?_
    try refine sA ?_
    refine Sp_if hq1 (fun hq1 hc3 => ?_) (fun hq1 hc3 => ?_)
    · try refine sA ?_
      cases hq1
      exact X_cut rfl (weakA [])
    · try refine sA ?_
      obtain ⟨c562, hr4, hq1⟩ := bind_ok hq1
      refine Cl_sA (w_spec_l15History hr4) ?_
      try refine sA ?_
      cases hq1
      exact X_cut rfl (weakA [])
  · intro s2 hJ; subst hJ
    try dsimp only at h
    try refine sA ?_
    refine Bs_if h (fun h hc5 => ?_) (fun h hc5 => ?_)
    · try refine sA ?_
      have he := Option.some.inj h
      subst he
      exact endsA ⟨[(4, (.lf false (.sc (.int .i64 0)))), (5, (.lf false (.sc (.bool false))))], [], 0, 23⟩ []
    · try refine sA ?_
      obtain ⟨c564, hr6, h⟩ := bind_ok h
      refine Cl_sA (w_spec_l15Compare hr6) ?_
      try refine sA ?_
      have he := Option.some.inj h
      subst he
      exact endsA ⟨[(4, (.lf false (.sc (.int .i64 c564.2)))), (5, (.lf false (.sc (.bool true))))], [], 0, 23⟩ []
theorem w_laws_FnCurrent {a0 : (List Int)} {a1 : (List Int)} {r : Bool} (h : laws_FnCurrent a0 a1 = some r) : Fn Tryz.prog 12 [(.lf true (.sl (a0.map eU8))), (.lf true (.sl (a1.map eU8)))] [] 0 (.lf false (.sc (.bool r))) [] 0 := by
  unfold laws_FnCurrent at h
  refine fn_code tab_ok mixed [(1000, [(0, 0), (1, 0)]), (1001, [(0, 0), (1, 0), (43, 0)]), (1002, [(4, 0)]), (1003, [(1, 0), (5, 0)]), (1004, [(1, 0), (5, 0), (6, 0), (7, 0)]), (1005, [(1, 0), (5, 0), (6, 0), (7, 0), (8, 0), (9, 0)]), (1006, [(1, 0), (5, 0), (6, 0), (7, 0), (8, 0), (9, 0), (10, 0), (11, 0)]), (1007, [(1, 0), (5, 0), (6, 0), (7, 0), (8, 0), (9, 0), (10, 0), (11, 0), (12, 0), (13, 0)]), (1008, [(1, 0), (5, 0), (6, 0), (7, 0), (10, 0), (85, 0)]), (1009, [(4, 0)]), (1010, [(1, 0), (5, 0), (6, 0), (10, 0), (86, 0)]), (1011, [(1, 0), (5, 0), (6, 0), (10, 0), (14, 0), (15, 0)]), (1012, [(1, 0), (5, 0), (6, 0), (10, 0), (14, 0), (93, 0)]), (1013, [(4, 0)]), (1014, [(1, 0), (6, 0), (10, 0), (14, 0), (95, 0), (96, 0), (97, 0)]), (1015, [(1, 0), (6, 0), (10, 0), (14, 0), (95, 0), (96, 0), (97, 0), (98, 0)]), (1016, [(1, 0), (6, 0), (10, 0), (14, 0), (17, 0), (95, 0), (96, 0), (97, 0)]), (1017, [(1, 0), (6, 0), (10, 0), (14, 0), (18, 0), (95, 0), (96, 0), (97, 0)]), (1018, [(1, 0), (6, 0), (10, 0), (14, 0), (18, 0), (95, 0), (96, 0), (97, 0), (117, 0)]), (1019, [(4, 0)]), (1020, [(1, 0), (6, 0), (10, 0), (14, 0), (19, 0), (20, 0), (95, 0), (96, 0), (97, 0)]), (1021, [(1, 0), (6, 0), (10, 0), (14, 0), (19, 0), (95, 0), (96, 0), (97, 0), (124, 0)]), (1022, [(4, 0)]), (1023, [(1, 0), (6, 0), (10, 0), (14, 0), (95, 0), (96, 0), (97, 0), (125, 0), (126, 0), (127, 0)]), (1024, [(1, 0), (6, 0), (10, 0), (14, 0), (95, 0), (96, 0), (97, 0), (125, 0), (126, 0), (127, 0), (128, 0)]), (1025, [(1, 0), (6, 0), (10, 0), (14, 0), (22, 0), (95, 0), (96, 0), (97, 0), (125, 0), (126, 0), (127, 0)]), (1026, [(1, 0), (6, 0), (10, 0), (14, 0), (22, 0), (23, 0), (95, 0), (96, 0), (97, 0), (125, 0), (126, 0), (127, 0)]), (1027, [(1, 0), (6, 0), (10, 0), (14, 0), (22, 0), (23, 0), (95, 0), (96, 0), (97, 0), (125, 0), (126, 0), (127, 0), (131, 0), (132, 0), (133, 0)]), (1028, [(1, 0), (6, 0), (10, 0), (14, 0), (22, 0), (23, 0), (95, 0), (96, 0), (97, 0), (125, 0), (126, 0), (127, 0), (131, 0), (132, 0), (133, 0), (134, 0)]), (1029, [(1, 0), (6, 0), (10, 0), (14, 0), (22, 0), (23, 0), (25, 0), (95, 0), (96, 0), (97, 0), (125, 0), (126, 0), (127, 0), (131, 0), (132, 0), (133, 0)]), (1030, [(1, 0), (6, 0), (10, 0), (14, 0), (22, 0), (23, 0), (95, 0), (96, 0), (97, 0), (125, 0), (126, 0), (127, 0), (131, 0), (132, 0), (133, 0)]), (1031, [(1, 0), (6, 0), (10, 0), (14, 0), (22, 0), (23, 0), (95, 0), (96, 0), (97, 0), (125, 0), (126, 0), (127, 0), (131, 0), (132, 0), (133, 0)]), (1032, [(1, 0), (6, 0), (10, 0), (14, 0), (22, 0), (23, 0), (95, 0), (96, 0), (97, 0), (125, 0), (126, 0), (127, 0), (144, 0), (145, 0), (146, 0)]), (1033, [(1, 0), (6, 0), (10, 0), (14, 0), (22, 0), (23, 0), (95, 0), (96, 0), (97, 0), (125, 0), (126, 0), (127, 0), (144, 0), (145, 0), (146, 0), (147, 0)]), (1034, [(1, 0), (6, 0), (10, 0), (14, 0), (22, 0), (23, 0), (27, 0), (95, 0), (96, 0), (97, 0), (125, 0), (126, 0), (127, 0), (144, 0), (145, 0), (146, 0)]), (1035, [(1, 0), (6, 0), (10, 0), (14, 0), (22, 0), (23, 0), (95, 0), (96, 0), (97, 0), (125, 0), (126, 0), (127, 0), (144, 0), (145, 0), (146, 0)]), (1036, [(1, 0), (6, 0), (10, 0), (14, 0), (22, 0), (23, 0), (95, 0), (96, 0), (97, 0), (125, 0), (126, 0), (127, 0), (144, 0), (145, 0), (146, 0)]), (1037, [(1, 0), (6, 0), (10, 0), (14, 0), (95, 0), (96, 0), (97, 0), (125, 0), (126, 0), (127, 0), (158, 0)]), (1038, [(4, 0)]), (1039, [(1, 0), (6, 0), (10, 0), (14, 0), (95, 0), (96, 0), (97, 0), (125, 0), (126, 0), (127, 0)]), (1040, [(1, 0), (6, 0), (10, 0), (14, 0), (95, 0), (96, 0), (97, 0)]), (1041, [(28, 0), (29, 0)]), (1042, [(28, 0), (29, 0), (30, 0), (31, 0)]), (1043, [(28, 0), (29, 0), (30, 0), (31, 0), (32, 0), (33, 0)]), (1044, [(28, 0), (29, 0), (30, 0), (31, 0), (185, 0)]), (1045, [(4, 0)]), (1046, [(28, 0), (29, 0), (30, 0), (187, 0)]), (1047, [(4, 0)]), (1048, [(28, 0), (29, 0), (30, 0), (34, 0), (35, 0)]), (1049, [(28, 0), (29, 0), (30, 0), (34, 0), (35, 0), (36, 0), (37, 0)]), (1050, [(4, 0)]), (2086, []), (4008, []), (4044, []), (5016, [])] Tryz.func12 rfl rfl (by simp [Tryz.f12]) (by kernel_rfl) ?_
  simp only [Tryz.f12]
  refine sA ?_
  refine Bs_if h (fun h hc1 => ?_) (fun h hc1 => ?_)
  · try refine sA ?_
    have he := Option.some.inj h
    subst he
    exact endsA ⟨[(4, (.lf false (.sc (.bool true))))], [], 0, 233⟩ []
  · try refine sA ?_
    obtain ⟨c497, hr2, h⟩ := bind_ok h
    refine Cl_sA (w_spec_DrawCurrentOf hr2) ?_
    try refine sA ?_
    obtain ⟨c498, hr3, h⟩ := bind_ok h
    refine Cl_sA (w_impl_CurrentOf hr3) ?_
    try refine sA ?_
    obtain ⟨c499, hr4, h⟩ := bind_ok h
    refine Cl_sA (w_spec_CurrentOf hr4) ?_
    try refine sA ?_
    obtain ⟨c500, hr5, h⟩ := bind_ok h
    refine Cl_sA (w_impl_LostSignals hr5) ?_
    try refine sA ?_
    obtain ⟨c501, hr6, h⟩ := bind_ok h
    refine Cl_sA (w_spec_LostSignals hr6) ?_
    try refine sA ?_
    obtain ⟨p504, hq7, h⟩ := bind_ok h
    refine Sq_cut (fun s2 => s2 = ⟨[(1, (.lf true (.sl (a1.map eU8)))), (5, (.pb 0 0)), (6, (.os 1 4 0 c498.1.length c498.1.length false)), (7, (.lf false (.sc (.bool c498.2)))), (10, (.os 2 1 0 c500.1.length c500.1.length false)), (85, (.lf false (.sc (.bool p504.t85))))], [(0, some (true, .box [(.os 3 1 0 c497.Branches.length c497.Branches.length false)])), (1, some (true, .arr false 4 (c498.1.map eEvent))), (2, some (false, .arr false 1 (c500.1.map eS))), (3, some (true, .deep [.sl [.sc, .sc, .sc, .sc]] (c497.Branches.map eBranch)))], 4, 233⟩) ?_ ?_
    · try refine sA ?_
      refine Sp_if hq7 (fun hq7 hc8 => ?_) (fun hq7 hc8 => ?_)
      · try refine sA ?_
        cases hq7
        exact X_cut rfl (weakA [some 2, some 3, some 5, some 0])
      · try refine sA ?_
        obtain ⟨c502, hr9, hq7⟩ := bind_ok hq7
        refine Cl_sA (w_laws_sameEvents hr9) ?_
        try refine sA ?_
        refine Sp_if hq7 (fun hq7 hc10 => ?_) (fun hq7 hc10 => ?_)
        · try refine sA ?_
          cases hq7
          exact X_cut rfl (weakA [some 2, some 3, some 5, some 0])
        · try refine sA ?_
          refine Sp_if hq7 (fun hq7 hc11 => ?_) (fun hq7 hc11 => ?_)
          · try refine sA ?_
            cases hq7
            exact X_cut rfl (weakA [some 2, some 3, some 5, some 0])
          · try refine sA ?_
            obtain ⟨c503, hr12, hq7⟩ := bind_ok hq7
            refine Cl_sA (w_laws_sameTexts hr12) ?_
            try refine sA ?_
            cases hq7
            exact X_cut rfl (weakA [some 2, some 3, some 5, some 0])
    · intro s2 hJ; subst hJ
      try dsimp only at h
      try refine sA ?_
      refine Bs_if h (fun h hc13 => ?_) (fun h hc13 => ?_)
      · try refine sA ?_
        have he := Option.some.inj h
        subst he
        exact endsA ⟨[(4, (.lf false (.sc (.bool false))))], [], 0, 233⟩ []
      · try refine sA ?_
        obtain ⟨q14, hq14, h⟩ := bind_ok h
        refine Sq_cut (fun s2 => ∃ p544 : Unit, q14 = .inl p544 ∧ s2 = ⟨[(1, (.lf true (.sl (a1.map eU8))))], [], 0, 233⟩) ?_ ?_
        · try refine sA ?_
          refine Bs_if hq14 (fun hq14 hc15 => ?_) (fun hq14 hc15 => ?_)
          · try refine sA ?_
            obtain ⟨c505, hr16, hq14⟩ := bind_ok hq14
            refine Cl_sA (w_impl_SignalsIn hr16) ?_
            try refine sA ?_
            refine Bs_if hq14 (fun hq14 hc17 => ?_) (fun hq14 hc17 => ?_)
            · try refine sA ?_
              cases hq14
              try dsimp only at h
              have he := Option.some.inj h
              subst he
              exact endsA ⟨[(4, (.lf false (.sc (.bool false))))], [], 0, 233⟩ []
            · try refine sA ?_
              obtain ⟨y541, hl18, hq14⟩ := bind_ok hq14
              refine W_loopP (fun g506 : laws_FnCurrent_G1 => ⟨[(1, (.lf true (.sl (a1.map eU8)))), (6, (.os 0 4 0 c498.1.length c498.1.length false)), (10, (.os 1 1 0 c500.1.length c500.1.length false)), (14, (.os 2 1 0 c505.1.length c505.1.length false)), (95, (.os 3 1 0 g506.c3.length g506.c3.length false)), (96, (.lf false (.sc (.int .i64 ((c497.Branches.length : Nat) : Int))))), (97, (.lf false (.sc (.int .i64 g506.t97))))], [(0, some (true, .arr false 4 (c498.1.map eEvent))), (1, some (false, .arr false 1 (c500.1.map eS))), (2, some (false, .arr false 1 (c505.1.map eS))), (3, some (true, .deep [.sl [.sc, .sc, .sc, .sc]] (g506.c3.map eBranch)))], 4, 233⟩) (laws_FnCurrent_L1 c497 c498 c505 c500) _ _ hl18 (weakA [some 1, some 2, some 4, some 3]) ?_
              · intro n1 g506 z1 hs1 hk1
                unfold laws_FnCurrent_L1 at hs1
                try dsimp only at hs1
                refine sA ?_
                refine Bs_if hs1 (fun hs1 hc19 => ?_) (fun hs1 hc19 => ?_)
                · try refine sA ?_
                  obtain ⟨hp20, hs1⟩ := guard_some hs1
                  refine Gh_focus 3 g506.t97.toNat ?_
                  try refine sA ?_
                  obtain ⟨hp21, hs1⟩ := guard_some hs1
                  have hn21 : g506.t97.toNat < g506.c3.length := by first | omega | (simp only [List.length_set, List.length_append, List.length_replicate, List.length_map]; omega)
                  try refine sA ?_
                  try refine andA ?_
                  obtain ⟨hp22, hs1⟩ := guard_some hs1
                  have hn22 : (wI (((((nth g506.c3 g506.t97.toNat).Events).length : Nat) : Int) - 1)).toNat < ((nth g506.c3 g506.t97.toNat).Events).length := by first | omega | (simp only [List.length_set, List.length_append, List.length_replicate, List.length_map]; omega)
                  try refine sA ?_
                  try refine andA ?_
                  try refine andB ?_
                  try refine sA ?_
                  obtain ⟨hp24, hs1⟩ := guard_some hs1
                  have hn24 : (wI (((c498.1.length : Nat) : Int) - 1)).toNat < c498.1.length := by first | omega | (simp only [List.length_set, List.length_append, List.length_replicate, List.length_map]; omega)
                  try refine sA ?_
                  try refine andA ?_
                  try refine andB ?_
                  try refine sA ?_
                  refine Bs_if hs1 (fun hs1 hc26 => ?_) (fun hs1 hc26 => ?_)
                  · try refine sA ?_
                    cases hs1
                    cases hk1
                    try dsimp only at hq14
                    try refine sA ?_
                    cases hq14
                    try dsimp only at h
                    have he := Option.some.inj h
                    subst he
                    refine ends_pack 3 ?_
                    try refine sA ?_
                    exact endsA ⟨[(4, (.lf false (.sc (.bool false))))], [], 0, 233⟩ []
                  · try refine sA ?_
                    obtain ⟨c524, hr27, hs1⟩ := bind_ok hs1
                    refine Cl_sA (w_impl_SignalsIn hr27) ?_
                    try refine sA ?_
                    refine Bs_if hs1 (fun hs1 hc28 => ?_) (fun hs1 hc28 => ?_)
                    · try refine sA ?_
                      cases hs1
                      cases hk1
                      try dsimp only at hq14
                      try refine sA ?_
                      cases hq14
                      try dsimp only at h
                      have he := Option.some.inj h
                      subst he
                      refine ends_pack 3 ?_
                      try refine sA ?_
                      exact endsA ⟨[(4, (.lf false (.sc (.bool false))))], [], 0, 233⟩ []
                    · try refine sA ?_
                      obtain ⟨y538, hl29, hs1⟩ := bind_ok hs1
                      refine W_loopP (fun g525 : laws_FnCurrent_G2 => ⟨[(1, (.lf true (.sl (a1.map eU8)))), (6, (.os 0 4 0 c498.1.length c498.1.length false)), (10, (.os 1 1 0 c500.1.length c500.1.length false)), (14, (.os 2 1 0 c505.1.length c505.1.length false)), (95, (.os 3 1 0 g506.c3.length g506.c3.length false)), (96, (.lf false (.sc (.int .i64 ((c497.Branches.length : Nat) : Int))))), (97, (.lf false (.sc (.int .i64 g506.t97)))), (125, (.os 4 1 0 c524.1.length c524.1.length false)), (126, (.lf false (.sc (.int .i64 ((c524.1.length : Nat) : Int))))), (127, (.lf false (.sc (.int .i64 g525.t127))))], [(0, some (true, .arr false 4 (c498.1.map eEvent))), (1, some (false, .arr false 1 (c500.1.map eS))), (2, some (false, .arr false 1 (c505.1.map eS))), (3, some (true, .deep [.sl [.sc, .sc, .sc, .sc]] ((g506.c3.set g506.t97.toNat (nth g506.c3 g506.t97.toNat)).map eBranch))), (4, some (false, .arr false 1 (c524.1.map eS)))], 5, 233⟩) (laws_FnCurrent_L2 c524 c505 c500) _ _ hl29 (packW 3 (weakA [some 0, some 1, some 2, some 3, some 6])) ?_
                      · intro n2 g525 z2 hs2 hk2
                        unfold laws_FnCurrent_L2 at hs2
                        try dsimp only at hs2
                        refine sA ?_
                        refine Bs_if hs2 (fun hs2 hc30 => ?_) (fun hs2 hc30 => ?_)
                        · try refine sA ?_
                          obtain ⟨hp31, hs2⟩ := guard_some hs2
                          have hn31 : g525.t127.toNat < c524.1.length := by first | omega | (simp only [List.length_set, List.length_append, List.length_replicate, List.length_map]; omega)
                          try refine sA ?_
                          try refine andA ?_
                          try refine andB ?_
                          try refine sA ?_
                          obtain ⟨y533, hl33, hs2⟩ := bind_ok hs2
                          refine W_loopP (fun g532 : laws_FnCurrent_G3 => ⟨[(1, (.lf true (.sl (a1.map eU8)))), (6, (.os 0 4 0 c498.1.length c498.1.length false)), (10, (.os 1 1 0 c500.1.length c500.1.length false)), (14, (.os 2 1 0 c505.1.length c505.1.length false)), (22, (.lf false (.sc (.string (nth c524.1 g525.t127.toNat))))), (23, (.lf false (.sc (.bool g532.t23)))), (95, (.os 3 1 0 g506.c3.length g506.c3.length false)), (96, (.lf false (.sc (.int .i64 ((c497.Branches.length : Nat) : Int))))), (97, (.lf false (.sc (.int .i64 g506.t97)))), (125, (.os 4 1 0 c524.1.length c524.1.length false)), (126, (.lf false (.sc (.int .i64 ((c524.1.length : Nat) : Int))))), (127, (.lf false (.sc (.int .i64 g525.t127)))), (131, (.os 2 1 0 c505.1.length c505.1.length false)), (132, (.lf false (.sc (.int .i64 ((c505.1.length : Nat) : Int))))), (133, (.lf false (.sc (.int .i64 g532.t133))))], [(0, some (true, .arr false 4 (c498.1.map eEvent))), (1, some (false, .arr false 1 (c500.1.map eS))), (2, some (false, .arr false 1 (c505.1.map eS))), (3, some (true, .deep [.sl [.sc, .sc, .sc, .sc]] ((g506.c3.set g506.t97.toNat (nth g506.c3 g506.t97.toNat)).map eBranch))), (4, some (false, .arr false 1 (c524.1.map eS)))], 5, 233⟩) (laws_FnCurrent_L3 c505 c524 g525) _ _ hl33 (weakA [some 0, some 1, some 2, some 3, some 4]) ?_
                          · intro n3 g532 z3 hs3 hk3
                            unfold laws_FnCurrent_L3 at hs3
                            try dsimp only at hs3
                            refine sA ?_
                            refine Bs_if hs3 (fun hs3 hc34 => ?_) (fun hs3 hc34 => ?_)
                            · try refine sA ?_
                              obtain ⟨hp35, hs3⟩ := guard_some hs3
                              have hn35 : g532.t133.toNat < c505.1.length := by first | omega | (simp only [List.length_set, List.length_append, List.length_replicate, List.length_map]; omega)
                              try refine sA ?_
                              try refine andA ?_
                              try refine andB ?_
                              try refine sA ?_
                              refine Sp_if hs3 (fun hs3 hc37 => ?_) (fun hs3 hc37 => ?_)
                              · try refine sA ?_
                                cases hs3
                                exact X_backP hk3 (weakA [some 0, some 1, some 2, some 3, some 4])
                              · try refine sA ?_
                                cases hs3
                                exact X_backP hk3 (weakA [some 0, some 1, some 2, some 3, some 4])
                            · try refine sA ?_
                              cases hs3
                              cases hk3
                              try dsimp only at hs2
                              try refine sA ?_
                              obtain ⟨y537, hl38, hs2⟩ := bind_ok hs2
                              refine W_loopP (fun g536 : laws_FnCurrent_G4 => ⟨[(1, (.lf true (.sl (a1.map eU8)))), (6, (.os 0 4 0 c498.1.length c498.1.length false)), (10, (.os 1 1 0 c500.1.length c500.1.length false)), (14, (.os 2 1 0 c505.1.length c505.1.length false)), (22, (.lf false (.sc (.string (nth c524.1 g525.t127.toNat))))), (23, (.lf false (.sc (.bool g536.t23)))), (95, (.os 3 1 0 g506.c3.length g506.c3.length false)), (96, (.lf false (.sc (.int .i64 ((c497.Branches.length : Nat) : Int))))), (97, (.lf false (.sc (.int .i64 g506.t97)))), (125, (.os 4 1 0 c524.1.length c524.1.length false)), (126, (.lf false (.sc (.int .i64 ((c524.1.length : Nat) : Int))))), (127, (.lf false (.sc (.int .i64 g525.t127)))), (144, (.os 1 1 0 c500.1.length c500.1.length false)), (145, (.lf false (.sc (.int .i64 ((c500.1.length : Nat) : Int))))), (146, (.lf false (.sc (.int .i64 g536.t146))))], [(0, some (true, .arr false 4 (c498.1.map eEvent))), (1, some (false, .arr false 1 (c500.1.map eS))), (2, some (false, .arr false 1 (c505.1.map eS))), (3, some (true, .deep [.sl [.sc, .sc, .sc, .sc]] ((g506.c3.set g506.t97.toNat (nth g506.c3 g506.t97.toNat)).map eBranch))), (4, some (false, .arr false 1 (c524.1.map eS)))], 5, 233⟩) (_) _ _ hl38 (weakA [some 0, some 1, some 2, some 3, some 4]) ?_
                              · intro n5 g536 z5 hs5 hk5
                                unfold laws_FnCurrent_L4 at hs5
                                try dsimp only at hs5
                                refine sA ?_
                                refine Bs_if hs5 (fun hs5 hc39 => ?_) (fun hs5 hc39 => ?_)
                                · try refine sA ?_
                                  obtain ⟨hp40, hs5⟩ := guard_some hs5
                                  have hn40 : g536.t146.toNat < c500.1.length := by first | omega | (simp only [List.length_set, List.length_append, List.length_replicate, List.length_map]; omega)
                                  try refine sA ?_
                                  try refine andA ?_
                                  try refine andB ?_
                                  try refine sA ?_
                                  refine Sp_if hs5 (fun hs5 hc42 => ?_) (fun hs5 hc42 => ?_)
                                  · try refine sA ?_
                                    cases hs5
                                    exact X_backP hk5 (weakA [some 0, some 1, some 2, some 3, some 4])
                                  · try refine sA ?_
                                    cases hs5
                                    exact X_backP hk5 (weakA [some 0, some 1, some 2, some 3, some 4])
                                · try refine sA ?_
                                  cases hs5
                                  cases hk5
                                  try dsimp only at hs2
                                  try refine sA ?_
                                  refine Bs_if hs2 (fun hs2 hc43 => ?_) (fun hs2 hc43 => ?_)
                                  · try refine sA ?_
                                    cases hs2
                                    cases hk2
                                    try dsimp only at hs1
                                    try refine sA ?_
                                    cases hs1
                                    cases hk1
                                    try dsimp only at hq14
                                    try refine sA ?_
                                    cases hq14
                                    try dsimp only at h
                                    have he := Option.some.inj h
                                    subst he
                                    exact endsA ⟨[(4, (.lf false (.sc (.bool false))))], [], 0, 233⟩ []
                                  · try refine sA ?_
                                    cases hs2
                                    exact X_backP hk2 (weakA [some 0, some 1, some 2, some 3, some 4])
                        · try refine sA ?_
                          cases hs2
                          cases hk2
                          try dsimp only at hs1
                          try refine sA ?_
                          cases hs1
                          exact X_backP hk1 (weakA [some 0, some 1, some 2, some 3])
                · try refine sA ?_
                  cases hs1
                  cases hk1
                  try dsimp only at hq14
                  try refine sA ?_
                  cases hq14
                  exact X_cut ⟨_, rfl, rfl⟩ (weakA [])
          · try refine sA ?_
            cases hq14
            exact X_cut ⟨_, rfl, rfl⟩ (weakA [])
        · intro s2 hJ; obtain ⟨p544, e, rfl⟩ := hJ; subst e
          try dsimp only at h
          try refine sA ?_
          obtain ⟨c548, hr44, h⟩ := bind_ok h
          refine Cl_sA (w_spec_DrawBranchLess hr44) ?_
          try refine sA ?_
          obtain ⟨c553, hr45, h⟩ := bind_ok h
          refine Cl_sA (w_impl_BranchLess hr45) ?_
          try refine sA ?_
          obtain ⟨c558, hr46, h⟩ := bind_ok h
          refine Cl_sA (w_spec_BranchLess hr46) ?_
          try refine sA ?_
          obtain ⟨p559, hq47, h⟩ := bind_ok h
          refine Sq_cut (fun s2 => s2 = ⟨[(28, (.lf false (.sl (c548.1.map eEvent)))), (29, (.lf false (.sl (c548.2.map eEvent)))), (30, (.lf false (.sc (.bool c553.1)))), (31, (.lf false (.sc (.bool c553.2)))), (185, (.lf false (.sc (.bool p559.t185))))], [], 0, 233⟩) ?_ ?_
          · try refine sA ?_
            refine Sp_if hq47 (fun hq47 hc48 => ?_) (fun hq47 hc48 => ?_)
            · try refine sA ?_
              cases hq47
              exact X_cut rfl (weakA [])
            · try refine sA ?_
              cases hq47
              exact X_cut rfl (weakA [])
          · intro s2 hJ; subst hJ
            try dsimp only at h
            try refine sA ?_
            refine Bs_if h (fun h hc49 => ?_) (fun h hc49 => ?_)
            · try refine sA ?_
              have he := Option.some.inj h
              subst he
              exact endsA ⟨[(4, (.lf false (.sc (.bool false))))], [], 0, 233⟩ []
            · try refine sA ?_
              refine Bs_if h (fun h hc50 => ?_) (fun h hc50 => ?_)
              · try refine sA ?_
                have he := Option.some.inj h
                subst he
                exact endsA ⟨[(4, (.lf false (.sc (.bool (!c553.1)))))], [], 0, 233⟩ []
              · try refine sA ?_
                obtain ⟨c560, hr51, h⟩ := bind_ok h
                refine Cl_sA (w_impl_BranchLess hr51) ?_
                try refine sA ?_
                obtain ⟨c565, hr52, h⟩ := bind_ok h
                refine Cl_sA (w_spec_PartAt hr52) ?_
                try refine sA ?_
                refine Sp_if h (fun h hc53 => ?_) (fun h hc53 => ?_)
                · try refine sA ?_
                  refine Sp_if h (fun h hc54 => ?_) (fun h hc54 => ?_)
                  · try refine sA ?_
                    refine Sp_if h (fun h hc55 => ?_) (fun h hc55 => ?_)
                    · try refine sA ?_
                      refine Sp_if h (fun h hc56 => ?_) (fun h hc56 => ?_)
                      · try refine sA ?_
                        refine Sp_if h (fun h hc57 => ?_) (fun h hc57 => ?_)
                        · try refine sA ?_
                          obtain ⟨c566, hr58, h⟩ := bind_ok h
                          refine Cl_sA (w_laws_sameEvents hr58) ?_
                          try refine sA ?_
                          refine Sp_if h (fun h hc59 => ?_) (fun h hc59 => ?_)
                          · try refine sA ?_
                            obtain ⟨hp60, h⟩ := guard_some h
                            try refine sA ?_
                            try refine andA ?_
                            obtain ⟨hp61, h⟩ := guard_some h
                            try refine sA ?_
                            try refine andA ?_
                            obtain ⟨c567, hr62, h⟩ := bind_ok h
                            refine Cl_sA (w_laws_sameEvents hr62) ?_
                            try refine sA ?_
                            have he := Option.some.inj h
                            subst he
                            exact endsA ⟨[(4, (.lf false (.sc (.bool c567))))], [], 0, 233⟩ []
                          · try refine sA ?_
                            have he := Option.some.inj h
                            subst he
                            exact endsA ⟨[(4, (.lf false (.sc (.bool false))))], [], 0, 233⟩ []
                        · try refine sA ?_
                          obtain ⟨c568, hr63, h⟩ := bind_ok h
                          refine Cl_sA (w_laws_sameEvents hr63) ?_
                          try refine sA ?_
                          refine Sp_if h (fun h hc64 => ?_) (fun h hc64 => ?_)
                          · try refine sA ?_
                            obtain ⟨hp65, h⟩ := guard_some h
                            try refine sA ?_
                            try refine andA ?_
                            obtain ⟨hp66, h⟩ := guard_some h
                            try refine sA ?_
                            try refine andA ?_
                            obtain ⟨c569, hr67, h⟩ := bind_ok h
                            refine Cl_sA (w_laws_sameEvents hr67) ?_
                            try refine sA ?_
                            have he := Option.some.inj h
                            subst he
                            exact endsA ⟨[(4, (.lf false (.sc (.bool c569))))], [], 0, 233⟩ []
                          · try refine sA ?_
                            have he := Option.some.inj h
                            subst he
                            exact endsA ⟨[(4, (.lf false (.sc (.bool false))))], [], 0, 233⟩ []
                      · try refine sA ?_
                        have he := Option.some.inj h
                        subst he
                        exact endsA ⟨[(4, (.lf false (.sc (.bool false))))], [], 0, 233⟩ []
                    · try refine sA ?_
                      refine Sp_if h (fun h hc68 => ?_) (fun h hc68 => ?_)
                      · try refine sA ?_
                        obtain ⟨c570, hr69, h⟩ := bind_ok h
                        refine Cl_sA (w_laws_sameEvents hr69) ?_
                        try refine sA ?_
                        refine Sp_if h (fun h hc70 => ?_) (fun h hc70 => ?_)
                        · try refine sA ?_
                          obtain ⟨hp71, h⟩ := guard_some h
                          try refine sA ?_
                          try refine andA ?_
                          obtain ⟨hp72, h⟩ := guard_some h
                          try refine sA ?_
                          try refine andA ?_
                          obtain ⟨c571, hr73, h⟩ := bind_ok h
                          refine Cl_sA (w_laws_sameEvents hr73) ?_
                          try refine sA ?_
                          have he := Option.some.inj h
                          subst he
                          exact endsA ⟨[(4, (.lf false (.sc (.bool c571))))], [], 0, 233⟩ []
                        · try refine sA ?_
                          have he := Option.some.inj h
                          subst he
                          exact endsA ⟨[(4, (.lf false (.sc (.bool false))))], [], 0, 233⟩ []
                      · try refine sA ?_
                        obtain ⟨c572, hr74, h⟩ := bind_ok h
                        refine Cl_sA (w_laws_sameEvents hr74) ?_
                        try refine sA ?_
                        refine Sp_if h (fun h hc75 => ?_) (fun h hc75 => ?_)
                        · try refine sA ?_
                          obtain ⟨hp76, h⟩ := guard_some h
                          try refine sA ?_
                          try refine andA ?_
                          obtain ⟨hp77, h⟩ := guard_some h
                          try refine sA ?_
                          try refine andA ?_
                          obtain ⟨c573, hr78, h⟩ := bind_ok h
                          refine Cl_sA (w_laws_sameEvents hr78) ?_
                          try refine sA ?_
                          have he := Option.some.inj h
                          subst he
                          exact endsA ⟨[(4, (.lf false (.sc (.bool c573))))], [], 0, 233⟩ []
                        · try refine sA ?_
                          have he := Option.some.inj h
                          subst he
                          exact endsA ⟨[(4, (.lf false (.sc (.bool false))))], [], 0, 233⟩ []
                  · try refine sA ?_
                    have he := Option.some.inj h
                    subst he
                    exact endsA ⟨[(4, (.lf false (.sc (.bool false))))], [], 0, 233⟩ []
                · try refine sA ?_
                  have he := Option.some.inj h
                  subst he
                  exact endsA ⟨[(4, (.lf false (.sc (.bool false))))], [], 0, 233⟩ []
end Go.TL.YtjkeoippmlmfbaaGreatDoor

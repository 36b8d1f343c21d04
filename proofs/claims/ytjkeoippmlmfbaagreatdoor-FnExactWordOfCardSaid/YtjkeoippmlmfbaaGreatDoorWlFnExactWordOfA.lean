import Derived.Test.YtjkeoippmlmfbaaGreatDoorTlTabr5zD
import Derived.Test.YtjkeoippmlmfbaaGreatDoorG23EnR1
import Derived.Test.YtjkeoippmlmfbaaGreatDoorTlAuto
import Derived.Test.YtjkeoippmlmfbaaGreatDoorTlTrimr5zD
import Derived.Test.YtjkeoippmlmfbaaGreatDoorTlBelow
import Derived.Test.YtjkeoippmlmfbaaGreatDoorTlInsr5zD
import Derived.Test.YtjkeoippmlmfbaaGreatDoorTlInsert
set_option linter.unusedSimpArgs false
set_option linter.unusedVariables false
set_option linter.unusedVariables false
set_option linter.unusedSimpArgs false
set_option maxRecDepth 8000
set_option maxHeartbeats 0
namespace Go.TL.YtjkeoippmlmfbaaGreatDoor
open Go Go.Proofs Go.TL
theorem w_laws_szEvent {a0 : EventT} {a1 : Int} {r : Int} (h : laws_szEvent a0 a1 = some r) : Fn Tryz.prog 114 [(.ag [(.lf false (.sc (.int .i64 a0.Id))), (.lf false (.sc (.int .i64 a0.Version))), (.lf false (.sc (.int .i64 a0.Kind))), (.lf false (.sc (.string a0.Name)))]), (.lf false (.sc (.int .i64 a1)))] [] 0 (.lf false (.sc (.int .i64 r))) [] 0 := by
  unfold laws_szEvent at h
  refine fn_code tab_ok mixed [(1000, [(1, 0), (2, 0)]), (1001, [(1, 0)]), (1002, [(1, 0), (11, 0)]), (1003, [(4, 0)]), (1004, [(4, 0)])] Tryz.func114 rfl rfl (by simp [Tryz.f114]) (by kernel_rfl) ?_
  simp only [Tryz.f114]
  refine sA ?_
  refine Bs_if h (fun h hc1 => ?_) (fun h hc1 => ?_)
  · try refine sA ?_
    have he := Option.some.inj h
    subst he
    exact endsA ⟨[(4, (.lf false (.sc (.int .i64 (-1)))))], [], 0, 13⟩ []
  · try refine sA ?_
    have he := Option.some.inj h
    subst he
    exact endsA ⟨[(4, (.lf false (.sc (.int .i64 (wI (a1 - (a0.Name.size : Int)))))))], [], 0, 13⟩ []
theorem w_laws_szEventS {a0 : (List EventT)} {a1 : Int} {r : Int} (h : laws_szEventS a0 a1 = some r) : Fn Tryz.prog 49 [(.lf true (.sl (a0.map eEvent))), (.lf false (.sc (.int .i64 a1)))] [] 0 (.lf false (.sc (.int .i64 r))) [] 0 := by
  unfold laws_szEventS at h
  refine fn_code tab_ok mixed [(1000, [(0, 0), (1, 0)]), (1001, [(0, 0), (1, 0)]), (1002, [(0, 0), (1, 0), (11, 0)]), (1003, [(4, 0)]), (1004, [(0, 0), (1, 0), (5, 0)]), (1005, [(0, 0), (1, 0), (5, 0), (15, 0)]), (1006, [(0, 0), (1, 0), (5, 0)]), (1007, [(0, 0), (1, 0), (5, 0)]), (1008, [(0, 0), (1, 0), (5, 0), (25, 0)]), (1009, [(4, 0)]), (1010, [(4, 0)])] Tryz.func49 rfl rfl (by simp [Tryz.f49]) (by kernel_rfl) ?_
  simp only [Tryz.f49]
  refine sA ?_
  refine Bs_if h (fun h hc1 => ?_) (fun h hc1 => ?_)
  · try refine sA ?_
    have he := Option.some.inj h
    subst he
    exact endsA ⟨[(4, (.lf false (.sc (.int .i64 (-1)))))], [], 0, 27⟩ []
  · try refine sA ?_
    obtain ⟨y5, hl2, h⟩ := bind_ok h
    refine W_loopP (fun g2 : laws_szEventS_G1 => ⟨[(0, (.lf true (.sl (a0.map eEvent)))), (1, (.lf false (.sc (.int .i64 g2.t1)))), (5, (.lf false (.sc (.int .i64 g2.t5))))], [], 0, 27⟩) (laws_szEventS_L1 a0) _ _ hl2 (weakA []) ?_
    · intro n1 g2 z1 hs1 hk1
      unfold laws_szEventS_L1 at hs1
      try dsimp only at hs1
      refine sA ?_
      refine Bs_if hs1 (fun hs1 hc3 => ?_) (fun hs1 hc3 => ?_)
      · try refine sA ?_
        obtain ⟨hp4, hs1⟩ := guard_some hs1
        have hn4 : g2.t5.toNat < a0.length := by first | omega | (simp only [List.length_set, List.length_append, List.length_replicate, List.length_map]; omega)
        try refine sA ?_
        try refine andA ?_
        obtain ⟨c4, hr5, hs1⟩ := bind_ok hs1
        refine Cl_sA (w_laws_szEvent hr5) ?_
        try refine sA ?_
        refine Bs_if hs1 (fun hs1 hc6 => ?_) (fun hs1 hc6 => ?_)
        · try refine sA ?_
          cases hs1
          cases hk1
          try dsimp only at h
          try refine sA ?_
          have he := Option.some.inj h
          subst he
          exact endsA ⟨[(4, (.lf false (.sc (.int .i64 (-1)))))], [], 0, 27⟩ []
        · try refine sA ?_
          cases hs1
          exact X_backP hk1 (weakA [])
      · try refine sA ?_
        cases hs1
        cases hk1
        try dsimp only at h
        try refine sA ?_
        have he := Option.some.inj h
        subst he
        exact endsA ⟨[(4, (.lf false (.sc (.int .i64 g2.t1))))], [], 0, 27⟩ []
theorem w_laws_szBranch {a0 : BranchT} {a1 : Int} {r : Int} (h : laws_szBranch a0 a1 = some r) : Fn Tryz.prog 140 [(.ag [(.lf true (.sl (a0.Events.map eEvent)))]), (.lf false (.sc (.int .i64 a1)))] [] 0 (.lf false (.sc (.int .i64 r))) [] 0 := by
  unfold laws_szBranch at h
  refine fn_code tab_ok mixed [(1000, [(1, 0), (2, 0)]), (1001, [(1, 0)]), (1002, [(1, 0), (10, 0)]), (1003, [(4, 0)]), (1004, [(4, 0)])] Tryz.func140 rfl rfl (by simp [Tryz.f140]) (by kernel_rfl) ?_
  simp only [Tryz.f140]
  refine sA ?_
  obtain ⟨c8, hr1, h⟩ := bind_ok h
  refine Cl_sA (w_laws_szEventS hr1) ?_
  try refine sA ?_
  refine Bs_if h (fun h hc2 => ?_) (fun h hc2 => ?_)
  · try refine sA ?_
    have he := Option.some.inj h
    subst he
    exact endsA ⟨[(4, (.lf false (.sc (.int .i64 (-1)))))], [], 0, 12⟩ []
  · try refine sA ?_
    have he := Option.some.inj h
    subst he
    exact endsA ⟨[(4, (.lf false (.sc (.int .i64 c8))))], [], 0, 12⟩ []
theorem w_laws_szBranchS {a0 : (List BranchT)} {a1 : Int} {r : Int} (h : laws_szBranchS a0 a1 = some r) : Fn Tryz.prog 80 [(.lf true (.sl (a0.map eBranch))), (.lf false (.sc (.int .i64 a1)))] [] 0 (.lf false (.sc (.int .i64 r))) [] 0 := by
  unfold laws_szBranchS at h
  refine fn_code tab_ok mixed [(1000, [(0, 0), (1, 0)]), (1001, [(0, 0), (1, 0)]), (1002, [(0, 0), (1, 0), (11, 0)]), (1003, [(4, 0)]), (1004, [(0, 0), (1, 0), (5, 0)]), (1005, [(0, 0), (1, 0), (5, 0), (15, 0)]), (1006, [(0, 0), (1, 0), (5, 0)]), (1007, [(0, 0), (1, 0), (5, 0)]), (1008, [(0, 0), (1, 0), (5, 0), (25, 0)]), (1009, [(4, 0)]), (1010, [(4, 0)])] Tryz.func80 rfl rfl (by simp [Tryz.f80]) (by kernel_rfl) ?_
  simp only [Tryz.f80]
  refine sA ?_
  refine Bs_if h (fun h hc1 => ?_) (fun h hc1 => ?_)
  · try refine sA ?_
    have he := Option.some.inj h
    subst he
    exact endsA ⟨[(4, (.lf false (.sc (.int .i64 (-1)))))], [], 0, 27⟩ []
  · try refine sA ?_
    obtain ⟨y11, hl2, h⟩ := bind_ok h
    refine W_loopP (fun g1 : laws_szBranchS_G1 => ⟨[(0, (.lf true (.sl (a0.map eBranch)))), (1, (.lf false (.sc (.int .i64 g1.t1)))), (5, (.lf false (.sc (.int .i64 g1.t5))))], [], 0, 27⟩) (laws_szBranchS_L1 a0) _ _ hl2 (weakA []) ?_
    · intro n1 g1 z1 hs1 hk1
      unfold laws_szBranchS_L1 at hs1
      try dsimp only at hs1
      refine sA ?_
      refine Bs_if hs1 (fun hs1 hc3 => ?_) (fun hs1 hc3 => ?_)
      · try refine sA ?_
        obtain ⟨hp4, hs1⟩ := guard_some hs1
        have hn4 : g1.t5.toNat < a0.length := by first | omega | (simp only [List.length_set, List.length_append, List.length_replicate, List.length_map]; omega)
        try refine sA ?_
        try refine andA ?_
        obtain ⟨c10, hr5, hs1⟩ := bind_ok hs1
        refine Cl_sA (w_laws_szBranch hr5) ?_
        try refine sA ?_
        refine Bs_if hs1 (fun hs1 hc6 => ?_) (fun hs1 hc6 => ?_)
        · try refine sA ?_
          cases hs1
          cases hk1
          try dsimp only at h
          try refine sA ?_
          have he := Option.some.inj h
          subst he
          exact endsA ⟨[(4, (.lf false (.sc (.int .i64 (-1)))))], [], 0, 27⟩ []
        · try refine sA ?_
          cases hs1
          exact X_backP hk1 (weakA [])
      · try refine sA ?_
        cases hs1
        cases hk1
        try dsimp only at h
        try refine sA ?_
        have he := Option.some.inj h
        subst he
        exact endsA ⟨[(4, (.lf false (.sc (.int .i64 g1.t1))))], [], 0, 27⟩ []
theorem w_laws_szTellings {a0 : TellingsT} {a1 : Int} {r : Int} (h : laws_szTellings a0 a1 = some r) : Fn Tryz.prog 14 [(.ag [(.lf true (.sl (a0.Branches.map eBranch)))]), (.lf false (.sc (.int .i64 a1)))] [] 0 (.lf false (.sc (.int .i64 r))) [] 0 := by
  unfold laws_szTellings at h
  refine fn_code tab_ok mixed [(1000, [(1, 0), (2, 0)]), (1001, [(1, 0)]), (1002, [(1, 0), (10, 0)]), (1003, [(4, 0)]), (1004, [(4, 0)])] Tryz.func14 rfl rfl (by simp [Tryz.f14]) (by kernel_rfl) ?_
  simp only [Tryz.f14]
  refine sA ?_
  obtain ⟨c14, hr1, h⟩ := bind_ok h
  refine Cl_sA (w_laws_szBranchS hr1) ?_
  try refine sA ?_
  refine Bs_if h (fun h hc2 => ?_) (fun h hc2 => ?_)
  · try refine sA ?_
    have he := Option.some.inj h
    subst he
    exact endsA ⟨[(4, (.lf false (.sc (.int .i64 (-1)))))], [], 0, 12⟩ []
  · try refine sA ?_
    have he := Option.some.inj h
    subst he
    exact endsA ⟨[(4, (.lf false (.sc (.int .i64 c14))))], [], 0, 12⟩ []
theorem w_laws_szRegion {a0 : RegionT} {a1 : Int} {r : Int} (h : laws_szRegion a0 a1 = some r) : Fn Tryz.prog 23 [(.ag [(.lf false (.sc (.int .i64 a0.Id))), (.lf false (.sc (.int .i64 a0.Version))), (.lf true (.sl (a0.Tellings.Branches.map eBranch)))]), (.lf false (.sc (.int .i64 a1)))] [] 0 (.lf false (.sc (.int .i64 r))) [] 0 := by
  unfold laws_szRegion at h
  refine fn_code tab_ok mixed [(1000, [(1, 0), (2, 0)]), (1001, [(1, 0)]), (1002, [(1, 0), (10, 0)]), (1003, [(4, 0)]), (1004, [(4, 0)])] Tryz.func23 rfl rfl (by simp [Tryz.f23]) (by kernel_rfl) ?_
  simp only [Tryz.f23]
  refine sA ?_
  obtain ⟨c15, hr1, h⟩ := bind_ok h
  refine Cl_sA (w_laws_szTellings hr1) ?_
  try refine sA ?_
  refine Bs_if h (fun h hc2 => ?_) (fun h hc2 => ?_)
  · try refine sA ?_
    have he := Option.some.inj h
    subst he
    exact endsA ⟨[(4, (.lf false (.sc (.int .i64 (-1)))))], [], 0, 12⟩ []
  · try refine sA ?_
    have he := Option.some.inj h
    subst he
    exact endsA ⟨[(4, (.lf false (.sc (.int .i64 c15))))], [], 0, 12⟩ []
theorem w_laws_toEvent {a0 : EventT} {r : EventT} (h : laws_toEvent a0 = some r) : Fn Tryz.prog 117 [(.ag [(.lf false (.sc (.int .i64 a0.Id))), (.lf false (.sc (.int .i64 a0.Version))), (.lf false (.sc (.int .i64 a0.Kind))), (.lf false (.sc (.string a0.Name)))])] [] 0 (.ag [(.lf false (.sc (.int .i64 r.Id))), (.lf false (.sc (.int .i64 r.Version))), (.lf false (.sc (.int .i64 r.Kind))), (.lf false (.sc (.string r.Name)))]) [] 1 := by
  unfold laws_toEvent at h
  refine fn_code tab_ok mixed [(1000, [(1, 0), (2, 0)]), (1001, [(1, 0), (2, 0), (3, 0)]), (1002, [(1, 0), (2, 0), (3, 0)]), (1003, [(1, 0), (2, 0), (3, 0)]), (1004, [(1, 0), (2, 0), (3, 0)]), (1005, [(2, 0), (3, 0)]), (1006, [(2, 0)])] Tryz.func117 rfl rfl (by simp [Tryz.f117]) (by kernel_rfl) ?_
  simp only [Tryz.f117]
  refine sA ?_
  have he := Option.some.inj h
  subst he
  exact endsA ⟨[(2, (.pb 0 0))], [(0, some (true, .box [(.lf false (.sc (.int .i64 a0.Id))), (.lf false (.sc (.int .i64 a0.Version))), (.lf false (.sc (.int .i64 a0.Kind))), (.lf false (.sc (.string a0.Name)))]))], 1, 17⟩ [some 1]
theorem w_laws_toEventS {a0 : (List EventT)} {r : (List EventT)} (h : laws_toEventS a0 = some r) : Fn Tryz.prog 51 [(.lf true (.sl (a0.map eEvent)))] [] 0 (.os 0 4 0 r.length r.length false) [(0, some (true, .arr false 4 (r.map eEvent)))] 1 := by
  unfold laws_toEventS at h
  refine fn_code tab_ok mixed [(1000, [(0, 0)]), (1001, [(0, 0), (3, 0)]), (1002, [(0, 0), (3, 0), (4, 0)]), (1003, [(0, 0), (3, 0), (4, 0), (11, 0)]), (1004, [(0, 0), (3, 0), (4, 0)]), (1005, [(0, 0), (3, 0), (4, 0)]), (1006, [(2, 0)])] Tryz.func51 rfl rfl (by simp [Tryz.f51]) (by kernel_rfl) ?_
  simp only [Tryz.f51]
  simp (disch := first | assumption | (simp only [List.length_set]; assumption)) only [go_sem, Nat.reduceAdd, Nat.reduceMul, Nat.reduceSub, Nat.reduceEqDiff, ↓reduceIte, Nat.reduceLT, reduceCtorEq, Nat.reduceLeDiff, Int.reduceToNat, Int.reduceEq, Int.reduceLE, Int.reduceLT, Nat.reduceBEq, fold_eEvent_rep]
  obtain ⟨hp1, h⟩ := guard_some h
  try simp (disch := first | assumption | (simp only [List.length_set]; assumption)) only [go_sem, Nat.reduceAdd, Nat.reduceMul, Nat.reduceSub, Nat.reduceEqDiff, ↓reduceIte, Nat.reduceLT, reduceCtorEq, Nat.reduceLeDiff, Int.reduceToNat, Int.reduceEq, Int.reduceLE, Int.reduceLT, Nat.reduceBEq, fold_eEvent_rep]
  try refine andA ?_
  obtain ⟨y21, hl2, h⟩ := bind_ok h
  refine W_loopP (fun g18 : laws_toEventS_G1 => ⟨[(0, (.lf true (.sl (a0.map eEvent)))), (3, (.os 0 4 0 g18.c0.length g18.c0.length false)), (4, (.lf false (.sc (.int .i64 g18.t4))))], [(0, some (true, .arr false 4 (g18.c0.map eEvent)))], 1, 23⟩) (laws_toEventS_L1 a0) _ _ hl2 (weak_of (m := 0) [some 0] rfl rfl rfl (by rfl) (by ((try simp (disch := first | assumption | (simp only [List.length_set]; assumption)) only [go_sem, Nat.reduceAdd, Nat.reduceMul, Nat.reduceSub, Nat.reduceEqDiff, ↓reduceIte, Nat.reduceLT, reduceCtorEq, Nat.reduceLeDiff, Int.reduceToNat, Int.reduceEq, Int.reduceLE, Int.reduceLT, Nat.reduceBEq, fold_eEvent_rep]); (repeat' first | done | rfl | omega | refine And.intro ?_ ?_ | (simp; done) | (simp; omega)))) (by ((try simp (disch := first | assumption | (simp only [List.length_set]; assumption)) only [go_sem, Nat.reduceAdd, Nat.reduceMul, Nat.reduceSub, Nat.reduceEqDiff, ↓reduceIte, Nat.reduceLT, reduceCtorEq, Nat.reduceLeDiff, Int.reduceToNat, Int.reduceEq, Int.reduceLE, Int.reduceLT, Nat.reduceBEq, fold_eEvent_rep]); (repeat' first | done | rfl | omega | refine And.intro ?_ ?_ | (simp; done) | (simp; omega))))) ?_
  · intro n1 g18 z1 hs1 hk1
    unfold laws_toEventS_L1 at hs1
    try dsimp only at hs1
    simp (disch := first | assumption | (simp only [List.length_set]; assumption)) only [go_sem, Nat.reduceAdd, Nat.reduceMul, Nat.reduceSub, Nat.reduceEqDiff, ↓reduceIte, Nat.reduceLT, reduceCtorEq, Nat.reduceLeDiff, Int.reduceToNat, Int.reduceEq, Int.reduceLE, Int.reduceLT, Nat.reduceBEq, fold_eEvent_rep]
    refine Bs_if hs1 (fun hs1 hc3 => ?_) (fun hs1 hc3 => ?_)
    · try simp (disch := first | assumption | (simp only [List.length_set]; assumption)) only [go_sem, Nat.reduceAdd, Nat.reduceMul, Nat.reduceSub, Nat.reduceEqDiff, ↓reduceIte, Nat.reduceLT, reduceCtorEq, Nat.reduceLeDiff, Int.reduceToNat, Int.reduceEq, Int.reduceLE, Int.reduceLT, Nat.reduceBEq, fold_eEvent_rep]
      obtain ⟨hp4, hs1⟩ := guard_some hs1
      have hn4 : g18.t4.toNat < a0.length := by first | omega | (simp only [List.length_set, List.length_append, List.length_replicate, List.length_map]; omega)
      try simp (disch := first | assumption | (simp only [List.length_set]; assumption)) only [go_sem, Nat.reduceAdd, Nat.reduceMul, Nat.reduceSub, Nat.reduceEqDiff, ↓reduceIte, Nat.reduceLT, reduceCtorEq, Nat.reduceLeDiff, Int.reduceToNat, Int.reduceEq, Int.reduceLE, Int.reduceLT, Nat.reduceBEq, fold_eEvent_rep]
      try refine andA ?_
      obtain ⟨c20, hr5, hs1⟩ := bind_ok hs1
      refine Cl_shown (w_laws_toEvent hr5) (by first | rfl | (simp (disch := first | assumption | (simp only [List.length_set]; assumption)) only [go_sem, Nat.reduceAdd, Nat.reduceMul, Nat.reduceSub, Nat.reduceEqDiff, ↓reduceIte, Nat.reduceLT, reduceCtorEq, Nat.reduceLeDiff, Int.reduceToNat, Int.reduceEq, Int.reduceLE, Int.reduceLT, Nat.reduceBEq, fold_eEvent_rep]; first | done | rfl) | (simp only [List.length_append, List.length_cons, List.length_nil, List.length_map, List.length_set, List.length_replicate, Nat.zero_add, Nat.reduceAdd]; rfl) | (simp (disch := first | assumption | (simp only [List.length_set]; assumption)) only [go_sem, Nat.reduceAdd, Nat.reduceMul, Nat.reduceSub, Nat.reduceEqDiff, ↓reduceIte, Nat.reduceLT, reduceCtorEq, Nat.reduceLeDiff, Int.reduceToNat, Int.reduceEq, Int.reduceLE, Int.reduceLT, Nat.reduceBEq, fold_eEvent_rep]; simp only [List.length_append, List.length_cons, List.length_nil, List.length_map, List.length_set, List.length_replicate, Nat.zero_add, Nat.reduceAdd]; rfl)) (FitAll.refl _) (.inl (by first | rfl | (simp (disch := first | assumption | (simp only [List.length_set]; assumption)) only [go_sem, Nat.reduceAdd, Nat.reduceMul, Nat.reduceSub, Nat.reduceEqDiff, ↓reduceIte, Nat.reduceLT, reduceCtorEq, Nat.reduceLeDiff, Int.reduceToNat, Int.reduceEq, Int.reduceLE, Int.reduceLT, Nat.reduceBEq, fold_eEvent_rep]; done))) ?_
      try simp (disch := first | assumption | (simp only [List.length_set]; assumption)) only [go_sem, Nat.reduceAdd, Nat.reduceMul, Nat.reduceSub, Nat.reduceEqDiff, ↓reduceIte, Nat.reduceLT, reduceCtorEq, Nat.reduceLeDiff, Int.reduceToNat, Int.reduceEq, Int.reduceLE, Int.reduceLT, Nat.reduceBEq, fold_eEvent_rep]
      obtain ⟨hp6, hs1⟩ := guard_some hs1
      have hn6 : g18.t4.toNat < g18.c0.length := by first | omega | (simp only [List.length_set, List.length_append, List.length_replicate, List.length_map]; omega)
      try simp (disch := first | assumption | (simp only [List.length_set]; assumption)) only [go_sem, Nat.reduceAdd, Nat.reduceMul, Nat.reduceSub, Nat.reduceEqDiff, ↓reduceIte, Nat.reduceLT, reduceCtorEq, Nat.reduceLeDiff, Int.reduceToNat, Int.reduceEq, Int.reduceLE, Int.reduceLT, Nat.reduceBEq, fold_eEvent_rep]
      try refine andA ?_
      try refine andB ?_
      try simp (disch := first | assumption | (simp only [List.length_set]; assumption)) only [go_sem, Nat.reduceAdd, Nat.reduceMul, Nat.reduceSub, Nat.reduceEqDiff, ↓reduceIte, Nat.reduceLT, reduceCtorEq, Nat.reduceLeDiff, Int.reduceToNat, Int.reduceEq, Int.reduceLE, Int.reduceLT, Nat.reduceBEq, fold_eEvent_rep]
      cases hs1
      refine X_backP hk1 ?_
      refine weak_of (m := 0) [some 0] rfl rfl rfl (by rfl) ?_ ?_
      all_goals ((try simp (disch := first | assumption | (simp only [List.length_set]; assumption)) only [go_sem, Nat.reduceAdd, Nat.reduceMul, Nat.reduceSub, Nat.reduceEqDiff, ↓reduceIte, Nat.reduceLT, reduceCtorEq, Nat.reduceLeDiff, Int.reduceToNat, Int.reduceEq, Int.reduceLE, Int.reduceLT, Nat.reduceBEq, fold_eEvent_rep]); (repeat' first | done | rfl | omega | refine And.intro ?_ ?_ | (simp; done) | (simp; omega)))
    · try simp (disch := first | assumption | (simp only [List.length_set]; assumption)) only [go_sem, Nat.reduceAdd, Nat.reduceMul, Nat.reduceSub, Nat.reduceEqDiff, ↓reduceIte, Nat.reduceLT, reduceCtorEq, Nat.reduceLeDiff, Int.reduceToNat, Int.reduceEq, Int.reduceLE, Int.reduceLT, Nat.reduceBEq, fold_eEvent_rep]
      cases hs1
      cases hk1
      try dsimp only at h
      try simp (disch := first | assumption | (simp only [List.length_set]; assumption)) only [go_sem, Nat.reduceAdd, Nat.reduceMul, Nat.reduceSub, Nat.reduceEqDiff, ↓reduceIte, Nat.reduceLT, reduceCtorEq, Nat.reduceLeDiff, Int.reduceToNat, Int.reduceEq, Int.reduceLE, Int.reduceLT, Nat.reduceBEq, fold_eEvent_rep]
      have he := Option.some.inj h
      subst he
      refine ends_weak ⟨[(2, (.os 0 4 0 g18.c0.length g18.c0.length false))], [(0, some (true, .arr false 4 (g18.c0.map eEvent)))], 1, 23⟩ (weak_of (m := 0) [some 0] rfl rfl rfl (by rfl) ?_ ?_) ?_
      all_goals ((try simp (disch := first | assumption | (simp only [List.length_set]; assumption)) only [go_sem, Nat.reduceAdd, Nat.reduceMul, Nat.reduceSub, Nat.reduceEqDiff, ↓reduceIte, Nat.reduceLT, reduceCtorEq, Nat.reduceLeDiff, Int.reduceToNat, Int.reduceEq, Int.reduceLE, Int.reduceLT, Nat.reduceBEq, fold_eEvent_rep]); (repeat' first | done | rfl | omega | refine And.intro ?_ ?_ | (simp; done) | (simp; omega)))
theorem w_laws_toBranch_F_dp {a0 : BranchT} {r : BranchT} (h : laws_toBranch_F a0 = some r) : Fn Tryz.prog 141 [(.ag [(.lf true (.sl (a0.Events.map eEvent)))])] [] 0 (.ag [(.os 0 4 0 r.Events.length r.Events.length false)]) [(0, some (true, .arr false 4 (r.Events.map eEvent)))] 2 := by
  unfold laws_toBranch_F at h
  refine fn_code tab_ok mixed [(1000, [(1, 0), (2, 0)]), (1001, [(1, 0), (2, 0), (3, 0)]), (1002, [(2, 0), (3, 0)]), (1003, [(2, 0)])] Tryz.func141 rfl rfl (by simp [Tryz.f141]) (by kernel_rfl) ?_
  simp only [Tryz.f141]
  refine sA ?_
  obtain ⟨c22, hr1, h⟩ := bind_ok h
  refine Cl_sA (w_laws_toEventS hr1) ?_
  try refine sA ?_
  have he := Option.some.inj h
  subst he
  exact endsA ⟨[(2, (.pb 1 0))], [(0, some (true, .arr false 4 (c22.map eEvent))), (1, some (true, .box [(.os 0 4 0 c22.length c22.length false)]))], 2, 9⟩ [some 3, some 1]
theorem w_laws_toBranchS {a0 : (List BranchT)} {r : (List BranchT)} (h : laws_toBranchS a0 = some r) : Fn Tryz.prog 83 [(.lf true (.sl (a0.map eBranch)))] [] 0 (.os 0 1 0 r.length r.length false) [(0, some (true, .deep [.sl [.sc, .sc, .sc, .sc]] (r.map eBranch)))] 1 := by
  unfold laws_toBranchS at h
  refine fn_code tab_ok mixed [(1000, [(0, 0)]), (1001, [(0, 0), (3, 0)]), (1002, [(0, 0), (3, 0), (4, 0)]), (1003, [(0, 0), (3, 0), (4, 0), (11, 0)]), (1004, [(0, 0), (3, 0), (4, 0)]), (1005, [(0, 0), (3, 0), (4, 0)]), (1006, [(2, 0)])] Tryz.func83 rfl rfl (by simp [Tryz.f83]) (by kernel_rfl) ?_
  simp only [Tryz.f83]
  simp (disch := first | assumption | (simp only [List.length_set]; assumption)) only [go_sem, Nat.reduceAdd, Nat.reduceMul, Nat.reduceSub, Nat.reduceEqDiff, ↓reduceIte, Nat.reduceLT, reduceCtorEq, Nat.reduceLeDiff, Int.reduceToNat, Int.reduceEq, Int.reduceLE, Int.reduceLT, Nat.reduceBEq, fold_eBranch_rep]
  obtain ⟨hp1, h⟩ := guard_some h
  try simp (disch := first | assumption | (simp only [List.length_set]; assumption)) only [go_sem, Nat.reduceAdd, Nat.reduceMul, Nat.reduceSub, Nat.reduceEqDiff, ↓reduceIte, Nat.reduceLT, reduceCtorEq, Nat.reduceLeDiff, Int.reduceToNat, Int.reduceEq, Int.reduceLE, Int.reduceLT, Nat.reduceBEq, fold_eBranch_rep]
  try refine andA ?_
  obtain ⟨y25, hl2, h⟩ := bind_ok h
  refine W_loopP (fun g17 : laws_toBranchS_G1 => ⟨[(0, (.lf true (.sl (a0.map eBranch)))), (3, (.os 0 1 0 g17.c0.length g17.c0.length false)), (4, (.lf false (.sc (.int .i64 g17.t4))))], [(0, some (true, .deep [.sl [.sc, .sc, .sc, .sc]] (g17.c0.map eBranch)))], 1, 23⟩) (laws_toBranchS_L1 a0) _ _ hl2 (weak_of (m := 0) [some 0] rfl rfl rfl (by rfl) (by ((try simp (disch := first | assumption | (simp only [List.length_set]; assumption)) only [go_sem, Nat.reduceAdd, Nat.reduceMul, Nat.reduceSub, Nat.reduceEqDiff, ↓reduceIte, Nat.reduceLT, reduceCtorEq, Nat.reduceLeDiff, Int.reduceToNat, Int.reduceEq, Int.reduceLE, Int.reduceLT, Nat.reduceBEq, fold_eBranch_rep]); (repeat' first | done | rfl | omega | refine And.intro ?_ ?_ | (simp; done) | (simp; omega)))) (by ((try simp (disch := first | assumption | (simp only [List.length_set]; assumption)) only [go_sem, Nat.reduceAdd, Nat.reduceMul, Nat.reduceSub, Nat.reduceEqDiff, ↓reduceIte, Nat.reduceLT, reduceCtorEq, Nat.reduceLeDiff, Int.reduceToNat, Int.reduceEq, Int.reduceLE, Int.reduceLT, Nat.reduceBEq, fold_eBranch_rep]); (repeat' first | done | rfl | omega | refine And.intro ?_ ?_ | (simp; done) | (simp; omega))))) ?_
  · intro n1 g17 z1 hs1 hk1
    unfold laws_toBranchS_L1 at hs1
    try dsimp only at hs1
    simp (disch := first | assumption | (simp only [List.length_set]; assumption)) only [go_sem, Nat.reduceAdd, Nat.reduceMul, Nat.reduceSub, Nat.reduceEqDiff, ↓reduceIte, Nat.reduceLT, reduceCtorEq, Nat.reduceLeDiff, Int.reduceToNat, Int.reduceEq, Int.reduceLE, Int.reduceLT, Nat.reduceBEq, fold_eBranch_rep]
    refine Bs_if hs1 (fun hs1 hc3 => ?_) (fun hs1 hc3 => ?_)
    · try simp (disch := first | assumption | (simp only [List.length_set]; assumption)) only [go_sem, Nat.reduceAdd, Nat.reduceMul, Nat.reduceSub, Nat.reduceEqDiff, ↓reduceIte, Nat.reduceLT, reduceCtorEq, Nat.reduceLeDiff, Int.reduceToNat, Int.reduceEq, Int.reduceLE, Int.reduceLT, Nat.reduceBEq, fold_eBranch_rep]
      obtain ⟨hp4, hs1⟩ := guard_some hs1
      have hn4 : g17.t4.toNat < a0.length := by first | omega | (simp only [List.length_set, List.length_append, List.length_replicate, List.length_map]; omega)
      try simp (disch := first | assumption | (simp only [List.length_set]; assumption)) only [go_sem, Nat.reduceAdd, Nat.reduceMul, Nat.reduceSub, Nat.reduceEqDiff, ↓reduceIte, Nat.reduceLT, reduceCtorEq, Nat.reduceLeDiff, Int.reduceToNat, Int.reduceEq, Int.reduceLE, Int.reduceLT, Nat.reduceBEq, fold_eBranch_rep]
      try refine andA ?_
      obtain ⟨c24, hr5, hs1⟩ := bind_ok hs1
      refine Cl_shown (w_laws_toBranch_F_dp hr5) (by first | rfl | (simp (disch := first | assumption | (simp only [List.length_set]; assumption)) only [go_sem, Nat.reduceAdd, Nat.reduceMul, Nat.reduceSub, Nat.reduceEqDiff, ↓reduceIte, Nat.reduceLT, reduceCtorEq, Nat.reduceLeDiff, Int.reduceToNat, Int.reduceEq, Int.reduceLE, Int.reduceLT, Nat.reduceBEq, fold_eBranch_rep]; first | done | rfl) | (simp only [List.length_append, List.length_cons, List.length_nil, List.length_map, List.length_set, List.length_replicate, Nat.zero_add, Nat.reduceAdd]; rfl) | (simp (disch := first | assumption | (simp only [List.length_set]; assumption)) only [go_sem, Nat.reduceAdd, Nat.reduceMul, Nat.reduceSub, Nat.reduceEqDiff, ↓reduceIte, Nat.reduceLT, reduceCtorEq, Nat.reduceLeDiff, Int.reduceToNat, Int.reduceEq, Int.reduceLE, Int.reduceLT, Nat.reduceBEq, fold_eBranch_rep]; simp only [List.length_append, List.length_cons, List.length_nil, List.length_map, List.length_set, List.length_replicate, Nat.zero_add, Nat.reduceAdd]; rfl)) (FitAll.refl _) (.inl (by first | rfl | (simp (disch := first | assumption | (simp only [List.length_set]; assumption)) only [go_sem, Nat.reduceAdd, Nat.reduceMul, Nat.reduceSub, Nat.reduceEqDiff, ↓reduceIte, Nat.reduceLT, reduceCtorEq, Nat.reduceLeDiff, Int.reduceToNat, Int.reduceEq, Int.reduceLE, Int.reduceLT, Nat.reduceBEq, fold_eBranch_rep]; done))) ?_
      try simp (disch := first | assumption | (simp only [List.length_set]; assumption)) only [go_sem, Nat.reduceAdd, Nat.reduceMul, Nat.reduceSub, Nat.reduceEqDiff, ↓reduceIte, Nat.reduceLT, reduceCtorEq, Nat.reduceLeDiff, Int.reduceToNat, Int.reduceEq, Int.reduceLE, Int.reduceLT, Nat.reduceBEq, fold_eBranch_rep]
      obtain ⟨hp6, hs1⟩ := guard_some hs1
      have hn6 : g17.t4.toNat < g17.c0.length := by first | omega | (simp only [List.length_set, List.length_append, List.length_replicate, List.length_map]; omega)
      try simp (disch := first | assumption | (simp only [List.length_set]; assumption)) only [go_sem, Nat.reduceAdd, Nat.reduceMul, Nat.reduceSub, Nat.reduceEqDiff, ↓reduceIte, Nat.reduceLT, reduceCtorEq, Nat.reduceLeDiff, Int.reduceToNat, Int.reduceEq, Int.reduceLE, Int.reduceLT, Nat.reduceBEq, fold_eBranch_rep]
      try refine andA ?_
      try refine andB ?_
      try simp (disch := first | assumption | (simp only [List.length_set]; assumption)) only [go_sem, Nat.reduceAdd, Nat.reduceMul, Nat.reduceSub, Nat.reduceEqDiff, ↓reduceIte, Nat.reduceLT, reduceCtorEq, Nat.reduceLeDiff, Int.reduceToNat, Int.reduceEq, Int.reduceLE, Int.reduceLT, Nat.reduceBEq, fold_eBranch_rep]
      cases hs1
      refine X_backP hk1 ?_
      refine packW 0 ?_
      refine weak_of (m := 0) [some 0] rfl rfl rfl (by rfl) ?_ ?_
      all_goals ((try simp (disch := first | assumption | (simp only [List.length_set]; assumption)) only [go_sem, Nat.reduceAdd, Nat.reduceMul, Nat.reduceSub, Nat.reduceEqDiff, ↓reduceIte, Nat.reduceLT, reduceCtorEq, Nat.reduceLeDiff, Int.reduceToNat, Int.reduceEq, Int.reduceLE, Int.reduceLT, Nat.reduceBEq, fold_eBranch_rep]); (repeat' first | done | rfl | omega | refine And.intro ?_ ?_ | (simp; done) | (simp; omega)))
    · try simp (disch := first | assumption | (simp only [List.length_set]; assumption)) only [go_sem, Nat.reduceAdd, Nat.reduceMul, Nat.reduceSub, Nat.reduceEqDiff, ↓reduceIte, Nat.reduceLT, reduceCtorEq, Nat.reduceLeDiff, Int.reduceToNat, Int.reduceEq, Int.reduceLE, Int.reduceLT, Nat.reduceBEq, fold_eBranch_rep]
      cases hs1
      cases hk1
      try dsimp only at h
      try simp (disch := first | assumption | (simp only [List.length_set]; assumption)) only [go_sem, Nat.reduceAdd, Nat.reduceMul, Nat.reduceSub, Nat.reduceEqDiff, ↓reduceIte, Nat.reduceLT, reduceCtorEq, Nat.reduceLeDiff, Int.reduceToNat, Int.reduceEq, Int.reduceLE, Int.reduceLT, Nat.reduceBEq, fold_eBranch_rep]
      have he := Option.some.inj h
      subst he
      refine ends_weak ⟨[(2, (.os 0 1 0 g17.c0.length g17.c0.length false))], [(0, some (true, .deep [.sl [.sc, .sc, .sc, .sc]] (g17.c0.map eBranch)))], 1, 23⟩ (weak_of (m := 0) [some 0] rfl rfl rfl (by rfl) ?_ ?_) ?_
      all_goals ((try simp (disch := first | assumption | (simp only [List.length_set]; assumption)) only [go_sem, Nat.reduceAdd, Nat.reduceMul, Nat.reduceSub, Nat.reduceEqDiff, ↓reduceIte, Nat.reduceLT, reduceCtorEq, Nat.reduceLeDiff, Int.reduceToNat, Int.reduceEq, Int.reduceLE, Int.reduceLT, Nat.reduceBEq, fold_eBranch_rep]); (repeat' first | done | rfl | omega | refine And.intro ?_ ?_ | (simp; done) | (simp; omega)))
theorem w_laws_toTellings {a0 : TellingsT} {r : TellingsT} (h : laws_toTellings a0 = some r) : Fn Tryz.prog 16 [(.ag [(.lf true (.sl (a0.Branches.map eBranch)))])] [] 0 (.ag [(.os 0 1 0 r.Branches.length r.Branches.length false)]) [(0, some (true, .deep [.sl [.sc, .sc, .sc, .sc]] (r.Branches.map eBranch)))] 2 := by
  unfold laws_toTellings at h
  refine fn_code tab_ok mixed [(1000, [(1, 0), (2, 0)]), (1001, [(1, 0), (2, 0), (3, 0)]), (1002, [(2, 0), (3, 0)]), (1003, [(2, 0)])] Tryz.func16 rfl rfl (by simp [Tryz.f16]) (by kernel_rfl) ?_
  simp only [Tryz.f16]
  refine sA ?_
  obtain ⟨c26, hr1, h⟩ := bind_ok h
  refine Cl_sA (w_laws_toBranchS hr1) ?_
  try refine sA ?_
  have he := Option.some.inj h
  subst he
  exact endsA ⟨[(2, (.pb 1 0))], [(0, some (true, .deep [.sl [.sc, .sc, .sc, .sc]] (c26.map eBranch))), (1, some (true, .box [(.os 0 1 0 c26.length c26.length false)]))], 2, 9⟩ [some 3, some 1]
theorem w_laws_toRegion {a0 : RegionT} {r : RegionT} (h : laws_toRegion a0 = some r) : Fn Tryz.prog 25 [(.ag [(.lf false (.sc (.int .i64 a0.Id))), (.lf false (.sc (.int .i64 a0.Version))), (.lf true (.sl (a0.Tellings.Branches.map eBranch)))])] [] 0 (.ag [(.lf false (.sc (.int .i64 r.Id))), (.lf false (.sc (.int .i64 r.Version))), (.os 0 1 0 r.Tellings.Branches.length r.Tellings.Branches.length false)]) [(0, some (true, .deep [.sl [.sc, .sc, .sc, .sc]] (r.Tellings.Branches.map eBranch)))] 2 := by
  unfold laws_toRegion at h
  refine fn_code tab_ok mixed [(1000, [(1, 0), (2, 0)]), (1001, [(1, 0), (2, 0), (3, 0)]), (1002, [(1, 0), (2, 0), (3, 0)]), (1003, [(1, 0), (2, 0), (3, 0)]), (1004, [(2, 0), (3, 0)]), (1005, [(2, 0)])] Tryz.func25 rfl rfl (by simp [Tryz.f25]) (by kernel_rfl) ?_
  simp only [Tryz.f25]
  refine sA ?_
  obtain ⟨c27, hr1, h⟩ := bind_ok h
  refine Cl_sA (w_laws_toTellings hr1) ?_
  try refine sA ?_
  have he := Option.some.inj h
  subst he
  exact endsA ⟨[(2, (.pb 1 0))], [(0, some (true, .deep [.sl [.sc, .sc, .sc, .sc]] (c27.Branches.map eBranch))), (1, some (true, .box [(.lf false (.sc (.int .i64 a0.Id))), (.lf false (.sc (.int .i64 a0.Version))), (.os 0 1 0 c27.Branches.length c27.Branches.length false)]))], 2, 15⟩ [some 3, some 1]
theorem w_spec_l1In {a0 : Int} {a1 : Int} {a2 : Int} {r : Bool} (h : spec_l1In a0 a1 a2 = some r) : Fn Tryz.prog 148 [(.lf false (.sc (.int .i64 a0))), (.lf false (.sc (.int .i64 a1))), (.lf false (.sc (.int .i64 a2)))] [] 0 (.lf false (.sc (.bool r))) [] 0 := by
  unfold spec_l1In at h
  refine fn_code tab_ok mixed [] Tryz.func148 rfl rfl (by simp [Tryz.f148]) (by kernel_rfl) ?_
  simp only [Tryz.f148]
  refine sA ?_
  refine Sp_if h (fun h hc1 => ?_) (fun h hc1 => ?_)
  · try refine sA ?_
    have he := Option.some.inj h
    subst he
    exact endsA ⟨[(6, (.lf false (.sc (.bool (decide (a0 ≤ a2))))))], [], 0, 15⟩ []
  · try refine sA ?_
    have he := Option.some.inj h
    subst he
    exact endsA ⟨[(6, (.lf false (.sc (.bool false))))], [], 0, 15⟩ []
theorem w_spec_l13Version {a0 : Int} {r : Bool} (h : spec_l13Version a0 = some r) : Fn Tryz.prog 149 [(.lf false (.sc (.int .i64 a0)))] [] 0 (.lf false (.sc (.bool r))) [] 0 := by
  unfold spec_l13Version at h
  refine fn_code tab_ok mixed [] Tryz.func149 rfl rfl (by simp [Tryz.f149]) (by kernel_rfl) ?_
  simp only [Tryz.f149]
  refine sA ?_
  obtain ⟨c30, hr1, h⟩ := bind_ok h
  refine Cl_sA (w_spec_l1In hr1) ?_
  try refine sA ?_
  have he := Option.some.inj h
  subst he
  exact endsA ⟨[(2, (.lf false (.sc (.bool c30))))], [], 0, 5⟩ []
theorem w_spec_NewState {r : StateT} (h : spec_NewState = some r) : Fn Tryz.prog 151 [] [] 0 (.ag [(.lf false (.sc (.int .i64 r.Status))), (.lf false (.sc (.int .i64 r.Next))), (.lf false (.sc (.bool r.Cancel))), (.lf false (.sc (.int .i64 r.Done))), .nl, .nl]) [] 1 := by
  unfold spec_NewState at h
  refine fn_code tab_ok mixed [] Tryz.func151 rfl rfl (by simp [Tryz.f151]) (by kernel_rfl) ?_
  simp only [Tryz.f151]
  refine sA ?_
  have he := Option.some.inj h
  subst he
  exact endsA ⟨[(0, (.pb 0 0))], [(0, some (true, .box [(.lf false (.sc (.int .i64 0))), (.lf false (.sc (.int .i64 1))), (.lf false (.sc (.bool false))), (.lf false (.sc (.int .i64 0))), .nl, .nl]))], 1, 2⟩ [some 0]
theorem w_spec_l1Name {a0 : ByteArray} {r : Bool} (h : spec_l1Name a0 = some r) : Fn Tryz.prog 207 [(.lf false (.sc (.string a0)))] [] 0 (.lf false (.sc (.bool r))) [] 0 := by
  unfold spec_l1Name at h
  refine fn_code tab_ok mixed [(1000, [(0, 0)]), (1001, [(0, 0), (3, 0)]), (1002, [(0, 0), (3, 0), (7, 0)]), (1003, [(0, 0), (3, 0)]), (1004, [(0, 0), (3, 0), (32, 0)]), (1005, [(2, 0)]), (1006, [(2, 0)]), (4004, [])] Tryz.func207 rfl rfl (by simp [Tryz.f207]) (by kernel_rfl) ?_
  simp only [Tryz.f207]
  refine sA ?_
  obtain ⟨y47, hl1, h⟩ := bind_ok h
  refine W_loopP (fun g44 : spec_l1Name_G1 => ⟨[(0, (.lf false (.sc (.string a0)))), (3, (.lf false (.sc (.int .i64 g44.t3))))], [], 0, 36⟩) (spec_l1Name_L1 a0) _ _ hl1 (weakA []) ?_
  · intro n1 g44 z1 hs1 hk1
    unfold spec_l1Name_L1 at hs1
    try dsimp only at hs1
    refine sA ?_
    refine Bs_if hs1 (fun hs1 hc2 => ?_) (fun hs1 hc2 => ?_)
    · try refine sA ?_
      obtain ⟨p46, hq3, hs1⟩ := bind_ok hs1
      refine Sq_cut (fun s2 => s2 = ⟨[(0, (.lf false (.sc (.string a0)))), (3, (.lf false (.sc (.int .i64 g44.t3)))), (32, (.lf false (.sc (.bool p46.t32))))], [], 0, 36⟩) ?_ ?_
      · try refine sA ?_
        obtain ⟨hp4, hq3⟩ := guard_some hq3
        try refine sA ?_
        try refine andA ?_
        refine Sp_if hq3 (fun hq3 hc5 => ?_) (fun hq3 hc5 => ?_)
        · try refine sA ?_
          obtain ⟨hp6, hq3⟩ := guard_some hq3
          try refine sA ?_
          try refine andA ?_
          refine Sp_if hq3 (fun hq3 hc7 => ?_) (fun hq3 hc7 => ?_)
          · try refine sA ?_
            cases hq3
            exact X_cut rfl (weakA [])
          · try refine sA ?_
            obtain ⟨hp8, hq3⟩ := guard_some hq3
            try refine sA ?_
            try refine andA ?_
            refine Sp_if hq3 (fun hq3 hc9 => ?_) (fun hq3 hc9 => ?_)
            · try refine sA ?_
              obtain ⟨hp10, hq3⟩ := guard_some hq3
              try refine sA ?_
              try refine andA ?_
              cases hq3
              exact X_cut rfl (weakA [])
            · try refine sA ?_
              cases hq3
              exact X_cut rfl (weakA [])
        · try refine sA ?_
          obtain ⟨hp11, hq3⟩ := guard_some hq3
          try refine sA ?_
          try refine andA ?_
          refine Sp_if hq3 (fun hq3 hc12 => ?_) (fun hq3 hc12 => ?_)
          · try refine sA ?_
            obtain ⟨hp13, hq3⟩ := guard_some hq3
            try refine sA ?_
            try refine andA ?_
            cases hq3
            exact X_cut rfl (weakA [])
          · try refine sA ?_
            cases hq3
            exact X_cut rfl (weakA [])
      · intro s2 hJ; subst hJ
        try dsimp only at hs1
        try refine sA ?_
        refine Bs_if hs1 (fun hs1 hc14 => ?_) (fun hs1 hc14 => ?_)
        · try refine sA ?_
          cases hs1
          cases hk1
          try dsimp only at h
          try refine sA ?_
          have he := Option.some.inj h
          subst he
          exact endsA ⟨[(2, (.lf false (.sc (.bool false))))], [], 0, 36⟩ []
        · try refine sA ?_
          cases hs1
          exact X_backP hk1 (weakA [])
    · try refine sA ?_
      cases hs1
      cases hk1
      try dsimp only at h
      try refine sA ?_
      have he := Option.some.inj h
      subst he
      exact endsA ⟨[(2, (.lf false (.sc (.bool (decide ((a0.size : Int) ≤ 12))))))], [], 0, 36⟩ []
theorem w_spec_GoodEvent {a0 : EventT} {r : Bool} (h : spec_GoodEvent a0 = some r) : Fn Tryz.prog 191 [(.ag [(.lf false (.sc (.int .i64 a0.Id))), (.lf false (.sc (.int .i64 a0.Version))), (.lf false (.sc (.int .i64 a0.Kind))), (.lf false (.sc (.string a0.Name)))])] [] 0 (.lf false (.sc (.bool r))) [] 0 := by
  unfold spec_GoodEvent at h
  refine fn_code tab_ok mixed [] Tryz.func191 rfl rfl (by simp [Tryz.f191]) (by kernel_rfl) ?_
  simp only [Tryz.f191]
  refine sA ?_
  obtain ⟨c41, hr1, h⟩ := bind_ok h
  refine Cl_sA (w_spec_l1In hr1) ?_
  try refine sA ?_
  refine Sp_if h (fun h hc2 => ?_) (fun h hc2 => ?_)
  · try refine sA ?_
    obtain ⟨c42, hr3, h⟩ := bind_ok h
    refine Cl_sA (w_spec_l1In hr3) ?_
    try refine sA ?_
    refine Sp_if h (fun h hc4 => ?_) (fun h hc4 => ?_)
    · try refine sA ?_
      obtain ⟨c43, hr5, h⟩ := bind_ok h
      refine Cl_sA (w_spec_l1In hr5) ?_
      try refine sA ?_
      refine Sp_if h (fun h hc6 => ?_) (fun h hc6 => ?_)
      · try refine sA ?_
        obtain ⟨c50, hr7, h⟩ := bind_ok h
        refine Cl_sA (w_spec_l1Name hr7) ?_
        try refine sA ?_
        have he := Option.some.inj h
        subst he
        exact endsA ⟨[(2, (.lf false (.sc (.bool c50))))], [], 0, 21⟩ []
      · try refine sA ?_
        have he := Option.some.inj h
        subst he
        exact endsA ⟨[(2, (.lf false (.sc (.bool false))))], [], 0, 21⟩ []
    · try refine sA ?_
      have he := Option.some.inj h
      subst he
      exact endsA ⟨[(2, (.lf false (.sc (.bool false))))], [], 0, 21⟩ []
  · try refine sA ?_
    have he := Option.some.inj h
    subst he
    exact endsA ⟨[(2, (.lf false (.sc (.bool false))))], [], 0, 21⟩ []
theorem w_spec_l12Own {a0 : StateT} {r : StateT} (h : spec_l12Own a0 = some r) : Fn Tryz.prog 96 [(.ag [(.lf false (.sc (.int .i64 a0.Status))), (.lf false (.sc (.int .i64 a0.Next))), (.lf false (.sc (.bool a0.Cancel))), (.lf false (.sc (.int .i64 a0.Done))), (.lf true (.sl (a0.Signals.map eS))), (.lf true (.sl (a0.Timers.map eS)))])] [] 0 (.ag [(.lf false (.sc (.int .i64 r.Status))), (.lf false (.sc (.int .i64 r.Next))), (.lf false (.sc (.bool r.Cancel))), (.lf false (.sc (.int .i64 r.Done))), (.os 0 1 0 r.Signals.length r.Signals.length false), (.os 1 1 0 r.Timers.length r.Timers.length false)]) [(0, some (true, .arr false 1 (r.Signals.map eS))), (1, some (true, .arr false 1 (r.Timers.map eS)))] 3 := by
  unfold spec_l12Own at h
  refine fn_code tab_ok mixed [(1000, [(1, 0), (2, 0)]), (1001, [(1, 0), (2, 0)]), (1002, [(1, 0), (2, 0)]), (1003, [(2, 0)])] Tryz.func96 rfl rfl (by simp [Tryz.f96]) (by kernel_rfl) ?_
  simp only [Tryz.f96]
  refine sA ?_
  obtain ⟨hp1, h⟩ := guard_some h
  try refine sA ?_
  try refine andA ?_
  obtain ⟨hp2, h⟩ := guard_some h
  try refine sA ?_
  try refine andA ?_
  have he := Option.some.inj h
  subst he
  exact endsA ⟨[(2, (.pb 2 0))], [(0, some (true, .arr false 1 ((([]) ++ a0.Signals).map eS))), (1, some (true, .arr false 1 ((([]) ++ a0.Timers).map eS))), (2, some (true, .box [(.lf false (.sc (.int .i64 a0.Status))), (.lf false (.sc (.int .i64 a0.Next))), (.lf false (.sc (.bool a0.Cancel))), (.lf false (.sc (.int .i64 a0.Done))), (.os 0 1 0 ((([]) ++ a0.Signals).length) ((([]) ++ a0.Signals).length) false), (.os 1 1 0 ((([]) ++ a0.Timers).length) ((([]) ++ a0.Timers).length) false)]))], 3, 14⟩ [some 3, some 5, some 1]
theorem w_spec_l12At {a0 : (List ByteArray)} {a1 : ByteArray} {r : Int} (h : spec_l12At a0 a1 = some r) : Fn Tryz.prog 177 [(.lf true (.sl (a0.map eS))), (.lf false (.sc (.string a1)))] [] 0 (.lf false (.sc (.int .i64 r))) [] 0 := by
  unfold spec_l12At at h
  refine fn_code tab_ok mixed [(1000, [(0, 0), (1, 0)]), (1001, [(1, 0), (7, 0), (8, 0), (9, 0)]), (1002, [(1, 0), (7, 0), (8, 0), (9, 0), (10, 0)]), (1003, [(1, 0), (5, 0), (6, 0), (7, 0), (8, 0), (9, 0)]), (1004, [(1, 0), (5, 0), (7, 0), (8, 0), (9, 0), (16, 0)]), (1005, [(4, 0)]), (1006, [(1, 0), (7, 0), (8, 0), (9, 0)]), (1007, [(4, 0)])] Tryz.func177 rfl rfl (by simp [Tryz.f177]) (by kernel_rfl) ?_
  simp only [Tryz.f177]
  refine sA ?_
  obtain ⟨y55, hl1, h⟩ := bind_ok h
  refine W_loopP (fun g54 : spec_l12At_G1 => ⟨[(1, (.lf false (.sc (.string a1)))), (7, (.lf true (.sl (a0.map eS)))), (8, (.lf false (.sc (.int .i64 ((a0.length : Nat) : Int))))), (9, (.lf false (.sc (.int .i64 g54.t9))))], [], 0, 19⟩) (spec_l12At_L1 a0 a1) _ _ hl1 (weakA []) ?_
  · intro n1 g54 z1 hs1 hk1
    unfold spec_l12At_L1 at hs1
    try dsimp only at hs1
    refine sA ?_
    refine Bs_if hs1 (fun hs1 hc2 => ?_) (fun hs1 hc2 => ?_)
    · try refine sA ?_
      obtain ⟨hp3, hs1⟩ := guard_some hs1
      have hn3 : g54.t9.toNat < a0.length := by first | omega | (simp only [List.length_set, List.length_append, List.length_replicate, List.length_map]; omega)
      try refine sA ?_
      try refine andA ?_
      refine Bs_if hs1 (fun hs1 hc4 => ?_) (fun hs1 hc4 => ?_)
      · try refine sA ?_
        cases hs1
        cases hk1
        try dsimp only at h
        try refine sA ?_
        have he := Option.some.inj h
        subst he
        exact endsA ⟨[(4, (.lf false (.sc (.int .i64 g54.t9))))], [], 0, 19⟩ []
      · try refine sA ?_
        cases hs1
        exact X_backP hk1 (weakA [])
    · try refine sA ?_
      cases hs1
      cases hk1
      try dsimp only at h
      try refine sA ?_
      have he := Option.some.inj h
      subst he
      exact endsA ⟨[(4, (.lf false (.sc (.int .i64 (-1)))))], [], 0, 19⟩ []
theorem w_spec_l12Timer {a0 : (List ByteArray)} {a1 : ByteArray} {r : (List ByteArray)} (h : spec_l12Timer a0 a1 = some r) : Fn Tryz.prog 178 [(.lf true (.sl (a0.map eS))), (.lf false (.sc (.string a1)))] [] 0 (.os 0 1 0 r.length r.length false) [(0, some (true, .arr false 1 (r.map eS)))] 1 := by
  unfold spec_l12Timer at h
  refine fn_code tab_ok mixed [(1000, [(0, 0), (1, 0)]), (1001, [(0, 0), (1, 0), (5, 0)]), (1002, [(0, 0), (1, 0), (5, 0), (6, 0)]), (1003, [(1, 0), (5, 0), (6, 0), (13, 0), (14, 0), (15, 0)]), (1004, [(1, 0), (5, 0), (6, 0), (13, 0), (14, 0), (15, 0), (16, 0)]), (1005, [(1, 0), (5, 0), (6, 0), (8, 0), (13, 0), (14, 0), (15, 0)]), (1006, [(1, 0), (5, 0), (6, 0), (8, 0), (13, 0), (14, 0), (15, 0), (21, 0)]), (1007, [(1, 0), (5, 0), (6, 0), (8, 0), (13, 0), (14, 0), (15, 0), (28, 0)]), (1008, [(1, 0), (5, 0), (8, 0), (13, 0), (14, 0), (15, 0)]), (1009, [(1, 0), (5, 0), (6, 0), (8, 0), (13, 0), (14, 0), (15, 0)]), (1010, [(1, 0), (5, 0), (6, 0), (13, 0), (14, 0), (15, 0)]), (1011, [(1, 0), (5, 0), (6, 0), (13, 0), (14, 0), (15, 0)]), (1012, [(1, 0), (5, 0), (39, 0)]), (1013, [(5, 0)]), (1014, [(4, 0)]), (4007, [])] Tryz.func178 rfl rfl (by simp [Tryz.f178]) (by kernel_rfl) ?_
  simp only [Tryz.f178]
  refine sA ?_
  obtain ⟨c60, hr1, h⟩ := bind_ok h
  refine Cl_sA (w_spec_l12At hr1) ?_
  try refine sA ?_
  obtain ⟨y64, hl2, h⟩ := bind_ok h
  refine W_loopP (fun g61 : spec_l12Timer_G1 => ⟨[(1, (.lf false (.sc (.string a1)))), (5, (.os 0 1 0 g61.c0.length g61.c0.length false)), (6, (.lf false (.sc (.bool g61.t6)))), (13, (.lf true (.sl (a0.map eS)))), (14, (.lf false (.sc (.int .i64 ((a0.length : Nat) : Int))))), (15, (.lf false (.sc (.int .i64 g61.t15))))], [(0, some (true, .arr false 1 (g61.c0.map eS)))], 1, 45⟩) (spec_l12Timer_L1 a0 a1) _ _ hl2 (weakA [none]) ?_
  · intro n1 g61 z1 hs1 hk1
    unfold spec_l12Timer_L1 at hs1
    try dsimp only at hs1
    refine sA ?_
    refine Bs_if hs1 (fun hs1 hc3 => ?_) (fun hs1 hc3 => ?_)
    · try refine sA ?_
      obtain ⟨hp4, hs1⟩ := guard_some hs1
      have hn4 : g61.t15.toNat < a0.length := by first | omega | (simp only [List.length_set, List.length_append, List.length_replicate, List.length_map]; omega)
      try refine sA ?_
      try refine andA ?_
      refine Bs_if hs1 (fun hs1 hc5 => ?_) (fun hs1 hc5 => ?_)
      · try refine sA ?_
        cases hs1
        exact X_backP hk1 (weakA [some 0])
      · try refine sA ?_
        obtain ⟨p63, hq6, hs1⟩ := bind_ok hs1
        refine Sq_cut (fun s2 => s2 = ⟨[(1, (.lf false (.sc (.string a1)))), (5, (.os 0 1 0 g61.c0.length g61.c0.length false)), (6, (.lf false (.sc (.bool g61.t6)))), (8, (.lf false (.sc (.string (nth a0 g61.t15.toNat))))), (13, (.lf true (.sl (a0.map eS)))), (14, (.lf false (.sc (.int .i64 ((a0.length : Nat) : Int))))), (15, (.lf false (.sc (.int .i64 g61.t15)))), (28, (.lf false (.sc (.bool p63.t28))))], [(0, some (true, .arr false 1 (g61.c0.map eS)))], 1, 45⟩) ?_ ?_
        · try refine sA ?_
          refine Sp_if hq6 (fun hq6 hc7 => ?_) (fun hq6 hc7 => ?_)
          · try refine sA ?_
            cases hq6
            exact X_cut rfl (weakA [some 0])
          · try refine sA ?_
            cases hq6
            exact X_cut rfl (weakA [some 0])
        · intro s2 hJ; subst hJ
          try dsimp only at hs1
          try refine sA ?_
          refine Bs_if hs1 (fun hs1 hc8 => ?_) (fun hs1 hc8 => ?_)
          · try refine sA ?_
            obtain ⟨hp9, hs1⟩ := guard_some hs1
            try refine sA ?_
            try refine andA ?_
            obtain ⟨hp10, hs1⟩ := guard_some hs1
            try refine sA ?_
            try refine andA ?_
            cases hs1
            exact X_backP hk1 (weakA [some 4])
          · try refine sA ?_
            obtain ⟨hp11, hs1⟩ := guard_some hs1
            try refine sA ?_
            try refine andA ?_
            cases hs1
            exact X_backP hk1 (weakA [some 2])
    · try refine sA ?_
      cases hs1
      cases hk1
      try dsimp only at h
      try refine sA ?_
      refine Bs_if h (fun h hc12 => ?_) (fun h hc12 => ?_)
      · try refine sA ?_
        obtain ⟨hp13, h⟩ := guard_some h
        try refine sA ?_
        try refine andA ?_
        have he := Option.some.inj h
        subst he
        exact endsA ⟨[(4, (.os 0 1 0 ((g61.c0 ++ ([a1])).length) ((g61.c0 ++ ([a1])).length) false))], [(0, some (true, .arr false 1 ((g61.c0 ++ ([a1])).map eS)))], 1, 45⟩ [some 2]
      · try refine sA ?_
        have he := Option.some.inj h
        subst he
        exact endsA ⟨[(4, (.os 0 1 0 g61.c0.length g61.c0.length false))], [(0, some (true, .arr false 1 (g61.c0.map eS)))], 1, 45⟩ [some 0]
theorem w_spec_l12Names {a0 : (List ByteArray)} {a1 : Bool} {r : Bool} (h : spec_l12Names a0 a1 = some r) : Fn Tryz.prog 208 [(.lf true (.sl (a0.map eS))), (.lf false (.sc (.bool a1)))] [] 0 (.lf false (.sc (.bool r))) [] 0 := by
  unfold spec_l12Names at h
  refine fn_code tab_ok mixed [(1000, [(0, 0), (1, 0)]), (1001, [(0, 0), (1, 0), (9, 0), (10, 0), (11, 0)]), (1002, [(0, 0), (1, 0), (9, 0), (10, 0), (11, 0), (12, 0)]), (1003, [(0, 0), (1, 0), (5, 0), (6, 0), (9, 0), (10, 0), (11, 0)]), (1004, [(0, 0), (1, 0), (5, 0), (6, 0), (9, 0), (10, 0), (11, 0), (18, 0)]), (1005, [(4, 0)]), (1006, [(0, 0), (1, 0), (5, 0), (6, 0), (9, 0), (10, 0), (11, 0), (21, 0), (22, 0), (23, 0)]), (1007, [(0, 0), (1, 0), (5, 0), (6, 0), (9, 0), (10, 0), (11, 0), (21, 0), (22, 0), (23, 0), (24, 0)]), (1008, [(0, 0), (1, 0), (5, 0), (6, 0), (7, 0), (8, 0), (9, 0), (10, 0), (11, 0), (21, 0), (22, 0), (23, 0)]), (1009, [(0, 0), (1, 0), (5, 0), (6, 0), (9, 0), (10, 0), (11, 0), (21, 0), (22, 0), (23, 0), (44, 0)]), (1010, [(4, 0)]), (1011, [(0, 0), (1, 0), (5, 0), (6, 0), (9, 0), (10, 0), (11, 0), (21, 0), (22, 0), (23, 0)]), (1012, [(0, 0), (1, 0), (9, 0), (10, 0), (11, 0)]), (1013, [(4, 0)]), (4009, [])] Tryz.func208 rfl rfl (by simp [Tryz.f208]) (by kernel_rfl) ?_
  simp only [Tryz.f208]
  refine sA ?_
  obtain ⟨y84, hl1, h⟩ := bind_ok h
  refine W_loopP (fun g69 : spec_l12Names_G1 => ⟨[(0, (.lf true (.sl (a0.map eS)))), (1, (.lf false (.sc (.bool a1)))), (9, (.lf true (.sl (a0.map eS)))), (10, (.lf false (.sc (.int .i64 ((a0.length : Nat) : Int))))), (11, (.lf false (.sc (.int .i64 g69.t11))))], [], 0, 50⟩) (spec_l12Names_L1 a0 a1) _ _ hl1 (weakA []) ?_
  · intro n1 g69 z1 hs1 hk1
    unfold spec_l12Names_L1 at hs1
    try dsimp only at hs1
    refine sA ?_
    refine Bs_if hs1 (fun hs1 hc2 => ?_) (fun hs1 hc2 => ?_)
    · try refine sA ?_
      obtain ⟨hp3, hs1⟩ := guard_some hs1
      have hn3 : g69.t11.toNat < a0.length := by first | omega | (simp only [List.length_set, List.length_append, List.length_replicate, List.length_map]; omega)
      try refine sA ?_
      try refine andA ?_
      obtain ⟨c77, hr4, hs1⟩ := bind_ok hs1
      refine Cl_sA (w_spec_l1Name hr4) ?_
      try refine sA ?_
      refine Bs_if hs1 (fun hs1 hc5 => ?_) (fun hs1 hc5 => ?_)
      · try refine sA ?_
        cases hs1
        cases hk1
        try dsimp only at h
        try refine sA ?_
        have he := Option.some.inj h
        subst he
        exact endsA ⟨[(4, (.lf false (.sc (.bool false))))], [], 0, 50⟩ []
      · try refine sA ?_
        obtain ⟨hp6, hs1⟩ := guard_some hs1
        try refine sA ?_
        try refine andA ?_
        obtain ⟨y81, hl7, hs1⟩ := bind_ok hs1
        refine W_loopP (fun g78 : spec_l12Names_G2 => ⟨[(0, (.lf true (.sl (a0.map eS)))), (1, (.lf false (.sc (.bool a1)))), (5, (.lf false (.sc (.int .i64 g69.t11)))), (6, (.lf false (.sc (.string (nth a0 g69.t11.toNat))))), (9, (.lf true (.sl (a0.map eS)))), (10, (.lf false (.sc (.int .i64 ((a0.length : Nat) : Int))))), (11, (.lf false (.sc (.int .i64 g69.t11)))), (21, (.lf true (.sl ((a0.take g69.t11.toNat).map eS)))), (22, (.lf false (.sc (.int .i64 (((a0.take g69.t11.toNat).length : Nat) : Int))))), (23, (.lf false (.sc (.int .i64 g78.t23))))], [], 0, 50⟩) (spec_l12Names_L2 a0 g69 a1) _ _ hl7 (weakA []) ?_
        · intro n2 g78 z2 hs2 hk2
          unfold spec_l12Names_L2 at hs2
          try dsimp only at hs2
          refine sA ?_
          refine Bs_if hs2 (fun hs2 hc8 => ?_) (fun hs2 hc8 => ?_)
          · try refine sA ?_
            obtain ⟨hp9, hs2⟩ := guard_some hs2
            have hn9 : g78.t23.toNat < (a0.take g69.t11.toNat).length := by first | omega | (simp only [List.length_set, List.length_append, List.length_replicate, List.length_map]; omega)
            try refine sA ?_
            try refine andA ?_
            obtain ⟨p80, hq10, hs2⟩ := bind_ok hs2
            refine Sq_cut (fun s2 => s2 = ⟨[(0, (.lf true (.sl (a0.map eS)))), (1, (.lf false (.sc (.bool a1)))), (5, (.lf false (.sc (.int .i64 g69.t11)))), (6, (.lf false (.sc (.string (nth a0 g69.t11.toNat))))), (9, (.lf true (.sl (a0.map eS)))), (10, (.lf false (.sc (.int .i64 ((a0.length : Nat) : Int))))), (11, (.lf false (.sc (.int .i64 g69.t11)))), (21, (.lf true (.sl ((a0.take g69.t11.toNat).map eS)))), (22, (.lf false (.sc (.int .i64 (((a0.take g69.t11.toNat).length : Nat) : Int))))), (23, (.lf false (.sc (.int .i64 g78.t23)))), (44, (.lf false (.sc (.bool p80.t44))))], [], 0, 50⟩) ?_ ?_
            · try refine sA ?_
              refine Sp_if hq10 (fun hq10 hc11 => ?_) (fun hq10 hc11 => ?_)
              · try refine sA ?_
                cases hq10
                exact X_cut rfl (weakA [])
              · try refine sA ?_
                refine Sp_if hq10 (fun hq10 hc12 => ?_) (fun hq10 hc12 => ?_)
                · try refine sA ?_
                  refine Sp_if hq10 (fun hq10 hc13 => ?_) (fun hq10 hc13 => ?_)
                  · try refine sA ?_
                    cases hq10
                    exact X_cut rfl (weakA [])
                  · try refine sA ?_
                    cases hq10
                    exact X_cut rfl (weakA [])
                · try refine sA ?_
                  cases hq10
                  exact X_cut rfl (weakA [])
            · intro s2 hJ; subst hJ
              try dsimp only at hs2
              try refine sA ?_
              refine Bs_if hs2 (fun hs2 hc14 => ?_) (fun hs2 hc14 => ?_)
              · try refine sA ?_
                cases hs2
                cases hk2
                try dsimp only at hs1
                try refine sA ?_
                cases hs1
                cases hk1
                try dsimp only at h
                try refine sA ?_
                have he := Option.some.inj h
                subst he
                exact endsA ⟨[(4, (.lf false (.sc (.bool false))))], [], 0, 50⟩ []
              · try refine sA ?_
                cases hs2
                exact X_backP hk2 (weakA [])
          · try refine sA ?_
            cases hs2
            cases hk2
            try dsimp only at hs1
            try refine sA ?_
            cases hs1
            exact X_backP hk1 (weakA [])
    · try refine sA ?_
      cases hs1
      cases hk1
      try dsimp only at h
      try refine sA ?_
      have he := Option.some.inj h
      subst he
      exact endsA ⟨[(4, (.lf false (.sc (.bool (decide (((a0.length : Nat) : Int) ≤ 30))))))], [], 0, 50⟩ []
theorem w_spec_GoodState {a0 : StateT} {r : Bool} (h : spec_GoodState a0 = some r) : Fn Tryz.prog 192 [(.ag [(.lf false (.sc (.int .i64 a0.Status))), (.lf false (.sc (.int .i64 a0.Next))), (.lf false (.sc (.bool a0.Cancel))), (.lf false (.sc (.int .i64 a0.Done))), (.lf true (.sl (a0.Signals.map eS))), (.lf true (.sl (a0.Timers.map eS)))])] [] 0 (.lf false (.sc (.bool r))) [] 0 := by
  unfold spec_GoodState at h
  refine fn_code tab_ok mixed [(1000, [(1, 0)]), (1001, [(1, 0), (30, 0)]), (1002, [(2, 0)]), (1003, [(1, 0), (33, 0)]), (1004, [(2, 0)]), (1005, [(2, 0)]), (4001, [])] Tryz.func192 rfl rfl (by simp [Tryz.f192]) (by kernel_rfl) ?_
  simp only [Tryz.f192]
  refine sA ?_
  obtain ⟨p90, hq1, h⟩ := bind_ok h
  refine Sq_cut (fun s2 => s2 = ⟨[(1, (.pb 0 0)), (30, (.lf false (.sc (.bool p90.t30))))], [(0, some (true, .box [(.lf false (.sc (.int .i64 a0.Status))), (.lf false (.sc (.int .i64 a0.Next))), (.lf false (.sc (.bool a0.Cancel))), (.lf false (.sc (.int .i64 a0.Done))), (.lf true (.sl (a0.Signals.map eS))), (.lf true (.sl (a0.Timers.map eS)))]))], 1, 62⟩) ?_ ?_
  · try refine sA ?_
    obtain ⟨c67, hr2, hq1⟩ := bind_ok hq1
    refine Cl_sA (w_spec_l1In hr2) ?_
    try refine sA ?_
    refine Sp_if hq1 (fun hq1 hc3 => ?_) (fun hq1 hc3 => ?_)
    · try refine sA ?_
      cases hq1
      exact X_cut rfl (weakA [some 0])
    · try refine sA ?_
      obtain ⟨c68, hr4, hq1⟩ := bind_ok hq1
      refine Cl_sA (w_spec_l1In hr4) ?_
      try refine sA ?_
      refine Sp_if hq1 (fun hq1 hc5 => ?_) (fun hq1 hc5 => ?_)
      · try refine sA ?_
        cases hq1
        exact X_cut rfl (weakA [some 0])
      · try refine sA ?_
        obtain ⟨c87, hr6, hq1⟩ := bind_ok hq1
        refine Cl_sA (w_spec_l12Names hr6) ?_
        try refine sA ?_
        refine Sp_if hq1 (fun hq1 hc7 => ?_) (fun hq1 hc7 => ?_)
        · try refine sA ?_
          cases hq1
          exact X_cut rfl (weakA [some 0])
        · try refine sA ?_
          obtain ⟨c88, hr8, hq1⟩ := bind_ok hq1
          refine Cl_sA (w_spec_l12Names hr8) ?_
          try refine sA ?_
          refine Sp_if hq1 (fun hq1 hc9 => ?_) (fun hq1 hc9 => ?_)
          · try refine sA ?_
            cases hq1
            exact X_cut rfl (weakA [some 0])
          · try refine sA ?_
            obtain ⟨c89, hr10, hq1⟩ := bind_ok hq1
            refine Cl_sA (w_spec_l1In hr10) ?_
            try refine sA ?_
            cases hq1
            exact X_cut rfl (weakA [some 0])
  · intro s2 hJ; subst hJ
    try dsimp only at h
    try refine sA ?_
    refine Bs_if h (fun h hc11 => ?_) (fun h hc11 => ?_)
    · try refine sA ?_
      have he := Option.some.inj h
      subst he
      exact endsA ⟨[(2, (.lf false (.sc (.bool false))))], [], 0, 62⟩ []
    · try refine sA ?_
      refine Bs_if h (fun h hc12 => ?_) (fun h hc12 => ?_)
      · try refine sA ?_
        refine Sp_if h (fun h hc13 => ?_) (fun h hc13 => ?_)
        · try refine sA ?_
          refine Sp_if h (fun h hc14 => ?_) (fun h hc14 => ?_)
          · try refine sA ?_
            refine Sp_if h (fun h hc15 => ?_) (fun h hc15 => ?_)
            · try refine sA ?_
              refine Sp_if h (fun h hc16 => ?_) (fun h hc16 => ?_)
              · try refine sA ?_
                have he := Option.some.inj h
                subst he
                exact endsA ⟨[(2, (.lf false (.sc (.bool (((a0.Timers.length : Nat) : Int) == 0)))))], [], 0, 62⟩ []
              · try refine sA ?_
                have he := Option.some.inj h
                subst he
                exact endsA ⟨[(2, (.lf false (.sc (.bool false))))], [], 0, 62⟩ []
            · try refine sA ?_
              have he := Option.some.inj h
              subst he
              exact endsA ⟨[(2, (.lf false (.sc (.bool false))))], [], 0, 62⟩ []
          · try refine sA ?_
            have he := Option.some.inj h
            subst he
            exact endsA ⟨[(2, (.lf false (.sc (.bool false))))], [], 0, 62⟩ []
        · try refine sA ?_
          have he := Option.some.inj h
          subst he
          exact endsA ⟨[(2, (.lf false (.sc (.bool false))))], [], 0, 62⟩ []
      · try refine sA ?_
        have he := Option.some.inj h
        subst he
        exact endsA ⟨[(2, (.lf false (.sc (.bool (decide (a0.Next > 1))))))], [], 0, 62⟩ []
theorem w_spec_l12Apply {a0 : StateT} {a1 : EventT} {r : (StateT × Bool)} (h : spec_l12Apply a0 a1 = some r) : Fn Tryz.prog 152 [(.ag [(.lf false (.sc (.int .i64 a0.Status))), (.lf false (.sc (.int .i64 a0.Next))), (.lf false (.sc (.bool a0.Cancel))), (.lf false (.sc (.int .i64 a0.Done))), (.lf true (.sl (a0.Signals.map eS))), (.lf true (.sl (a0.Timers.map eS)))]), (.ag [(.lf false (.sc (.int .i64 a1.Id))), (.lf false (.sc (.int .i64 a1.Version))), (.lf false (.sc (.int .i64 a1.Kind))), (.lf false (.sc (.string a1.Name)))])] [] 0 (.tu [(.ag [(.lf false (.sc (.int .i64 r.1.Status))), (.lf false (.sc (.int .i64 r.1.Next))), (.lf false (.sc (.bool r.1.Cancel))), (.lf false (.sc (.int .i64 r.1.Done))), (.lf true (.sl (r.1.Signals.map eS))), (.lf true (.sl (r.1.Timers.map eS)))]), (.lf false (.sc (.bool r.2)))]) [] 1 := by
  unfold spec_l12Apply at h
  refine fn_code tab_ok mixed [(22, [(0, 2)]), (1000, [(2, 0), (3, 0), (4, 0)]), (1001, [(2, 0), (3, 0), (4, 0), (29, 0)]), (1002, [(4, 0), (5, 0)]), (1003, [(2, 0), (3, 0), (4, 0)]), (1004, [(2, 0), (3, 0), (4, 0), (34, 0)]), (1005, [(2, 0), (4, 0)]), (1006, [(2, 0), (4, 0)]), (1007, [(2, 0), (3, 0), (4, 0), (34, 0), (37, 0)]), (1008, [(2, 0), (4, 0)]), (1009, [(2, 0), (3, 0), (4, 0), (34, 0), (40, 0)]), (1010, [(2, 0), (3, 0), (4, 0), (53, 0)]), (1011, [(4, 0), (5, 0)]), (1012, [(2, 0), (4, 0)]), (1013, [(2, 0), (3, 0), (4, 0), (34, 0), (62, 0)]), (1014, [(2, 0), (4, 0)]), (1015, [(2, 0), (3, 0), (4, 0), (34, 0), (68, 0)]), (1016, [(2, 0), (4, 0)]), (1017, [(2, 0), (4, 0), (76, 0)]), (1018, [(2, 0), (4, 0), (79, 0)]), (1019, [(4, 0), (5, 0)]), (1020, [(2, 0), (4, 0)]), (1021, [(2, 0), (4, 0)]), (1022, [(4, 0), (5, 0)]), (3000, []), (4001, []), (4010, [])] Tryz.func152 rfl rfl (by simp [Tryz.f152]) (by kernel_rfl) ?_
  simp only [Tryz.f152]
  refine sA ?_
  obtain ⟨p52, hq1, h⟩ := bind_ok h
  refine Sq_cut (fun s2 => s2 = ⟨[(2, (.pb 0 0)), (3, (.pb 1 0)), (4, (.pb 2 0)), (29, (.lf false (.sc (.bool p52.t29))))], [(0, some (true, .box [(.lf false (.sc (.int .i64 a0.Status))), (.lf false (.sc (.int .i64 a0.Next))), (.lf false (.sc (.bool a0.Cancel))), (.lf false (.sc (.int .i64 a0.Done))), (.lf true (.sl (a0.Signals.map eS))), (.lf true (.sl (a0.Timers.map eS)))])), (1, some (true, .box [(.lf false (.sc (.int .i64 a1.Id))), (.lf false (.sc (.int .i64 a1.Version))), (.lf false (.sc (.int .i64 a1.Kind))), (.lf false (.sc (.string a1.Name)))])), (2, some (true, .box [(.lf false (.sc (.int .i64 0))), (.lf false (.sc (.int .i64 0))), (.lf false (.sc (.bool false))), (.lf false (.sc (.int .i64 0))), .nl, .nl]))], 3, 89⟩) ?_ ?_
  · try refine sA ?_
    obtain ⟨c51, hr2, hq1⟩ := bind_ok hq1
    refine Cl_sA (w_spec_GoodEvent hr2) ?_
    try refine sA ?_
    refine Sp_if hq1 (fun hq1 hc3 => ?_) (fun hq1 hc3 => ?_)
    · try refine sA ?_
      cases hq1
      exact X_cut rfl (weakA [some 0, some 1, some 2])
    · try refine sA ?_
      refine Sp_if hq1 (fun hq1 hc4 => ?_) (fun hq1 hc4 => ?_)
      · try refine sA ?_
        cases hq1
        exact X_cut rfl (weakA [some 0, some 1, some 2])
      · try refine sA ?_
        refine Sp_if hq1 (fun hq1 hc5 => ?_) (fun hq1 hc5 => ?_)
        · try refine sA ?_
          cases hq1
          exact X_cut rfl (weakA [some 0, some 1, some 2])
        · try refine sA ?_
          cases hq1
          exact X_cut rfl (weakA [some 0, some 1, some 2])
  · intro s2 hJ; subst hJ
    try dsimp only at h
    try refine sA ?_
    refine Bs_if h (fun h hc6 => ?_) (fun h hc6 => ?_)
    · try refine sA ?_
      have he := Option.some.inj h
      subst he
      exact endsA ⟨[(4, (.pb 0 0)), (5, (.lf false (.sc (.bool false))))], [(0, some (true, .box [(.lf false (.sc (.int .i64 a0.Status))), (.lf false (.sc (.int .i64 a0.Next))), (.lf false (.sc (.bool a0.Cancel))), (.lf false (.sc (.int .i64 a0.Done))), (.lf true (.sl (a0.Signals.map eS))), (.lf true (.sl (a0.Timers.map eS)))]))], 1, 89⟩ [some 2]
    · try refine sA ?_
      obtain ⟨c53, hr7, h⟩ := bind_ok h
      refine Cl_sA (w_spec_l12Own hr7) ?_
      try refine sA ?_
      obtain ⟨q8, hq8, h⟩ := bind_ok h
      refine Sq_cut (fun s2 => ∃ p66 : spec_l12Apply_J3000, q8 = .inl p66 ∧ s2 = ⟨[(2, (.pb 0 0)), (4, (.pb 1 0))], [(0, some (true, .box [(.lf false (.sc (.int .i64 p66.b0_0))), (.lf false (.sc (.int .i64 c53.Next))), (.lf false (.sc (.bool p66.b0_2))), (.lf false (.sc (.int .i64 p66.b0_3))), (.os 2 1 0 p66.c2.length p66.c2.length false), (.os 3 1 0 p66.c3.length p66.c3.length false)])), (1, some (true, .box [(.lf false (.sc (.int .i64 0))), (.lf false (.sc (.int .i64 0))), (.lf false (.sc (.bool false))), (.lf false (.sc (.int .i64 0))), .nl, .nl])), (2, some (true, .arr false 1 (p66.c2.map eS))), (3, some (true, .arr false 1 (p66.c3.map eS)))], 4, 89⟩) ?_ ?_
      · try refine sA ?_
        refine Bs_if hq8 (fun hq8 hc9 => ?_) (fun hq8 hc9 => ?_)
        · try refine sA ?_
          cases hq8
          exact X_cut ⟨_, rfl, rfl⟩ (weakA [some 0, some 2, some 3, some 4])
        · try refine sA ?_
          refine Bs_if hq8 (fun hq8 hc10 => ?_) (fun hq8 hc10 => ?_)
          · try refine sA ?_
            obtain ⟨p59, hq11, hq8⟩ := bind_ok hq8
            refine Sq_cut (fun s2 => s2 = ⟨[(2, (.pb 0 0)), (3, (.pb 1 0)), (4, (.pb 2 0)), (53, (.lf false (.sc (.bool p59.t53))))], [(0, some (true, .box [(.lf false (.sc (.int .i64 c53.Status))), (.lf false (.sc (.int .i64 c53.Next))), (.lf false (.sc (.bool c53.Cancel))), (.lf false (.sc (.int .i64 c53.Done))), (.os 3 1 0 c53.Signals.length c53.Signals.length false), (.os 4 1 0 c53.Timers.length c53.Timers.length false)])), (1, some (true, .box [(.lf false (.sc (.int .i64 a1.Id))), (.lf false (.sc (.int .i64 a1.Version))), (.lf false (.sc (.int .i64 a1.Kind))), (.lf false (.sc (.string a1.Name)))])), (2, some (true, .box [(.lf false (.sc (.int .i64 0))), (.lf false (.sc (.int .i64 0))), (.lf false (.sc (.bool false))), (.lf false (.sc (.int .i64 0))), .nl, .nl])), (3, some (true, .arr false 1 (c53.Signals.map eS))), (4, some (true, .arr false 1 (c53.Timers.map eS)))], 5, 89⟩) ?_ ?_
            · try refine sA ?_
              obtain ⟨c58, hr12, hq11⟩ := bind_ok hq11
              refine Cl_sA (w_spec_l12At hr12) ?_
              try refine sA ?_
              refine Sp_if hq11 (fun hq11 hc13 => ?_) (fun hq11 hc13 => ?_)
              · try refine sA ?_
                cases hq11
                exact X_cut rfl (weakA [some 0, some 1, some 2, some 3, some 4])
              · try refine sA ?_
                cases hq11
                exact X_cut rfl (weakA [some 0, some 1, some 2, some 3, some 4])
            · intro s2 hJ; subst hJ
              try dsimp only at hq8
              try refine sA ?_
              refine Bs_if hq8 (fun hq8 hc14 => ?_) (fun hq8 hc14 => ?_)
              · try refine sA ?_
                cases hq8
                try dsimp only at h
                have he := Option.some.inj h
                subst he
                refine ends_frz 3 ?_
                refine ends_frz 4 ?_
                try refine sA ?_
                exact endsA ⟨[(4, (.pb 0 0)), (5, (.lf false (.sc (.bool false))))], [(0, some (true, .box [(.lf false (.sc (.int .i64 c53.Status))), (.lf false (.sc (.int .i64 c53.Next))), (.lf false (.sc (.bool c53.Cancel))), (.lf false (.sc (.int .i64 c53.Done))), (.lf true (.sl (c53.Signals.map eS))), (.lf true (.sl (c53.Timers.map eS)))]))], 1, 89⟩ [some 2]
              · try refine sA ?_
                obtain ⟨hp15, hq8⟩ := guard_some hq8
                try refine sA ?_
                try refine andA ?_
                cases hq8
                exact X_cut ⟨_, rfl, rfl⟩ (weakA [some 0, some 2, some 6, some 4])
          · try refine sA ?_
            refine Bs_if hq8 (fun hq8 hc16 => ?_) (fun hq8 hc16 => ?_)
            · try refine sA ?_
              cases hq8
              exact X_cut ⟨_, rfl, rfl⟩ (weakA [some 0, some 2, some 3, some 4])
            · try refine sA ?_
              refine Bs_if hq8 (fun hq8 hc17 => ?_) (fun hq8 hc17 => ?_)
              · try refine sA ?_
                obtain ⟨c65, hr18, hq8⟩ := bind_ok hq8
                refine Cl_sA (w_spec_l12Timer hr18) ?_
                try refine sA ?_
                cases hq8
                exact X_cut ⟨_, rfl, rfl⟩ (weakA [some 0, some 2, some 3, some 6])
              · try refine sA ?_
                refine Bs_if hq8 (fun hq8 hc19 => ?_) (fun hq8 hc19 => ?_)
                · try refine sA ?_
                  refine Bs_if hq8 (fun hq8 hc20 => ?_) (fun hq8 hc20 => ?_)
                  · try refine sA ?_
                    cases hq8
                    try dsimp only at h
                    have he := Option.some.inj h
                    subst he
                    refine ends_frz 3 ?_
                    refine ends_frz 4 ?_
                    try refine sA ?_
                    exact endsA ⟨[(4, (.pb 0 0)), (5, (.lf false (.sc (.bool false))))], [(0, some (true, .box [(.lf false (.sc (.int .i64 c53.Status))), (.lf false (.sc (.int .i64 c53.Next))), (.lf false (.sc (.bool c53.Cancel))), (.lf false (.sc (.int .i64 c53.Done))), (.lf true (.sl (c53.Signals.map eS))), (.lf true (.sl (c53.Timers.map eS)))]))], 1, 89⟩ [some 2]
                  · try refine sA ?_
                    cases hq8
                    exact X_cut ⟨_, rfl, rfl⟩ (weakA [some 0, some 2, some 3, some 4])
                · try refine sA ?_
                  cases hq8
                  exact X_cut ⟨_, rfl, rfl⟩ (weakA [some 0, some 2, some 3, none])
      · intro s2 hJ; obtain ⟨p66, e, rfl⟩ := hJ; subst e
        try dsimp only at h
        try refine sA ?_
        obtain ⟨c91, hr21, h⟩ := bind_ok h
        refine Cl_sA (w_spec_GoodState hr21) ?_
        try refine sA ?_
        have he := Option.some.inj h
        subst he
        refine ends_frz 2 ?_
        refine ends_frz 3 ?_
        try refine sA ?_
        exact endsA ⟨[(4, (.pb 0 0)), (5, (.lf false (.sc (.bool c91))))], [(0, some (true, .box [(.lf false (.sc (.int .i64 p66.b0_0))), (.lf false (.sc (.int .i64 (wI (c53.Next + 1))))), (.lf false (.sc (.bool p66.b0_2))), (.lf false (.sc (.int .i64 p66.b0_3))), (.lf true (.sl (p66.c2.map eS))), (.lf true (.sl (p66.c3.map eS)))]))], 1, 89⟩ [some 1]
theorem w_spec_l12Fold {a0 : (List EventT)} {r : (StateT × Int)} (h : spec_l12Fold a0 = some r) : Fn Tryz.prog 94 [(.lf true (.sl (a0.map eEvent)))] [] 0 (.tu [(.ag [(.lf false (.sc (.int .i64 r.1.Status))), (.lf false (.sc (.int .i64 r.1.Next))), (.lf false (.sc (.bool r.1.Cancel))), (.lf false (.sc (.int .i64 r.1.Done))), (.lf true (.sl (r.1.Signals.map eS))), (.lf true (.sl (r.1.Timers.map eS)))]), (.lf false (.sc (.int .i64 r.2)))]) [] 1 := by
  unfold spec_l12Fold at h
  refine fn_code tab_ok mixed [(1000, [(0, 0), (2, 0)]), (1001, [(0, 0), (2, 0), (4, 0)]), (1002, [(0, 0), (2, 0), (4, 0), (10, 0), (11, 0), (12, 0)]), (1003, [(0, 0), (2, 0), (4, 0), (10, 0), (11, 0), (12, 0), (13, 0)]), (1004, [(0, 0), (2, 0), (4, 0), (5, 0), (6, 0), (10, 0), (11, 0), (12, 0)]), (1005, [(0, 0), (2, 0), (4, 0), (5, 0), (7, 0), (8, 0), (10, 0), (11, 0), (12, 0)]), (1006, [(0, 0), (2, 0), (4, 0), (5, 0), (7, 0), (10, 0), (11, 0), (12, 0), (24, 0)]), (1007, [(2, 0), (3, 0)]), (1008, [(0, 0), (2, 0), (4, 0), (10, 0), (11, 0), (12, 0)]), (1009, [(0, 0), (2, 0), (4, 0), (10, 0), (11, 0), (12, 0)]), (1010, [(2, 0), (3, 0)])] Tryz.func94 rfl rfl (by simp [Tryz.f94]) (by kernel_rfl) ?_
  simp only [Tryz.f94]
  refine sA ?_
  obtain ⟨c39, hr1, h⟩ := bind_ok h
  refine Cl_sA (w_spec_NewState hr1) ?_
  try refine sA ?_
  obtain ⟨y94, hl2, h⟩ := bind_ok h
  refine W_loopP (fun g40 : spec_l12Fold_G1 => ⟨[(0, (.lf true (.sl (a0.map eEvent)))), (2, (.pb 0 0)), (4, (.pb 1 0)), (10, (.lf true (.sl (a0.map eEvent)))), (11, (.lf false (.sc (.int .i64 ((a0.length : Nat) : Int))))), (12, (.lf false (.sc (.int .i64 g40.t12))))], [(0, some (true, .box [(.lf false (.sc (.int .i64 0))), (.lf false (.sc (.int .i64 0))), (.lf false (.sc (.bool false))), (.lf false (.sc (.int .i64 0))), .nl, .nl])), (1, some (true, .box [(.lf false (.sc (.int .i64 g40.b1_0))), (.lf false (.sc (.int .i64 g40.b1_1))), (.lf false (.sc (.bool g40.b1_2))), (.lf false (.sc (.int .i64 g40.b1_3))), (.lf true (.sl (g40.b1_4.map eS))), (.lf true (.sl (g40.b1_5.map eS)))]))], 2, 32⟩) (spec_l12Fold_L1 a0) _ _ hl2 (weakA [some 0, some 2]) ?_
  · intro n1 g40 z1 hs1 hk1
    unfold spec_l12Fold_L1 at hs1
    try dsimp only at hs1
    refine sA ?_
    refine Bs_if hs1 (fun hs1 hc3 => ?_) (fun hs1 hc3 => ?_)
    · try refine sA ?_
      obtain ⟨hp4, hs1⟩ := guard_some hs1
      have hn4 : g40.t12.toNat < a0.length := by first | omega | (simp only [List.length_set, List.length_append, List.length_replicate, List.length_map]; omega)
      try refine sA ?_
      try refine andA ?_
      obtain ⟨c93, hr5, hs1⟩ := bind_ok hs1
      refine Cl_sA (w_spec_l12Apply hr5) ?_
      try refine sA ?_
      refine Bs_if hs1 (fun hs1 hc6 => ?_) (fun hs1 hc6 => ?_)
      · try refine sA ?_
        cases hs1
        cases hk1
        try dsimp only at h
        try refine sA ?_
        have he := Option.some.inj h
        subst he
        exact endsA ⟨[(2, (.pb 0 0)), (3, (.lf false (.sc (.int .i64 g40.t12))))], [(0, some (true, .box [(.lf false (.sc (.int .i64 g40.b1_0))), (.lf false (.sc (.int .i64 g40.b1_1))), (.lf false (.sc (.bool g40.b1_2))), (.lf false (.sc (.int .i64 g40.b1_3))), (.lf true (.sl (g40.b1_4.map eS))), (.lf true (.sl (g40.b1_5.map eS)))]))], 1, 32⟩ [some 0]
      · try refine sA ?_
        cases hs1
        exact X_backP hk1 (weakA [some 0, some 1])
    · try refine sA ?_
      cases hs1
      cases hk1
      try dsimp only at h
      try refine sA ?_
      have he := Option.some.inj h
      subst he
      exact endsA ⟨[(2, (.pb 0 0)), (3, (.lf false (.sc (.int .i64 ((a0.length : Nat) : Int)))))], [(0, some (true, .box [(.lf false (.sc (.int .i64 g40.b1_0))), (.lf false (.sc (.int .i64 g40.b1_1))), (.lf false (.sc (.bool g40.b1_2))), (.lf false (.sc (.int .i64 g40.b1_3))), (.lf true (.sl (g40.b1_4.map eS))), (.lf true (.sl (g40.b1_5.map eS)))]))], 1, 32⟩ [some 0]
theorem w_spec_IsHistory {a0 : (List EventT)} {r : Bool} (h : spec_IsHistory a0 = some r) : Fn Tryz.prog 161 [(.lf true (.sl (a0.map eEvent)))] [] 0 (.lf false (.sc (.bool r))) [] 0 := by
  unfold spec_IsHistory at h
  refine fn_code tab_ok mixed [(1000, [(0, 0)]), (1001, [(0, 0), (7, 0), (8, 0)]), (1002, [(0, 0), (7, 0), (8, 0), (9, 0)]), (1003, [(0, 0), (3, 0), (7, 0), (8, 0)]), (1004, [(0, 0), (7, 0), (8, 0), (26, 0)]), (1005, [(2, 0)]), (1006, [(0, 0), (7, 0), (8, 0)]), (1007, [(0, 0), (5, 0)]), (1008, [(2, 0)]), (4004, [])] Tryz.func161 rfl rfl (by simp [Tryz.f161]) (by kernel_rfl) ?_
  simp only [Tryz.f161]
  refine sA ?_
  obtain ⟨y36, hl1, h⟩ := bind_ok h
  refine W_loopP (fun g33 : spec_IsHistory_G1 => ⟨[(0, (.lf true (.sl (a0.map eEvent)))), (7, (.lf false (.sc (.int .i64 ((a0.length : Nat) : Int))))), (8, (.lf false (.sc (.int .i64 g33.t8))))], [], 0, 42⟩) (spec_IsHistory_L1 a0) _ _ hl1 (weakA []) ?_
  · intro n1 g33 z1 hs1 hk1
    unfold spec_IsHistory_L1 at hs1
    try dsimp only at hs1
    refine sA ?_
    refine Bs_if hs1 (fun hs1 hc2 => ?_) (fun hs1 hc2 => ?_)
    · try refine sA ?_
      obtain ⟨p35, hq3, hs1⟩ := bind_ok hs1
      refine Sq_cut (fun s2 => s2 = ⟨[(0, (.lf true (.sl (a0.map eEvent)))), (7, (.lf false (.sc (.int .i64 ((a0.length : Nat) : Int))))), (8, (.lf false (.sc (.int .i64 g33.t8)))), (26, (.lf false (.sc (.bool p35.t26))))], [], 0, 42⟩) ?_ ?_
      · try refine sA ?_
        refine Sp_if hq3 (fun hq3 hc4 => ?_) (fun hq3 hc4 => ?_)
        · try refine sA ?_
          obtain ⟨hp5, hq3⟩ := guard_some hq3
          have hn5 : (wI (g33.t8 - 1)).toNat < a0.length := by first | omega | (simp only [List.length_set, List.length_append, List.length_replicate, List.length_map]; omega)
          try refine sA ?_
          try refine andA ?_
          obtain ⟨hp6, hq3⟩ := guard_some hq3
          have hn6 : g33.t8.toNat < a0.length := by first | omega | (simp only [List.length_set, List.length_append, List.length_replicate, List.length_map]; omega)
          try refine sA ?_
          try refine andA ?_
          cases hq3
          exact X_cut rfl (weakA [])
        · try refine sA ?_
          cases hq3
          exact X_cut rfl (weakA [])
      · intro s2 hJ; subst hJ
        try dsimp only at hs1
        try refine sA ?_
        refine Bs_if hs1 (fun hs1 hc7 => ?_) (fun hs1 hc7 => ?_)
        · try refine sA ?_
          cases hs1
          cases hk1
          try dsimp only at h
          try refine sA ?_
          have he := Option.some.inj h
          subst he
          exact endsA ⟨[(2, (.lf false (.sc (.bool false))))], [], 0, 42⟩ []
        · try refine sA ?_
          cases hs1
          exact X_backP hk1 (weakA [])
    · try refine sA ?_
      cases hs1
      cases hk1
      try dsimp only at h
      try refine sA ?_
      obtain ⟨c98, hr8, h⟩ := bind_ok h
      refine Cl_sA (w_spec_l12Fold hr8) ?_
      try refine sA ?_
      refine Sp_if h (fun h hc9 => ?_) (fun h hc9 => ?_)
      · try refine sA ?_
        have he := Option.some.inj h
        subst he
        exact endsA ⟨[(2, (.lf false (.sc (.bool (decide (((a0.length : Nat) : Int) ≤ 60))))))], [], 0, 42⟩ []
      · try refine sA ?_
        have he := Option.some.inj h
        subst he
        exact endsA ⟨[(2, (.lf false (.sc (.bool false))))], [], 0, 42⟩ []
theorem w_spec_l15History {a0 : (List EventT)} {r : Bool} (h : spec_l15History a0 = some r) : Fn Tryz.prog 115 [(.lf true (.sl (a0.map eEvent)))] [] 0 (.lf false (.sc (.bool r))) [] 0 := by
  unfold spec_l15History at h
  refine fn_code tab_ok mixed [] Tryz.func115 rfl rfl (by simp [Tryz.f115]) (by kernel_rfl) ?_
  simp only [Tryz.f115]
  refine sA ?_
  refine Sp_if h (fun h hc1 => ?_) (fun h hc1 => ?_)
  · try refine sA ?_
    obtain ⟨c99, hr2, h⟩ := bind_ok h
    refine Cl_sA (w_spec_IsHistory hr2) ?_
    try refine sA ?_
    have he := Option.some.inj h
    subst he
    exact endsA ⟨[(2, (.lf false (.sc (.bool c99))))], [], 0, 10⟩ []
  · try refine sA ?_
    have he := Option.some.inj h
    subst he
    exact endsA ⟨[(2, (.lf false (.sc (.bool false))))], [], 0, 10⟩ []
theorem w_spec_l15Event {a0 : EventT} {a1 : EventT} {r : Int} (h : spec_l15Event a0 a1 = some r) : Fn Tryz.prog 173 [(.ag [(.lf false (.sc (.int .i64 a0.Id))), (.lf false (.sc (.int .i64 a0.Version))), (.lf false (.sc (.int .i64 a0.Kind))), (.lf false (.sc (.string a0.Name)))]), (.ag [(.lf false (.sc (.int .i64 a1.Id))), (.lf false (.sc (.int .i64 a1.Version))), (.lf false (.sc (.int .i64 a1.Kind))), (.lf false (.sc (.string a1.Name)))])] [] 0 (.lf false (.sc (.int .i64 r))) [] 0 := by
  unfold spec_l15Event at h
  refine fn_code tab_ok mixed [(1000, [(2, 0), (3, 0)]), (1001, [(2, 0), (3, 0), (5, 0)]), (1002, [(15, 0)]), (1003, [(4, 0)]), (1004, [(4, 0)]), (1005, [(2, 0), (3, 0), (16, 0)]), (1006, [(26, 0)]), (1007, [(4, 0)]), (1008, [(4, 0)]), (1009, [(2, 0), (3, 0), (27, 0)]), (1010, [(4, 0)]), (1011, [(33, 0)]), (1012, [(4, 0)]), (1013, [(4, 0)])] Tryz.func173 rfl rfl (by simp [Tryz.f173]) (by kernel_rfl) ?_
  simp only [Tryz.f173]
  refine sA ?_
  refine Bs_if h (fun h hc1 => ?_) (fun h hc1 => ?_)
  · try refine sA ?_
    refine Bs_if h (fun h hc2 => ?_) (fun h hc2 => ?_)
    · try refine sA ?_
      have he := Option.some.inj h
      subst he
      exact endsA ⟨[(4, (.lf false (.sc (.int .i64 (-1)))))], [], 0, 39⟩ []
    · try refine sA ?_
      have he := Option.some.inj h
      subst he
      exact endsA ⟨[(4, (.lf false (.sc (.int .i64 1))))], [], 0, 39⟩ []
  · try refine sA ?_
    refine Bs_if h (fun h hc3 => ?_) (fun h hc3 => ?_)
    · try refine sA ?_
      refine Bs_if h (fun h hc4 => ?_) (fun h hc4 => ?_)
      · try refine sA ?_
        have he := Option.some.inj h
        subst he
        exact endsA ⟨[(4, (.lf false (.sc (.int .i64 (-1)))))], [], 0, 39⟩ []
      · try refine sA ?_
        have he := Option.some.inj h
        subst he
        exact endsA ⟨[(4, (.lf false (.sc (.int .i64 1))))], [], 0, 39⟩ []
    · try refine sA ?_
      refine Bs_if h (fun h hc5 => ?_) (fun h hc5 => ?_)
      · try refine sA ?_
        have he := Option.some.inj h
        subst he
        exact endsA ⟨[(4, (.lf false (.sc (.int .i64 (-1)))))], [], 0, 39⟩ []
      · try refine sA ?_
        refine Bs_if h (fun h hc6 => ?_) (fun h hc6 => ?_)
        · try refine sA ?_
          have he := Option.some.inj h
          subst he
          exact endsA ⟨[(4, (.lf false (.sc (.int .i64 1))))], [], 0, 39⟩ []
        · try refine sA ?_
          have he := Option.some.inj h
          subst he
          exact endsA ⟨[(4, (.lf false (.sc (.int .i64 0))))], [], 0, 39⟩ []
theorem w_spec_l15Compare {a0 : (List EventT)} {a1 : (List EventT)} {r : (Int × Int)} (h : spec_l15Compare a0 a1 = some r) : Fn Tryz.prog 127 [(.lf true (.sl (a0.map eEvent))), (.lf true (.sl (a1.map eEvent)))] [] 0 (.tu [(.lf false (.sc (.int .i64 r.1))), (.lf false (.sc (.int .i64 r.2)))]) [] 0 := by
  unfold spec_l15Compare at h
  refine fn_code tab_ok mixed [(1000, [(0, 0), (1, 0)]), (1001, [(0, 0), (1, 0), (6, 0)]), (1002, [(0, 0), (1, 0), (6, 0), (17, 0)]), (1003, [(0, 0), (1, 0), (6, 0)]), (1004, [(0, 0), (1, 0), (6, 0), (7, 0)]), (1005, [(0, 0), (1, 0), (6, 0), (7, 0), (30, 0)]), (1006, [(4, 0), (5, 0)]), (1007, [(0, 0), (1, 0), (33, 0)]), (1008, [(4, 0), (5, 0)]), (1009, [(0, 0), (1, 0), (41, 0)]), (1010, [(4, 0), (5, 0)]), (1011, [(4, 0), (5, 0)])] Tryz.func127 rfl rfl (by simp [Tryz.f127]) (by kernel_rfl) ?_
  simp only [Tryz.f127]
  refine sA ?_
  obtain ⟨y105, hl1, h⟩ := bind_ok h
  refine W_loopP (fun g102 : spec_l15Compare_G1 => ⟨[(0, (.lf true (.sl (a0.map eEvent)))), (1, (.lf true (.sl (a1.map eEvent)))), (6, (.lf false (.sc (.int .i64 g102.t6))))], [], 0, 51⟩) (spec_l15Compare_L1 a0 a1) _ _ hl1 (weakA []) ?_
  · intro n1 g102 z1 hs1 hk1
    unfold spec_l15Compare_L1 at hs1
    try dsimp only at hs1
    refine sA ?_
    refine Sp_if hs1 (fun hs1 hc2 => ?_) (fun hs1 hc2 => ?_)
    · try refine sA ?_
      refine Bs_if hs1 (fun hs1 hc3 => ?_) (fun hs1 hc3 => ?_)
      · try refine sA ?_
        obtain ⟨hp4, hs1⟩ := guard_some hs1
        have hn4 : g102.t6.toNat < a0.length := by first | omega | (simp only [List.length_set, List.length_append, List.length_replicate, List.length_map]; omega)
        try refine sA ?_
        try refine andA ?_
        obtain ⟨hp5, hs1⟩ := guard_some hs1
        have hn5 : g102.t6.toNat < a1.length := by first | omega | (simp only [List.length_set, List.length_append, List.length_replicate, List.length_map]; omega)
        try refine sA ?_
        try refine andA ?_
        obtain ⟨c104, hr6, hs1⟩ := bind_ok hs1
        refine Cl_sA (w_spec_l15Event hr6) ?_
        try refine sA ?_
        refine Bs_if hs1 (fun hs1 hc7 => ?_) (fun hs1 hc7 => ?_)
        · try refine sA ?_
          cases hs1
          cases hk1
          try dsimp only at h
          try refine sA ?_
          have he := Option.some.inj h
          subst he
          exact endsA ⟨[(4, (.lf false (.sc (.int .i64 c104)))), (5, (.lf false (.sc (.int .i64 g102.t6))))], [], 0, 51⟩ []
        · try refine sA ?_
          cases hs1
          exact X_backP hk1 (weakA [])
      · try refine sA ?_
        cases hs1
        cases hk1
        try dsimp only at h
        try refine sA ?_
        refine Bs_if h (fun h hc8 => ?_) (fun h hc8 => ?_)
        · try refine sA ?_
          have he := Option.some.inj h
          subst he
          exact endsA ⟨[(4, (.lf false (.sc (.int .i64 (-1))))), (5, (.lf false (.sc (.int .i64 ((a0.length : Nat) : Int)))))], [], 0, 51⟩ []
        · try refine sA ?_
          refine Bs_if h (fun h hc9 => ?_) (fun h hc9 => ?_)
          · try refine sA ?_
            have he := Option.some.inj h
            subst he
            exact endsA ⟨[(4, (.lf false (.sc (.int .i64 1)))), (5, (.lf false (.sc (.int .i64 ((a1.length : Nat) : Int)))))], [], 0, 51⟩ []
          · try refine sA ?_
            have he := Option.some.inj h
            subst he
            exact endsA ⟨[(4, (.lf false (.sc (.int .i64 0)))), (5, (.lf false (.sc (.int .i64 ((a0.length : Nat) : Int)))))], [], 0, 51⟩ []
    · try refine sA ?_
      cases hs1
      cases hk1
      try dsimp only at h
      try refine sA ?_
      refine Bs_if h (fun h hc10 => ?_) (fun h hc10 => ?_)
      · try refine sA ?_
        have he := Option.some.inj h
        subst he
        exact endsA ⟨[(4, (.lf false (.sc (.int .i64 (-1))))), (5, (.lf false (.sc (.int .i64 ((a0.length : Nat) : Int)))))], [], 0, 51⟩ []
      · try refine sA ?_
        refine Bs_if h (fun h hc11 => ?_) (fun h hc11 => ?_)
        · try refine sA ?_
          have he := Option.some.inj h
          subst he
          exact endsA ⟨[(4, (.lf false (.sc (.int .i64 1)))), (5, (.lf false (.sc (.int .i64 ((a1.length : Nat) : Int)))))], [], 0, 51⟩ []
        · try refine sA ?_
          have he := Option.some.inj h
          subst he
          exact endsA ⟨[(4, (.lf false (.sc (.int .i64 0)))), (5, (.lf false (.sc (.int .i64 ((a0.length : Nat) : Int)))))], [], 0, 51⟩ []
theorem w_spec_l15Begins {a0 : (List EventT)} {a1 : (List EventT)} {r : Bool} (h : spec_l15Begins a0 a1 = some r) : Fn Tryz.prog 128 [(.lf true (.sl (a0.map eEvent))), (.lf true (.sl (a1.map eEvent)))] [] 0 (.lf false (.sc (.bool r))) [] 0 := by
  unfold spec_l15Begins at h
  refine fn_code tab_ok mixed [(1000, [(0, 0), (1, 0)]), (1001, [(1, 0), (6, 0)]), (1002, [(4, 0)])] Tryz.func128 rfl rfl (by simp [Tryz.f128]) (by kernel_rfl) ?_
  simp only [Tryz.f128]
  refine sA ?_
  obtain ⟨c109, hr1, h⟩ := bind_ok h
  refine Cl_sA (w_spec_l15Compare hr1) ?_
  try refine sA ?_
  have he := Option.some.inj h
  subst he
  exact endsA ⟨[(4, (.lf false (.sc (.bool (c109.2 == ((a1.length : Nat) : Int))))))], [], 0, 17⟩ []
theorem w_spec_GoodTellings {a0 : TellingsT} {r : Bool} (h : spec_GoodTellings a0 = some r) : Fn Tryz.prog 59 [(.ag [(.lf true (.sl (a0.Branches.map eBranch)))])] [] 0 (.lf false (.sc (.bool r))) [] 0 := by
  unfold spec_GoodTellings at h
  refine fn_code tab_ok mixed [(1000, [(1, 0)]), (1001, [(1, 0), (10, 0), (11, 0), (12, 0)]), (1002, [(1, 0), (10, 0), (11, 0), (12, 0), (13, 0)]), (1003, [(1, 0), (3, 0), (4, 0), (10, 0), (11, 0), (12, 0)]), (1004, [(1, 0), (3, 0), (4, 0), (10, 0), (11, 0), (12, 0), (20, 0)]), (1005, [(2, 0)]), (1006, [(1, 0), (3, 0), (4, 0), (10, 0), (11, 0), (12, 0), (24, 0), (25, 0), (26, 0)]), (1007, [(1, 0), (3, 0), (4, 0), (10, 0), (11, 0), (12, 0), (24, 0), (25, 0), (26, 0), (27, 0)]), (1008, [(1, 0), (3, 0), (4, 0), (5, 0), (6, 0), (10, 0), (11, 0), (12, 0), (24, 0), (25, 0), (26, 0)]), (1009, [(1, 0), (3, 0), (4, 0), (5, 0), (6, 0), (7, 0), (10, 0), (11, 0), (12, 0), (24, 0), (25, 0), (26, 0)]), (1010, [(1, 0), (3, 0), (4, 0), (10, 0), (11, 0), (12, 0), (24, 0), (25, 0), (26, 0), (52, 0)]), (1011, [(2, 0)]), (1012, [(1, 0), (3, 0), (4, 0), (10, 0), (11, 0), (12, 0), (24, 0), (25, 0), (26, 0)]), (1013, [(1, 0), (10, 0), (11, 0), (12, 0)]), (1014, [(2, 0)]), (4010, [])] Tryz.func59 rfl rfl (by simp [Tryz.f59]) (by kernel_rfl) ?_
  simp only [Tryz.f59]
  refine sA ?_
  obtain ⟨y129, hl1, h⟩ := bind_ok h
  refine W_loopP (fun g32 : spec_GoodTellings_G1 => ⟨[(1, (.pb 0 0)), (10, (.lf true (.sl (a0.Branches.map eBranch)))), (11, (.lf false (.sc (.int .i64 ((a0.Branches.length : Nat) : Int))))), (12, (.lf false (.sc (.int .i64 g32.t12))))], [(0, some (true, .box [(.lf true (.sl (a0.Branches.map eBranch)))]))], 1, 59⟩) (spec_GoodTellings_L1 a0) _ _ hl1 (weakA [some 0]) ?_
  · intro n1 g32 z1 hs1 hk1
    unfold spec_GoodTellings_L1 at hs1
    try dsimp only at hs1
    refine sA ?_
    refine Bs_if hs1 (fun hs1 hc2 => ?_) (fun hs1 hc2 => ?_)
    · try refine sA ?_
      obtain ⟨hp3, hs1⟩ := guard_some hs1
      have hn3 : g32.t12.toNat < a0.Branches.length := by first | omega | (simp only [List.length_set, List.length_append, List.length_replicate, List.length_map]; omega)
      try refine sA ?_
      try refine andA ?_
      obtain ⟨c118, hr4, hs1⟩ := bind_ok hs1
      refine Cl_sA (w_spec_l15History hr4) ?_
      try refine sA ?_
      refine Bs_if hs1 (fun hs1 hc5 => ?_) (fun hs1 hc5 => ?_)
      · try refine sA ?_
        cases hs1
        cases hk1
        try dsimp only at h
        try refine sA ?_
        have he := Option.some.inj h
        subst he
        exact endsA ⟨[(2, (.lf false (.sc (.bool false))))], [], 0, 59⟩ []
      · try refine sA ?_
        obtain ⟨hp6, hs1⟩ := guard_some hs1
        try refine sA ?_
        try refine andA ?_
        obtain ⟨y126, hl7, hs1⟩ := bind_ok hs1
        refine W_loopP (fun g119 : spec_GoodTellings_G2 => ⟨[(1, (.pb 0 0)), (3, (.lf false (.sc (.int .i64 g32.t12)))), (4, (.pb 1 0)), (10, (.lf true (.sl (a0.Branches.map eBranch)))), (11, (.lf false (.sc (.int .i64 ((a0.Branches.length : Nat) : Int))))), (12, (.lf false (.sc (.int .i64 g32.t12)))), (24, (.lf true (.sl ((a0.Branches.take g32.t12.toNat).map eBranch)))), (25, (.lf false (.sc (.int .i64 (((a0.Branches.take g32.t12.toNat).length : Nat) : Int))))), (26, (.lf false (.sc (.int .i64 g119.t26))))], [(0, some (true, .box [(.lf true (.sl (a0.Branches.map eBranch)))])), (1, some (true, .box [(.lf true (.sl (((nth a0.Branches g32.t12.toNat).Events).map eEvent)))]))], 2, 59⟩) (spec_GoodTellings_L2 a0 g32) _ _ hl7 (weakA [some 0, some 1]) ?_
        · intro n2 g119 z2 hs2 hk2
          unfold spec_GoodTellings_L2 at hs2
          try dsimp only at hs2
          refine sA ?_
          refine Bs_if hs2 (fun hs2 hc8 => ?_) (fun hs2 hc8 => ?_)
          · try refine sA ?_
            obtain ⟨hp9, hs2⟩ := guard_some hs2
            have hn9 : g119.t26.toNat < (a0.Branches.take g32.t12.toNat).length := by first | omega | (simp only [List.length_set, List.length_append, List.length_replicate, List.length_map]; omega)
            try refine sA ?_
            try refine andA ?_
            obtain ⟨c123, hr10, hs2⟩ := bind_ok hs2
            refine Cl_sA (w_spec_l15Compare hr10) ?_
            try refine sA ?_
            obtain ⟨p125, hq11, hs2⟩ := bind_ok hs2
            refine Sq_cut (fun s2 => s2 = ⟨[(1, (.pb 0 0)), (3, (.lf false (.sc (.int .i64 g32.t12)))), (4, (.pb 1 0)), (10, (.lf true (.sl (a0.Branches.map eBranch)))), (11, (.lf false (.sc (.int .i64 ((a0.Branches.length : Nat) : Int))))), (12, (.lf false (.sc (.int .i64 g32.t12)))), (24, (.lf true (.sl ((a0.Branches.take g32.t12.toNat).map eBranch)))), (25, (.lf false (.sc (.int .i64 (((a0.Branches.take g32.t12.toNat).length : Nat) : Int))))), (26, (.lf false (.sc (.int .i64 g119.t26)))), (52, (.lf false (.sc (.bool p125.t52))))], [(0, some (true, .box [(.lf true (.sl (a0.Branches.map eBranch)))])), (1, some (true, .box [(.lf true (.sl (((nth a0.Branches g32.t12.toNat).Events).map eEvent)))]))], 2, 59⟩) ?_ ?_
            · try refine sA ?_
              refine Sp_if hq11 (fun hq11 hc12 => ?_) (fun hq11 hc12 => ?_)
              · try refine sA ?_
                cases hq11
                exact X_cut rfl (weakA [some 0, some 1])
              · try refine sA ?_
                obtain ⟨c124, hr13, hq11⟩ := bind_ok hq11
                refine Cl_sA (w_spec_l15Begins hr13) ?_
                try refine sA ?_
                refine Sp_if hq11 (fun hq11 hc14 => ?_) (fun hq11 hc14 => ?_)
                · try refine sA ?_
                  cases hq11
                  exact X_cut rfl (weakA [some 0, some 1])
                · try refine sA ?_
                  cases hq11
                  exact X_cut rfl (weakA [some 0, some 1])
            · intro s2 hJ; subst hJ
              try dsimp only at hs2
              try refine sA ?_
              refine Bs_if hs2 (fun hs2 hc15 => ?_) (fun hs2 hc15 => ?_)
              · try refine sA ?_
                cases hs2
                cases hk2
                try dsimp only at hs1
                try refine sA ?_
                cases hs1
                cases hk1
                try dsimp only at h
                try refine sA ?_
                have he := Option.some.inj h
                subst he
                exact endsA ⟨[(2, (.lf false (.sc (.bool false))))], [], 0, 59⟩ []
              · try refine sA ?_
                cases hs2
                exact X_backP hk2 (weakA [some 0, some 1])
          · try refine sA ?_
            cases hs2
            cases hk2
            try dsimp only at hs1
            try refine sA ?_
            cases hs1
            exact X_backP hk1 (weakA [some 0])
    · try refine sA ?_
      cases hs1
      cases hk1
      try dsimp only at h
      try refine sA ?_
      have he := Option.some.inj h
      subst he
      exact endsA ⟨[(2, (.lf false (.sc (.bool (decide (((a0.Branches.length : Nat) : Int) ≤ 12))))))], [], 0, 59⟩ []
theorem w_spec_GoodRegion {a0 : RegionT} {r : Bool} (h : spec_GoodRegion a0 = some r) : Fn Tryz.prog 90 [(.ag [(.lf false (.sc (.int .i64 a0.Id))), (.lf false (.sc (.int .i64 a0.Version))), (.lf true (.sl (a0.Tellings.Branches.map eBranch)))])] [] 0 (.lf false (.sc (.bool r))) [] 0 := by
  unfold spec_GoodRegion at h
  refine fn_code tab_ok mixed [(1000, [(1, 0)]), (1001, [(1, 0), (22, 0)]), (1002, [(2, 0)]), (1003, [(1, 0), (25, 0), (26, 0), (27, 0)]), (1004, [(1, 0), (25, 0), (26, 0), (27, 0), (28, 0)]), (1005, [(1, 0), (4, 0), (25, 0), (26, 0), (27, 0)]), (1006, [(1, 0), (25, 0), (26, 0), (27, 0), (32, 0), (33, 0), (34, 0)]), (1007, [(1, 0), (25, 0), (26, 0), (27, 0), (32, 0), (33, 0), (34, 0), (35, 0)]), (1008, [(1, 0), (6, 0), (25, 0), (26, 0), (27, 0), (32, 0), (33, 0), (34, 0)]), (1009, [(1, 0), (25, 0), (26, 0), (27, 0), (32, 0), (33, 0), (34, 0), (42, 0)]), (1010, [(2, 0)]), (1011, [(1, 0), (25, 0), (26, 0), (27, 0), (32, 0), (33, 0), (34, 0)]), (1012, [(1, 0), (25, 0), (26, 0), (27, 0)]), (1013, [(2, 0)]), (4001, [])] Tryz.func90 rfl rfl (by simp [Tryz.f90]) (by kernel_rfl) ?_
  simp only [Tryz.f90]
  refine sA ?_
  obtain ⟨p133, hq1, h⟩ := bind_ok h
  refine Sq_cut (fun s2 => s2 = ⟨[(1, (.pb 0 0)), (22, (.lf false (.sc (.bool p133.t22))))], [(0, some (true, .box [(.lf false (.sc (.int .i64 a0.Id))), (.lf false (.sc (.int .i64 a0.Version))), (.lf true (.sl (a0.Tellings.Branches.map eBranch)))]))], 1, 45⟩) ?_ ?_
  · try refine sA ?_
    obtain ⟨c29, hr2, hq1⟩ := bind_ok hq1
    refine Cl_sA (w_spec_l1In hr2) ?_
    try refine sA ?_
    refine Sp_if hq1 (fun hq1 hc3 => ?_) (fun hq1 hc3 => ?_)
    · try refine sA ?_
      cases hq1
      exact X_cut rfl (weakA [some 0])
    · try refine sA ?_
      obtain ⟨c31, hr4, hq1⟩ := bind_ok hq1
      refine Cl_sA (w_spec_l13Version hr4) ?_
      try refine sA ?_
      refine Sp_if hq1 (fun hq1 hc5 => ?_) (fun hq1 hc5 => ?_)
      · try refine sA ?_
        cases hq1
        exact X_cut rfl (weakA [some 0])
      · try refine sA ?_
        obtain ⟨c132, hr6, hq1⟩ := bind_ok hq1
        refine Cl_sA (w_spec_GoodTellings hr6) ?_
        try refine sA ?_
        cases hq1
        exact X_cut rfl (weakA [some 0])
  · intro s2 hJ; subst hJ
    try dsimp only at h
    try refine sA ?_
    refine Bs_if h (fun h hc7 => ?_) (fun h hc7 => ?_)
    · try refine sA ?_
      have he := Option.some.inj h
      subst he
      exact endsA ⟨[(2, (.lf false (.sc (.bool false))))], [], 0, 45⟩ []
    · try refine sA ?_
      obtain ⟨y143, hl8, h⟩ := bind_ok h
      refine W_loopP (fun g134 : spec_GoodRegion_G1 => ⟨[(1, (.pb 0 0)), (25, (.lf true (.sl (a0.Tellings.Branches.map eBranch)))), (26, (.lf false (.sc (.int .i64 ((a0.Tellings.Branches.length : Nat) : Int))))), (27, (.lf false (.sc (.int .i64 g134.t27))))], [(0, some (true, .box [(.lf false (.sc (.int .i64 a0.Id))), (.lf false (.sc (.int .i64 a0.Version))), (.lf true (.sl (a0.Tellings.Branches.map eBranch)))]))], 1, 45⟩) (spec_GoodRegion_L1 a0) _ _ hl8 (weakA [some 0]) ?_
      · intro n1 g134 z1 hs1 hk1
        unfold spec_GoodRegion_L1 at hs1
        try dsimp only at hs1
        refine sA ?_
        refine Bs_if hs1 (fun hs1 hc9 => ?_) (fun hs1 hc9 => ?_)
        · try refine sA ?_
          obtain ⟨hp10, hs1⟩ := guard_some hs1
          have hn10 : g134.t27.toNat < a0.Tellings.Branches.length := by first | omega | (simp only [List.length_set, List.length_append, List.length_replicate, List.length_map]; omega)
          try refine sA ?_
          try refine andA ?_
          obtain ⟨y140, hl11, hs1⟩ := bind_ok hs1
          refine W_loopP (fun g139 : spec_GoodRegion_G2 => ⟨[(1, (.pb 0 0)), (25, (.lf true (.sl (a0.Tellings.Branches.map eBranch)))), (26, (.lf false (.sc (.int .i64 ((a0.Tellings.Branches.length : Nat) : Int))))), (27, (.lf false (.sc (.int .i64 g134.t27)))), (32, (.lf true (.sl (((nth a0.Tellings.Branches g134.t27.toNat).Events).map eEvent)))), (33, (.lf false (.sc (.int .i64 ((((nth a0.Tellings.Branches g134.t27.toNat).Events).length : Nat) : Int))))), (34, (.lf false (.sc (.int .i64 g139.t34))))], [(0, some (true, .box [(.lf false (.sc (.int .i64 a0.Id))), (.lf false (.sc (.int .i64 a0.Version))), (.lf true (.sl (a0.Tellings.Branches.map eBranch)))]))], 1, 45⟩) (spec_GoodRegion_L2 a0 g134) _ _ hl11 (weakA [some 0]) ?_
          · intro n2 g139 z2 hs2 hk2
            unfold spec_GoodRegion_L2 at hs2
            try dsimp only at hs2
            refine sA ?_
            refine Bs_if hs2 (fun hs2 hc12 => ?_) (fun hs2 hc12 => ?_)
            · try refine sA ?_
              obtain ⟨hp13, hs2⟩ := guard_some hs2
              have hn13 : g139.t34.toNat < ((nth a0.Tellings.Branches g134.t27.toNat).Events).length := by first | omega | (simp only [List.length_set, List.length_append, List.length_replicate, List.length_map]; omega)
              try refine sA ?_
              try refine andA ?_
              refine Bs_if hs2 (fun hs2 hc14 => ?_) (fun hs2 hc14 => ?_)
              · try refine sA ?_
                cases hs2
                cases hk2
                try dsimp only at hs1
                try refine sA ?_
                cases hs1
                cases hk1
                try dsimp only at h
                try refine sA ?_
                have he := Option.some.inj h
                subst he
                exact endsA ⟨[(2, (.lf false (.sc (.bool false))))], [], 0, 45⟩ []
              · try refine sA ?_
                cases hs2
                exact X_backP hk2 (weakA [some 0])
            · try refine sA ?_
              cases hs2
              cases hk2
              try dsimp only at hs1
              try refine sA ?_
              cases hs1
              exact X_backP hk1 (weakA [some 0])
        · try refine sA ?_
          cases hs1
          cases hk1
          try dsimp only at h
          try refine sA ?_
          have he := Option.some.inj h
          subst he
          exact endsA ⟨[(2, (.lf false (.sc (.bool true))))], [], 0, 45⟩ []
theorem w_spec_l15OwnEvents_w_F {a0 : (List EventT)} {m0 : Nat} {x0 : Bool} {r : (List EventT)} (h : spec_l15OwnEvents_w_F a0 = some r) : Fn Tryz.prog 82 [(.os 0 4 0 a0.length m0 x0)] [(0, some (false, .arr true 4 (a0.map eEvent)))] 1 (.lf true (.sl (r.map eEvent))) [(0, some (false, .arr false 4 (a0.map eEvent)))] 1 := by
  unfold spec_l15OwnEvents_w_F at h
  refine fn_code tab_ok mixed [] Tryz.func82 rfl rfl (by simp [Tryz.f82]) (by kernel_rfl) ?_
  simp only [Tryz.f82]
  refine sA ?_
  obtain ⟨hp1, h⟩ := guard_some h
  try refine sA ?_
  try refine andA ?_
  have he := Option.some.inj h
  subst he
  refine ends_frz 2 ?_
  try refine sA ?_
  exact endsA ⟨[(2, (.lf true (.sl ((([]) ++ a0).map eEvent))))], [(0, some (false, .arr false 4 (a0.map eEvent)))], 1, 6⟩ [some 0]
theorem w_spec_l15Own_wd {a0 : TellingsT} {m0 : Nat} {x0 : Bool} {r : (TellingsT × (List BranchT))} (h : spec_l15Own_wd a0 = some r) : Fn Tryz.prog 91 [(.ag [(.os 0 1 0 a0.Branches.length m0 x0)])] [(0, some (false, .deep [.sl [.sc, .sc, .sc, .sc]] (a0.Branches.map eBranch)))] 1 (.ag [(.os 1 1 0 r.1.Branches.length r.1.Branches.length false)]) [(0, some (false, .deep [.sl [.sc, .sc, .sc, .sc]] (r.2.map eBranch))), (1, some (true, .arr true 1 (r.1.Branches.map eBranch)))] 3 := by
  unfold spec_l15Own_wd at h
  refine fn_code tab_ok mixed [(1000, [(1, 0), (2, 0)]), (1001, [(1, 0), (2, 0), (3, 0)]), (1002, [(2, 0), (3, 0), (7, 0), (8, 0), (9, 0)]), (1003, [(2, 0), (3, 0), (7, 0), (8, 0), (9, 0), (10, 0)]), (1004, [(2, 0), (3, 0), (5, 0), (7, 0), (8, 0), (9, 0)]), (1005, [(2, 0), (3, 0), (7, 0), (8, 0), (9, 0)]), (1006, [(2, 0), (3, 0), (7, 0), (8, 0), (9, 0)]), (1007, [(2, 0)]), (5004, [])] Tryz.func91 rfl rfl (by simp [Tryz.f91]) (by kernel_rfl) ?_
  simp only [Tryz.f91]
  refine sA ?_
  obtain ⟨y159, hl1, h⟩ := bind_ok h
  refine W_loopP (fun g156 : spec_l15Own_wd_G1 => ⟨[(2, (.pb 1 0)), (3, (.os 2 1 0 g156.c2.length g156.c2.length false)), (7, (.os 0 1 0 g156.c0.length g156.c0.length false)), (8, (.lf false (.sc (.int .i64 ((a0.Branches.length : Nat) : Int))))), (9, (.lf false (.sc (.int .i64 g156.t9))))], [(0, some (false, .deep [.sl [.sc, .sc, .sc, .sc]] (g156.c0.map eBranch))), (1, some (true, .box [.nl])), (2, some (true, .arr true 1 (g156.c2.map eBranch)))], 3, 23⟩) (spec_l15Own_wd_L1 a0) _ _ hl1 (weakA [some 0, some 2, none]) ?_
  · intro n1 g156 z1 hs1 hk1
    unfold spec_l15Own_wd_L1 at hs1
    try dsimp only at hs1
    refine sA ?_
    refine Bs_if hs1 (fun hs1 hc2 => ?_) (fun hs1 hc2 => ?_)
    · try refine sA ?_
      obtain ⟨hp3, hs1⟩ := guard_some hs1
      refine Gh_focus 0 g156.t9.toNat ?_
      try refine sA ?_
      obtain ⟨hp4, hs1⟩ := guard_some hs1
      have hn4 : g156.t9.toNat < g156.c0.length := by first | omega | (simp only [List.length_set, List.length_append, List.length_replicate, List.length_map]; omega)
      try refine sA ?_
      try refine andA ?_
      obtain ⟨c158, hr5, hs1⟩ := bind_ok hs1
      refine Cl_hA [3] (w_spec_l15OwnEvents_w_F hr5) ?_
      try refine sA ?_
      obtain ⟨hp6, hs1⟩ := guard_some hs1
      try refine sA ?_
      try refine andA ?_
      cases hs1
      exact X_backP hk1 (packW 0 (weakA [some 0, some 1, some 6]))
    · try refine sA ?_
      cases hs1
      cases hk1
      try dsimp only at h
      try refine sA ?_
      have he := Option.some.inj h
      subst he
      exact endsA ⟨[(2, (.pb 2 0))], [(0, some (false, .deep [.sl [.sc, .sc, .sc, .sc]] (g156.c0.map eBranch))), (1, some (true, .arr true 1 (g156.c2.map eBranch))), (2, some (true, .box [(.os 1 1 0 g156.c2.length g156.c2.length false)]))], 3, 23⟩ [some 0, some 2, some 1]
theorem w_spec_WordOf_wd {a0 : RegionT} {m0 : Nat} {x0 : Bool} {r : (WordT × Bool × (List BranchT))} (h : spec_WordOf_wd a0 = some r) : Fn Tryz.prog 24 [(.ag [(.lf false (.sc (.int .i64 a0.Id))), (.lf false (.sc (.int .i64 a0.Version))), (.os 0 1 0 a0.Tellings.Branches.length m0 x0)])] [(0, some (false, .deep [.sl [.sc, .sc, .sc, .sc]] (a0.Tellings.Branches.map eBranch)))] 1 (.tu [(.ag [(.lf false (.sc (.int .i64 r.1.Version))), (.os 1 1 0 r.1.Tellings.Branches.length r.1.Tellings.Branches.length false)]), (.lf false (.sc (.bool r.2.1)))]) [(0, some (false, .deep [.sl [.sc, .sc, .sc, .sc]] (r.2.2.map eBranch))), (1, some (true, .arr true 1 (r.1.Tellings.Branches.map eBranch)))] 3 := by
  unfold spec_WordOf_wd at h
  refine fn_code tab_ok mixed [(3, [(1, 4)]), (1000, [(1, 0), (2, 0)]), (1001, [(1, 0), (2, 0), (6, 0)]), (1002, [(2, 0), (3, 0)]), (1003, [(2, 0), (3, 0)])] Tryz.func24 rfl rfl (by simp [Tryz.f24]) (by kernel_rfl) ?_
  simp only [Tryz.f24]
  refine sA ?_
  obtain ⟨c154, hr1, h⟩ := bind_ok h
  refine Cl_sA (w_spec_GoodRegion hr1) ?_
  try refine sA ?_
  refine Bs_if h (fun h hc2 => ?_) (fun h hc2 => ?_)
  · try refine sA ?_
    have he := Option.some.inj h
    subst he
    exact endsA ⟨[(2, (.pb 2 0)), (3, (.lf false (.sc (.bool false))))], [(0, some (false, .deep [.sl [.sc, .sc, .sc, .sc]] (a0.Tellings.Branches.map eBranch))), (1, some (true, .arr true 1 (([] : List BranchT).map eBranch))), (2, some (true, .box [(.lf false (.sc (.int .i64 0))), (.os 1 1 0 (([] : List BranchT).length) (([] : List BranchT).length) false)]))], 3, 14⟩ [some 0, none, some 2]
  · try refine sA ?_
    obtain ⟨c160, hr3, h⟩ := bind_ok h
    refine Cl_hA [0] (w_spec_l15Own_wd hr3) ?_
    try refine sA ?_
    obtain ⟨hp4, h⟩ := guard_some h
    have hl4 : a0.Tellings.Branches.length ≤ c160.2.length := by omega
    have ht4 : List.take (a0.Tellings.Branches.length) c160.2 = c160.2 := by rw [← hp4]; exact List.take_length
    try simp (disch := first | assumption | (simp only [List.length_set]; assumption)) only [go_sem, Nat.reduceAdd, Nat.reduceMul, Nat.reduceSub, Nat.reduceEqDiff, ↓reduceIte, Nat.reduceLT, reduceCtorEq, Nat.reduceLeDiff, Int.reduceToNat, Int.reduceEq, Int.reduceLE, Int.reduceLT, Nat.reduceBEq, hl4, ht4]
    have he := Option.some.inj h
    subst he
    refine ends_weak ⟨[(2, (.pb 2 0)), (3, (.lf false (.sc (.bool true))))], [(0, some (false, .deep [.sl [.sc, .sc, .sc, .sc]] (c160.2.map eBranch))), (1, some (true, .arr true 1 (c160.1.Branches.map eBranch))), (2, some (true, .box [(.lf false (.sc (.int .i64 a0.Version))), (.os 1 1 0 c160.1.Branches.length c160.1.Branches.length false)]))], 3, 14⟩ (weak_of (m := 1) [some 0, some 3, some 2] rfl rfl rfl (by rfl) ?_ ?_) ?_
    all_goals ((try simp (disch := first | assumption | (simp only [List.length_set]; assumption)) only [go_sem, Nat.reduceAdd, Nat.reduceMul, Nat.reduceSub, Nat.reduceEqDiff, ↓reduceIte, Nat.reduceLT, reduceCtorEq, Nat.reduceLeDiff, Int.reduceToNat, Int.reduceEq, Int.reduceLE, Int.reduceLT, Nat.reduceBEq, hl4, ht4]); (repeat' first | done | rfl | omega | refine And.intro ?_ ?_ | (simp; done) | (simp; omega)))
theorem w_impl_in {a0 : Int} {a1 : Int} {a2 : Int} {r : Bool} (h : impl_in a0 a1 a2 = some r) : Fn Tryz.prog 190 [(.lf false (.sc (.int .i64 a0))), (.lf false (.sc (.int .i64 a1))), (.lf false (.sc (.int .i64 a2)))] [] 0 (.lf false (.sc (.bool r))) [] 0 := by
  unfold impl_in at h
  refine fn_code tab_ok mixed [] Tryz.func190 rfl rfl (by simp [Tryz.f190]) (by kernel_rfl) ?_
  simp only [Tryz.f190]
  refine sA ?_
  refine Sp_if h (fun h hc1 => ?_) (fun h hc1 => ?_)
  · try refine sA ?_
    have he := Option.some.inj h
    subst he
    exact endsA ⟨[(6, (.lf false (.sc (.bool (decide (a0 ≤ a2))))))], [], 0, 15⟩ []
  · try refine sA ?_
    have he := Option.some.inj h
    subst he
    exact endsA ⟨[(6, (.lf false (.sc (.bool false))))], [], 0, 15⟩ []
theorem w_impl_isRegion {a0 : Int} {r : Bool} (h : impl_isRegion a0 = some r) : Fn Tryz.prog 150 [(.lf false (.sc (.int .i64 a0)))] [] 0 (.lf false (.sc (.bool r))) [] 0 := by
  unfold impl_isRegion at h
  refine fn_code tab_ok mixed [] Tryz.func150 rfl rfl (by simp [Tryz.f150]) (by kernel_rfl) ?_
  simp only [Tryz.f150]
  refine sA ?_
  obtain ⟨c163, hr1, h⟩ := bind_ok h
  refine Cl_sA (w_impl_in hr1) ?_
  try refine sA ?_
  have he := Option.some.inj h
  subst he
  exact endsA ⟨[(2, (.lf false (.sc (.bool c163))))], [], 0, 5⟩ []
theorem w_impl_isVersion {a0 : Int} {r : Bool} (h : impl_isVersion a0 = some r) : Fn Tryz.prog 185 [(.lf false (.sc (.int .i64 a0)))] [] 0 (.lf false (.sc (.bool r))) [] 0 := by
  unfold impl_isVersion at h
  refine fn_code tab_ok mixed [] Tryz.func185 rfl rfl (by simp [Tryz.f185]) (by kernel_rfl) ?_
  simp only [Tryz.f185]
  refine sA ?_
  obtain ⟨c165, hr1, h⟩ := bind_ok h
  refine Cl_sA (w_impl_in hr1) ?_
  try refine sA ?_
  have he := Option.some.inj h
  subst he
  exact endsA ⟨[(2, (.lf false (.sc (.bool c165))))], [], 0, 5⟩ []
theorem w_impl_NewState {r : StateT} (h : impl_NewState = some r) : Fn Tryz.prog 183 [] [] 0 (.ag [(.lf false (.sc (.int .i64 r.Status))), (.lf false (.sc (.int .i64 r.Next))), (.lf false (.sc (.bool r.Cancel))), (.lf false (.sc (.int .i64 r.Done))), .nl, .nl]) [] 1 := by
  unfold impl_NewState at h
  refine fn_code tab_ok mixed [] Tryz.func183 rfl rfl (by simp [Tryz.f183]) (by kernel_rfl) ?_
  simp only [Tryz.f183]
  refine sA ?_
  have he := Option.some.inj h
  subst he
  exact endsA ⟨[(0, (.pb 0 0))], [(0, some (true, .box [(.lf false (.sc (.int .i64 0))), (.lf false (.sc (.int .i64 1))), (.lf false (.sc (.bool false))), (.lf false (.sc (.int .i64 0))), .nl, .nl]))], 1, 2⟩ [some 0]
theorem w_strings_Trim {a0 a1 : ByteArray} {r : ByteArray} (h : strings_Trim a0 a1 = some r) : Fn Tryz.prog 246 [.lf false (.sc (.string a0)), .lf false (.sc (.string a1))] [] 0 (.lf false (.sc (.string r))) [] 0 := by
  unfold strings_Trim at h
  obtain ⟨⟨hp1, hp2, hp3⟩, h⟩ := guard_some h
  have he := Option.some.inj h; subst he
  exact fn_str2 (Ent.of Tryz.func246 rfl (by simp [Tryz.f246])) fun w => Go.Proofs.Any.strings_Trim_laid Go.Proofs.Tryz.lays160 (by kernel_rfl) a0 a1 w hp1 hp2 (ascii_of_all hp3)
theorem w_impl_goodName {a0 : ByteArray} {r : Bool} (h : impl_goodName a0 = some r) : Fn Tryz.prog 233 [(.lf false (.sc (.string a0)))] [] 0 (.lf false (.sc (.bool r))) [] 0 := by
  unfold impl_goodName at h
  refine fn_code tab_ok mixed [] Tryz.func233 rfl rfl (by simp [Tryz.f233]) (by kernel_rfl) ?_
  simp only [Tryz.f233]
  refine sA ?_
  refine Sp_if h (fun h hc1 => ?_) (fun h hc1 => ?_)
  · try refine sA ?_
    obtain ⟨c181, hr2, h⟩ := bind_ok h
    refine Cl_sA (w_strings_Trim hr2) ?_
    try refine sA ?_
    have he := Option.some.inj h
    subst he
    exact endsA ⟨[(2, (.lf false (.sc (.bool (c181.toList == ByteArray.empty.toList)))))], [], 0, 11⟩ []
  · try refine sA ?_
    have he := Option.some.inj h
    subst he
    exact endsA ⟨[(2, (.lf false (.sc (.bool false))))], [], 0, 11⟩ []
theorem w_impl_namesOk_c1 {a0 : ByteArray} {r : Bool} (h : impl_namesOk_c1 a0 = some r) : Fn Tryz.prog 245 [(.lf false (.sc (.string a0)))] [] 0 (.lf false (.sc (.bool r))) [] 0 := by
  unfold impl_namesOk_c1 at h
  refine fn_code tab_ok mixed [] Tryz.func245 rfl rfl (by simp [Tryz.f245]) (by kernel_rfl) ?_
  simp only [Tryz.f245]
  refine sA ?_
  obtain ⟨c182, hr1, h⟩ := bind_ok h
  refine Cl_sA (w_impl_goodName hr1) ?_
  try refine sA ?_
  have he := Option.some.inj h
  subst he
  exact endsA ⟨[(2, (.lf false (.sc (.bool (!c182)))))], [], 0, 6⟩ []
theorem w_slices_IndexFunc_string_impl_namesOk_c1 {a0 : (List ByteArray)} {r : Int} (h : slices_IndexFunc_string_impl_namesOk_c1 a0 = some r) : Fn Tryz.prog 252 [(.lf true (.sl (a0.map eS))), (.fn 245 [])] [] 0 (.lf false (.sc (.int .i64 r))) [] 0 := by
  unfold slices_IndexFunc_string_impl_namesOk_c1 at h
  refine fn_code tab_ok mixed [(1000, [(0, 0), (1, 0)]), (1001, [(0, 0), (1, 0), (7, 0), (8, 0)]), (1002, [(0, 0), (1, 0), (7, 0), (8, 0), (9, 0)]), (1003, [(0, 0), (1, 0), (5, 0), (7, 0), (8, 0)]), (1004, [(0, 0), (1, 0), (5, 0), (7, 0), (8, 0), (16, 0)]), (1005, [(4, 0)]), (1006, [(0, 0), (1, 0), (7, 0), (8, 0)]), (1007, [(4, 0)])] Tryz.func252 rfl rfl (by simp [Tryz.f252]) (by kernel_rfl) ?_
  simp only [Tryz.f252]
  refine sA ?_
  obtain ⟨y185, hl1, h⟩ := bind_ok h
  refine W_loopP (fun g180 : slices_IndexFunc_string_impl_namesOk_c1_G1 => ⟨[(0, (.lf true (.sl (a0.map eS)))), (1, (.fn 245 [])), (7, (.lf false (.sc (.int .i64 ((a0.length : Nat) : Int))))), (8, (.lf false (.sc (.int .i64 g180.t8))))], [], 0, 19⟩) (slices_IndexFunc_string_impl_namesOk_c1_L1 a0) _ _ hl1 (weakA []) ?_
  · intro n1 g180 z1 hs1 hk1
    unfold slices_IndexFunc_string_impl_namesOk_c1_L1 at hs1
    try dsimp only at hs1
    refine sA ?_
    refine Bs_if hs1 (fun hs1 hc2 => ?_) (fun hs1 hc2 => ?_)
    · try refine sA ?_
      obtain ⟨hp3, hs1⟩ := guard_some hs1
      have hn3 : g180.t8.toNat < a0.length := by first | omega | (simp only [List.length_set, List.length_append, List.length_replicate, List.length_map]; omega)
      try refine sA ?_
      try refine andA ?_
      obtain ⟨c184, hr4, hs1⟩ := bind_ok hs1
      refine Cl_sA (w_impl_namesOk_c1 hr4) ?_
      try refine sA ?_
      refine Bs_if hs1 (fun hs1 hc5 => ?_) (fun hs1 hc5 => ?_)
      · try refine sA ?_
        cases hs1
        cases hk1
        try dsimp only at h
        try refine sA ?_
        have he := Option.some.inj h
        subst he
        exact endsA ⟨[(4, (.lf false (.sc (.int .i64 g180.t8))))], [], 0, 19⟩ []
      · try refine sA ?_
        cases hs1
        exact X_backP hk1 (weakA [])
    · try refine sA ?_
      cases hs1
      cases hk1
      try dsimp only at h
      try refine sA ?_
      have he := Option.some.inj h
      subst he
      exact endsA ⟨[(4, (.lf false (.sc (.int .i64 (-1)))))], [], 0, 19⟩ []
theorem w_slices_ContainsFunc_string_impl_namesOk_c1 {a0 : (List ByteArray)} {r : Bool} (h : slices_ContainsFunc_string_impl_namesOk_c1 a0 = some r) : Fn Tryz.prog 244 [(.lf true (.sl (a0.map eS))), (.fn 245 [])] [] 0 (.lf false (.sc (.bool r))) [] 0 := by
  unfold slices_ContainsFunc_string_impl_namesOk_c1 at h
  refine fn_code tab_ok mixed [] Tryz.func244 rfl rfl (by simp [Tryz.f244]) (by kernel_rfl) ?_
  simp only [Tryz.f244]
  refine sA ?_
  obtain ⟨c188, hr1, h⟩ := bind_ok h
  refine Cl_sA (w_slices_IndexFunc_string_impl_namesOk_c1 hr1) ?_
  try refine sA ?_
  have he := Option.some.inj h
  subst he
  exact endsA ⟨[(4, (.lf false (.sc (.bool (decide (c188 ≥ 0))))))], [], 0, 9⟩ []
theorem w_impl_namesOk {a0 : (List ByteArray)} {a1 : Int} {r : Bool} (h : impl_namesOk a0 a1 = some r) : Fn Tryz.prog 229 [(.lf true (.sl (a0.map eS))), (.lf false (.sc (.int .i64 a1)))] [] 0 (.lf false (.sc (.bool r))) [] 0 := by
  unfold impl_namesOk at h
  refine fn_code tab_ok mixed [] Tryz.func229 rfl rfl (by simp [Tryz.f229]) (by kernel_rfl) ?_
  simp only [Tryz.f229]
  refine sA ?_
  refine Sp_if h (fun h hc1 => ?_) (fun h hc1 => ?_)
  · try refine sA ?_
    obtain ⟨c189, hr2, h⟩ := bind_ok h
    refine Cl_sA (w_slices_ContainsFunc_string_impl_namesOk_c1 hr2) ?_
    try refine sA ?_
    have he := Option.some.inj h
    subst he
    exact endsA ⟨[(4, (.lf false (.sc (.bool (!c189)))))], [], 0, 14⟩ []
  · try refine sA ?_
    have he := Option.some.inj h
    subst he
    exact endsA ⟨[(4, (.lf false (.sc (.bool false))))], [], 0, 14⟩ []
theorem w_slices_Index_string {a0 : (List ByteArray)} {a1 : ByteArray} {r : Int} (h : slices_Index_string a0 a1 = some r) : Fn Tryz.prog 200 [(.lf true (.sl (a0.map eS))), (.lf false (.sc (.string a1)))] [] 0 (.lf false (.sc (.int .i64 r))) [] 0 := by
  unfold slices_Index_string at h
  refine fn_code tab_ok mixed [(1000, [(0, 0), (1, 0)]), (1001, [(0, 0), (1, 0), (7, 0), (8, 0)]), (1002, [(0, 0), (1, 0), (7, 0), (8, 0), (9, 0)]), (1003, [(0, 0), (1, 0), (5, 0), (7, 0), (8, 0)]), (1004, [(0, 0), (1, 0), (5, 0), (7, 0), (8, 0), (16, 0)]), (1005, [(4, 0)]), (1006, [(0, 0), (1, 0), (7, 0), (8, 0)]), (1007, [(4, 0)])] Tryz.func200 rfl rfl (by simp [Tryz.f200]) (by kernel_rfl) ?_
  simp only [Tryz.f200]
  refine sA ?_
  obtain ⟨y193, hl1, h⟩ := bind_ok h
  refine W_loopP (fun g192 : slices_Index_string_G1 => ⟨[(0, (.lf true (.sl (a0.map eS)))), (1, (.lf false (.sc (.string a1)))), (7, (.lf false (.sc (.int .i64 ((a0.length : Nat) : Int))))), (8, (.lf false (.sc (.int .i64 g192.t8))))], [], 0, 19⟩) (slices_Index_string_L1 a0 a1) _ _ hl1 (weakA []) ?_
  · intro n1 g192 z1 hs1 hk1
    unfold slices_Index_string_L1 at hs1
    try dsimp only at hs1
    refine sA ?_
    refine Bs_if hs1 (fun hs1 hc2 => ?_) (fun hs1 hc2 => ?_)
    · try refine sA ?_
      obtain ⟨hp3, hs1⟩ := guard_some hs1
      have hn3 : g192.t8.toNat < a0.length := by first | omega | (simp only [List.length_set, List.length_append, List.length_replicate, List.length_map]; omega)
      try refine sA ?_
      try refine andA ?_
      refine Bs_if hs1 (fun hs1 hc4 => ?_) (fun hs1 hc4 => ?_)
      · try refine sA ?_
        cases hs1
        cases hk1
        try dsimp only at h
        try refine sA ?_
        have he := Option.some.inj h
        subst he
        exact endsA ⟨[(4, (.lf false (.sc (.int .i64 g192.t8))))], [], 0, 19⟩ []
      · try refine sA ?_
        cases hs1
        exact X_backP hk1 (weakA [])
    · try refine sA ?_
      cases hs1
      cases hk1
      try dsimp only at h
      try refine sA ?_
      have he := Option.some.inj h
      subst he
      exact endsA ⟨[(4, (.lf false (.sc (.int .i64 (-1)))))], [], 0, 19⟩ []
theorem w_slices_Contains_string {a0 : (List ByteArray)} {a1 : ByteArray} {r : Bool} (h : slices_Contains_string a0 a1 = some r) : Fn Tryz.prog 180 [(.lf true (.sl (a0.map eS))), (.lf false (.sc (.string a1)))] [] 0 (.lf false (.sc (.bool r))) [] 0 := by
  unfold slices_Contains_string at h
  refine fn_code tab_ok mixed [] Tryz.func180 rfl rfl (by simp [Tryz.f180]) (by kernel_rfl) ?_
  simp only [Tryz.f180]
  refine sA ?_
  obtain ⟨c196, hr1, h⟩ := bind_ok h
  refine Cl_sA (w_slices_Index_string hr1) ?_
  try refine sA ?_
  have he := Option.some.inj h
  subst he
  exact endsA ⟨[(4, (.lf false (.sc (.bool (decide (c196 ≥ 0))))))], [], 0, 9⟩ []
theorem w_impl_distinct {a0 : (List ByteArray)} {r : Bool} (h : impl_distinct a0 = some r) : Fn Tryz.prog 230 [(.lf true (.sl (a0.map eS)))] [] 0 (.lf false (.sc (.bool r))) [] 0 := by
  unfold impl_distinct at h
  refine fn_code tab_ok mixed [(1000, [(0, 0)]), (1001, [(0, 0), (5, 0), (6, 0), (7, 0)]), (1002, [(0, 0), (5, 0), (6, 0), (7, 0), (8, 0)]), (1003, [(0, 0), (3, 0), (4, 0), (5, 0), (6, 0), (7, 0)]), (1004, [(0, 0), (5, 0), (6, 0), (7, 0), (16, 0)]), (1005, [(2, 0)]), (1006, [(0, 0), (5, 0), (6, 0), (7, 0)]), (1007, [(2, 0)])] Tryz.func230 rfl rfl (by simp [Tryz.f230]) (by kernel_rfl) ?_
  simp only [Tryz.f230]
  refine sA ?_
  obtain ⟨y199, hl1, h⟩ := bind_ok h
  refine W_loopP (fun g191 : impl_distinct_G1 => ⟨[(0, (.lf true (.sl (a0.map eS)))), (5, (.lf true (.sl (a0.map eS)))), (6, (.lf false (.sc (.int .i64 ((a0.length : Nat) : Int))))), (7, (.lf false (.sc (.int .i64 g191.t7))))], [], 0, 18⟩) (impl_distinct_L1 a0) _ _ hl1 (weakA []) ?_
  · intro n1 g191 z1 hs1 hk1
    unfold impl_distinct_L1 at hs1
    try dsimp only at hs1
    refine sA ?_
    refine Bs_if hs1 (fun hs1 hc2 => ?_) (fun hs1 hc2 => ?_)
    · try refine sA ?_
      obtain ⟨hp3, hs1⟩ := guard_some hs1
      have hn3 : g191.t7.toNat < a0.length := by first | omega | (simp only [List.length_set, List.length_append, List.length_replicate, List.length_map]; omega)
      try refine sA ?_
      try refine andA ?_
      obtain ⟨hp4, hs1⟩ := guard_some hs1
      try refine sA ?_
      try refine andA ?_
      obtain ⟨c198, hr5, hs1⟩ := bind_ok hs1
      refine Cl_sA (w_slices_Contains_string hr5) ?_
      try refine sA ?_
      refine Bs_if hs1 (fun hs1 hc6 => ?_) (fun hs1 hc6 => ?_)
      · try refine sA ?_
        cases hs1
        cases hk1
        try dsimp only at h
        try refine sA ?_
        have he := Option.some.inj h
        subst he
        exact endsA ⟨[(2, (.lf false (.sc (.bool false))))], [], 0, 18⟩ []
      · try refine sA ?_
        cases hs1
        exact X_backP hk1 (weakA [])
    · try refine sA ?_
      cases hs1
      cases hk1
      try dsimp only at h
      try refine sA ?_
      have he := Option.some.inj h
      subst he
      exact endsA ⟨[(2, (.lf false (.sc (.bool true))))], [], 0, 18⟩ []
theorem w_cmp_isNaN_string {a0 : ByteArray} {r : Bool} (h : cmp_isNaN_string a0 = some r) : Fn Tryz.prog 219 [(.lf false (.sc (.string a0)))] [] 0 (.lf false (.sc (.bool r))) [] 0 := by
  unfold cmp_isNaN_string at h
  refine fn_code tab_ok mixed [] Tryz.func219 rfl rfl (by simp [Tryz.f219]) (by kernel_rfl) ?_
  simp only [Tryz.f219]
  refine sA ?_
  have he := Option.some.inj h
  subst he
  exact endsA ⟨[(2, (.lf false (.sc (.bool (!(a0.toList == a0.toList))))))], [], 0, 6⟩ []
theorem w_cmp_Less_string {a0 : ByteArray} {a1 : ByteArray} {r : Bool} (h : cmp_Less_string a0 a1 = some r) : Fn Tryz.prog 226 [(.lf false (.sc (.string a0))), (.lf false (.sc (.string a1)))] [] 0 (.lf false (.sc (.bool r))) [] 0 := by
  unfold cmp_Less_string at h
  refine fn_code tab_ok mixed [] Tryz.func226 rfl rfl (by simp [Tryz.f226]) (by kernel_rfl) ?_
  simp only [Tryz.f226]
  refine sA ?_
  obtain ⟨c205, hr1, h⟩ := bind_ok h
  refine Cl_sA (w_cmp_isNaN_string hr1) ?_
  try refine sA ?_
  refine Sp_if h (fun h hc2 => ?_) (fun h hc2 => ?_)
  · try refine sA ?_
    obtain ⟨c206, hr3, h⟩ := bind_ok h
    refine Cl_sA (w_cmp_isNaN_string hr3) ?_
    try refine sA ?_
    refine Sp_if h (fun h hc4 => ?_) (fun h hc4 => ?_)
    · try refine sA ?_
      have he := Option.some.inj h
      subst he
      exact endsA ⟨[(4, (.lf false (.sc (.bool true))))], [], 0, 17⟩ []
    · try refine sA ?_
      have he := Option.some.inj h
      subst he
      exact endsA ⟨[(4, (.lf false (.sc (.bool (sLt a0 a1)))))], [], 0, 17⟩ []
  · try refine sA ?_
    have he := Option.some.inj h
    subst he
    exact endsA ⟨[(4, (.lf false (.sc (.bool (sLt a0 a1)))))], [], 0, 17⟩ []
theorem w_slices_IsSorted_string {a0 : (List ByteArray)} {r : Bool} (h : slices_IsSorted_string a0 = some r) : Fn Tryz.prog 231 [(.lf true (.sl (a0.map eS)))] [] 0 (.lf false (.sc (.bool r))) [] 0 := by
  unfold slices_IsSorted_string at h
  refine fn_code tab_ok mixed [(1000, [(0, 0)]), (1001, [(0, 0), (3, 0)]), (1002, [(0, 0), (3, 0), (8, 0)]), (1003, [(0, 0), (3, 0)]), (1004, [(0, 0), (3, 0), (20, 0)]), (1005, [(2, 0)]), (1006, [(2, 0)])] Tryz.func231 rfl rfl (by simp [Tryz.f231]) (by kernel_rfl) ?_
  simp only [Tryz.f231]
  refine sA ?_
  obtain ⟨y209, hl1, h⟩ := bind_ok h
  refine W_loopP (fun g204 : slices_IsSorted_string_G1 => ⟨[(0, (.lf true (.sl (a0.map eS)))), (3, (.lf false (.sc (.int .i64 g204.t3))))], [], 0, 21⟩) (slices_IsSorted_string_L1 a0) _ _ hl1 (weakA []) ?_
  · intro n1 g204 z1 hs1 hk1
    unfold slices_IsSorted_string_L1 at hs1
    try dsimp only at hs1
    refine sA ?_
    refine Bs_if hs1 (fun hs1 hc2 => ?_) (fun hs1 hc2 => ?_)
    · try refine sA ?_
      obtain ⟨hp3, hs1⟩ := guard_some hs1
      have hn3 : g204.t3.toNat < a0.length := by first | omega | (simp only [List.length_set, List.length_append, List.length_replicate, List.length_map]; omega)
      try refine sA ?_
      try refine andA ?_
      obtain ⟨hp4, hs1⟩ := guard_some hs1
      have hn4 : (wI (g204.t3 - 1)).toNat < a0.length := by first | omega | (simp only [List.length_set, List.length_append, List.length_replicate, List.length_map]; omega)
      try refine sA ?_
      try refine andA ?_
      obtain ⟨c208, hr5, hs1⟩ := bind_ok hs1
      refine Cl_sA (w_cmp_Less_string hr5) ?_
      try refine sA ?_
      refine Bs_if hs1 (fun hs1 hc6 => ?_) (fun hs1 hc6 => ?_)
      · try refine sA ?_
        cases hs1
        cases hk1
        try dsimp only at h
        try refine sA ?_
        have he := Option.some.inj h
        subst he
        exact endsA ⟨[(2, (.lf false (.sc (.bool false))))], [], 0, 21⟩ []
      · try refine sA ?_
        cases hs1
        exact X_backP hk1 (weakA [])
    · try refine sA ?_
      cases hs1
      cases hk1
      try dsimp only at h
      try refine sA ?_
      have he := Option.some.inj h
      subst he
      exact endsA ⟨[(2, (.lf false (.sc (.bool true))))], [], 0, 21⟩ []
theorem w_impl_GoodState {a0 : StateT} {r : Bool} (h : impl_GoodState a0 = some r) : Fn Tryz.prog 202 [(.ag [(.lf false (.sc (.int .i64 a0.Status))), (.lf false (.sc (.int .i64 a0.Next))), (.lf false (.sc (.bool a0.Cancel))), (.lf false (.sc (.int .i64 a0.Done))), (.lf true (.sl (a0.Signals.map eS))), (.lf true (.sl (a0.Timers.map eS)))])] [] 0 (.lf false (.sc (.bool r))) [] 0 := by
  unfold impl_GoodState at h
  refine fn_code tab_ok mixed [(1000, [(1, 0)]), (1001, [(1, 0), (18, 0)]), (1002, [(2, 0)]), (1003, [(1, 0), (46, 0)]), (1004, [(2, 0)]), (1005, [(1, 0), (49, 0)]), (1006, [(2, 0)]), (1007, [(2, 0)]), (4001, []), (4003, [])] Tryz.func202 rfl rfl (by simp [Tryz.f202]) (by kernel_rfl) ?_
  simp only [Tryz.f202]
  refine sA ?_
  obtain ⟨p179, hq1, h⟩ := bind_ok h
  refine Sq_cut (fun s2 => s2 = ⟨[(1, (.pb 0 0)), (18, (.lf false (.sc (.bool p179.t18))))], [(0, some (true, .box [(.lf false (.sc (.int .i64 a0.Status))), (.lf false (.sc (.int .i64 a0.Next))), (.lf false (.sc (.bool a0.Cancel))), (.lf false (.sc (.int .i64 a0.Done))), (.lf true (.sl (a0.Signals.map eS))), (.lf true (.sl (a0.Timers.map eS)))]))], 1, 78⟩) ?_ ?_
  · try refine sA ?_
    obtain ⟨c176, hr2, hq1⟩ := bind_ok hq1
    refine Cl_sA (w_impl_in hr2) ?_
    try refine sA ?_
    refine Sp_if hq1 (fun hq1 hc3 => ?_) (fun hq1 hc3 => ?_)
    · try refine sA ?_
      cases hq1
      exact X_cut rfl (weakA [some 0])
    · try refine sA ?_
      obtain ⟨c177, hr4, hq1⟩ := bind_ok hq1
      refine Cl_sA (w_impl_in hr4) ?_
      try refine sA ?_
      refine Sp_if hq1 (fun hq1 hc5 => ?_) (fun hq1 hc5 => ?_)
      · try refine sA ?_
        cases hq1
        exact X_cut rfl (weakA [some 0])
      · try refine sA ?_
        obtain ⟨c178, hr6, hq1⟩ := bind_ok hq1
        refine Cl_sA (w_impl_in hr6) ?_
        try refine sA ?_
        cases hq1
        exact X_cut rfl (weakA [some 0])
  · intro s2 hJ; subst hJ
    try dsimp only at h
    try refine sA ?_
    refine Bs_if h (fun h hc7 => ?_) (fun h hc7 => ?_)
    · try refine sA ?_
      have he := Option.some.inj h
      subst he
      exact endsA ⟨[(2, (.lf false (.sc (.bool false))))], [], 0, 78⟩ []
    · try refine sA ?_
      obtain ⟨p214, hq8, h⟩ := bind_ok h
      refine Sq_cut (fun s2 => s2 = ⟨[(1, (.pb 0 0)), (46, (.lf false (.sc (.bool p214.t46))))], [(0, some (true, .box [(.lf false (.sc (.int .i64 a0.Status))), (.lf false (.sc (.int .i64 a0.Next))), (.lf false (.sc (.bool a0.Cancel))), (.lf false (.sc (.int .i64 a0.Done))), (.lf true (.sl (a0.Signals.map eS))), (.lf true (.sl (a0.Timers.map eS)))]))], 1, 78⟩) ?_ ?_
      · try refine sA ?_
        obtain ⟨c190, hr9, hq8⟩ := bind_ok hq8
        refine Cl_sA (w_impl_namesOk hr9) ?_
        try refine sA ?_
        refine Sp_if hq8 (fun hq8 hc10 => ?_) (fun hq8 hc10 => ?_)
        · try refine sA ?_
          cases hq8
          exact X_cut rfl (weakA [some 0])
        · try refine sA ?_
          obtain ⟨c202, hr11, hq8⟩ := bind_ok hq8
          refine Cl_sA (w_impl_distinct hr11) ?_
          try refine sA ?_
          refine Sp_if hq8 (fun hq8 hc12 => ?_) (fun hq8 hc12 => ?_)
          · try refine sA ?_
            cases hq8
            exact X_cut rfl (weakA [some 0])
          · try refine sA ?_
            obtain ⟨c203, hr13, hq8⟩ := bind_ok hq8
            refine Cl_sA (w_impl_namesOk hr13) ?_
            try refine sA ?_
            refine Sp_if hq8 (fun hq8 hc14 => ?_) (fun hq8 hc14 => ?_)
            · try refine sA ?_
              cases hq8
              exact X_cut rfl (weakA [some 0])
            · try refine sA ?_
              obtain ⟨c212, hr15, hq8⟩ := bind_ok hq8
              refine Cl_sA (w_slices_IsSorted_string hr15) ?_
              try refine sA ?_
              refine Sp_if hq8 (fun hq8 hc16 => ?_) (fun hq8 hc16 => ?_)
              · try refine sA ?_
                cases hq8
                exact X_cut rfl (weakA [some 0])
              · try refine sA ?_
                obtain ⟨c213, hr17, hq8⟩ := bind_ok hq8
                refine Cl_sA (w_impl_distinct hr17) ?_
                try refine sA ?_
                cases hq8
                exact X_cut rfl (weakA [some 0])
      · intro s2 hJ; subst hJ
        try dsimp only at h
        try refine sA ?_
        refine Bs_if h (fun h hc18 => ?_) (fun h hc18 => ?_)
        · try refine sA ?_
          have he := Option.some.inj h
          subst he
          exact endsA ⟨[(2, (.lf false (.sc (.bool false))))], [], 0, 78⟩ []
        · try refine sA ?_
          refine Bs_if h (fun h hc19 => ?_) (fun h hc19 => ?_)
          · try refine sA ?_
            have he := Option.some.inj h
            subst he
            exact endsA ⟨[(2, (.lf false (.sc (.bool (decide (a0.Next > 1))))))], [], 0, 78⟩ []
          · try refine sA ?_
            refine Sp_if h (fun h hc20 => ?_) (fun h hc20 => ?_)
            · try refine sA ?_
              refine Sp_if h (fun h hc21 => ?_) (fun h hc21 => ?_)
              · try refine sA ?_
                refine Sp_if h (fun h hc22 => ?_) (fun h hc22 => ?_)
                · try refine sA ?_
                  refine Sp_if h (fun h hc23 => ?_) (fun h hc23 => ?_)
                  · try refine sA ?_
                    have he := Option.some.inj h
                    subst he
                    exact endsA ⟨[(2, (.lf false (.sc (.bool (((a0.Timers.length : Nat) : Int) == 0)))))], [], 0, 78⟩ []
                  · try refine sA ?_
                    have he := Option.some.inj h
                    subst he
                    exact endsA ⟨[(2, (.lf false (.sc (.bool false))))], [], 0, 78⟩ []
                · try refine sA ?_
                  have he := Option.some.inj h
                  subst he
                  exact endsA ⟨[(2, (.lf false (.sc (.bool false))))], [], 0, 78⟩ []
              · try refine sA ?_
                have he := Option.some.inj h
                subst he
                exact endsA ⟨[(2, (.lf false (.sc (.bool false))))], [], 0, 78⟩ []
            · try refine sA ?_
              have he := Option.some.inj h
              subst he
              exact endsA ⟨[(2, (.lf false (.sc (.bool false))))], [], 0, 78⟩ []
theorem w_impl_goodKind {a0 : Int} {r : Bool} (h : impl_goodKind a0 = some r) : Fn Tryz.prog 232 [(.lf false (.sc (.int .i64 a0)))] [] 0 (.lf false (.sc (.bool r))) [] 0 := by
  unfold impl_goodKind at h
  refine fn_code tab_ok mixed [] Tryz.func232 rfl rfl (by simp [Tryz.f232]) (by kernel_rfl) ?_
  simp only [Tryz.f232]
  refine sA ?_
  obtain ⟨c218, hr1, h⟩ := bind_ok h
  refine Cl_sA (w_impl_in hr1) ?_
  try refine sA ?_
  have he := Option.some.inj h
  subst he
  exact endsA ⟨[(2, (.lf false (.sc (.bool c218))))], [], 0, 5⟩ []
theorem w_impl_GoodEvent {a0 : EventT} {r : Bool} (h : impl_GoodEvent a0 = some r) : Fn Tryz.prog 203 [(.ag [(.lf false (.sc (.int .i64 a0.Id))), (.lf false (.sc (.int .i64 a0.Version))), (.lf false (.sc (.int .i64 a0.Kind))), (.lf false (.sc (.string a0.Name)))])] [] 0 (.lf false (.sc (.bool r))) [] 0 := by
  unfold impl_GoodEvent at h
  refine fn_code tab_ok mixed [] Tryz.func203 rfl rfl (by simp [Tryz.f203]) (by kernel_rfl) ?_
  simp only [Tryz.f203]
  refine sA ?_
  obtain ⟨c216, hr1, h⟩ := bind_ok h
  refine Cl_sA (w_impl_in hr1) ?_
  try refine sA ?_
  refine Sp_if h (fun h hc2 => ?_) (fun h hc2 => ?_)
  · try refine sA ?_
    obtain ⟨c217, hr3, h⟩ := bind_ok h
    refine Cl_sA (w_impl_isVersion hr3) ?_
    try refine sA ?_
    refine Sp_if h (fun h hc4 => ?_) (fun h hc4 => ?_)
    · try refine sA ?_
      obtain ⟨c219, hr5, h⟩ := bind_ok h
      refine Cl_sA (w_impl_goodKind hr5) ?_
      try refine sA ?_
      refine Sp_if h (fun h hc6 => ?_) (fun h hc6 => ?_)
      · try refine sA ?_
        obtain ⟨c220, hr7, h⟩ := bind_ok h
        refine Cl_sA (w_impl_goodName hr7) ?_
        try refine sA ?_
        have he := Option.some.inj h
        subst he
        exact endsA ⟨[(2, (.lf false (.sc (.bool c220))))], [], 0, 21⟩ []
      · try refine sA ?_
        have he := Option.some.inj h
        subst he
        exact endsA ⟨[(2, (.lf false (.sc (.bool false))))], [], 0, 21⟩ []
    · try refine sA ?_
      have he := Option.some.inj h
      subst he
      exact endsA ⟨[(2, (.lf false (.sc (.bool false))))], [], 0, 21⟩ []
  · try refine sA ?_
    have he := Option.some.inj h
    subst he
    exact endsA ⟨[(2, (.lf false (.sc (.bool false))))], [], 0, 21⟩ []
theorem w_slices_Clone_string {a0 : (List ByteArray)} {r : (List ByteArray)} (h : slices_Clone_string a0 = some r) : Fn Tryz.prog 234 [(.lf true (.sl (a0.map eS)))] [] 0 (.os 0 1 0 r.length r.length false) [(0, some (true, .arr false 1 (r.map eS)))] 1 := by
  unfold slices_Clone_string at h
  obtain ⟨hp, h⟩ := guard_some h
  have he := Option.some.inj h; subst he
  refine fn_code tab_ok mixed [] Tryz.func234 rfl rfl (by simp [Tryz.f234]) (by kernel_rfl) ?_
  simp only [Tryz.f234]
  simp (disch := assumption) only [go_sem, Nat.reduceAdd, Nat.reduceMul, Nat.reduceSub, Nat.reduceEqDiff, ↓reduceIte, Nat.reduceLT, reduceCtorEq, Nat.reduceLeDiff, Int.reduceToNat, Int.reduceEq, Int.reduceLE, Int.reduceLT, Nat.reduceBEq]
  intro b hb
  refine Bs_splitC (b = true) (by simp) (fun hc => ?_) (fun hc => ?_)
  · have h0 : a0 = [] := by simpa using hb (by simpa using hc)
    subst h0
    try simp (disch := assumption) only [go_sem, Nat.reduceAdd, Nat.reduceMul, Nat.reduceSub, Nat.reduceEqDiff, ↓reduceIte, Nat.reduceLT, reduceCtorEq, Nat.reduceLeDiff, Int.reduceToNat, Int.reduceEq, Int.reduceLE, Int.reduceLT, Nat.reduceBEq]
    refine ends_weak ⟨[(2, (.os 0 1 0 0 0 false))], [(0, some (true, .arr false 1 (([] : List ByteArray).map eS)))], 1, 8⟩ (weak_of (m := 0) [none] rfl rfl rfl (by rfl) ?_ ?_) ?_
    all_goals ((try simp (disch := assumption) only [go_sem, Nat.reduceAdd, Nat.reduceMul, Nat.reduceSub, Nat.reduceEqDiff, ↓reduceIte, Nat.reduceLT, reduceCtorEq, Nat.reduceLeDiff, Int.reduceToNat, Int.reduceEq, Int.reduceLE, Int.reduceLT, Nat.reduceBEq]); (repeat' first | done | rfl | omega | refine And.intro ?_ ?_ | (simp; done) | (simp; omega)))
  · try simp (disch := assumption) only [go_sem, Nat.reduceAdd, Nat.reduceMul, Nat.reduceSub, Nat.reduceEqDiff, ↓reduceIte, Nat.reduceLT, reduceCtorEq, Nat.reduceLeDiff, Int.reduceToNat, Int.reduceEq, Int.reduceLE, Int.reduceLT, Nat.reduceBEq]
    first | refine And.intro (by first | omega | exact ⟨by omega, fun _ => mapLen fun _ => rfl⟩ | (refine ⟨?_, by omega⟩; first | exact mapLen fun _ => rfl | simp)) ?_ | skip
    try simp (disch := assumption) only [go_sem, Nat.reduceAdd, Nat.reduceMul, Nat.reduceSub, Nat.reduceEqDiff, ↓reduceIte, Nat.reduceLT, reduceCtorEq, Nat.reduceLeDiff, Int.reduceToNat, Int.reduceEq, Int.reduceLE, Int.reduceLT, Nat.reduceBEq]
    refine ends_weak ⟨[(2, (.os 0 1 0 a0.length a0.length false))], [(0, some (true, .arr false 1 (a0.map eS)))], 1, 8⟩ (weak_of (m := 0) [some 1] rfl rfl rfl (by rfl) ?_ ?_) ?_
    all_goals ((try simp (disch := assumption) only [go_sem, Nat.reduceAdd, Nat.reduceMul, Nat.reduceSub, Nat.reduceEqDiff, ↓reduceIte, Nat.reduceLT, reduceCtorEq, Nat.reduceLeDiff, Int.reduceToNat, Int.reduceEq, Int.reduceLE, Int.reduceLT, Nat.reduceBEq]); (repeat' first | done | rfl | omega | refine And.intro ?_ ?_ | (simp; done) | (simp; omega)))
theorem w_impl_cloneState {a0 : StateT} {r : StateT} (h : impl_cloneState a0 = some r) : Fn Tryz.prog 204 [(.ag [(.lf false (.sc (.int .i64 a0.Status))), (.lf false (.sc (.int .i64 a0.Next))), (.lf false (.sc (.bool a0.Cancel))), (.lf false (.sc (.int .i64 a0.Done))), (.lf true (.sl (a0.Signals.map eS))), (.lf true (.sl (a0.Timers.map eS)))])] [] 0 (.ag [(.lf false (.sc (.int .i64 r.Status))), (.lf false (.sc (.int .i64 r.Next))), (.lf false (.sc (.bool r.Cancel))), (.lf false (.sc (.int .i64 r.Done))), (.os 0 1 0 r.Signals.length r.Signals.length false), (.os 1 1 0 r.Timers.length r.Timers.length false)]) [(0, some (true, .arr false 1 (r.Signals.map eS))), (1, some (true, .arr false 1 (r.Timers.map eS)))] 3 := by
  unfold impl_cloneState at h
  refine fn_code tab_ok mixed [(1, [(4, 2)]), (1000, [(1, 0), (2, 0)]), (1001, [(1, 0), (2, 0)]), (1002, [(2, 0)])] Tryz.func204 rfl rfl (by simp [Tryz.f204]) (by kernel_rfl) ?_
  simp only [Tryz.f204]
  refine sA ?_
  obtain ⟨c223, hr1, h⟩ := bind_ok h
  refine Cl_sA (w_slices_Clone_string hr1) ?_
  try refine sA ?_
  obtain ⟨c224, hr2, h⟩ := bind_ok h
  refine Cl_sA (w_slices_Clone_string hr2) ?_
  try refine sA ?_
  have he := Option.some.inj h
  subst he
  exact endsA ⟨[(2, (.pb 2 0))], [(0, some (true, .arr false 1 (c223.map eS))), (1, some (true, .arr false 1 (c224.map eS))), (2, some (true, .box [(.lf false (.sc (.int .i64 a0.Status))), (.lf false (.sc (.int .i64 a0.Next))), (.lf false (.sc (.bool a0.Cancel))), (.lf false (.sc (.int .i64 a0.Done))), (.os 0 1 0 c223.length c223.length false), (.os 1 1 0 c224.length c224.length false)]))], 3, 12⟩ [some 2, some 3, some 1]
theorem w_slices_isNaN_string {a0 : ByteArray} {r : Bool} (h : slices_isNaN_string a0 = some r) : Fn Tryz.prog 260 [(.lf false (.sc (.string a0)))] [] 0 (.lf false (.sc (.bool r))) [] 0 := by
  unfold slices_isNaN_string at h
  refine fn_code tab_ok mixed [] Tryz.func260 rfl rfl (by simp [Tryz.f260]) (by kernel_rfl) ?_
  simp only [Tryz.f260]
  refine sA ?_
  have he := Option.some.inj h
  subst he
  exact endsA ⟨[(2, (.lf false (.sc (.bool (!(a0.toList == a0.toList))))))], [], 0, 6⟩ []
theorem w_slices_BinarySearch_string {a0 : (List ByteArray)} {a1 : ByteArray} {r : (Int × Bool)} (h : slices_BinarySearch_string a0 a1 = some r) : Fn Tryz.prog 247 [(.lf true (.sl (a0.map eS))), (.lf false (.sc (.string a1)))] [] 0 (.tu [(.lf false (.sc (.int .i64 r.1))), (.lf false (.sc (.bool r.2)))]) [] 0 := by
  unfold slices_BinarySearch_string at h
  refine fn_code tab_ok mixed [(1000, [(0, 0), (1, 0)]), (1001, [(0, 0), (1, 0), (6, 0)]), (1002, [(0, 0), (1, 0), (6, 0), (7, 0), (8, 0)]), (1003, [(0, 0), (1, 0), (6, 0), (7, 0), (8, 0), (15, 0)]), (1004, [(0, 0), (1, 0), (6, 0), (7, 0), (8, 0), (9, 0)]), (1005, [(0, 0), (1, 0), (6, 0), (7, 0), (8, 0), (9, 0), (27, 0)]), (1006, [(0, 0), (1, 0), (6, 0), (7, 0), (8, 0)]), (1007, [(0, 0), (1, 0), (6, 0), (7, 0), (8, 0)]), (1008, [(4, 0), (5, 0)])] Tryz.func247 rfl rfl (by simp [Tryz.f247]) (by kernel_rfl) ?_
  simp only [Tryz.f247]
  refine sA ?_
  obtain ⟨y232, hl1, h⟩ := bind_ok h
  refine W_loopP (fun g229 : slices_BinarySearch_string_G1 => ⟨[(0, (.lf true (.sl (a0.map eS)))), (1, (.lf false (.sc (.string a1)))), (6, (.lf false (.sc (.int .i64 ((a0.length : Nat) : Int))))), (7, (.lf false (.sc (.int .i64 g229.t7)))), (8, (.lf false (.sc (.int .i64 g229.t8))))], [], 0, 54⟩) (slices_BinarySearch_string_L1 a0 a1) _ _ hl1 (weakA []) ?_
  · intro n1 g229 z1 hs1 hk1
    unfold slices_BinarySearch_string_L1 at hs1
    try dsimp only at hs1
    refine sA ?_
    refine Bs_if hs1 (fun hs1 hc2 => ?_) (fun hs1 hc2 => ?_)
    · try refine sA ?_
      obtain ⟨hp3, hs1⟩ := guard_some hs1
      have hn3 : (wI (shR 64 (wU (wI (g229.t7 + g229.t8))) 1)).toNat < a0.length := by first | omega | (simp only [List.length_set, List.length_append, List.length_replicate, List.length_map]; omega)
      try refine sA ?_
      try refine andA ?_
      obtain ⟨c231, hr4, hs1⟩ := bind_ok hs1
      refine Cl_sA (w_cmp_Less_string hr4) ?_
      try refine sA ?_
      refine Bs_if hs1 (fun hs1 hc5 => ?_) (fun hs1 hc5 => ?_)
      · try refine sA ?_
        cases hs1
        exact X_backP hk1 (weakA [])
      · try refine sA ?_
        cases hs1
        exact X_backP hk1 (weakA [])
    · try refine sA ?_
      cases hs1
      cases hk1
      try dsimp only at h
      try refine sA ?_
      refine Sp_if h (fun h hc6 => ?_) (fun h hc6 => ?_)
      · try refine sA ?_
        obtain ⟨hp7, h⟩ := guard_some h
        have hn7 : g229.t7.toNat < a0.length := by first | omega | (simp only [List.length_set, List.length_append, List.length_replicate, List.length_map]; omega)
        try refine sA ?_
        try refine andA ?_
        refine Sp_if h (fun h hc8 => ?_) (fun h hc8 => ?_)
        · try refine sA ?_
          have he := Option.some.inj h
          subst he
          exact endsA ⟨[(4, (.lf false (.sc (.int .i64 g229.t7)))), (5, (.lf false (.sc (.bool true))))], [], 0, 54⟩ []
        · try refine sA ?_
          obtain ⟨hp9, h⟩ := guard_some h
          have hn9 : g229.t7.toNat < a0.length := by first | omega | (simp only [List.length_set, List.length_append, List.length_replicate, List.length_map]; omega)
          try refine sA ?_
          try refine andA ?_
          obtain ⟨c235, hr10, h⟩ := bind_ok h
          refine Cl_sA (w_slices_isNaN_string hr10) ?_
          try refine sA ?_
          refine Sp_if h (fun h hc11 => ?_) (fun h hc11 => ?_)
          · try refine sA ?_
            obtain ⟨c236, hr12, h⟩ := bind_ok h
            refine Cl_sA (w_slices_isNaN_string hr12) ?_
            try refine sA ?_
            have he := Option.some.inj h
            subst he
            exact endsA ⟨[(4, (.lf false (.sc (.int .i64 g229.t7)))), (5, (.lf false (.sc (.bool c236))))], [], 0, 54⟩ []
          · try refine sA ?_
            have he := Option.some.inj h
            subst he
            exact endsA ⟨[(4, (.lf false (.sc (.int .i64 g229.t7)))), (5, (.lf false (.sc (.bool false))))], [], 0, 54⟩ []
      · try refine sA ?_
        have he := Option.some.inj h
        subst he
        exact endsA ⟨[(4, (.lf false (.sc (.int .i64 g229.t7)))), (5, (.lf false (.sc (.bool false))))], [], 0, 54⟩ []
theorem w_slices_Delete_string_w {a0 : List ByteArray} {a1 a2 : Int} {m0 : Nat} {x0 : Bool} {r : List ByteArray} (h : slices_Delete_string_w a0 a1 a2 = some r) : Fn Tryz.prog 248 [(.os 0 1 0 a0.length m0 x0), (.lf false (.sc (.int .i64 a1))), (.lf false (.sc (.int .i64 a2)))] [(0, some (false, .arr true 1 (a0.map eS)))] 1 (.os 1 1 0 r.length r.length false) [(0, none), (1, some (false, .arr false 1 (r.map eS)))] 2 := by
  unfold slices_Delete_string_w at h
  obtain ⟨⟨hp1, hp2, hp3, hp4⟩, h⟩ := guard_some h
  have he := Option.some.inj h; subst he
  refine fn_code tab_ok mixed [] Tryz.func248 rfl rfl (by simp [Tryz.f248]) (by kernel_rfl) ?_
  simp only [Tryz.f248]
  simp (disch := assumption) only [go_sem, Nat.reduceAdd, Nat.reduceMul, Nat.reduceSub, Nat.reduceEqDiff, ↓reduceIte, Nat.reduceLT, reduceCtorEq, Nat.reduceLeDiff, Int.reduceToNat, Int.reduceEq, Int.reduceLE, Int.reduceLT, Nat.reduceBEq]
  refine And.intro (by omega) ?_
  try simp (disch := assumption) only [go_sem, Nat.reduceAdd, Nat.reduceMul, Nat.reduceSub, Nat.reduceEqDiff, ↓reduceIte, Nat.reduceLT, reduceCtorEq, Nat.reduceLeDiff, Int.reduceToNat, Int.reduceEq, Int.reduceLE, Int.reduceLT, Nat.reduceBEq]
  refine Bs_splitC (a1 == a2) (by first | rfl | simp) (fun hc => ?_) (fun hc => ?_)
  · try simp (disch := assumption) only [go_sem, Nat.reduceAdd, Nat.reduceMul, Nat.reduceSub, Nat.reduceEqDiff, ↓reduceIte, Nat.reduceLT, reduceCtorEq, Nat.reduceLeDiff, Int.reduceToNat, Int.reduceEq, Int.reduceLE, Int.reduceLT, Nat.reduceBEq]
    have he : a1 = a2 := by simpa using hc
    have hr : a0.take a1.toNat ++ a0.drop a2.toNat = a0 := by rw [he]; exact List.take_append_drop _ _
    rw [hr]
    refine ends_weak ⟨[(6, (.os 1 1 0 a0.length a0.length false))], [(0, none), (1, some (false, .arr false 1 (a0.map eS)))], 2, 33⟩ (weak_of (m := 1) [some 0, some 0] rfl rfl rfl (by rfl) ?_ ?_) ?_
    all_goals ((try simp (disch := assumption) only [go_sem, Nat.reduceAdd, Nat.reduceMul, Nat.reduceSub, Nat.reduceEqDiff, ↓reduceIte, Nat.reduceLT, reduceCtorEq, Nat.reduceLeDiff, Int.reduceToNat, Int.reduceEq, Int.reduceLE, Int.reduceLT, Nat.reduceBEq]); (repeat' first | done | rfl | omega | refine And.intro ?_ ?_ | (simp; done) | (simp; omega)))
  · try simp (disch := assumption) only [go_sem, Nat.reduceAdd, Nat.reduceMul, Nat.reduceSub, Nat.reduceEqDiff, ↓reduceIte, Nat.reduceLT, reduceCtorEq, Nat.reduceLeDiff, Int.reduceToNat, Int.reduceEq, Int.reduceLE, Int.reduceLT, Nat.reduceBEq]
    refine And.intro (by omega) (And.intro (by omega) ?_)
    have hs : a2.toNat + (a0.length - a2.toNat) ≤ a0.length := by omega
    simp (disch := assumption) only [go_sem, Nat.reduceAdd, Nat.reduceMul, Nat.reduceSub, Nat.reduceEqDiff, ↓reduceIte, Nat.reduceLT, reduceCtorEq, Nat.reduceLeDiff, Int.reduceToNat, Int.reduceEq, Int.reduceLE, Int.reduceLT, Nat.reduceBEq, hs]
    have hd : (a0.drop a2.toNat).length = a0.length - a2.toNat := List.length_drop
    have ht : (a0.take a1.toNat).length = a1.toNat := by rw [List.length_take]; omega
    have hR : (a0.take a1.toNat ++ a0.drop a2.toNat).length = a1.toNat + (a0.drop a2.toNat).length := by rw [List.length_append, ht]
    refine And.intro ⟨by omega, (by first | exact mapLen fun _ => rfl | simp), by omega⟩ (And.intro ⟨by omega, by omega, by omega⟩ (And.intro (by omega) ?_))
    refine ends_weak ⟨[(6, (.os 1 1 0 (a0.take a1.toNat ++ a0.drop a2.toNat).length (a0.take a1.toNat ++ a0.drop a2.toNat).length false))], [(0, none), (1, some (false, .arr false 1 ((a0.take a1.toNat ++ a0.drop a2.toNat).map eS)))], 2, 33⟩ (weak_of (m := 1) [some 0, some 1] rfl rfl rfl (by rfl) ?_ ?_) ?_
    all_goals ((try simp (disch := assumption) only [go_sem, Nat.reduceAdd, Nat.reduceMul, Nat.reduceSub, Nat.reduceEqDiff, ↓reduceIte, Nat.reduceLT, reduceCtorEq, Nat.reduceLeDiff, Int.reduceToNat, Int.reduceEq, Int.reduceLE, Int.reduceLT, Nat.reduceBEq]); (repeat' first | done | rfl | omega | refine And.intro ?_ ?_ | (simp; done) | (simp; omega)))
theorem w_slices_Insert_string_w {a0 : List ByteArray} {a1 : Int} {a2 : List ByteArray} {m0 m2 : Nat} {x0 x2 : Bool} {r : List ByteArray} (h : slices_Insert_string_w a0 a1 a2 = some r) : Fn Tryz.prog 249 [(.os 0 1 0 a0.length m0 x0), (.lf false (.sc (.int .i64 a1))), (.os 1 1 0 a2.length m2 x2)] [(0, some (false, .arr true 1 (a0.map eS))), (1, some (false, .arr true 1 (a2.map eS)))] 2 (.os 2 1 0 r.length r.length false) [(0, none), (1, none), (2, some (false, .arr false 1 (r.map eS)))] 3 := by
  unfold slices_Insert_string_w at h
  obtain ⟨⟨hp1, hp2, hp3, hp4⟩, h⟩ := guard_some h
  have he := Option.some.inj h; subst he
  obtain ⟨x, rfl⟩ := List.length_eq_one_iff.1 hp1
  rw [List.append_assoc, List.singleton_append]
  exact fn_insert Go.Proofs.Tryz.lays22 (Ent.of Tryz.func249 rfl (by simp [Tryz.f249])) (fun _ => rfl) hp2 hp3 hp4
theorem w_impl_State_turnTimer_o {a0 : StateT} {a1 : ByteArray} {m1 : Nat} {x1 : Bool} {m2 : Nat} {x2 : Bool} {r : (Bool × StateT)} (h : impl_State_turnTimer_o a0 a1 = some r) : Fn Tryz.prog 235 [(.pb 0 0), (.lf false (.sc (.string a1)))] [(0, some (false, .box [(.lf false (.sc (.int .i64 a0.Status))), (.lf false (.sc (.int .i64 a0.Next))), (.lf false (.sc (.bool a0.Cancel))), (.lf false (.sc (.int .i64 a0.Done))), (.os 1 1 0 a0.Signals.length m1 x1), (.os 2 1 0 a0.Timers.length m2 x2)])), (1, some (false, .arr true 1 (a0.Signals.map eS))), (2, some (false, .arr true 1 (a0.Timers.map eS)))] 3 (.lf false (.sc (.bool r.1))) [(0, some (false, .box [(.lf false (.sc (.int .i64 r.2.Status))), (.lf false (.sc (.int .i64 r.2.Next))), (.lf false (.sc (.bool r.2.Cancel))), (.lf false (.sc (.int .i64 r.2.Done))), (.os 1 1 0 a0.Signals.length a0.Signals.length false), (.os 3 1 0 r.2.Timers.length r.2.Timers.length false)])), (1, some (false, .arr false 1 (a0.Signals.map eS))), (2, none), (3, some (false, .arr false 1 (r.2.Timers.map eS)))] 4 := by
  unfold impl_State_turnTimer_o at h
  refine fn_code tab_ok mixed [(1000, [(0, 0), (1, 0)]), (1001, [(0, 0), (1, 0), (5, 0), (6, 0)]), (1002, []), (1003, [(0, 0), (1, 0), (5, 0), (27, 0)]), (1004, []), (1005, [(0, 0), (1, 0), (5, 0), (40, 0)]), (1006, [(4, 0)]), (1007, [(4, 0)])] Tryz.func235 rfl rfl (by simp [Tryz.f235]) (by kernel_rfl) ?_
  simp only [Tryz.f235]
  refine sA ?_
  obtain ⟨c237, hr1, h⟩ := bind_ok h
  refine Cl_sA (w_slices_BinarySearch_string hr1) ?_
  try refine sA ?_
  refine Bs_if h (fun h hc2 => ?_) (fun h hc2 => ?_)
  · try refine sA ?_
    obtain ⟨c238, hr3, h⟩ := bind_ok h
    refine Cl_hA [2] (w_slices_Delete_string_w hr3) ?_
    try refine sA ?_
    have he := Option.some.inj h
    subst he
    exact endsA ⟨[(4, (.lf false (.sc (.bool true))))], [(0, some (false, .box [(.lf false (.sc (.int .i64 a0.Status))), (.lf false (.sc (.int .i64 a0.Next))), (.lf false (.sc (.bool a0.Cancel))), (.lf false (.sc (.int .i64 a0.Done))), (.os 1 1 0 a0.Signals.length a0.Signals.length false), (.os 3 1 0 c238.length c238.length false)])), (1, some (false, .arr false 1 (a0.Signals.map eS))), (2, none), (3, some (false, .arr false 1 (c238.map eS)))], 4, 47⟩ [some 0, some 1, some 2, some 3]
  · try refine sA ?_
    refine Bs_if h (fun h hc4 => ?_) (fun h hc4 => ?_)
    · try refine sA ?_
      have he := Option.some.inj h
      subst he
      exact endsA ⟨[(4, (.lf false (.sc (.bool false))))], [(0, some (false, .box [(.lf false (.sc (.int .i64 a0.Status))), (.lf false (.sc (.int .i64 a0.Next))), (.lf false (.sc (.bool a0.Cancel))), (.lf false (.sc (.int .i64 a0.Done))), (.os 1 1 0 a0.Signals.length a0.Signals.length false), (.os 3 1 0 a0.Timers.length a0.Timers.length false)])), (1, some (false, .arr false 1 (a0.Signals.map eS))), (2, none), (3, some (false, .arr false 1 (a0.Timers.map eS)))], 4, 47⟩ [some 0, some 1, some 2, some 2]
    · try refine sA ?_
      obtain ⟨c239, hr5, h⟩ := bind_ok h
      refine Cl_hA [2, 3] (w_slices_Insert_string_w hr5) ?_
      try refine sA ?_
      have he := Option.some.inj h
      subst he
      exact endsA ⟨[(4, (.lf false (.sc (.bool true))))], [(0, some (false, .box [(.lf false (.sc (.int .i64 a0.Status))), (.lf false (.sc (.int .i64 a0.Next))), (.lf false (.sc (.bool a0.Cancel))), (.lf false (.sc (.int .i64 a0.Done))), (.os 1 1 0 a0.Signals.length a0.Signals.length false), (.os 3 1 0 c239.length c239.length false)])), (1, some (false, .arr false 1 (a0.Signals.map eS))), (2, none), (3, some (false, .arr false 1 (c239.map eS)))], 4, 47⟩ [some 0, some 1, some 2, some 4]
theorem w_impl_State_apply_o {a0 : StateT} {a1 : Int} {a2 : ByteArray} {m1 : Nat} {x1 : Bool} {m2 : Nat} {x2 : Bool} {r : (Bool × StateT)} (h : impl_State_apply_o a0 a1 a2 = some r) : Fn Tryz.prog 205 [(.pb 0 0), (.lf false (.sc (.int .i64 a1))), (.lf false (.sc (.string a2)))] [(0, some (false, .box [(.lf false (.sc (.int .i64 a0.Status))), (.lf false (.sc (.int .i64 a0.Next))), (.lf false (.sc (.bool a0.Cancel))), (.lf false (.sc (.int .i64 a0.Done))), (.os 1 1 0 a0.Signals.length m1 x1), (.os 2 1 0 a0.Timers.length m2 x2)])), (1, some (false, .arr true 1 (a0.Signals.map eS))), (2, some (false, .arr true 1 (a0.Timers.map eS)))] 3 (.lf false (.sc (.bool r.1))) [(0, some (false, .box [(.lf false (.sc (.int .i64 r.2.Status))), (.lf false (.sc (.int .i64 r.2.Next))), (.lf false (.sc (.bool r.2.Cancel))), (.lf false (.sc (.int .i64 r.2.Done))), (.os 3 1 0 r.2.Signals.length r.2.Signals.length false), (.os 4 1 0 r.2.Timers.length r.2.Timers.length false)])), (1, none), (2, none), (3, some (false, .arr false 1 (r.2.Signals.map eS))), (4, some (false, .arr false 1 (r.2.Timers.map eS)))] 5 := by
  unfold impl_State_apply_o at h
  refine fn_code tab_ok mixed [(1000, [(0, 0), (1, 0), (2, 0)]), (1001, [(0, 0), (1, 0), (2, 0), (32, 0)]), (1002, [(6, 0)]), (1003, [(0, 0), (2, 0), (33, 0)]), (1004, [(0, 0), (2, 0), (33, 0), (34, 0)]), (1005, [(0, 0)]), (1006, [(0, 0), (2, 0), (33, 0), (39, 0)]), (1007, [(0, 0), (2, 0), (54, 0)]), (1008, [(6, 0)]), (1009, [(0, 0)]), (1010, [(0, 0), (2, 0), (33, 0), (65, 0)]), (1011, [(0, 0)]), (1012, [(0, 0), (2, 0), (33, 0), (74, 0)]), (1013, [(0, 0), (79, 0)]), (1014, [(6, 0)]), (1015, [(0, 0), (33, 0), (80, 0)]), (1016, [(0, 0), (85, 0)]), (1017, [(6, 0)]), (1018, [(0, 0)]), (1019, [(0, 0), (89, 0)]), (1020, [(0, 0)]), (1021, []), (1022, [(6, 0)]), (4001, []), (4007, [])] Tryz.func205 rfl rfl (by simp [Tryz.f205]) (by kernel_rfl) ?_
  simp only [Tryz.f205]
  refine sA ?_
  obtain ⟨p226, hq1, h⟩ := bind_ok h
  refine Sq_cut (fun s2 => s2 = ⟨[(0, (.pb 0 0)), (1, (.lf false (.sc (.int .i64 a1)))), (2, (.lf false (.sc (.string a2)))), (32, (.lf false (.sc (.bool p226.t32))))], [(0, some (false, .box [(.lf false (.sc (.int .i64 a0.Status))), (.lf false (.sc (.int .i64 a0.Next))), (.lf false (.sc (.bool a0.Cancel))), (.lf false (.sc (.int .i64 a0.Done))), (.os 1 1 0 a0.Signals.length m1 x1), (.os 2 1 0 a0.Timers.length m2 x2)])), (1, some (false, .arr true 1 (a0.Signals.map eS))), (2, some (false, .arr true 1 (a0.Timers.map eS)))], 3, 104⟩) ?_ ?_
  · try refine sA ?_
    refine Sp_if hq1 (fun hq1 hc2 => ?_) (fun hq1 hc2 => ?_)
    · try refine sA ?_
      cases hq1
      exact X_cut rfl (weakA [some 0, some 1, some 2])
    · try refine sA ?_
      refine Sp_if hq1 (fun hq1 hc3 => ?_) (fun hq1 hc3 => ?_)
      · try refine sA ?_
        cases hq1
        exact X_cut rfl (weakA [some 0, some 1, some 2])
      · try refine sA ?_
        refine Sp_if hq1 (fun hq1 hc4 => ?_) (fun hq1 hc4 => ?_)
        · try refine sA ?_
          cases hq1
          exact X_cut rfl (weakA [some 0, some 1, some 2])
        · try refine sA ?_
          cases hq1
          exact X_cut rfl (weakA [some 0, some 1, some 2])
  · intro s2 hJ; subst hJ
    try dsimp only at h
    try refine sA ?_
    refine Bs_if h (fun h hc5 => ?_) (fun h hc5 => ?_)
    · try refine sA ?_
      have he := Option.some.inj h
      subst he
      exact endsA ⟨[(6, (.lf false (.sc (.bool false))))], [(0, some (false, .box [(.lf false (.sc (.int .i64 a0.Status))), (.lf false (.sc (.int .i64 a0.Next))), (.lf false (.sc (.bool a0.Cancel))), (.lf false (.sc (.int .i64 a0.Done))), (.os 3 1 0 a0.Signals.length a0.Signals.length false), (.os 4 1 0 a0.Timers.length a0.Timers.length false)])), (1, none), (2, none), (3, some (false, .arr false 1 (a0.Signals.map eS))), (4, some (false, .arr false 1 (a0.Timers.map eS)))], 5, 104⟩ [some 0, some 1, some 2, some 1, some 2]
    · try refine sA ?_
      refine Bs_if h (fun h hc6 => ?_) (fun h hc6 => ?_)
      · try refine sA ?_
        have he := Option.some.inj h
        subst he
        exact endsA ⟨[(6, (.lf false (.sc (.bool true))))], [(0, some (false, .box [(.lf false (.sc (.int .i64 1))), (.lf false (.sc (.int .i64 (wI (a0.Next + 1))))), (.lf false (.sc (.bool a0.Cancel))), (.lf false (.sc (.int .i64 a0.Done))), (.os 3 1 0 a0.Signals.length a0.Signals.length false), (.os 4 1 0 a0.Timers.length a0.Timers.length false)])), (1, none), (2, none), (3, some (false, .arr false 1 (a0.Signals.map eS))), (4, some (false, .arr false 1 (a0.Timers.map eS)))], 5, 104⟩ [some 0, some 1, some 2, some 1, some 2]
      · try refine sA ?_
        refine Bs_if h (fun h hc7 => ?_) (fun h hc7 => ?_)
        · try refine sA ?_
          obtain ⟨p228, hq8, h⟩ := bind_ok h
          refine Sq_cut (fun s2 => s2 = ⟨[(0, (.pb 0 0)), (2, (.lf false (.sc (.string a2)))), (54, (.lf false (.sc (.bool p228.t54))))], [(0, some (false, .box [(.lf false (.sc (.int .i64 a0.Status))), (.lf false (.sc (.int .i64 a0.Next))), (.lf false (.sc (.bool a0.Cancel))), (.lf false (.sc (.int .i64 a0.Done))), (.os 1 1 0 a0.Signals.length m1 x1), (.os 2 1 0 a0.Timers.length m2 x2)])), (1, some (false, .arr true 1 (a0.Signals.map eS))), (2, some (false, .arr true 1 (a0.Timers.map eS)))], 3, 104⟩) ?_ ?_
          · try refine sA ?_
            obtain ⟨c227, hr9, hq8⟩ := bind_ok hq8
            refine Cl_sA (w_slices_Contains_string hr9) ?_
            try refine sA ?_
            refine Sp_if hq8 (fun hq8 hc10 => ?_) (fun hq8 hc10 => ?_)
            · try refine sA ?_
              cases hq8
              exact X_cut rfl (weakA [some 0, some 1, some 2])
            · try refine sA ?_
              cases hq8
              exact X_cut rfl (weakA [some 0, some 1, some 2])
          · intro s2 hJ; subst hJ
            try dsimp only at h
            try refine sA ?_
            refine Bs_if h (fun h hc11 => ?_) (fun h hc11 => ?_)
            · try refine sA ?_
              have he := Option.some.inj h
              subst he
              exact endsA ⟨[(6, (.lf false (.sc (.bool false))))], [(0, some (false, .box [(.lf false (.sc (.int .i64 a0.Status))), (.lf false (.sc (.int .i64 a0.Next))), (.lf false (.sc (.bool a0.Cancel))), (.lf false (.sc (.int .i64 a0.Done))), (.os 3 1 0 a0.Signals.length a0.Signals.length false), (.os 4 1 0 a0.Timers.length a0.Timers.length false)])), (1, none), (2, none), (3, some (false, .arr false 1 (a0.Signals.map eS))), (4, some (false, .arr false 1 (a0.Timers.map eS)))], 5, 104⟩ [some 0, some 1, some 2, some 1, some 2]
            · try refine sA ?_
              obtain ⟨hp12, h⟩ := guard_some h
              try refine sA ?_
              try refine andA ?_
              have he := Option.some.inj h
              subst he
              exact endsA ⟨[(6, (.lf false (.sc (.bool true))))], [(0, some (false, .box [(.lf false (.sc (.int .i64 a0.Status))), (.lf false (.sc (.int .i64 (wI (a0.Next + 1))))), (.lf false (.sc (.bool a0.Cancel))), (.lf false (.sc (.int .i64 a0.Done))), (.os 3 1 0 ((a0.Signals ++ ([a2])).length) ((a0.Signals ++ ([a2])).length) false), (.os 4 1 0 a0.Timers.length a0.Timers.length false)])), (1, none), (2, none), (3, some (false, .arr false 1 ((a0.Signals ++ ([a2])).map eS))), (4, some (false, .arr false 1 (a0.Timers.map eS)))], 5, 104⟩ [some 0, some 1, some 2, some 4, some 2]
        · try refine sA ?_
          refine Bs_if h (fun h hc13 => ?_) (fun h hc13 => ?_)
          · try refine sA ?_
            have he := Option.some.inj h
            subst he
            exact endsA ⟨[(6, (.lf false (.sc (.bool true))))], [(0, some (false, .box [(.lf false (.sc (.int .i64 a0.Status))), (.lf false (.sc (.int .i64 (wI (a0.Next + 1))))), (.lf false (.sc (.bool a0.Cancel))), (.lf false (.sc (.int .i64 (wI (a0.Done + 1))))), (.os 3 1 0 a0.Signals.length a0.Signals.length false), (.os 4 1 0 a0.Timers.length a0.Timers.length false)])), (1, none), (2, none), (3, some (false, .arr false 1 (a0.Signals.map eS))), (4, some (false, .arr false 1 (a0.Timers.map eS)))], 5, 104⟩ [some 0, some 1, some 2, some 1, some 2]
          · try refine sA ?_
            refine Bs_if h (fun h hc14 => ?_) (fun h hc14 => ?_)
            · try refine sA ?_
              obtain ⟨c240, hr15, h⟩ := bind_ok h
              refine Cl_hA [0, 1, 2] (w_impl_State_turnTimer_o hr15) ?_
              try refine sA ?_
              refine Bs_if h (fun h hc16 => ?_) (fun h hc16 => ?_)
              · try refine sA ?_
                have he := Option.some.inj h
                subst he
                exact endsA ⟨[(6, (.lf false (.sc (.bool false))))], [(0, some (false, .box [(.lf false (.sc (.int .i64 c240.2.Status))), (.lf false (.sc (.int .i64 c240.2.Next))), (.lf false (.sc (.bool c240.2.Cancel))), (.lf false (.sc (.int .i64 c240.2.Done))), (.os 3 1 0 a0.Signals.length a0.Signals.length false), (.os 4 1 0 c240.2.Timers.length c240.2.Timers.length false)])), (1, none), (2, none), (3, some (false, .arr false 1 (a0.Signals.map eS))), (4, some (false, .arr false 1 (c240.2.Timers.map eS)))], 5, 104⟩ [some 0, some 1, some 2, some 1, some 3]
              · try refine sA ?_
                have he := Option.some.inj h
                subst he
                exact endsA ⟨[(6, (.lf false (.sc (.bool true))))], [(0, some (false, .box [(.lf false (.sc (.int .i64 c240.2.Status))), (.lf false (.sc (.int .i64 (wI (c240.2.Next + 1))))), (.lf false (.sc (.bool c240.2.Cancel))), (.lf false (.sc (.int .i64 c240.2.Done))), (.os 3 1 0 a0.Signals.length a0.Signals.length false), (.os 4 1 0 c240.2.Timers.length c240.2.Timers.length false)])), (1, none), (2, none), (3, some (false, .arr false 1 (a0.Signals.map eS))), (4, some (false, .arr false 1 (c240.2.Timers.map eS)))], 5, 104⟩ [some 0, some 1, some 2, some 1, some 3]
            · try refine sA ?_
              refine Bs_if h (fun h hc17 => ?_) (fun h hc17 => ?_)
              · try refine sA ?_
                refine Bs_if h (fun h hc18 => ?_) (fun h hc18 => ?_)
                · try refine sA ?_
                  have he := Option.some.inj h
                  subst he
                  exact endsA ⟨[(6, (.lf false (.sc (.bool false))))], [(0, some (false, .box [(.lf false (.sc (.int .i64 a0.Status))), (.lf false (.sc (.int .i64 a0.Next))), (.lf false (.sc (.bool a0.Cancel))), (.lf false (.sc (.int .i64 a0.Done))), (.os 3 1 0 a0.Signals.length a0.Signals.length false), (.os 4 1 0 a0.Timers.length a0.Timers.length false)])), (1, none), (2, none), (3, some (false, .arr false 1 (a0.Signals.map eS))), (4, some (false, .arr false 1 (a0.Timers.map eS)))], 5, 104⟩ [some 0, some 1, some 2, some 1, some 2]
                · try refine sA ?_
                  have he := Option.some.inj h
                  subst he
                  exact endsA ⟨[(6, (.lf false (.sc (.bool true))))], [(0, some (false, .box [(.lf false (.sc (.int .i64 a0.Status))), (.lf false (.sc (.int .i64 (wI (a0.Next + 1))))), (.lf false (.sc (.bool true))), (.lf false (.sc (.int .i64 a0.Done))), (.os 3 1 0 a0.Signals.length a0.Signals.length false), (.os 4 1 0 a0.Timers.length a0.Timers.length false)])), (1, none), (2, none), (3, some (false, .arr false 1 (a0.Signals.map eS))), (4, some (false, .arr false 1 (a0.Timers.map eS)))], 5, 104⟩ [some 0, some 1, some 2, some 1, some 2]
              · try refine sA ?_
                refine Bs_if h (fun h hc19 => ?_) (fun h hc19 => ?_)
                · try refine sA ?_
                  have he := Option.some.inj h
                  subst he
                  exact endsA ⟨[(6, (.lf false (.sc (.bool true))))], [(0, some (false, .box [(.lf false (.sc (.int .i64 2))), (.lf false (.sc (.int .i64 (wI (a0.Next + 1))))), (.lf false (.sc (.bool a0.Cancel))), (.lf false (.sc (.int .i64 a0.Done))), (.os 3 1 0 a0.Signals.length a0.Signals.length false), (.os 4 1 0 (([] : List ByteArray).length) (([] : List ByteArray).length) false)])), (1, none), (2, none), (3, some (false, .arr false 1 (a0.Signals.map eS))), (4, some (false, .arr false 1 (([] : List ByteArray).map eS)))], 5, 104⟩ [some 0, some 1, some 2, some 1, none]
                · try refine sA ?_
                  have he := Option.some.inj h
                  subst he
                  exact endsA ⟨[(6, (.lf false (.sc (.bool true))))], [(0, some (false, .box [(.lf false (.sc (.int .i64 a0.Status))), (.lf false (.sc (.int .i64 (wI (a0.Next + 1))))), (.lf false (.sc (.bool a0.Cancel))), (.lf false (.sc (.int .i64 a0.Done))), (.os 3 1 0 a0.Signals.length a0.Signals.length false), (.os 4 1 0 a0.Timers.length a0.Timers.length false)])), (1, none), (2, none), (3, some (false, .arr false 1 (a0.Signals.map eS))), (4, some (false, .arr false 1 (a0.Timers.map eS)))], 5, 104⟩ [some 0, some 1, some 2, some 1, some 2]
theorem w_impl_ApplyEvent {a0 : StateT} {a1 : EventT} {r : (StateT × Bool)} (h : impl_ApplyEvent a0 a1 = some r) : Fn Tryz.prog 184 [(.ag [(.lf false (.sc (.int .i64 a0.Status))), (.lf false (.sc (.int .i64 a0.Next))), (.lf false (.sc (.bool a0.Cancel))), (.lf false (.sc (.int .i64 a0.Done))), (.lf true (.sl (a0.Signals.map eS))), (.lf true (.sl (a0.Timers.map eS)))]), (.ag [(.lf false (.sc (.int .i64 a1.Id))), (.lf false (.sc (.int .i64 a1.Version))), (.lf false (.sc (.int .i64 a1.Kind))), (.lf false (.sc (.string a1.Name)))])] [] 0 (.tu [(.ag [(.lf false (.sc (.int .i64 r.1.Status))), (.lf false (.sc (.int .i64 r.1.Next))), (.lf false (.sc (.bool r.1.Cancel))), (.lf false (.sc (.int .i64 r.1.Done))), (.os 0 1 0 r.1.Signals.length r.1.Signals.length false), (.os 1 1 0 r.1.Timers.length r.1.Timers.length false)]), (.lf false (.sc (.bool r.2)))]) [(0, some (false, .arr false 1 (r.1.Signals.map eS))), (1, some (false, .arr false 1 (r.1.Timers.map eS)))] 3 := by
  unfold impl_ApplyEvent at h
  refine fn_code tab_ok mixed [(1000, [(2, 0), (3, 0), (4, 0)]), (1001, [(2, 0), (3, 0), (4, 0), (21, 0)]), (1002, [(4, 0), (5, 0)]), (1003, [(3, 0), (4, 0), (6, 0)]), (1004, [(4, 0), (6, 0), (35, 0)]), (1005, [(4, 0), (5, 0)]), (1006, [(4, 0), (5, 0)]), (4001, []), (4004, [])] Tryz.func184 rfl rfl (by simp [Tryz.f184]) (by kernel_rfl) ?_
  simp only [Tryz.f184]
  refine sA ?_
  obtain ⟨p222, hq1, h⟩ := bind_ok h
  refine Sq_cut (fun s2 => s2 = ⟨[(2, (.pb 0 0)), (3, (.pb 1 0)), (4, (.pb 2 0)), (21, (.lf false (.sc (.bool p222.t21))))], [(0, some (true, .box [(.lf false (.sc (.int .i64 a0.Status))), (.lf false (.sc (.int .i64 a0.Next))), (.lf false (.sc (.bool a0.Cancel))), (.lf false (.sc (.int .i64 a0.Done))), (.lf true (.sl (a0.Signals.map eS))), (.lf true (.sl (a0.Timers.map eS)))])), (1, some (true, .box [(.lf false (.sc (.int .i64 a1.Id))), (.lf false (.sc (.int .i64 a1.Version))), (.lf false (.sc (.int .i64 a1.Kind))), (.lf false (.sc (.string a1.Name)))])), (2, some (true, .box [(.lf false (.sc (.int .i64 0))), (.lf false (.sc (.int .i64 0))), (.lf false (.sc (.bool false))), (.lf false (.sc (.int .i64 0))), .nl, .nl]))], 3, 38⟩) ?_ ?_
  · try refine sA ?_
    obtain ⟨c215, hr2, hq1⟩ := bind_ok hq1
    refine Cl_sA (w_impl_GoodState hr2) ?_
    try refine sA ?_
    refine Sp_if hq1 (fun hq1 hc3 => ?_) (fun hq1 hc3 => ?_)
    · try refine sA ?_
      cases hq1
      exact X_cut rfl (weakA [some 0, some 1, some 2])
    · try refine sA ?_
      obtain ⟨c221, hr4, hq1⟩ := bind_ok hq1
      refine Cl_sA (w_impl_GoodEvent hr4) ?_
      try refine sA ?_
      refine Sp_if hq1 (fun hq1 hc5 => ?_) (fun hq1 hc5 => ?_)
      · try refine sA ?_
        cases hq1
        exact X_cut rfl (weakA [some 0, some 1, some 2])
      · try refine sA ?_
        cases hq1
        exact X_cut rfl (weakA [some 0, some 1, some 2])
  · intro s2 hJ; subst hJ
    try dsimp only at h
    try refine sA ?_
    refine Bs_if h (fun h hc6 => ?_) (fun h hc6 => ?_)
    · try refine sA ?_
      have he := Option.some.inj h
      subst he
      exact endsA ⟨[(4, (.pb 2 0)), (5, (.lf false (.sc (.bool false))))], [(0, some (false, .arr false 1 (([] : List ByteArray).map eS))), (1, some (false, .arr false 1 (([] : List ByteArray).map eS))), (2, some (true, .box [(.lf false (.sc (.int .i64 0))), (.lf false (.sc (.int .i64 0))), (.lf false (.sc (.bool false))), (.lf false (.sc (.int .i64 0))), (.os 0 1 0 (([] : List ByteArray).length) (([] : List ByteArray).length) false), (.os 1 1 0 (([] : List ByteArray).length) (([] : List ByteArray).length) false)]))], 3, 38⟩ [none, none, some 2]
    · try refine sA ?_
      obtain ⟨c225, hr7, h⟩ := bind_ok h
      refine Cl_sA (w_impl_cloneState hr7) ?_
      try refine sA ?_
      obtain ⟨p243, hq8, h⟩ := bind_ok h
      refine Sq_cut (fun s2 => s2 = ⟨[(4, (.pb 0 0)), (6, (.pb 1 0)), (35, (.lf false (.sc (.bool p243.t35))))], [(0, some (true, .box [(.lf false (.sc (.int .i64 0))), (.lf false (.sc (.int .i64 0))), (.lf false (.sc (.bool false))), (.lf false (.sc (.int .i64 0))), .nl, .nl])), (1, some (true, .box [(.lf false (.sc (.int .i64 p243.b1_0))), (.lf false (.sc (.int .i64 p243.b1_1))), (.lf false (.sc (.bool p243.b1_2))), (.lf false (.sc (.int .i64 p243.b1_3))), (.os 2 1 0 p243.c2.length p243.c2.length false), (.os 3 1 0 p243.c3.length p243.c3.length false)])), (2, some (false, .arr false 1 (p243.c2.map eS))), (3, some (false, .arr false 1 (p243.c3.map eS)))], 4, 38⟩) ?_ ?_
      · try refine sA ?_
        obtain ⟨c241, hr9, hq8⟩ := bind_ok hq8
        refine Cl_hA [6, 3, 4] (w_impl_State_apply_o hr9) ?_
        try refine sA ?_
        refine Sp_if hq8 (fun hq8 hc10 => ?_) (fun hq8 hc10 => ?_)
        · try refine sA ?_
          cases hq8
          exact X_cut rfl (weakA [some 2, some 6, some 7, some 8])
        · try refine sA ?_
          obtain ⟨c242, hr11, hq8⟩ := bind_ok hq8
          refine Cl_sA (w_impl_GoodState hr11) ?_
          try refine sA ?_
          cases hq8
          exact X_cut rfl (weakA [some 2, some 6, some 7, some 8])
      · intro s2 hJ; subst hJ
        try dsimp only at h
        try refine sA ?_
        refine Bs_if h (fun h hc12 => ?_) (fun h hc12 => ?_)
        · try refine sA ?_
          have he := Option.some.inj h
          subst he
          exact endsA ⟨[(4, (.pb 2 0)), (5, (.lf false (.sc (.bool false))))], [(0, some (false, .arr false 1 (([] : List ByteArray).map eS))), (1, some (false, .arr false 1 (([] : List ByteArray).map eS))), (2, some (true, .box [(.lf false (.sc (.int .i64 0))), (.lf false (.sc (.int .i64 0))), (.lf false (.sc (.bool false))), (.lf false (.sc (.int .i64 0))), (.os 0 1 0 (([] : List ByteArray).length) (([] : List ByteArray).length) false), (.os 1 1 0 (([] : List ByteArray).length) (([] : List ByteArray).length) false)]))], 3, 38⟩ [none, none, some 0]
        · try refine sA ?_
          have he := Option.some.inj h
          subst he
          exact endsA ⟨[(4, (.pb 2 0)), (5, (.lf false (.sc (.bool true))))], [(0, some (false, .arr false 1 (p243.c2.map eS))), (1, some (false, .arr false 1 (p243.c3.map eS))), (2, some (true, .box [(.lf false (.sc (.int .i64 p243.b1_0))), (.lf false (.sc (.int .i64 p243.b1_1))), (.lf false (.sc (.bool p243.b1_2))), (.lf false (.sc (.int .i64 p243.b1_3))), (.os 0 1 0 p243.c2.length p243.c2.length false), (.os 1 1 0 p243.c3.length p243.c3.length false)]))], 3, 38⟩ [some 2, some 3, some 0]
theorem w_impl_FoldEvents {a0 : (List EventT)} {r : (StateT × Int)} (h : impl_FoldEvents a0 = some r) : Fn Tryz.prog 137 [(.lf true (.sl (a0.map eEvent)))] [] 0 (.tu [(.ag [(.lf false (.sc (.int .i64 r.1.Status))), (.lf false (.sc (.int .i64 r.1.Next))), (.lf false (.sc (.bool r.1.Cancel))), (.lf false (.sc (.int .i64 r.1.Done))), (.os 0 1 0 r.1.Signals.length r.1.Signals.length false), (.os 1 1 0 r.1.Timers.length r.1.Timers.length false)]), (.lf false (.sc (.int .i64 r.2)))]) [(0, some (false, .arr false 1 (r.1.Signals.map eS))), (1, some (false, .arr false 1 (r.1.Timers.map eS)))] 3 := by
  unfold impl_FoldEvents at h
  refine fn_code tab_ok mixed [(1000, [(0, 0), (2, 0)]), (1001, [(0, 0), (2, 0), (4, 0)]), (1002, [(0, 0), (2, 0), (4, 0), (10, 0), (11, 0), (12, 0)]), (1003, [(0, 0), (2, 0), (4, 0), (10, 0), (11, 0), (12, 0), (13, 0)]), (1004, [(0, 0), (2, 0), (4, 0), (5, 0), (6, 0), (10, 0), (11, 0), (12, 0)]), (1005, [(0, 0), (2, 0), (4, 0), (5, 0), (7, 0), (8, 0), (10, 0), (11, 0), (12, 0)]), (1006, [(0, 0), (2, 0), (4, 0), (5, 0), (7, 0), (10, 0), (11, 0), (12, 0), (24, 0)]), (1007, [(2, 0), (3, 0)]), (1008, [(0, 0), (2, 0), (4, 0), (10, 0), (11, 0), (12, 0)]), (1009, [(0, 0), (2, 0), (4, 0), (10, 0), (11, 0), (12, 0)]), (1010, [(2, 0), (3, 0)])] Tryz.func137 rfl rfl (by simp [Tryz.f137]) (by kernel_rfl) ?_
  simp only [Tryz.f137]
  refine sA ?_
  obtain ⟨c174, hr1, h⟩ := bind_ok h
  refine Cl_sA (w_impl_NewState hr1) ?_
  try refine sA ?_
  obtain ⟨y246, hl2, h⟩ := bind_ok h
  refine W_loopP (fun g175 : impl_FoldEvents_G1 => ⟨[(0, (.lf true (.sl (a0.map eEvent)))), (2, (.pb 0 0)), (4, (.pb 1 0)), (10, (.lf true (.sl (a0.map eEvent)))), (11, (.lf false (.sc (.int .i64 ((a0.length : Nat) : Int))))), (12, (.lf false (.sc (.int .i64 g175.t12))))], [(0, some (true, .box [(.lf false (.sc (.int .i64 0))), (.lf false (.sc (.int .i64 0))), (.lf false (.sc (.bool false))), (.lf false (.sc (.int .i64 0))), .nl, .nl])), (1, some (true, .box [(.lf false (.sc (.int .i64 g175.b1_0))), (.lf false (.sc (.int .i64 g175.b1_1))), (.lf false (.sc (.bool g175.b1_2))), (.lf false (.sc (.int .i64 g175.b1_3))), (.os 2 1 0 g175.c2.length g175.c2.length false), (.os 3 1 0 g175.c3.length g175.c3.length false)])), (2, some (false, .arr false 1 (g175.c2.map eS))), (3, some (false, .arr false 1 (g175.c3.map eS)))], 4, 32⟩) (impl_FoldEvents_L1 a0) _ _ hl2 (weakA [some 0, some 2, none, none]) ?_
  · intro n1 g175 z1 hs1 hk1
    unfold impl_FoldEvents_L1 at hs1
    try dsimp only at hs1
    refine sA ?_
    refine Bs_if hs1 (fun hs1 hc3 => ?_) (fun hs1 hc3 => ?_)
    · try refine sA ?_
      obtain ⟨hp4, hs1⟩ := guard_some hs1
      have hn4 : g175.t12.toNat < a0.length := by first | omega | (simp only [List.length_set, List.length_append, List.length_replicate, List.length_map]; omega)
      try refine sA ?_
      try refine andA ?_
      obtain ⟨c245, hr5, hs1⟩ := bind_ok hs1
      refine Cl_sA (w_impl_ApplyEvent hr5) ?_
      try refine sA ?_
      refine Bs_if hs1 (fun hs1 hc6 => ?_) (fun hs1 hc6 => ?_)
      · try refine sA ?_
        cases hs1
        cases hk1
        try dsimp only at h
        try refine sA ?_
        have he := Option.some.inj h
        subst he
        exact endsA ⟨[(2, (.pb 2 0)), (3, (.lf false (.sc (.int .i64 g175.t12))))], [(0, some (false, .arr false 1 (g175.c2.map eS))), (1, some (false, .arr false 1 (g175.c3.map eS))), (2, some (true, .box [(.lf false (.sc (.int .i64 g175.b1_0))), (.lf false (.sc (.int .i64 g175.b1_1))), (.lf false (.sc (.bool g175.b1_2))), (.lf false (.sc (.int .i64 g175.b1_3))), (.os 0 1 0 g175.c2.length g175.c2.length false), (.os 1 1 0 g175.c3.length g175.c3.length false)]))], 3, 32⟩ [some 2, some 3, some 0]
      · try refine sA ?_
        cases hs1
        exact X_backP hk1 (weakA [some 0, some 1, some 5, some 6])
    · try refine sA ?_
      cases hs1
      cases hk1
      try dsimp only at h
      try refine sA ?_
      have he := Option.some.inj h
      subst he
      exact endsA ⟨[(2, (.pb 2 0)), (3, (.lf false (.sc (.int .i64 ((a0.length : Nat) : Int)))))], [(0, some (false, .arr false 1 (g175.c2.map eS))), (1, some (false, .arr false 1 (g175.c3.map eS))), (2, some (true, .box [(.lf false (.sc (.int .i64 g175.b1_0))), (.lf false (.sc (.int .i64 g175.b1_1))), (.lf false (.sc (.bool g175.b1_2))), (.lf false (.sc (.int .i64 g175.b1_3))), (.os 0 1 0 g175.c2.length g175.c2.length false), (.os 1 1 0 g175.c3.length g175.c3.length false)]))], 3, 32⟩ [some 2, some 3, some 0]
theorem w_impl_IsHistory {a0 : (List EventT)} {r : Bool} (h : impl_IsHistory a0 = some r) : Fn Tryz.prog 136 [(.lf true (.sl (a0.map eEvent)))] [] 0 (.lf false (.sc (.bool r))) [] 0 := by
  unfold impl_IsHistory at h
  refine fn_code tab_ok mixed [(1000, [(0, 0)]), (1001, [(0, 0), (9, 0)]), (1002, [(2, 0)]), (1003, [(0, 0), (10, 0), (11, 0), (12, 0)]), (1004, [(0, 0), (10, 0), (11, 0), (12, 0), (13, 0)]), (1005, [(0, 0), (3, 0), (4, 0), (10, 0), (11, 0), (12, 0)]), (1006, [(0, 0), (10, 0), (11, 0), (12, 0), (29, 0)]), (1007, [(2, 0)]), (1008, [(0, 0), (10, 0), (11, 0), (12, 0)]), (1009, [(0, 0), (6, 0)]), (1010, [(2, 0)]), (4006, [])] Tryz.func136 rfl rfl (by simp [Tryz.f136]) (by kernel_rfl) ?_
  simp only [Tryz.f136]
  refine sA ?_
  refine Bs_if h (fun h hc1 => ?_) (fun h hc1 => ?_)
  · try refine sA ?_
    have he := Option.some.inj h
    subst he
    exact endsA ⟨[(2, (.lf false (.sc (.bool false))))], [], 0, 40⟩ []
  · try refine sA ?_
    obtain ⟨y171, hl2, h⟩ := bind_ok h
    refine W_loopP (fun g168 : impl_IsHistory_G1 => ⟨[(0, (.lf true (.sl (a0.map eEvent)))), (10, (.lf true (.sl (a0.map eEvent)))), (11, (.lf false (.sc (.int .i64 ((a0.length : Nat) : Int))))), (12, (.lf false (.sc (.int .i64 g168.t12))))], [], 0, 40⟩) (impl_IsHistory_L1 a0) _ _ hl2 (weakA []) ?_
    · intro n1 g168 z1 hs1 hk1
      unfold impl_IsHistory_L1 at hs1
      try dsimp only at hs1
      refine sA ?_
      refine Bs_if hs1 (fun hs1 hc3 => ?_) (fun hs1 hc3 => ?_)
      · try refine sA ?_
        obtain ⟨hp4, hs1⟩ := guard_some hs1
        have hn4 : g168.t12.toNat < a0.length := by first | omega | (simp only [List.length_set, List.length_append, List.length_replicate, List.length_map]; omega)
        try refine sA ?_
        try refine andA ?_
        obtain ⟨p170, hq5, hs1⟩ := bind_ok hs1
        refine Sq_cut (fun s2 => s2 = ⟨[(0, (.lf true (.sl (a0.map eEvent)))), (10, (.lf true (.sl (a0.map eEvent)))), (11, (.lf false (.sc (.int .i64 ((a0.length : Nat) : Int))))), (12, (.lf false (.sc (.int .i64 g168.t12)))), (29, (.lf false (.sc (.bool p170.t29))))], [], 0, 40⟩) ?_ ?_
        · try refine sA ?_
          refine Sp_if hq5 (fun hq5 hc6 => ?_) (fun hq5 hc6 => ?_)
          · try refine sA ?_
            obtain ⟨hp7, hq5⟩ := guard_some hq5
            have hn7 : (wI (g168.t12 - 1)).toNat < a0.length := by first | omega | (simp only [List.length_set, List.length_append, List.length_replicate, List.length_map]; omega)
            try refine sA ?_
            try refine andA ?_
            cases hq5
            exact X_cut rfl (weakA [])
          · try refine sA ?_
            cases hq5
            exact X_cut rfl (weakA [])
        · intro s2 hJ; subst hJ
          try dsimp only at hs1
          try refine sA ?_
          refine Bs_if hs1 (fun hs1 hc8 => ?_) (fun hs1 hc8 => ?_)
          · try refine sA ?_
            cases hs1
            cases hk1
            try dsimp only at h
            try refine sA ?_
            have he := Option.some.inj h
            subst he
            exact endsA ⟨[(2, (.lf false (.sc (.bool false))))], [], 0, 40⟩ []
          · try refine sA ?_
            cases hs1
            exact X_backP hk1 (weakA [])
      · try refine sA ?_
        cases hs1
        cases hk1
        try dsimp only at h
        try refine sA ?_
        obtain ⟨c250, hr9, h⟩ := bind_ok h
        refine Cl_sA (w_impl_FoldEvents hr9) ?_
        try refine sA ?_
        have he := Option.some.inj h
        subst he
        exact endsA ⟨[(2, (.lf false (.sc (.bool (c250.2 == ((a0.length : Nat) : Int))))))], [], 0, 40⟩ []
theorem w_impl_isTelling {a0 : (List EventT)} {r : Bool} (h : impl_isTelling a0 = some r) : Fn Tryz.prog 118 [(.lf true (.sl (a0.map eEvent)))] [] 0 (.lf false (.sc (.bool r))) [] 0 := by
  unfold impl_isTelling at h
  refine fn_code tab_ok mixed [] Tryz.func118 rfl rfl (by simp [Tryz.f118]) (by kernel_rfl) ?_
  simp only [Tryz.f118]
  refine sA ?_
  refine Sp_if h (fun h hc1 => ?_) (fun h hc1 => ?_)
  · try refine sA ?_
    obtain ⟨c251, hr2, h⟩ := bind_ok h
    refine Cl_sA (w_impl_IsHistory hr2) ?_
    try refine sA ?_
    have he := Option.some.inj h
    subst he
    exact endsA ⟨[(2, (.lf false (.sc (.bool c251))))], [], 0, 10⟩ []
  · try refine sA ?_
    have he := Option.some.inj h
    subst he
    exact endsA ⟨[(2, (.lf false (.sc (.bool false))))], [], 0, 10⟩ []
theorem w_cmp_isNaN_int {a0 : Int} {r : Bool} (h : cmp_isNaN_int a0 = some r) : Fn Tryz.prog 189 [(.lf false (.sc (.int .i64 a0)))] [] 0 (.lf false (.sc (.bool r))) [] 0 := by
  unfold cmp_isNaN_int at h
  refine fn_code tab_ok mixed [] Tryz.func189 rfl rfl (by simp [Tryz.f189]) (by kernel_rfl) ?_
  simp only [Tryz.f189]
  refine sA ?_
  have he := Option.some.inj h
  subst he
  exact endsA ⟨[(2, (.lf false (.sc (.bool (a0 != a0)))))], [], 0, 6⟩ []
theorem w_cmp_Compare_int {a0 : Int} {a1 : Int} {r : Int} (h : cmp_Compare_int a0 a1 = some r) : Fn Tryz.prog 145 [(.lf false (.sc (.int .i64 a0))), (.lf false (.sc (.int .i64 a1)))] [] 0 (.lf false (.sc (.int .i64 r))) [] 0 := by
  unfold cmp_Compare_int at h
  refine fn_code tab_ok mixed [(1000, [(0, 0), (1, 0)]), (1001, [(0, 0), (1, 0), (5, 0)]), (1002, [(0, 0), (1, 0), (5, 0), (6, 0)]), (1003, [(0, 0), (1, 0), (6, 0), (11, 0)]), (1004, [(12, 0)]), (1005, [(4, 0)]), (1006, [(4, 0)]), (1007, [(0, 0), (1, 0), (13, 0)]), (1008, [(4, 0)]), (1009, [(0, 0), (1, 0), (16, 0)]), (1010, [(4, 0)]), (1011, [(19, 0)]), (1012, [(4, 0)]), (1013, [(4, 0)])] Tryz.func145 rfl rfl (by simp [Tryz.f145]) (by kernel_rfl) ?_
  simp only [Tryz.f145]
  refine sA ?_
  obtain ⟨c255, hr1, h⟩ := bind_ok h
  refine Cl_sA (w_cmp_isNaN_int hr1) ?_
  try refine sA ?_
  obtain ⟨c256, hr2, h⟩ := bind_ok h
  refine Cl_sA (w_cmp_isNaN_int hr2) ?_
  try refine sA ?_
  refine Bs_if h (fun h hc3 => ?_) (fun h hc3 => ?_)
  · try refine sA ?_
    refine Bs_if h (fun h hc4 => ?_) (fun h hc4 => ?_)
    · try refine sA ?_
      have he := Option.some.inj h
      subst he
      exact endsA ⟨[(4, (.lf false (.sc (.int .i64 0))))], [], 0, 20⟩ []
    · try refine sA ?_
      have he := Option.some.inj h
      subst he
      exact endsA ⟨[(4, (.lf false (.sc (.int .i64 (-1)))))], [], 0, 20⟩ []
  · try refine sA ?_
    refine Bs_if h (fun h hc5 => ?_) (fun h hc5 => ?_)
    · try refine sA ?_
      have he := Option.some.inj h
      subst he
      exact endsA ⟨[(4, (.lf false (.sc (.int .i64 1))))], [], 0, 20⟩ []
    · try refine sA ?_
      refine Bs_if h (fun h hc6 => ?_) (fun h hc6 => ?_)
      · try refine sA ?_
        have he := Option.some.inj h
        subst he
        exact endsA ⟨[(4, (.lf false (.sc (.int .i64 (-1)))))], [], 0, 20⟩ []
      · try refine sA ?_
        refine Bs_if h (fun h hc7 => ?_) (fun h hc7 => ?_)
        · try refine sA ?_
          have he := Option.some.inj h
          subst he
          exact endsA ⟨[(4, (.lf false (.sc (.int .i64 1))))], [], 0, 20⟩ []
        · try refine sA ?_
          have he := Option.some.inj h
          subst he
          exact endsA ⟨[(4, (.lf false (.sc (.int .i64 0))))], [], 0, 20⟩ []
theorem w_cmp_Compare_string {a0 : ByteArray} {a1 : ByteArray} {r : Int} (h : cmp_Compare_string a0 a1 = some r) : Fn Tryz.prog 199 [(.lf false (.sc (.string a0))), (.lf false (.sc (.string a1)))] [] 0 (.lf false (.sc (.int .i64 r))) [] 0 := by
  unfold cmp_Compare_string at h
  refine fn_code tab_ok mixed [(1000, [(0, 0), (1, 0)]), (1001, [(0, 0), (1, 0), (5, 0)]), (1002, [(0, 0), (1, 0), (5, 0), (6, 0)]), (1003, [(0, 0), (1, 0), (6, 0), (11, 0)]), (1004, [(12, 0)]), (1005, [(4, 0)]), (1006, [(4, 0)]), (1007, [(0, 0), (1, 0), (13, 0)]), (1008, [(4, 0)]), (1009, [(0, 0), (1, 0), (16, 0)]), (1010, [(4, 0)]), (1011, [(19, 0)]), (1012, [(4, 0)]), (1013, [(4, 0)])] Tryz.func199 rfl rfl (by simp [Tryz.f199]) (by kernel_rfl) ?_
  simp only [Tryz.f199]
  refine sA ?_
  obtain ⟨c259, hr1, h⟩ := bind_ok h
  refine Cl_sA (w_cmp_isNaN_string hr1) ?_
  try refine sA ?_
  obtain ⟨c260, hr2, h⟩ := bind_ok h
  refine Cl_sA (w_cmp_isNaN_string hr2) ?_
  try refine sA ?_
  refine Bs_if h (fun h hc3 => ?_) (fun h hc3 => ?_)
  · try refine sA ?_
    refine Bs_if h (fun h hc4 => ?_) (fun h hc4 => ?_)
    · try refine sA ?_
      have he := Option.some.inj h
      subst he
      exact endsA ⟨[(4, (.lf false (.sc (.int .i64 0))))], [], 0, 20⟩ []
    · try refine sA ?_
      have he := Option.some.inj h
      subst he
      exact endsA ⟨[(4, (.lf false (.sc (.int .i64 (-1)))))], [], 0, 20⟩ []
  · try refine sA ?_
    refine Bs_if h (fun h hc5 => ?_) (fun h hc5 => ?_)
    · try refine sA ?_
      have he := Option.some.inj h
      subst he
      exact endsA ⟨[(4, (.lf false (.sc (.int .i64 1))))], [], 0, 20⟩ []
    · try refine sA ?_
      refine Bs_if h (fun h hc6 => ?_) (fun h hc6 => ?_)
      · try refine sA ?_
        have he := Option.some.inj h
        subst he
        exact endsA ⟨[(4, (.lf false (.sc (.int .i64 (-1)))))], [], 0, 20⟩ []
      · try refine sA ?_
        refine Bs_if h (fun h hc7 => ?_) (fun h hc7 => ?_)
        · try refine sA ?_
          have he := Option.some.inj h
          subst he
          exact endsA ⟨[(4, (.lf false (.sc (.int .i64 1))))], [], 0, 20⟩ []
        · try refine sA ?_
          have he := Option.some.inj h
          subst he
          exact endsA ⟨[(4, (.lf false (.sc (.int .i64 0))))], [], 0, 20⟩ []
theorem w_cmp_Or_int {a0 : (List Int)} {r : Int} (h : cmp_Or_int a0 = some r) : Fn Tryz.prog 144 [(.lf true (.sl (a0.map eI)))] [] 0 (.lf false (.sc (.int .i64 r))) [] 0 := by
  unfold cmp_Or_int at h
  refine fn_code tab_ok mixed [(1000, [(0, 0)]), (1001, [(0, 0), (3, 0)]), (1002, [(3, 0), (6, 0), (7, 0), (8, 0)]), (1003, [(3, 0), (6, 0), (7, 0), (8, 0), (9, 0)]), (1004, [(3, 0), (5, 0), (6, 0), (7, 0), (8, 0)]), (1005, [(3, 0), (5, 0), (6, 0), (7, 0), (8, 0), (14, 0)]), (1006, [(2, 0)]), (1007, [(3, 0), (6, 0), (7, 0), (8, 0)]), (1008, [(2, 0)])] Tryz.func144 rfl rfl (by simp [Tryz.f144]) (by kernel_rfl) ?_
  simp only [Tryz.f144]
  refine sA ?_
  obtain ⟨y263, hl1, h⟩ := bind_ok h
  refine W_loopP (fun g262 : cmp_Or_int_G1 => ⟨[(3, (.lf false (.sc (.int .i64 0)))), (6, (.lf true (.sl (a0.map eI)))), (7, (.lf false (.sc (.int .i64 ((a0.length : Nat) : Int))))), (8, (.lf false (.sc (.int .i64 g262.t8))))], [], 0, 18⟩) (cmp_Or_int_L1 a0) _ _ hl1 (weakA []) ?_
  · intro n1 g262 z1 hs1 hk1
    unfold cmp_Or_int_L1 at hs1
    try dsimp only at hs1
    refine sA ?_
    refine Bs_if hs1 (fun hs1 hc2 => ?_) (fun hs1 hc2 => ?_)
    · try refine sA ?_
      obtain ⟨hp3, hs1⟩ := guard_some hs1
      have hn3 : g262.t8.toNat < a0.length := by first | omega | (simp only [List.length_set, List.length_append, List.length_replicate, List.length_map]; omega)
      try refine sA ?_
      try refine andA ?_
      refine Bs_if hs1 (fun hs1 hc4 => ?_) (fun hs1 hc4 => ?_)
      · try refine sA ?_
        cases hs1
        cases hk1
        try dsimp only at h
        try refine sA ?_
        have he := Option.some.inj h
        subst he
        exact endsA ⟨[(2, (.lf false (.sc (.int .i64 (nth a0 g262.t8.toNat)))))], [], 0, 18⟩ []
      · try refine sA ?_
        cases hs1
        exact X_backP hk1 (weakA [])
    · try refine sA ?_
      cases hs1
      cases hk1
      try dsimp only at h
      try refine sA ?_
      have he := Option.some.inj h
      subst he
      exact endsA ⟨[(2, (.lf false (.sc (.int .i64 0))))], [], 0, 18⟩ []
theorem w_impl_eventOrder {a0 : EventT} {a1 : EventT} {r : Int} (h : impl_eventOrder a0 a1 = some r) : Fn Tryz.prog 171 [(.ag [(.lf false (.sc (.int .i64 a0.Id))), (.lf false (.sc (.int .i64 a0.Version))), (.lf false (.sc (.int .i64 a0.Kind))), (.lf false (.sc (.string a0.Name)))]), (.ag [(.lf false (.sc (.int .i64 a1.Id))), (.lf false (.sc (.int .i64 a1.Version))), (.lf false (.sc (.int .i64 a1.Kind))), (.lf false (.sc (.string a1.Name)))])] [] 0 (.lf false (.sc (.int .i64 r))) [] 0 := by
  unfold impl_eventOrder at h
  refine fn_code tab_ok mixed [(1, [(6, 4), (8, 4), (11, 4), (11, 9), (13, 4), (13, 9)])] Tryz.func171 rfl rfl (by simp [Tryz.f171]) (by kernel_rfl) ?_
  simp only [Tryz.f171]
  refine sA ?_
  obtain ⟨c257, hr1, h⟩ := bind_ok h
  refine Cl_sA (w_cmp_Compare_int hr1) ?_
  try refine sA ?_
  obtain ⟨c258, hr2, h⟩ := bind_ok h
  refine Cl_sA (w_cmp_Compare_int hr2) ?_
  try refine sA ?_
  obtain ⟨c261, hr3, h⟩ := bind_ok h
  refine Cl_sA (w_cmp_Compare_string hr3) ?_
  try refine sA ?_
  obtain ⟨c266, hr4, h⟩ := bind_ok h
  refine Cl_sA (w_cmp_Or_int hr4) ?_
  try refine sA ?_
  have he := Option.some.inj h
  subst he
  exact endsA ⟨[(4, (.lf false (.sc (.int .i64 c266))))], [], 0, 22⟩ []
theorem w_slices_CompareFunc_impl_Event_impl_eventOrder {a0 : (List EventT)} {a1 : (List EventT)} {r : Int} (h : slices_CompareFunc_impl_Event_impl_eventOrder a0 a1 = some r) : Fn Tryz.prog 170 [(.lf true (.sl (a0.map eEvent))), (.lf true (.sl (a1.map eEvent))), (.fn 171 [])] [] 0 (.lf false (.sc (.int .i64 r))) [] 0 := by
  unfold slices_CompareFunc_impl_Event_impl_eventOrder at h
  refine fn_code tab_ok mixed [(1000, [(0, 0), (1, 0), (2, 0)]), (1001, [(0, 0), (1, 0), (2, 0), (11, 0), (12, 0), (13, 0)]), (1002, [(0, 0), (1, 0), (2, 0), (11, 0), (12, 0), (13, 0), (14, 0)]), (1003, [(0, 0), (1, 0), (2, 0), (7, 0), (8, 0), (11, 0), (12, 0), (13, 0)]), (1004, [(0, 0), (1, 0), (2, 0), (7, 0), (8, 0), (11, 0), (12, 0), (13, 0), (21, 0)]), (1005, [(6, 0)]), (1006, [(0, 0), (1, 0), (2, 0), (8, 0), (9, 0), (11, 0), (12, 0), (13, 0)]), (1007, [(0, 0), (1, 0), (2, 0), (10, 0), (11, 0), (12, 0), (13, 0)]), (1008, [(0, 0), (1, 0), (2, 0), (10, 0), (11, 0), (12, 0), (13, 0), (31, 0)]), (1009, [(6, 0)]), (1010, [(0, 0), (1, 0), (2, 0), (11, 0), (12, 0), (13, 0)]), (1011, [(38, 0)]), (1012, [(6, 0)]), (1013, [(6, 0)])] Tryz.func170 rfl rfl (by simp [Tryz.f170]) (by kernel_rfl) ?_
  simp only [Tryz.f170]
  refine sA ?_
  obtain ⟨y269, hl1, h⟩ := bind_ok h
  refine W_loopP (fun g254 : slices_CompareFunc_impl_Event_impl_eventOrder_G1 => ⟨[(0, (.lf true (.sl (a0.map eEvent)))), (1, (.lf true (.sl (a1.map eEvent)))), (2, (.fn 171 [])), (11, (.lf true (.sl (a0.map eEvent)))), (12, (.lf false (.sc (.int .i64 ((a0.length : Nat) : Int))))), (13, (.lf false (.sc (.int .i64 g254.t13))))], [], 0, 39⟩) (slices_CompareFunc_impl_Event_impl_eventOrder_L1 a0 a1) _ _ hl1 (weakA []) ?_
  · intro n1 g254 z1 hs1 hk1
    unfold slices_CompareFunc_impl_Event_impl_eventOrder_L1 at hs1
    try dsimp only at hs1
    refine sA ?_
    refine Bs_if hs1 (fun hs1 hc2 => ?_) (fun hs1 hc2 => ?_)
    · try refine sA ?_
      obtain ⟨hp3, hs1⟩ := guard_some hs1
      have hn3 : g254.t13.toNat < a0.length := by first | omega | (simp only [List.length_set, List.length_append, List.length_replicate, List.length_map]; omega)
      try refine sA ?_
      try refine andA ?_
      refine Bs_if hs1 (fun hs1 hc4 => ?_) (fun hs1 hc4 => ?_)
      · try refine sA ?_
        cases hs1
        cases hk1
        try dsimp only at h
        try refine sA ?_
        have he := Option.some.inj h
        subst he
        exact endsA ⟨[(6, (.lf false (.sc (.int .i64 1))))], [], 0, 39⟩ []
      · try refine sA ?_
        obtain ⟨hp5, hs1⟩ := guard_some hs1
        have hn5 : g254.t13.toNat < a1.length := by first | omega | (simp only [List.length_set, List.length_append, List.length_replicate, List.length_map]; omega)
        try refine sA ?_
        try refine andA ?_
        obtain ⟨c268, hr6, hs1⟩ := bind_ok hs1
        refine Cl_sA (w_impl_eventOrder hr6) ?_
        try refine sA ?_
        refine Bs_if hs1 (fun hs1 hc7 => ?_) (fun hs1 hc7 => ?_)
        · try refine sA ?_
          cases hs1
          cases hk1
          try dsimp only at h
          try refine sA ?_
          have he := Option.some.inj h
          subst he
          exact endsA ⟨[(6, (.lf false (.sc (.int .i64 c268))))], [], 0, 39⟩ []
        · try refine sA ?_
          cases hs1
          exact X_backP hk1 (weakA [])
    · try refine sA ?_
      cases hs1
      cases hk1
      try dsimp only at h
      try refine sA ?_
      refine Bs_if h (fun h hc8 => ?_) (fun h hc8 => ?_)
      · try refine sA ?_
        have he := Option.some.inj h
        subst he
        exact endsA ⟨[(6, (.lf false (.sc (.int .i64 (-1)))))], [], 0, 39⟩ []
      · try refine sA ?_
        have he := Option.some.inj h
        subst he
        exact endsA ⟨[(6, (.lf false (.sc (.int .i64 0))))], [], 0, 39⟩ []
theorem w_impl_branchOrder {a0 : (List EventT)} {a1 : (List EventT)} {r : Int} (h : impl_branchOrder a0 a1 = some r) : Fn Tryz.prog 125 [(.lf true (.sl (a0.map eEvent))), (.lf true (.sl (a1.map eEvent)))] [] 0 (.lf false (.sc (.int .i64 r))) [] 0 := by
  unfold impl_branchOrder at h
  refine fn_code tab_ok mixed [] Tryz.func125 rfl rfl (by simp [Tryz.f125]) (by kernel_rfl) ?_
  simp only [Tryz.f125]
  refine sA ?_
  obtain ⟨c272, hr1, h⟩ := bind_ok h
  refine Cl_sA (w_slices_CompareFunc_impl_Event_impl_eventOrder hr1) ?_
  try refine sA ?_
  have he := Option.some.inj h
  subst he
  exact endsA ⟨[(4, (.lf false (.sc (.int .i64 c272))))], [], 0, 8⟩ []
theorem w_slices_Equal_impl_Event {a0 : (List EventT)} {a1 : (List EventT)} {r : Bool} (h : slices_Equal_impl_Event a0 a1 = some r) : Fn Tryz.prog 172 [(.lf true (.sl (a0.map eEvent))), (.lf true (.sl (a1.map eEvent)))] [] 0 (.lf false (.sc (.bool r))) [] 0 := by
  unfold slices_Equal_impl_Event at h
  refine fn_code tab_ok mixed [(1000, [(0, 0), (1, 0)]), (1001, [(0, 0), (1, 0), (10, 0)]), (1002, [(4, 0)]), (1003, [(0, 0), (1, 0), (12, 0), (13, 0)]), (1004, [(0, 0), (1, 0), (12, 0), (13, 0), (14, 0)]), (1005, [(0, 0), (1, 0), (5, 0), (12, 0), (13, 0)]), (1006, [(0, 0), (1, 0), (12, 0), (13, 0), (24, 0)]), (1007, [(4, 0)]), (1008, [(0, 0), (1, 0), (12, 0), (13, 0)]), (1009, [(4, 0)])] Tryz.func172 rfl rfl (by simp [Tryz.f172]) (by kernel_rfl) ?_
  simp only [Tryz.f172]
  refine sA ?_
  refine Bs_if h (fun h hc1 => ?_) (fun h hc1 => ?_)
  · try refine sA ?_
    have he := Option.some.inj h
    subst he
    exact endsA ⟨[(4, (.lf false (.sc (.bool false))))], [], 0, 26⟩ []
  · try refine sA ?_
    obtain ⟨y275, hl2, h⟩ := bind_ok h
    refine W_loopP (fun g274 : slices_Equal_impl_Event_G1 => ⟨[(0, (.lf true (.sl (a0.map eEvent)))), (1, (.lf true (.sl (a1.map eEvent)))), (12, (.lf false (.sc (.int .i64 ((a0.length : Nat) : Int))))), (13, (.lf false (.sc (.int .i64 g274.t13))))], [], 0, 26⟩) (slices_Equal_impl_Event_L1 a0 a1) _ _ hl2 (weakA []) ?_
    · intro n1 g274 z1 hs1 hk1
      unfold slices_Equal_impl_Event_L1 at hs1
      try dsimp only at hs1
      refine sA ?_
      refine Bs_if hs1 (fun hs1 hc3 => ?_) (fun hs1 hc3 => ?_)
      · try refine sA ?_
        obtain ⟨hp4, hs1⟩ := guard_some hs1
        have hn4 : g274.t13.toNat < a0.length := by first | omega | (simp only [List.length_set, List.length_append, List.length_replicate, List.length_map]; omega)
        try refine sA ?_
        try refine andA ?_
        obtain ⟨hp5, hs1⟩ := guard_some hs1
        have hn5 : g274.t13.toNat < a1.length := by first | omega | (simp only [List.length_set, List.length_append, List.length_replicate, List.length_map]; omega)
        try refine sA ?_
        try refine andA ?_
        first | refine And.intro ⟨by kernel_rfl, by kernel_rfl, by kernel_rfl⟩ ?_ | skip
        try refine sA ?_
        refine Bs_if hs1 (fun hs1 hc7 => ?_) (fun hs1 hc7 => ?_)
        · try refine sA ?_
          cases hs1
          cases hk1
          try dsimp only at h
          try refine sA ?_
          have he := Option.some.inj h
          subst he
          exact endsA ⟨[(4, (.lf false (.sc (.bool false))))], [], 0, 26⟩ []
        · try refine sA ?_
          cases hs1
          exact X_backP hk1 (weakA [])
      · try refine sA ?_
        cases hs1
        cases hk1
        try dsimp only at h
        try refine sA ?_
        have he := Option.some.inj h
        subst he
        exact endsA ⟨[(4, (.lf false (.sc (.bool true))))], [], 0, 26⟩ []
theorem w_impl_begins {a0 : (List EventT)} {a1 : (List EventT)} {r : Bool} (h : impl_begins a0 a1 = some r) : Fn Tryz.prog 126 [(.lf true (.sl (a0.map eEvent))), (.lf true (.sl (a1.map eEvent)))] [] 0 (.lf false (.sc (.bool r))) [] 0 := by
  unfold impl_begins at h
  refine fn_code tab_ok mixed [] Tryz.func126 rfl rfl (by simp [Tryz.f126]) (by kernel_rfl) ?_
  simp only [Tryz.f126]
  refine sA ?_
  refine Sp_if h (fun h hc1 => ?_) (fun h hc1 => ?_)
  · try refine sA ?_
    obtain ⟨hp2, h⟩ := guard_some h
    try refine sA ?_
    try refine andA ?_
    obtain ⟨c278, hr3, h⟩ := bind_ok h
    refine Cl_sA (w_slices_Equal_impl_Event hr3) ?_
    try refine sA ?_
    have he := Option.some.inj h
    subst he
    exact endsA ⟨[(4, (.lf false (.sc (.bool c278))))], [], 0, 18⟩ []
  · try refine sA ?_
    have he := Option.some.inj h
    subst he
    exact endsA ⟨[(4, (.lf false (.sc (.bool false))))], [], 0, 18⟩ []
theorem w_impl_GoodTellings {a0 : TellingsT} {r : Bool} (h : impl_GoodTellings a0 = some r) : Fn Tryz.prog 58 [(.ag [(.lf true (.sl (a0.Branches.map eBranch)))])] [] 0 (.lf false (.sc (.bool r))) [] 0 := by
  unfold impl_GoodTellings at h
  refine fn_code tab_ok mixed [(1000, [(1, 0)]), (1001, [(1, 0), (10, 0)]), (1002, [(2, 0)]), (1003, [(1, 0), (12, 0), (13, 0), (14, 0)]), (1004, [(1, 0), (12, 0), (13, 0), (14, 0), (15, 0)]), (1005, [(1, 0), (3, 0), (4, 0), (12, 0), (13, 0), (14, 0)]), (1006, [(1, 0), (3, 0), (4, 0), (12, 0), (13, 0), (14, 0), (22, 0)]), (1007, [(2, 0)]), (1008, [(1, 0), (4, 0), (12, 0), (13, 0), (14, 0), (26, 0), (27, 0), (28, 0)]), (1009, [(1, 0), (4, 0), (12, 0), (13, 0), (14, 0), (26, 0), (27, 0), (28, 0), (29, 0)]), (1010, [(1, 0), (4, 0), (6, 0), (12, 0), (13, 0), (14, 0), (26, 0), (27, 0), (28, 0)]), (1011, [(1, 0), (4, 0), (12, 0), (13, 0), (14, 0), (26, 0), (27, 0), (28, 0), (44, 0)]), (1012, [(2, 0)]), (1013, [(1, 0), (4, 0), (12, 0), (13, 0), (14, 0), (26, 0), (27, 0), (28, 0)]), (1014, [(1, 0), (12, 0), (13, 0), (14, 0)]), (1015, [(2, 0)]), (4011, [])] Tryz.func58 rfl rfl (by simp [Tryz.f58]) (by kernel_rfl) ?_
  simp only [Tryz.f58]
  refine sA ?_
  refine Bs_if h (fun h hc1 => ?_) (fun h hc1 => ?_)
  · try refine sA ?_
    have he := Option.some.inj h
    subst he
    exact endsA ⟨[(2, (.lf false (.sc (.bool false))))], [], 0, 47⟩ []
  · try refine sA ?_
    obtain ⟨y298, hl2, h⟩ := bind_ok h
    refine W_loopP (fun g167 : impl_GoodTellings_G1 => ⟨[(1, (.pb 0 0)), (12, (.lf true (.sl (a0.Branches.map eBranch)))), (13, (.lf false (.sc (.int .i64 ((a0.Branches.length : Nat) : Int))))), (14, (.lf false (.sc (.int .i64 g167.t14))))], [(0, some (true, .box [(.lf true (.sl (a0.Branches.map eBranch)))]))], 1, 47⟩) (impl_GoodTellings_L1 a0) _ _ hl2 (weakA [some 0]) ?_
    · intro n1 g167 z1 hs1 hk1
      unfold impl_GoodTellings_L1 at hs1
      try dsimp only at hs1
      refine sA ?_
      refine Bs_if hs1 (fun hs1 hc3 => ?_) (fun hs1 hc3 => ?_)
      · try refine sA ?_
        obtain ⟨hp4, hs1⟩ := guard_some hs1
        have hn4 : g167.t14.toNat < a0.Branches.length := by first | omega | (simp only [List.length_set, List.length_append, List.length_replicate, List.length_map]; omega)
        try refine sA ?_
        try refine andA ?_
        obtain ⟨c287, hr5, hs1⟩ := bind_ok hs1
        refine Cl_sA (w_impl_isTelling hr5) ?_
        try refine sA ?_
        refine Bs_if hs1 (fun hs1 hc6 => ?_) (fun hs1 hc6 => ?_)
        · try refine sA ?_
          cases hs1
          cases hk1
          try dsimp only at h
          try refine sA ?_
          have he := Option.some.inj h
          subst he
          exact endsA ⟨[(2, (.lf false (.sc (.bool false))))], [], 0, 47⟩ []
        · try refine sA ?_
          obtain ⟨hp7, hs1⟩ := guard_some hs1
          try refine sA ?_
          try refine andA ?_
          obtain ⟨y295, hl8, hs1⟩ := bind_ok hs1
          refine W_loopP (fun g288 : impl_GoodTellings_G2 => ⟨[(1, (.pb 0 0)), (4, (.pb 1 0)), (12, (.lf true (.sl (a0.Branches.map eBranch)))), (13, (.lf false (.sc (.int .i64 ((a0.Branches.length : Nat) : Int))))), (14, (.lf false (.sc (.int .i64 g167.t14)))), (26, (.lf true (.sl ((a0.Branches.take g167.t14.toNat).map eBranch)))), (27, (.lf false (.sc (.int .i64 (((a0.Branches.take g167.t14.toNat).length : Nat) : Int))))), (28, (.lf false (.sc (.int .i64 g288.t28))))], [(0, some (true, .box [(.lf true (.sl (a0.Branches.map eBranch)))])), (1, some (true, .box [(.lf true (.sl (((nth a0.Branches g167.t14.toNat).Events).map eEvent)))]))], 2, 47⟩) (impl_GoodTellings_L2 a0 g167) _ _ hl8 (weakA [some 0, some 1]) ?_
          · intro n2 g288 z2 hs2 hk2
            unfold impl_GoodTellings_L2 at hs2
            try dsimp only at hs2
            refine sA ?_
            refine Bs_if hs2 (fun hs2 hc9 => ?_) (fun hs2 hc9 => ?_)
            · try refine sA ?_
              obtain ⟨hp10, hs2⟩ := guard_some hs2
              have hn10 : g288.t28.toNat < (a0.Branches.take g167.t14.toNat).length := by first | omega | (simp only [List.length_set, List.length_append, List.length_replicate, List.length_map]; omega)
              try refine sA ?_
              try refine andA ?_
              obtain ⟨p294, hq11, hs2⟩ := bind_ok hs2
              refine Sq_cut (fun s2 => s2 = ⟨[(1, (.pb 0 0)), (4, (.pb 1 0)), (12, (.lf true (.sl (a0.Branches.map eBranch)))), (13, (.lf false (.sc (.int .i64 ((a0.Branches.length : Nat) : Int))))), (14, (.lf false (.sc (.int .i64 g167.t14)))), (26, (.lf true (.sl ((a0.Branches.take g167.t14.toNat).map eBranch)))), (27, (.lf false (.sc (.int .i64 (((a0.Branches.take g167.t14.toNat).length : Nat) : Int))))), (28, (.lf false (.sc (.int .i64 g288.t28)))), (44, (.lf false (.sc (.bool p294.t44))))], [(0, some (true, .box [(.lf true (.sl (a0.Branches.map eBranch)))])), (1, some (true, .box [(.lf true (.sl (((nth a0.Branches g167.t14.toNat).Events).map eEvent)))]))], 2, 47⟩) ?_ ?_
              · try refine sA ?_
                obtain ⟨c292, hr12, hq11⟩ := bind_ok hq11
                refine Cl_sA (w_impl_branchOrder hr12) ?_
                try refine sA ?_
                refine Sp_if hq11 (fun hq11 hc13 => ?_) (fun hq11 hc13 => ?_)
                · try refine sA ?_
                  cases hq11
                  exact X_cut rfl (weakA [some 0, some 1])
                · try refine sA ?_
                  obtain ⟨c293, hr14, hq11⟩ := bind_ok hq11
                  refine Cl_sA (w_impl_begins hr14) ?_
                  try refine sA ?_
                  cases hq11
                  exact X_cut rfl (weakA [some 0, some 1])
              · intro s2 hJ; subst hJ
                try dsimp only at hs2
                try refine sA ?_
                refine Bs_if hs2 (fun hs2 hc15 => ?_) (fun hs2 hc15 => ?_)
                · try refine sA ?_
                  cases hs2
                  cases hk2
                  try dsimp only at hs1
                  try refine sA ?_
                  cases hs1
                  cases hk1
                  try dsimp only at h
                  try refine sA ?_
                  have he := Option.some.inj h
                  subst he
                  exact endsA ⟨[(2, (.lf false (.sc (.bool false))))], [], 0, 47⟩ []
                · try refine sA ?_
                  cases hs2
                  exact X_backP hk2 (weakA [some 0, some 1])
            · try refine sA ?_
              cases hs2
              cases hk2
              try dsimp only at hs1
              try refine sA ?_
              cases hs1
              exact X_backP hk1 (weakA [some 0])
      · try refine sA ?_
        cases hs1
        cases hk1
        try dsimp only at h
        try refine sA ?_
        have he := Option.some.inj h
        subst he
        exact endsA ⟨[(2, (.lf false (.sc (.bool true))))], [], 0, 47⟩ []
theorem w_impl_wordOk_c1_c1_r {a0 : EventT} {a1 : Int} {r : Bool} (h : impl_wordOk_c1_c1_r a0 a1 = some r) : Fn Tryz.prog 188 [(.ag [(.lf false (.sc (.int .i64 a0.Id))), (.lf false (.sc (.int .i64 a0.Version))), (.lf false (.sc (.int .i64 a0.Kind))), (.lf false (.sc (.string a0.Name)))]), (.ra true [.sc (.int .i64 a1)])] [] 0 (.lf false (.sc (.bool r))) [] 0 := by
  unfold impl_wordOk_c1_c1_r at h
  refine fn_code tab_ok mixed [] Tryz.func188 rfl rfl (by simp [Tryz.f188]) (by kernel_rfl) ?_
  simp only [Tryz.f188]
  refine sA ?_
  have he := Option.some.inj h
  subst he
  exact endsA ⟨[(3, (.lf false (.sc (.bool (decide (a0.Version > a1))))))], [], 0, 8⟩ []
theorem w_slices_IndexFunc_impl_Event_impl_wordOk_c1_c1r {a0 : (List EventT)} {a1 : Int} {r : Int} (h : slices_IndexFunc_impl_Event_impl_wordOk_c1_c1r a0 a1 = some r) : Fn Tryz.prog 206 [(.lf true (.sl (a0.map eEvent))), (.fn 188 [(.ra true [.sc (.int .i64 a1)])])] [] 0 (.lf false (.sc (.int .i64 r))) [] 0 := by
  unfold slices_IndexFunc_impl_Event_impl_wordOk_c1_c1r at h
  refine fn_code tab_ok mixed [(1000, [(0, 0), (1, 0)]), (1001, [(0, 0), (1, 0), (7, 0), (8, 0)]), (1002, [(0, 0), (1, 0), (7, 0), (8, 0), (9, 0)]), (1003, [(0, 0), (1, 0), (5, 0), (7, 0), (8, 0)]), (1004, [(0, 0), (1, 0), (5, 0), (7, 0), (8, 0), (16, 0)]), (1005, [(4, 0)]), (1006, [(0, 0), (1, 0), (7, 0), (8, 0)]), (1007, [(4, 0)])] Tryz.func206 rfl rfl (by simp [Tryz.f206]) (by kernel_rfl) ?_
  simp only [Tryz.f206]
  refine sA ?_
  obtain ⟨y307, hl1, h⟩ := bind_ok h
  refine W_loopP (fun g304 : slices_IndexFunc_impl_Event_impl_wordOk_c1_c1r_G1 => ⟨[(0, (.lf true (.sl (a0.map eEvent)))), (1, (.fn 188 [(.ra true [.sc (.int .i64 a1)])])), (7, (.lf false (.sc (.int .i64 ((a0.length : Nat) : Int))))), (8, (.lf false (.sc (.int .i64 g304.t8))))], [], 0, 19⟩) (slices_IndexFunc_impl_Event_impl_wordOk_c1_c1r_L1 a0 a1) _ _ hl1 (weakA []) ?_
  · intro n1 g304 z1 hs1 hk1
    unfold slices_IndexFunc_impl_Event_impl_wordOk_c1_c1r_L1 at hs1
    try dsimp only at hs1
    refine sA ?_
    refine Bs_if hs1 (fun hs1 hc2 => ?_) (fun hs1 hc2 => ?_)
    · try refine sA ?_
      obtain ⟨hp3, hs1⟩ := guard_some hs1
      have hn3 : g304.t8.toNat < a0.length := by first | omega | (simp only [List.length_set, List.length_append, List.length_replicate, List.length_map]; omega)
      try refine sA ?_
      try refine andA ?_
      obtain ⟨c306, hr4, hs1⟩ := bind_ok hs1
      refine Cl_sA (w_impl_wordOk_c1_c1_r hr4) ?_
      try refine sA ?_
      refine Bs_if hs1 (fun hs1 hc5 => ?_) (fun hs1 hc5 => ?_)
      · try refine sA ?_
        cases hs1
        cases hk1
        try dsimp only at h
        try refine sA ?_
        have he := Option.some.inj h
        subst he
        exact endsA ⟨[(4, (.lf false (.sc (.int .i64 g304.t8))))], [], 0, 19⟩ []
      · try refine sA ?_
        cases hs1
        exact X_backP hk1 (weakA [])
    · try refine sA ?_
      cases hs1
      cases hk1
      try dsimp only at h
      try refine sA ?_
      have he := Option.some.inj h
      subst he
      exact endsA ⟨[(4, (.lf false (.sc (.int .i64 (-1)))))], [], 0, 19⟩ []
theorem w_slices_ContainsFunc_impl_Event_impl_wordOk_c1_c1r {a0 : (List EventT)} {a1 : Int} {r : Bool} (h : slices_ContainsFunc_impl_Event_impl_wordOk_c1_c1r a0 a1 = some r) : Fn Tryz.prog 187 [(.lf true (.sl (a0.map eEvent))), (.fn 188 [(.ra true [.sc (.int .i64 a1)])])] [] 0 (.lf false (.sc (.bool r))) [] 0 := by
  unfold slices_ContainsFunc_impl_Event_impl_wordOk_c1_c1r at h
  refine fn_code tab_ok mixed [] Tryz.func187 rfl rfl (by simp [Tryz.f187]) (by kernel_rfl) ?_
  simp only [Tryz.f187]
  refine sA ?_
  obtain ⟨c310, hr1, h⟩ := bind_ok h
  refine Cl_sA (w_slices_IndexFunc_impl_Event_impl_wordOk_c1_c1r hr1) ?_
  try refine sA ?_
  have he := Option.some.inj h
  subst he
  exact endsA ⟨[(4, (.lf false (.sc (.bool (decide (c310 ≥ 0))))))], [], 0, 9⟩ []
theorem w_impl_wordOk_c1_r {a0 : BranchT} {a1 : Int} {r : Bool} (h : impl_wordOk_c1_r a0 a1 = some r) : Fn Tryz.prog 186 [(.ag [(.lf true (.sl (a0.Events.map eEvent)))]), (.ra true [.sc (.int .i64 a1)])] [] 0 (.lf false (.sc (.bool r))) [] 0 := by
  unfold impl_wordOk_c1_r at h
  refine fn_code tab_ok mixed [] Tryz.func186 rfl rfl (by simp [Tryz.f186]) (by kernel_rfl) ?_
  simp only [Tryz.f186]
  refine sA ?_
  obtain ⟨c311, hr1, h⟩ := bind_ok h
  refine Cl_sA (w_slices_ContainsFunc_impl_Event_impl_wordOk_c1_c1r hr1) ?_
  try refine sA ?_
  have he := Option.some.inj h
  subst he
  exact endsA ⟨[(3, (.lf false (.sc (.bool c311))))], [], 0, 8⟩ []
theorem w_slices_IndexFunc_impl_Branch_impl_wordOk_c1r {a0 : (List BranchT)} {a1 : Int} {r : Int} (h : slices_IndexFunc_impl_Branch_impl_wordOk_c1r a0 a1 = some r) : Fn Tryz.prog 174 [(.lf true (.sl (a0.map eBranch))), (.fn 186 [(.ra true [.sc (.int .i64 a1)])])] [] 0 (.lf false (.sc (.int .i64 r))) [] 0 := by
  unfold slices_IndexFunc_impl_Branch_impl_wordOk_c1r at h
  refine fn_code tab_ok mixed [(1000, [(0, 0), (1, 0)]), (1001, [(0, 0), (1, 0), (7, 0), (8, 0)]), (1002, [(0, 0), (1, 0), (7, 0), (8, 0), (9, 0)]), (1003, [(0, 0), (1, 0), (5, 0), (7, 0), (8, 0)]), (1004, [(0, 0), (1, 0), (5, 0), (7, 0), (8, 0), (16, 0)]), (1005, [(4, 0)]), (1006, [(0, 0), (1, 0), (7, 0), (8, 0)]), (1007, [(4, 0)])] Tryz.func174 rfl rfl (by simp [Tryz.f174]) (by kernel_rfl) ?_
  simp only [Tryz.f174]
  refine sA ?_
  obtain ⟨y314, hl1, h⟩ := bind_ok h
  refine W_loopP (fun g303 : slices_IndexFunc_impl_Branch_impl_wordOk_c1r_G1 => ⟨[(0, (.lf true (.sl (a0.map eBranch)))), (1, (.fn 186 [(.ra true [.sc (.int .i64 a1)])])), (7, (.lf false (.sc (.int .i64 ((a0.length : Nat) : Int))))), (8, (.lf false (.sc (.int .i64 g303.t8))))], [], 0, 19⟩) (slices_IndexFunc_impl_Branch_impl_wordOk_c1r_L1 a0 a1) _ _ hl1 (weakA []) ?_
  · intro n1 g303 z1 hs1 hk1
    unfold slices_IndexFunc_impl_Branch_impl_wordOk_c1r_L1 at hs1
    try dsimp only at hs1
    refine sA ?_
    refine Bs_if hs1 (fun hs1 hc2 => ?_) (fun hs1 hc2 => ?_)
    · try refine sA ?_
      obtain ⟨hp3, hs1⟩ := guard_some hs1
      have hn3 : g303.t8.toNat < a0.length := by first | omega | (simp only [List.length_set, List.length_append, List.length_replicate, List.length_map]; omega)
      try refine sA ?_
      try refine andA ?_
      obtain ⟨c313, hr4, hs1⟩ := bind_ok hs1
      refine Cl_sA (w_impl_wordOk_c1_r hr4) ?_
      try refine sA ?_
      refine Bs_if hs1 (fun hs1 hc5 => ?_) (fun hs1 hc5 => ?_)
      · try refine sA ?_
        cases hs1
        cases hk1
        try dsimp only at h
        try refine sA ?_
        have he := Option.some.inj h
        subst he
        exact endsA ⟨[(4, (.lf false (.sc (.int .i64 g303.t8))))], [], 0, 19⟩ []
      · try refine sA ?_
        cases hs1
        exact X_backP hk1 (weakA [])
    · try refine sA ?_
      cases hs1
      cases hk1
      try dsimp only at h
      try refine sA ?_
      have he := Option.some.inj h
      subst he
      exact endsA ⟨[(4, (.lf false (.sc (.int .i64 (-1)))))], [], 0, 19⟩ []
theorem w_slices_ContainsFunc_impl_Branch_impl_wordOk_c1r {a0 : (List BranchT)} {a1 : Int} {r : Bool} (h : slices_ContainsFunc_impl_Branch_impl_wordOk_c1r a0 a1 = some r) : Fn Tryz.prog 129 [(.lf true (.sl (a0.map eBranch))), (.fn 186 [(.ra true [.sc (.int .i64 a1)])])] [] 0 (.lf false (.sc (.bool r))) [] 0 := by
  unfold slices_ContainsFunc_impl_Branch_impl_wordOk_c1r at h
  refine fn_code tab_ok mixed [] Tryz.func129 rfl rfl (by simp [Tryz.f129]) (by kernel_rfl) ?_
  simp only [Tryz.f129]
  refine sA ?_
  obtain ⟨c317, hr1, h⟩ := bind_ok h
  refine Cl_sA (w_slices_IndexFunc_impl_Branch_impl_wordOk_c1r hr1) ?_
  try refine sA ?_
  have he := Option.some.inj h
  subst he
  exact endsA ⟨[(4, (.lf false (.sc (.bool (decide (c317 ≥ 0))))))], [], 0, 9⟩ []
theorem w_impl_wordOk {a0 : Int} {a1 : TellingsT} {r : Bool} (h : impl_wordOk a0 a1 = some r) : Fn Tryz.prog 138 [(.lf false (.sc (.int .i64 a0))), (.ag [(.lf true (.sl (a1.Branches.map eBranch)))])] [] 0 (.lf false (.sc (.bool r))) [] 0 := by
  unfold impl_wordOk at h
  refine fn_code tab_ok mixed [(1000, [(2, 0), (3, 0)]), (1001, [(2, 0), (3, 0), (12, 0)]), (1002, [(4, 0)]), (1003, [(4, 0)]), (4001, [])] Tryz.func138 rfl rfl (by simp [Tryz.f138]) (by kernel_rfl) ?_
  simp only [Tryz.f138]
  refine sA ?_
  obtain ⟨p302, hq1, h⟩ := bind_ok h
  refine Sq_cut (fun s2 => s2 = ⟨[(2, (.pb 0 0)), (3, (.pb 1 0)), (12, (.lf false (.sc (.bool p302.t12))))], [(0, some (true, .box [(.lf false (.sc (.int .i64 a0)))])), (1, some (true, .box [(.lf true (.sl (a1.Branches.map eBranch)))]))], 2, 18⟩) ?_ ?_
  · try refine sA ?_
    obtain ⟨c166, hr2, hq1⟩ := bind_ok hq1
    refine Cl_sA (w_impl_isVersion hr2) ?_
    try refine sA ?_
    refine Sp_if hq1 (fun hq1 hc3 => ?_) (fun hq1 hc3 => ?_)
    · try refine sA ?_
      cases hq1
      exact X_cut rfl (weakA [some 0, some 1])
    · try refine sA ?_
      obtain ⟨c301, hr4, hq1⟩ := bind_ok hq1
      refine Cl_sA (w_impl_GoodTellings hr4) ?_
      try refine sA ?_
      cases hq1
      exact X_cut rfl (weakA [some 0, some 1])
  · intro s2 hJ; subst hJ
    try dsimp only at h
    try refine sA ?_
    refine Bs_if h (fun h hc5 => ?_) (fun h hc5 => ?_)
    · try refine sA ?_
      have he := Option.some.inj h
      subst he
      exact endsA ⟨[(4, (.lf false (.sc (.bool false))))], [], 0, 18⟩ []
    · try refine sA ?_
      obtain ⟨c318, hr6, h⟩ := bind_ok h
      refine Cl_sA (w_slices_ContainsFunc_impl_Branch_impl_wordOk_c1r hr6) ?_
      try refine sA ?_
      have he := Option.some.inj h
      subst he
      exact endsA ⟨[(4, (.lf false (.sc (.bool (!c318)))))], [], 0, 18⟩ []
theorem w_impl_GoodRegion {a0 : RegionT} {r : Bool} (h : impl_GoodRegion a0 = some r) : Fn Tryz.prog 92 [(.ag [(.lf false (.sc (.int .i64 a0.Id))), (.lf false (.sc (.int .i64 a0.Version))), (.lf true (.sl (a0.Tellings.Branches.map eBranch)))])] [] 0 (.lf false (.sc (.bool r))) [] 0 := by
  unfold impl_GoodRegion at h
  refine fn_code tab_ok mixed [] Tryz.func92 rfl rfl (by simp [Tryz.f92]) (by kernel_rfl) ?_
  simp only [Tryz.f92]
  refine sA ?_
  obtain ⟨c164, hr1, h⟩ := bind_ok h
  refine Cl_sA (w_impl_isRegion hr1) ?_
  try refine sA ?_
  refine Sp_if h (fun h hc2 => ?_) (fun h hc2 => ?_)
  · try refine sA ?_
    obtain ⟨c319, hr3, h⟩ := bind_ok h
    refine Cl_sA (w_impl_wordOk hr3) ?_
    try refine sA ?_
    have he := Option.some.inj h
    subst he
    exact endsA ⟨[(2, (.lf false (.sc (.bool c319))))], [], 0, 13⟩ []
  · try refine sA ?_
    have he := Option.some.inj h
    subst he
    exact endsA ⟨[(2, (.lf false (.sc (.bool false))))], [], 0, 13⟩ []
theorem w_slices_Clone_impl_Event {a0 : (List EventT)} {r : (List EventT)} (h : slices_Clone_impl_Event a0 = some r) : Fn Tryz.prog 84 [(.lf true (.sl (a0.map eEvent)))] [] 0 (.os 0 4 0 r.length r.length false) [(0, some (true, .arr false 4 (r.map eEvent)))] 1 := by
  unfold slices_Clone_impl_Event at h
  obtain ⟨hp, h⟩ := guard_some h
  have he := Option.some.inj h; subst he
  refine fn_code tab_ok mixed [] Tryz.func84 rfl rfl (by simp [Tryz.f84]) (by kernel_rfl) ?_
  simp only [Tryz.f84]
  simp (disch := assumption) only [go_sem, Nat.reduceAdd, Nat.reduceMul, Nat.reduceSub, Nat.reduceEqDiff, ↓reduceIte, Nat.reduceLT, reduceCtorEq, Nat.reduceLeDiff, Int.reduceToNat, Int.reduceEq, Int.reduceLE, Int.reduceLT, Nat.reduceBEq]
  intro b hb
  refine Bs_splitC (b = true) (by simp) (fun hc => ?_) (fun hc => ?_)
  · have h0 : a0 = [] := by simpa using hb (by simpa using hc)
    subst h0
    try simp (disch := assumption) only [go_sem, Nat.reduceAdd, Nat.reduceMul, Nat.reduceSub, Nat.reduceEqDiff, ↓reduceIte, Nat.reduceLT, reduceCtorEq, Nat.reduceLeDiff, Int.reduceToNat, Int.reduceEq, Int.reduceLE, Int.reduceLT, Nat.reduceBEq]
    refine ends_weak ⟨[(2, (.os 0 4 0 0 0 false))], [(0, some (true, .arr false 4 (([] : List EventT).map eEvent)))], 1, 8⟩ (weak_of (m := 0) [none] rfl rfl rfl (by rfl) ?_ ?_) ?_
    all_goals ((try simp (disch := assumption) only [go_sem, Nat.reduceAdd, Nat.reduceMul, Nat.reduceSub, Nat.reduceEqDiff, ↓reduceIte, Nat.reduceLT, reduceCtorEq, Nat.reduceLeDiff, Int.reduceToNat, Int.reduceEq, Int.reduceLE, Int.reduceLT, Nat.reduceBEq]); (repeat' first | done | rfl | omega | refine And.intro ?_ ?_ | (simp; done) | (simp; omega)))
  · try simp (disch := assumption) only [go_sem, Nat.reduceAdd, Nat.reduceMul, Nat.reduceSub, Nat.reduceEqDiff, ↓reduceIte, Nat.reduceLT, reduceCtorEq, Nat.reduceLeDiff, Int.reduceToNat, Int.reduceEq, Int.reduceLE, Int.reduceLT, Nat.reduceBEq]
    first | refine And.intro (by first | omega | exact ⟨by omega, fun _ => mapLen fun _ => rfl⟩ | (refine ⟨?_, by omega⟩; first | exact mapLen fun _ => rfl | simp)) ?_ | skip
    try simp (disch := assumption) only [go_sem, Nat.reduceAdd, Nat.reduceMul, Nat.reduceSub, Nat.reduceEqDiff, ↓reduceIte, Nat.reduceLT, reduceCtorEq, Nat.reduceLeDiff, Int.reduceToNat, Int.reduceEq, Int.reduceLE, Int.reduceLT, Nat.reduceBEq]
    refine ends_weak ⟨[(2, (.os 0 4 0 a0.length a0.length false))], [(0, some (true, .arr false 4 (a0.map eEvent)))], 1, 8⟩ (weak_of (m := 0) [some 1] rfl rfl rfl (by rfl) ?_ ?_) ?_
    all_goals ((try simp (disch := assumption) only [go_sem, Nat.reduceAdd, Nat.reduceMul, Nat.reduceSub, Nat.reduceEqDiff, ↓reduceIte, Nat.reduceLT, reduceCtorEq, Nat.reduceLeDiff, Int.reduceToNat, Int.reduceEq, Int.reduceLE, Int.reduceLT, Nat.reduceBEq]); (repeat' first | done | rfl | omega | refine And.intro ?_ ?_ | (simp; done) | (simp; omega)))
theorem w_impl_cloneTellings {a0 : TellingsT} {r : TellingsT} (h : impl_cloneTellings a0 = some r) : Fn Tryz.prog 123 [(.ag [(.lf true (.sl (a0.Branches.map eBranch)))])] [] 0 (.ag [(.os 0 1 0 r.Branches.length r.Branches.length false)]) [(0, some (true, .deep [.sl [.sc, .sc, .sc, .sc]] (r.Branches.map eBranch)))] 2 := by
  unfold impl_cloneTellings at h
  refine fn_code tab_ok mixed [(5, [(1, 4), (1, 6)]), (1000, [(1, 0), (2, 0)]), (1001, [(1, 0), (2, 0), (3, 0)]), (1002, [(2, 0), (3, 0), (8, 0), (9, 0), (10, 0)]), (1003, [(2, 0), (3, 0), (8, 0), (9, 0), (10, 0), (11, 0)]), (1004, [(2, 0), (3, 0), (5, 0), (8, 0), (9, 0), (10, 0)]), (1005, [(2, 0), (3, 0), (8, 0), (9, 0), (10, 0)]), (1006, [(2, 0), (3, 0), (8, 0), (9, 0), (10, 0)]), (1007, [(2, 0)])] Tryz.func123 rfl rfl (by simp [Tryz.f123]) (by kernel_rfl) ?_
  simp only [Tryz.f123]
  refine sA ?_
  obtain ⟨y324, hl1, h⟩ := bind_ok h
  refine W_loopP (fun g321 : impl_cloneTellings_G1 => ⟨[(2, (.pb 0 0)), (3, (.pb 1 0)), (8, (.lf true (.sl (a0.Branches.map eBranch)))), (9, (.lf false (.sc (.int .i64 ((a0.Branches.length : Nat) : Int))))), (10, (.lf false (.sc (.int .i64 g321.t10))))], [(0, some (true, .box [.nl])), (1, some (true, .box [(.os 2 1 0 g321.c2.length g321.c2.length false)])), (2, some (true, .deep [.sl [.sc, .sc, .sc, .sc]] (g321.c2.map eBranch)))], 3, 25⟩) (impl_cloneTellings_L1 a0) _ _ hl1 (weakA [some 1, some 2, none]) ?_
  · intro n1 g321 z1 hs1 hk1
    unfold impl_cloneTellings_L1 at hs1
    try dsimp only at hs1
    refine sA ?_
    refine Bs_if hs1 (fun hs1 hc2 => ?_) (fun hs1 hc2 => ?_)
    · try refine sA ?_
      obtain ⟨hp3, hs1⟩ := guard_some hs1
      have hn3 : g321.t10.toNat < a0.Branches.length := by first | omega | (simp only [List.length_set, List.length_append, List.length_replicate, List.length_map]; omega)
      try refine sA ?_
      try refine andA ?_
      obtain ⟨c323, hr4, hs1⟩ := bind_ok hs1
      refine Cl_sA (w_slices_Clone_impl_Event hr4) ?_
      try refine sA ?_
      obtain ⟨hp5, hs1⟩ := guard_some hs1
      try refine sA ?_
      try refine andA ?_
      cases hs1
      exact X_backP hk1 (packW 6 (weakA [some 0, some 1, some 6]))
    · try refine sA ?_
      cases hs1
      cases hk1
      try dsimp only at h
      try refine sA ?_
      have he := Option.some.inj h
      subst he
      exact endsA ⟨[(2, (.pb 1 0))], [(0, some (true, .deep [.sl [.sc, .sc, .sc, .sc]] (g321.c2.map eBranch))), (1, some (true, .box [(.os 0 1 0 g321.c2.length g321.c2.length false)]))], 2, 25⟩ [some 2, some 0]
theorem w_impl_Region_word_r {a0 : RegionT} {r : WordT} (h : impl_Region_word_r a0 = some r) : Fn Tryz.prog 93 [(.ra true [.sc (.int .i64 a0.Id), .sc (.int .i64 a0.Version), .sl (a0.Tellings.Branches.map eBranch)])] [] 0 (.ag [(.lf false (.sc (.int .i64 r.Version))), (.os 0 1 0 r.Tellings.Branches.length r.Tellings.Branches.length false)]) [(0, some (true, .deep [.sl [.sc, .sc, .sc, .sc]] (r.Tellings.Branches.map eBranch)))] 2 := by
  unfold impl_Region_word_r at h
  refine fn_code tab_ok mixed [(1, [(3, 8)])] Tryz.func93 rfl rfl (by simp [Tryz.f93]) (by kernel_rfl) ?_
  simp only [Tryz.f93]
  refine sA ?_
  obtain ⟨c325, hr1, h⟩ := bind_ok h
  refine Cl_sA (w_impl_cloneTellings hr1) ?_
  try refine sA ?_
  have he := Option.some.inj h
  subst he
  exact endsA ⟨[(2, (.pb 1 0))], [(0, some (true, .deep [.sl [.sc, .sc, .sc, .sc]] (c325.Branches.map eBranch))), (1, some (true, .box [(.lf false (.sc (.int .i64 a0.Version))), (.os 0 1 0 c325.Branches.length c325.Branches.length false)]))], 2, 13⟩ [some 1, some 0]
theorem w_impl_WordOf {a0 : RegionT} {r : (WordT × Bool)} (h : impl_WordOf a0 = some r) : Fn Tryz.prog 26 [(.ag [(.lf false (.sc (.int .i64 a0.Id))), (.lf false (.sc (.int .i64 a0.Version))), (.lf true (.sl (a0.Tellings.Branches.map eBranch)))])] [] 0 (.tu [(.ag [(.lf false (.sc (.int .i64 r.1.Version))), (.os 0 1 0 r.1.Tellings.Branches.length r.1.Tellings.Branches.length false)]), (.lf false (.sc (.bool r.2)))]) [(0, some (true, .deep [.sl [.sc, .sc, .sc, .sc]] (r.1.Tellings.Branches.map eBranch)))] 2 := by
  unfold impl_WordOf at h
  refine fn_code tab_ok mixed [(1000, [(1, 0), (2, 0)]), (1001, [(1, 0), (2, 0), (6, 0)]), (1002, [(2, 0), (3, 0)]), (1003, [(2, 0), (3, 0)])] Tryz.func26 rfl rfl (by simp [Tryz.f26]) (by kernel_rfl) ?_
  simp only [Tryz.f26]
  refine sA ?_
  obtain ⟨c320, hr1, h⟩ := bind_ok h
  refine Cl_sA (w_impl_GoodRegion hr1) ?_
  try refine sA ?_
  refine Bs_if h (fun h hc2 => ?_) (fun h hc2 => ?_)
  · try refine sA ?_
    have he := Option.some.inj h
    subst he
    exact endsA ⟨[(2, (.pb 1 0)), (3, (.lf false (.sc (.bool false))))], [(0, some (true, .deep [.sl [.sc, .sc, .sc, .sc]] (([] : List BranchT).map eBranch))), (1, some (true, .box [(.lf false (.sc (.int .i64 0))), (.os 0 1 0 (([] : List BranchT).length) (([] : List BranchT).length) false)]))], 2, 9⟩ [none, some 1]
  · try refine sA ?_
    obtain ⟨c326, hr3, h⟩ := bind_ok h
    refine Cl_sA (w_impl_Region_word_r hr3) ?_
    try refine sA ?_
    have he := Option.some.inj h
    subst he
    exact endsA ⟨[(2, (.pb 1 0)), (3, (.lf false (.sc (.bool true))))], [(0, some (true, .deep [.sl [.sc, .sc, .sc, .sc]] (c326.Tellings.Branches.map eBranch))), (1, some (true, .box [(.lf false (.sc (.int .i64 c326.Version))), (.os 0 1 0 c326.Tellings.Branches.length c326.Tellings.Branches.length false)]))], 2, 9⟩ [some 2, some 1]
theorem w_laws_eqEvent {a0 : EventT} {a1 : EventT} {r : Bool} (h : laws_eqEvent a0 a1 = some r) : Fn Tryz.prog 86 [(.ag [(.lf false (.sc (.int .i64 a0.Id))), (.lf false (.sc (.int .i64 a0.Version))), (.lf false (.sc (.int .i64 a0.Kind))), (.lf false (.sc (.string a0.Name)))]), (.ag [(.lf false (.sc (.int .i64 a1.Id))), (.lf false (.sc (.int .i64 a1.Version))), (.lf false (.sc (.int .i64 a1.Kind))), (.lf false (.sc (.string a1.Name)))])] [] 0 (.lf false (.sc (.bool r))) [] 0 := by
  unfold laws_eqEvent at h
  refine fn_code tab_ok mixed [(1000, [(2, 0), (3, 0)]), (1001, [(2, 0), (3, 0), (9, 0)]), (1002, [(4, 0)]), (1003, [(2, 0), (3, 0), (14, 0)]), (1004, [(4, 0)]), (1005, [(2, 0), (3, 0), (19, 0)]), (1006, [(4, 0)]), (1007, [(24, 0)]), (1008, [(4, 0)]), (1009, [(4, 0)])] Tryz.func86 rfl rfl (by simp [Tryz.f86]) (by kernel_rfl) ?_
  simp only [Tryz.f86]
  refine sA ?_
  refine Bs_if h (fun h hc1 => ?_) (fun h hc1 => ?_)
  · try refine sA ?_
    have he := Option.some.inj h
    subst he
    exact endsA ⟨[(4, (.lf false (.sc (.bool false))))], [], 0, 25⟩ []
  · try refine sA ?_
    refine Bs_if h (fun h hc2 => ?_) (fun h hc2 => ?_)
    · try refine sA ?_
      have he := Option.some.inj h
      subst he
      exact endsA ⟨[(4, (.lf false (.sc (.bool false))))], [], 0, 25⟩ []
    · try refine sA ?_
      refine Bs_if h (fun h hc3 => ?_) (fun h hc3 => ?_)
      · try refine sA ?_
        have he := Option.some.inj h
        subst he
        exact endsA ⟨[(4, (.lf false (.sc (.bool false))))], [], 0, 25⟩ []
      · try refine sA ?_
        refine Bs_if h (fun h hc4 => ?_) (fun h hc4 => ?_)
        · try refine sA ?_
          have he := Option.some.inj h
          subst he
          exact endsA ⟨[(4, (.lf false (.sc (.bool false))))], [], 0, 25⟩ []
        · try refine sA ?_
          have he := Option.some.inj h
          subst he
          exact endsA ⟨[(4, (.lf false (.sc (.bool true))))], [], 0, 25⟩ []
theorem w_laws_eqEventS {a0 : (List EventT)} {a1 : (List EventT)} {r : Bool} (h : laws_eqEventS a0 a1 = some r) : Fn Tryz.prog 18 [(.lf true (.sl (a0.map eEvent))), (.lf true (.sl (a1.map eEvent)))] [] 0 (.lf false (.sc (.bool r))) [] 0 := by
  unfold laws_eqEventS at h
  refine fn_code tab_ok mixed [(1000, [(0, 0), (1, 0)]), (1001, [(0, 0), (1, 0), (10, 0)]), (1002, [(4, 0)]), (1003, [(0, 0), (1, 0), (5, 0)]), (1004, [(0, 0), (1, 0), (5, 0), (14, 0)]), (1005, [(0, 0), (1, 0), (5, 0)]), (1006, [(0, 0), (1, 0), (5, 0), (26, 0)]), (1007, [(4, 0)]), (1008, [(4, 0)])] Tryz.func18 rfl rfl (by simp [Tryz.f18]) (by kernel_rfl) ?_
  simp only [Tryz.f18]
  refine sA ?_
  refine Bs_if h (fun h hc1 => ?_) (fun h hc1 => ?_)
  · try refine sA ?_
    have he := Option.some.inj h
    subst he
    exact endsA ⟨[(4, (.lf false (.sc (.bool false))))], [], 0, 27⟩ []
  · try refine sA ?_
    obtain ⟨y332, hl2, h⟩ := bind_ok h
    refine W_loopP (fun g329 : laws_eqEventS_G1 => ⟨[(0, (.lf true (.sl (a0.map eEvent)))), (1, (.lf true (.sl (a1.map eEvent)))), (5, (.lf false (.sc (.int .i64 g329.t5))))], [], 0, 27⟩) (laws_eqEventS_L1 a0 a1) _ _ hl2 (weakA []) ?_
    · intro n1 g329 z1 hs1 hk1
      unfold laws_eqEventS_L1 at hs1
      try dsimp only at hs1
      refine sA ?_
      refine Bs_if hs1 (fun hs1 hc3 => ?_) (fun hs1 hc3 => ?_)
      · try refine sA ?_
        obtain ⟨hp4, hs1⟩ := guard_some hs1
        have hn4 : g329.t5.toNat < a0.length := by first | omega | (simp only [List.length_set, List.length_append, List.length_replicate, List.length_map]; omega)
        try refine sA ?_
        try refine andA ?_
        obtain ⟨hp5, hs1⟩ := guard_some hs1
        have hn5 : g329.t5.toNat < a1.length := by first | omega | (simp only [List.length_set, List.length_append, List.length_replicate, List.length_map]; omega)
        try refine sA ?_
        try refine andA ?_
        obtain ⟨c331, hr6, hs1⟩ := bind_ok hs1
        refine Cl_sA (w_laws_eqEvent hr6) ?_
        try refine sA ?_
        refine Bs_if hs1 (fun hs1 hc7 => ?_) (fun hs1 hc7 => ?_)
        · try refine sA ?_
          cases hs1
          cases hk1
          try dsimp only at h
          try refine sA ?_
          have he := Option.some.inj h
          subst he
          exact endsA ⟨[(4, (.lf false (.sc (.bool false))))], [], 0, 27⟩ []
        · try refine sA ?_
          cases hs1
          exact X_backP hk1 (weakA [])
      · try refine sA ?_
        cases hs1
        cases hk1
        try dsimp only at h
        try refine sA ?_
        have he := Option.some.inj h
        subst he
        exact endsA ⟨[(4, (.lf false (.sc (.bool true))))], [], 0, 27⟩ []
theorem w_laws_eqBranch {a0 : BranchT} {a1 : BranchT} {r : Bool} (h : laws_eqBranch a0 a1 = some r) : Fn Tryz.prog 147 [(.ag [(.lf true (.sl (a0.Events.map eEvent)))]), (.ag [(.lf true (.sl (a1.Events.map eEvent)))])] [] 0 (.lf false (.sc (.bool r))) [] 0 := by
  unfold laws_eqBranch at h
  refine fn_code tab_ok mixed [(1000, [(2, 0), (3, 0)]), (1001, [(10, 0)]), (1002, [(4, 0)]), (1003, [(4, 0)])] Tryz.func147 rfl rfl (by simp [Tryz.f147]) (by kernel_rfl) ?_
  simp only [Tryz.f147]
  refine sA ?_
  obtain ⟨c335, hr1, h⟩ := bind_ok h
  refine Cl_sA (w_laws_eqEventS hr1) ?_
  try refine sA ?_
  refine Bs_if h (fun h hc2 => ?_) (fun h hc2 => ?_)
  · try refine sA ?_
    have he := Option.some.inj h
    subst he
    exact endsA ⟨[(4, (.lf false (.sc (.bool false))))], [], 0, 11⟩ []
  · try refine sA ?_
    have he := Option.some.inj h
    subst he
    exact endsA ⟨[(4, (.lf false (.sc (.bool true))))], [], 0, 11⟩ []
theorem w_laws_eqBranchS {a0 : (List BranchT)} {a1 : (List BranchT)} {r : Bool} (h : laws_eqBranchS a0 a1 = some r) : Fn Tryz.prog 87 [(.lf true (.sl (a0.map eBranch))), (.lf true (.sl (a1.map eBranch)))] [] 0 (.lf false (.sc (.bool r))) [] 0 := by
  unfold laws_eqBranchS at h
  refine fn_code tab_ok mixed [(1000, [(0, 0), (1, 0)]), (1001, [(0, 0), (1, 0), (10, 0)]), (1002, [(4, 0)]), (1003, [(0, 0), (1, 0), (5, 0)]), (1004, [(0, 0), (1, 0), (5, 0), (14, 0)]), (1005, [(0, 0), (1, 0), (5, 0)]), (1006, [(0, 0), (1, 0), (5, 0), (26, 0)]), (1007, [(4, 0)]), (1008, [(4, 0)])] Tryz.func87 rfl rfl (by simp [Tryz.f87]) (by kernel_rfl) ?_
  simp only [Tryz.f87]
  refine sA ?_
  refine Bs_if h (fun h hc1 => ?_) (fun h hc1 => ?_)
  · try refine sA ?_
    have he := Option.some.inj h
    subst he
    exact endsA ⟨[(4, (.lf false (.sc (.bool false))))], [], 0, 27⟩ []
  · try refine sA ?_
    obtain ⟨y338, hl2, h⟩ := bind_ok h
    refine W_loopP (fun g328 : laws_eqBranchS_G1 => ⟨[(0, (.lf true (.sl (a0.map eBranch)))), (1, (.lf true (.sl (a1.map eBranch)))), (5, (.lf false (.sc (.int .i64 g328.t5))))], [], 0, 27⟩) (laws_eqBranchS_L1 a0 a1) _ _ hl2 (weakA []) ?_
    · intro n1 g328 z1 hs1 hk1
      unfold laws_eqBranchS_L1 at hs1
      try dsimp only at hs1
      refine sA ?_
      refine Bs_if hs1 (fun hs1 hc3 => ?_) (fun hs1 hc3 => ?_)
      · try refine sA ?_
        obtain ⟨hp4, hs1⟩ := guard_some hs1
        have hn4 : g328.t5.toNat < a0.length := by first | omega | (simp only [List.length_set, List.length_append, List.length_replicate, List.length_map]; omega)
        try refine sA ?_
        try refine andA ?_
        obtain ⟨hp5, hs1⟩ := guard_some hs1
        have hn5 : g328.t5.toNat < a1.length := by first | omega | (simp only [List.length_set, List.length_append, List.length_replicate, List.length_map]; omega)
        try refine sA ?_
        try refine andA ?_
        obtain ⟨c337, hr6, hs1⟩ := bind_ok hs1
        refine Cl_sA (w_laws_eqBranch hr6) ?_
        try refine sA ?_
        refine Bs_if hs1 (fun hs1 hc7 => ?_) (fun hs1 hc7 => ?_)
        · try refine sA ?_
          cases hs1
          cases hk1
          try dsimp only at h
          try refine sA ?_
          have he := Option.some.inj h
          subst he
          exact endsA ⟨[(4, (.lf false (.sc (.bool false))))], [], 0, 27⟩ []
        · try refine sA ?_
          cases hs1
          exact X_backP hk1 (weakA [])
      · try refine sA ?_
        cases hs1
        cases hk1
        try dsimp only at h
        try refine sA ?_
        have he := Option.some.inj h
        subst he
        exact endsA ⟨[(4, (.lf false (.sc (.bool true))))], [], 0, 27⟩ []
theorem w_laws_eqTellings {a0 : TellingsT} {a1 : TellingsT} {r : Bool} (h : laws_eqTellings a0 a1 = some r) : Fn Tryz.prog 19 [(.ag [(.lf true (.sl (a0.Branches.map eBranch)))]), (.ag [(.lf true (.sl (a1.Branches.map eBranch)))])] [] 0 (.lf false (.sc (.bool r))) [] 0 := by
  unfold laws_eqTellings at h
  refine fn_code tab_ok mixed [(1000, [(2, 0), (3, 0)]), (1001, [(10, 0)]), (1002, [(4, 0)]), (1003, [(4, 0)])] Tryz.func19 rfl rfl (by simp [Tryz.f19]) (by kernel_rfl) ?_
  simp only [Tryz.f19]
  refine sA ?_
  obtain ⟨c341, hr1, h⟩ := bind_ok h
  refine Cl_sA (w_laws_eqBranchS hr1) ?_
  try refine sA ?_
  refine Bs_if h (fun h hc2 => ?_) (fun h hc2 => ?_)
  · try refine sA ?_
    have he := Option.some.inj h
    subst he
    exact endsA ⟨[(4, (.lf false (.sc (.bool false))))], [], 0, 11⟩ []
  · try refine sA ?_
    have he := Option.some.inj h
    subst he
    exact endsA ⟨[(4, (.lf false (.sc (.bool true))))], [], 0, 11⟩ []
theorem w_laws_eqWord {a0 : WordT} {a1 : WordT} {r : Bool} (h : laws_eqWord a0 a1 = some r) : Fn Tryz.prog 27 [(.ag [(.lf false (.sc (.int .i64 a0.Version))), (.lf true (.sl (a0.Tellings.Branches.map eBranch)))]), (.ag [(.lf false (.sc (.int .i64 a1.Version))), (.lf true (.sl (a1.Tellings.Branches.map eBranch)))])] [] 0 (.lf false (.sc (.bool r))) [] 0 := by
  unfold laws_eqWord at h
  refine fn_code tab_ok mixed [(1000, [(2, 0), (3, 0)]), (1001, [(2, 0), (3, 0), (9, 0)]), (1002, [(4, 0)]), (1003, [(15, 0)]), (1004, [(4, 0)]), (1005, [(4, 0)])] Tryz.func27 rfl rfl (by simp [Tryz.f27]) (by kernel_rfl) ?_
  simp only [Tryz.f27]
  refine sA ?_
  refine Bs_if h (fun h hc1 => ?_) (fun h hc1 => ?_)
  · try refine sA ?_
    have he := Option.some.inj h
    subst he
    exact endsA ⟨[(4, (.lf false (.sc (.bool false))))], [], 0, 16⟩ []
  · try refine sA ?_
    obtain ⟨c342, hr2, h⟩ := bind_ok h
    refine Cl_sA (w_laws_eqTellings hr2) ?_
    try refine sA ?_
    refine Bs_if h (fun h hc3 => ?_) (fun h hc3 => ?_)
    · try refine sA ?_
      have he := Option.some.inj h
      subst he
      exact endsA ⟨[(4, (.lf false (.sc (.bool false))))], [], 0, 16⟩ []
    · try refine sA ?_
      have he := Option.some.inj h
      subst he
      exact endsA ⟨[(4, (.lf false (.sc (.bool true))))], [], 0, 16⟩ []
theorem w_laws_eqRegion {a0 : RegionT} {a1 : RegionT} {r : Bool} (h : laws_eqRegion a0 a1 = some r) : Fn Tryz.prog 28 [(.ag [(.lf false (.sc (.int .i64 a0.Id))), (.lf false (.sc (.int .i64 a0.Version))), (.lf true (.sl (a0.Tellings.Branches.map eBranch)))]), (.ag [(.lf false (.sc (.int .i64 a1.Id))), (.lf false (.sc (.int .i64 a1.Version))), (.lf true (.sl (a1.Tellings.Branches.map eBranch)))])] [] 0 (.lf false (.sc (.bool r))) [] 0 := by
  unfold laws_eqRegion at h
  refine fn_code tab_ok mixed [(1000, [(2, 0), (3, 0)]), (1001, [(2, 0), (3, 0), (9, 0)]), (1002, [(4, 0)]), (1003, [(2, 0), (3, 0), (14, 0)]), (1004, [(4, 0)]), (1005, [(20, 0)]), (1006, [(4, 0)]), (1007, [(4, 0)])] Tryz.func28 rfl rfl (by simp [Tryz.f28]) (by kernel_rfl) ?_
  simp only [Tryz.f28]
  refine sA ?_
  refine Bs_if h (fun h hc1 => ?_) (fun h hc1 => ?_)
  · try refine sA ?_
    have he := Option.some.inj h
    subst he
    exact endsA ⟨[(4, (.lf false (.sc (.bool false))))], [], 0, 21⟩ []
  · try refine sA ?_
    refine Bs_if h (fun h hc2 => ?_) (fun h hc2 => ?_)
    · try refine sA ?_
      have he := Option.some.inj h
      subst he
      exact endsA ⟨[(4, (.lf false (.sc (.bool false))))], [], 0, 21⟩ []
    · try refine sA ?_
      obtain ⟨c346, hr3, h⟩ := bind_ok h
      refine Cl_sA (w_laws_eqTellings hr3) ?_
      try refine sA ?_
      refine Bs_if h (fun h hc4 => ?_) (fun h hc4 => ?_)
      · try refine sA ?_
        have he := Option.some.inj h
        subst he
        exact endsA ⟨[(4, (.lf false (.sc (.bool false))))], [], 0, 21⟩ []
      · try refine sA ?_
        have he := Option.some.inj h
        subst he
        exact endsA ⟨[(4, (.lf false (.sc (.bool true))))], [], 0, 21⟩ []
theorem w_laws_markText {a0 : Int} {r : ByteArray} (h : laws_markText a0 = some r) : Fn Tryz.prog 89 [(.lf false (.sc (.int .i64 a0)))] [] 0 (.lf false (.sc (.string r))) [] 0 := by
  unfold laws_markText at h
  refine fn_code tab_ok mixed [(1000, [(0, 0)]), (1001, [(0, 0), (5, 0)]), (1002, [(2, 0)]), (1003, [(0, 0), (3, 0)]), (1004, [(0, 0), (3, 0), (7, 0)]), (1005, [(0, 0), (3, 0)]), (1006, [(0, 0), (3, 0)]), (1007, [(2, 0)])] Tryz.func89 rfl rfl (by simp [Tryz.f89]) (by kernel_rfl) ?_
  simp only [Tryz.f89]
  refine sA ?_
  refine Bs_if h (fun h hc1 => ?_) (fun h hc1 => ?_)
  · try refine sA ?_
    have he := Option.some.inj h
    subst he
    exact endsA ⟨[(2, (.lf false (.sc (.string (⟨#[109, 48]⟩ : ByteArray)))))], [], 0, 20⟩ []
  · try refine sA ?_
    obtain ⟨y354, hl2, h⟩ := bind_ok h
    refine W_loopP (fun g353 : laws_markText_G1 => ⟨[(0, (.lf false (.sc (.int .i64 g353.t0)))), (3, (.lf false (.sc (.string g353.t3))))], [], 0, 20⟩) (laws_markText_L1) _ _ hl2 (weakA []) ?_
    · intro n1 g353 z1 hs1 hk1
      unfold laws_markText_L1 at hs1
      try dsimp only at hs1
      refine sA ?_
      refine Bs_if hs1 (fun hs1 hc3 => ?_) (fun hs1 hc3 => ?_)
      · try refine sA ?_
        obtain ⟨hp4, hs1⟩ := guard_some hs1
        try refine sA ?_
        try refine andA ?_
        cases hs1
        exact X_backP hk1 (weakA [])
      · try refine sA ?_
        cases hs1
        cases hk1
        try dsimp only at h
        try refine sA ?_
        obtain ⟨hp5, h⟩ := guard_some h
        try refine sA ?_
        try refine andA ?_
        have he := Option.some.inj h
        subst he
        exact endsA ⟨[(2, (.lf false (.sc (.string ((⟨#[109]⟩ : ByteArray) ++ g353.t3)))))], [], 0, 20⟩ []
theorem w_laws_markEventS_w {a0 : (List EventT)} {a1 : Int} {m0 : Nat} {x0 : Bool} {r : (Int × (List EventT))} (h : laws_markEventS_w a0 a1 = some r) : Fn Tryz.prog 21 [(.os 0 4 0 a0.length m0 x0), (.lf false (.sc (.int .i64 a1)))] [(0, some (false, .arr true 4 (a0.map eEvent)))] 1 (.lf false (.sc (.int .i64 r.1))) [(0, some (false, .arr false 4 (r.2.map eEvent)))] 1 := by
  unfold laws_markEventS_w at h
  refine fn_code tab_ok mixed [(1000, [(0, 0), (1, 0)]), (1001, [(0, 0), (1, 0), (5, 0)]), (1002, [(0, 0), (1, 0), (5, 0), (9, 0)]), (1003, [(0, 0), (1, 0), (5, 0)]), (1004, [(0, 0), (1, 0), (5, 0)]), (1005, [(0, 0), (1, 0), (5, 0)]), (1006, [(0, 0), (1, 0), (5, 0)]), (1007, [(0, 0), (1, 0), (5, 0)]), (1008, [(0, 0), (1, 0), (5, 0)]), (1009, [(0, 0), (1, 0), (5, 0)]), (1010, [(0, 0), (1, 0), (5, 0)]), (1011, [(0, 0), (1, 0), (5, 0)]), (1012, [(4, 0)])] Tryz.func21 rfl rfl (by simp [Tryz.f21]) (by kernel_rfl) ?_
  simp only [Tryz.f21]
  refine sA ?_
  obtain ⟨y357, hl1, h⟩ := bind_ok h
  refine W_loopP (fun g352 : laws_markEventS_w_G1 => ⟨[(0, (.os 0 4 0 g352.c0.length g352.c0.length false)), (1, (.lf false (.sc (.int .i64 g352.t1)))), (5, (.lf false (.sc (.int .i64 g352.t5))))], [(0, some (false, .arr true 4 (g352.c0.map eEvent)))], 1, 42⟩) (laws_markEventS_w_L1) _ _ hl1 (weakA [some 0]) ?_
  · intro n1 g352 z1 hs1 hk1
    unfold laws_markEventS_w_L1 at hs1
    try dsimp only at hs1
    refine sA ?_
    refine Bs_if hs1 (fun hs1 hc2 => ?_) (fun hs1 hc2 => ?_)
    · try refine sA ?_
      obtain ⟨hp3, hs1⟩ := guard_some hs1
      have hn3 : g352.t5.toNat < g352.c0.length := by first | omega | (simp only [List.length_set, List.length_append, List.length_replicate, List.length_map]; omega)
      try refine sA ?_
      try refine andA ?_
      try refine andB ?_
      try refine sA ?_
      obtain ⟨hp5, hs1⟩ := guard_some hs1
      have hn5 : g352.t5.toNat < g352.c0.length := by first | omega | (simp only [List.length_set, List.length_append, List.length_replicate, List.length_map]; omega)
      try refine sA ?_
      try refine andA ?_
      try refine andB ?_
      try refine sA ?_
      obtain ⟨hp7, hs1⟩ := guard_some hs1
      have hn7 : g352.t5.toNat < g352.c0.length := by first | omega | (simp only [List.length_set, List.length_append, List.length_replicate, List.length_map]; omega)
      try refine sA ?_
      try refine andA ?_
      try refine andB ?_
      try refine sA ?_
      obtain ⟨c356, hr9, hs1⟩ := bind_ok hs1
      refine Cl_sA (w_laws_markText hr9) ?_
      try refine sA ?_
      obtain ⟨hp10, hs1⟩ := guard_some hs1
      have hn10 : g352.t5.toNat < g352.c0.length := by first | omega | (simp only [List.length_set, List.length_append, List.length_replicate, List.length_map]; omega)
      try refine sA ?_
      try refine andA ?_
      try refine andB ?_
      try refine sA ?_
      cases hs1
      exact X_backP hk1 (weakA [some 0])
    · try refine sA ?_
      cases hs1
      cases hk1
      try dsimp only at h
      try refine sA ?_
      have he := Option.some.inj h
      subst he
      exact endsA ⟨[(4, (.lf false (.sc (.int .i64 g352.t1))))], [(0, some (false, .arr false 4 (g352.c0.map eEvent)))], 1, 42⟩ [some 0]
theorem w_laws_markBranchS_wd {a0 : (List BranchT)} {a1 : Int} {m0 : Nat} {x0 : Bool} {r : (Int × (List BranchT))} (h : laws_markBranchS_wd a0 a1 = some r) : Fn Tryz.prog 88 [(.os 0 1 0 a0.length m0 x0), (.lf false (.sc (.int .i64 a1)))] [(0, some (false, .deep [.sl [.sc, .sc, .sc, .sc]] (a0.map eBranch)))] 1 (.lf false (.sc (.int .i64 r.1))) [(0, some (false, .deep [.sl [.sc, .sc, .sc, .sc]] (r.2.map eBranch)))] 1 := by
  unfold laws_markBranchS_wd at h
  refine fn_code tab_ok mixed [(1000, [(0, 0), (1, 0)]), (1001, [(0, 0), (1, 0), (5, 0)]), (1002, [(0, 0), (1, 0), (5, 0), (9, 0)]), (1003, [(0, 0), (1, 0), (5, 0)]), (1004, [(0, 0), (1, 0), (5, 0)]), (1005, [(4, 0)]), (5004, [])] Tryz.func88 rfl rfl (by simp [Tryz.f88]) (by kernel_rfl) ?_
  simp only [Tryz.f88]
  refine sA ?_
  obtain ⟨y360, hl1, h⟩ := bind_ok h
  refine W_loopP (fun g351 : laws_markBranchS_wd_G1 => ⟨[(0, (.os 0 1 0 g351.c0.length g351.c0.length false)), (1, (.lf false (.sc (.int .i64 g351.t1)))), (5, (.lf false (.sc (.int .i64 g351.t5))))], [(0, some (false, .deep [.sl [.sc, .sc, .sc, .sc]] (g351.c0.map eBranch)))], 1, 20⟩) (laws_markBranchS_wd_L1) _ _ hl1 (weakA [some 0]) ?_
  · intro n1 g351 z1 hs1 hk1
    unfold laws_markBranchS_wd_L1 at hs1
    try dsimp only at hs1
    refine sA ?_
    refine Bs_if hs1 (fun hs1 hc2 => ?_) (fun hs1 hc2 => ?_)
    · try refine sA ?_
      obtain ⟨hp3, hs1⟩ := guard_some hs1
      refine Gh_focus 0 g351.t5.toNat ?_
      try refine sA ?_
      obtain ⟨hp4, hs1⟩ := guard_some hs1
      have hn4 : g351.t5.toNat < g351.c0.length := by first | omega | (simp only [List.length_set, List.length_append, List.length_replicate, List.length_map]; omega)
      try refine sA ?_
      try refine andA ?_
      obtain ⟨c359, hr5, hs1⟩ := bind_ok hs1
      refine Cl_hA [1] (w_laws_markEventS_w hr5) ?_
      try refine sA ?_
      obtain ⟨hp6, hs1⟩ := guard_some hs1
      have hl6 : ((nth g351.c0 g351.t5.toNat).Events).length ≤ c359.2.length := by omega
      have ht6 : List.take (((nth g351.c0 g351.t5.toNat).Events).length) c359.2 = c359.2 := by rw [← hp6]; exact List.take_length
      try simp (disch := first | assumption | (simp only [List.length_set]; assumption)) only [go_sem, Nat.reduceAdd, Nat.reduceMul, Nat.reduceSub, Nat.reduceEqDiff, ↓reduceIte, Nat.reduceLT, reduceCtorEq, Nat.reduceLeDiff, Int.reduceToNat, Int.reduceEq, Int.reduceLE, Int.reduceLT, Nat.reduceBEq, hl6, ht6]
      cases hs1
      refine X_backP hk1 ?_
      refine packW 0 ?_
      refine weak_of (m := 1) [some 0] rfl rfl rfl (by rfl) ?_ ?_
      all_goals ((try simp (disch := first | assumption | (simp only [List.length_set]; assumption)) only [go_sem, Nat.reduceAdd, Nat.reduceMul, Nat.reduceSub, Nat.reduceEqDiff, ↓reduceIte, Nat.reduceLT, reduceCtorEq, Nat.reduceLeDiff, Int.reduceToNat, Int.reduceEq, Int.reduceLE, Int.reduceLT, Nat.reduceBEq, hl6, ht6]); (repeat' first | done | rfl | omega | refine And.intro ?_ ?_ | (simp; done) | (simp; omega)))
    · try refine sA ?_
      cases hs1
      cases hk1
      try dsimp only at h
      try refine sA ?_
      have he := Option.some.inj h
      subst he
      exact endsA ⟨[(4, (.lf false (.sc (.int .i64 g351.t1))))], [(0, some (false, .deep [.sl [.sc, .sc, .sc, .sc]] (g351.c0.map eBranch)))], 1, 20⟩ [some 0]
theorem w_laws_markTellings_wd {a0 : TellingsT} {a1 : Int} {m0 : Nat} {x0 : Bool} {r : (Int × (List BranchT))} (h : laws_markTellings_wd a0 a1 = some r) : Fn Tryz.prog 20 [(.ag [(.os 0 1 0 a0.Branches.length m0 x0)]), (.lf false (.sc (.int .i64 a1)))] [(0, some (false, .deep [.sl [.sc, .sc, .sc, .sc]] (a0.Branches.map eBranch)))] 1 (.lf false (.sc (.int .i64 r.1))) [(0, some (false, .deep [.sl [.sc, .sc, .sc, .sc]] (r.2.map eBranch)))] 1 := by
  unfold laws_markTellings_wd at h
  refine fn_code tab_ok mixed [(1000, [(1, 0), (2, 0)]), (1001, [(1, 0)]), (1002, [(4, 0)])] Tryz.func20 rfl rfl (by simp [Tryz.f20]) (by kernel_rfl) ?_
  simp only [Tryz.f20]
  refine sA ?_
  obtain ⟨c361, hr1, h⟩ := bind_ok h
  refine Cl_hA [0] (w_laws_markBranchS_wd hr1) ?_
  try refine sA ?_
  obtain ⟨hp2, h⟩ := guard_some h
  have hl2 : a0.Branches.length ≤ c361.2.length := by omega
  have ht2 : List.take (a0.Branches.length) c361.2 = c361.2 := by rw [← hp2]; exact List.take_length
  try simp (disch := first | assumption | (simp only [List.length_set]; assumption)) only [go_sem, Nat.reduceAdd, Nat.reduceMul, Nat.reduceSub, Nat.reduceEqDiff, ↓reduceIte, Nat.reduceLT, reduceCtorEq, Nat.reduceLeDiff, Int.reduceToNat, Int.reduceEq, Int.reduceLE, Int.reduceLT, Nat.reduceBEq, hl2, ht2]
  have he := Option.some.inj h
  subst he
  refine ends_weak ⟨[(4, (.lf false (.sc (.int .i64 c361.1))))], [(0, some (false, .deep [.sl [.sc, .sc, .sc, .sc]] (c361.2.map eBranch)))], 1, 10⟩ (weak_of (m := 1) [some 0] rfl rfl rfl (by rfl) ?_ ?_) ?_
  all_goals ((try simp (disch := first | assumption | (simp only [List.length_set]; assumption)) only [go_sem, Nat.reduceAdd, Nat.reduceMul, Nat.reduceSub, Nat.reduceEqDiff, ↓reduceIte, Nat.reduceLT, reduceCtorEq, Nat.reduceLeDiff, Int.reduceToNat, Int.reduceEq, Int.reduceLE, Int.reduceLT, Nat.reduceBEq, hl2, ht2]); (repeat' first | done | rfl | omega | refine And.intro ?_ ?_ | (simp; done) | (simp; omega)))
theorem w_laws_markRegion_wd {a0 : RegionT} {a1 : Int} {m0 : Nat} {x0 : Bool} {r : (Int × (List BranchT))} (h : laws_markRegion_wd a0 a1 = some r) : Fn Tryz.prog 29 [(.ag [(.lf false (.sc (.int .i64 a0.Id))), (.lf false (.sc (.int .i64 a0.Version))), (.os 0 1 0 a0.Tellings.Branches.length m0 x0)]), (.lf false (.sc (.int .i64 a1)))] [(0, some (false, .deep [.sl [.sc, .sc, .sc, .sc]] (a0.Tellings.Branches.map eBranch)))] 1 (.lf false (.sc (.int .i64 r.1))) [(0, some (false, .deep [.sl [.sc, .sc, .sc, .sc]] (r.2.map eBranch)))] 1 := by
  unfold laws_markRegion_wd at h
  refine fn_code tab_ok mixed [(1000, [(1, 0), (2, 0)]), (1001, [(1, 0)]), (1002, [(4, 0)])] Tryz.func29 rfl rfl (by simp [Tryz.f29]) (by kernel_rfl) ?_
  simp only [Tryz.f29]
  refine sA ?_
  obtain ⟨c362, hr1, h⟩ := bind_ok h
  refine Cl_hA [0] (w_laws_markTellings_wd hr1) ?_
  try refine sA ?_
  obtain ⟨hp2, h⟩ := guard_some h
  have hl2 : a0.Tellings.Branches.length ≤ c362.2.length := by omega
  have ht2 : List.take (a0.Tellings.Branches.length) c362.2 = c362.2 := by rw [← hp2]; exact List.take_length
  try simp (disch := first | assumption | (simp only [List.length_set]; assumption)) only [go_sem, Nat.reduceAdd, Nat.reduceMul, Nat.reduceSub, Nat.reduceEqDiff, ↓reduceIte, Nat.reduceLT, reduceCtorEq, Nat.reduceLeDiff, Int.reduceToNat, Int.reduceEq, Int.reduceLE, Int.reduceLT, Nat.reduceBEq, hl2, ht2]
  have he := Option.some.inj h
  subst he
  refine ends_weak ⟨[(4, (.lf false (.sc (.int .i64 c362.1))))], [(0, some (false, .deep [.sl [.sc, .sc, .sc, .sc]] (c362.2.map eBranch)))], 1, 10⟩ (weak_of (m := 1) [some 0] rfl rfl rfl (by rfl) ?_ ?_) ?_
  all_goals ((try simp (disch := first | assumption | (simp only [List.length_set]; assumption)) only [go_sem, Nat.reduceAdd, Nat.reduceMul, Nat.reduceSub, Nat.reduceEqDiff, ↓reduceIte, Nat.reduceLT, reduceCtorEq, Nat.reduceLeDiff, Int.reduceToNat, Int.reduceEq, Int.reduceLE, Int.reduceLT, Nat.reduceBEq, hl2, ht2]); (repeat' first | done | rfl | omega | refine And.intro ?_ ?_ | (simp; done) | (simp; omega)))
theorem w_laws_markWord_wd {a0 : WordT} {a1 : Int} {m0 : Nat} {x0 : Bool} {r : (Int × (List BranchT))} (h : laws_markWord_wd a0 a1 = some r) : Fn Tryz.prog 30 [(.ag [(.lf false (.sc (.int .i64 a0.Version))), (.os 0 1 0 a0.Tellings.Branches.length m0 x0)]), (.lf false (.sc (.int .i64 a1)))] [(0, some (false, .deep [.sl [.sc, .sc, .sc, .sc]] (a0.Tellings.Branches.map eBranch)))] 1 (.lf false (.sc (.int .i64 r.1))) [(0, some (false, .deep [.sl [.sc, .sc, .sc, .sc]] (r.2.map eBranch)))] 1 := by
  unfold laws_markWord_wd at h
  refine fn_code tab_ok mixed [(1000, [(1, 0), (2, 0)]), (1001, [(1, 0)]), (1002, [(4, 0)])] Tryz.func30 rfl rfl (by simp [Tryz.f30]) (by kernel_rfl) ?_
  simp only [Tryz.f30]
  refine sA ?_
  obtain ⟨c366, hr1, h⟩ := bind_ok h
  refine Cl_hA [0] (w_laws_markTellings_wd hr1) ?_
  try refine sA ?_
  obtain ⟨hp2, h⟩ := guard_some h
  have hl2 : a0.Tellings.Branches.length ≤ c366.2.length := by omega
  have ht2 : List.take (a0.Tellings.Branches.length) c366.2 = c366.2 := by rw [← hp2]; exact List.take_length
  try simp (disch := first | assumption | (simp only [List.length_set]; assumption)) only [go_sem, Nat.reduceAdd, Nat.reduceMul, Nat.reduceSub, Nat.reduceEqDiff, ↓reduceIte, Nat.reduceLT, reduceCtorEq, Nat.reduceLeDiff, Int.reduceToNat, Int.reduceEq, Int.reduceLE, Int.reduceLT, Nat.reduceBEq, hl2, ht2]
  have he := Option.some.inj h
  subst he
  refine ends_weak ⟨[(4, (.lf false (.sc (.int .i64 c366.1))))], [(0, some (false, .deep [.sl [.sc, .sc, .sc, .sc]] (c366.2.map eBranch)))], 1, 10⟩ (weak_of (m := 1) [some 0] rfl rfl rfl (by rfl) ?_ ?_) ?_
  all_goals ((try simp (disch := first | assumption | (simp only [List.length_set]; assumption)) only [go_sem, Nat.reduceAdd, Nat.reduceMul, Nat.reduceSub, Nat.reduceEqDiff, ↓reduceIte, Nat.reduceLT, reduceCtorEq, Nat.reduceLeDiff, Int.reduceToNat, Int.reduceEq, Int.reduceLE, Int.reduceLT, Nat.reduceBEq, hl2, ht2]); (repeat' first | done | rfl | omega | refine And.intro ?_ ?_ | (simp; done) | (simp; omega)))
theorem w_laws_heldEventS {a0 : (List EventT)} {a1 : Int} {r : Int} (h : laws_heldEventS a0 a1 = some r) : Fn Tryz.prog 22 [(.lf true (.sl (a0.map eEvent))), (.lf false (.sc (.int .i64 a1)))] [] 0 (.lf false (.sc (.int .i64 r))) [] 0 := by
  unfold laws_heldEventS at h
  refine fn_code tab_ok mixed [(13, [(4, 6)]), (1000, [(0, 0), (1, 0)]), (1001, [(0, 0), (1, 0), (5, 0)]), (1002, [(0, 0), (1, 0), (5, 0), (9, 0)]), (1003, [(0, 0), (1, 0), (5, 0)]), (1004, [(0, 0), (1, 0), (5, 0), (18, 0)]), (1005, [(4, 0)]), (1006, [(0, 0), (1, 0), (5, 0)]), (1007, [(0, 0), (1, 0), (5, 0), (27, 0)]), (1008, [(4, 0)]), (1009, [(0, 0), (1, 0), (5, 0)]), (1010, [(0, 0), (1, 0), (5, 0), (36, 0)]), (1011, [(4, 0)]), (1012, [(0, 0), (1, 0), (5, 0)]), (1013, [(0, 0), (1, 0), (5, 0), (46, 0)]), (1014, [(4, 0)]), (1015, [(0, 0), (1, 0), (5, 0)]), (1016, [(4, 0)])] Tryz.func22 rfl rfl (by simp [Tryz.f22]) (by kernel_rfl) ?_
  simp only [Tryz.f22]
  refine sA ?_
  obtain ⟨y372, hl1, h⟩ := bind_ok h
  refine W_loopP (fun g369 : laws_heldEventS_G1 => ⟨[(0, (.lf true (.sl (a0.map eEvent)))), (1, (.lf false (.sc (.int .i64 g369.t1)))), (5, (.lf false (.sc (.int .i64 g369.t5))))], [], 0, 50⟩) (laws_heldEventS_L1 a0) _ _ hl1 (weakA []) ?_
  · intro n1 g369 z1 hs1 hk1
    unfold laws_heldEventS_L1 at hs1
    try dsimp only at hs1
    refine sA ?_
    refine Bs_if hs1 (fun hs1 hc2 => ?_) (fun hs1 hc2 => ?_)
    · try refine sA ?_
      obtain ⟨hp3, hs1⟩ := guard_some hs1
      have hn3 : g369.t5.toNat < a0.length := by first | omega | (simp only [List.length_set, List.length_append, List.length_replicate, List.length_map]; omega)
      try refine sA ?_
      try refine andA ?_
      refine Bs_if hs1 (fun hs1 hc4 => ?_) (fun hs1 hc4 => ?_)
      · try refine sA ?_
        cases hs1
        cases hk1
        try dsimp only at h
        try refine sA ?_
        have he := Option.some.inj h
        subst he
        exact endsA ⟨[(4, (.lf false (.sc (.int .i64 (-1)))))], [], 0, 50⟩ []
      · try refine sA ?_
        obtain ⟨hp5, hs1⟩ := guard_some hs1
        have hn5 : g369.t5.toNat < a0.length := by first | omega | (simp only [List.length_set, List.length_append, List.length_replicate, List.length_map]; omega)
        try refine sA ?_
        try refine andA ?_
        refine Bs_if hs1 (fun hs1 hc6 => ?_) (fun hs1 hc6 => ?_)
        · try refine sA ?_
          cases hs1
          cases hk1
          try dsimp only at h
          try refine sA ?_
          have he := Option.some.inj h
          subst he
          exact endsA ⟨[(4, (.lf false (.sc (.int .i64 (-1)))))], [], 0, 50⟩ []
        · try refine sA ?_
          obtain ⟨hp7, hs1⟩ := guard_some hs1
          have hn7 : g369.t5.toNat < a0.length := by first | omega | (simp only [List.length_set, List.length_append, List.length_replicate, List.length_map]; omega)
          try refine sA ?_
          try refine andA ?_
          refine Bs_if hs1 (fun hs1 hc8 => ?_) (fun hs1 hc8 => ?_)
          · try refine sA ?_
            cases hs1
            cases hk1
            try dsimp only at h
            try refine sA ?_
            have he := Option.some.inj h
            subst he
            exact endsA ⟨[(4, (.lf false (.sc (.int .i64 (-1)))))], [], 0, 50⟩ []
          · try refine sA ?_
            obtain ⟨hp9, hs1⟩ := guard_some hs1
            have hn9 : g369.t5.toNat < a0.length := by first | omega | (simp only [List.length_set, List.length_append, List.length_replicate, List.length_map]; omega)
            try refine sA ?_
            try refine andA ?_
            obtain ⟨c371, hr10, hs1⟩ := bind_ok hs1
            refine Cl_sA (w_laws_markText hr10) ?_
            try refine sA ?_
            refine Bs_if hs1 (fun hs1 hc11 => ?_) (fun hs1 hc11 => ?_)
            · try refine sA ?_
              cases hs1
              cases hk1
              try dsimp only at h
              try refine sA ?_
              have he := Option.some.inj h
              subst he
              exact endsA ⟨[(4, (.lf false (.sc (.int .i64 (-1)))))], [], 0, 50⟩ []
            · try refine sA ?_
              cases hs1
              exact X_backP hk1 (weakA [])
    · try refine sA ?_
      cases hs1
      cases hk1
      try dsimp only at h
      try refine sA ?_
      have he := Option.some.inj h
      subst he
      exact endsA ⟨[(4, (.lf false (.sc (.int .i64 g369.t1))))], [], 0, 50⟩ []
theorem w_laws_heldBranchS {a0 : (List BranchT)} {a1 : Int} {r : Int} (h : laws_heldBranchS a0 a1 = some r) : Fn Tryz.prog 120 [(.lf true (.sl (a0.map eBranch))), (.lf false (.sc (.int .i64 a1)))] [] 0 (.lf false (.sc (.int .i64 r))) [] 0 := by
  unfold laws_heldBranchS at h
  refine fn_code tab_ok mixed [(1000, [(0, 0), (1, 0)]), (1001, [(0, 0), (1, 0), (5, 0)]), (1002, [(0, 0), (1, 0), (5, 0), (9, 0)]), (1003, [(0, 0), (1, 0), (5, 0)]), (1004, [(0, 0), (1, 0), (5, 0)]), (1005, [(0, 0), (1, 0), (5, 0), (20, 0)]), (1006, [(4, 0)]), (1007, [(4, 0)])] Tryz.func120 rfl rfl (by simp [Tryz.f120]) (by kernel_rfl) ?_
  simp only [Tryz.f120]
  refine sA ?_
  obtain ⟨y377, hl1, h⟩ := bind_ok h
  refine W_loopP (fun g368 : laws_heldBranchS_G1 => ⟨[(0, (.lf true (.sl (a0.map eBranch)))), (1, (.lf false (.sc (.int .i64 g368.t1)))), (5, (.lf false (.sc (.int .i64 g368.t5))))], [], 0, 22⟩) (laws_heldBranchS_L1 a0) _ _ hl1 (weakA []) ?_
  · intro n1 g368 z1 hs1 hk1
    unfold laws_heldBranchS_L1 at hs1
    try dsimp only at hs1
    refine sA ?_
    refine Bs_if hs1 (fun hs1 hc2 => ?_) (fun hs1 hc2 => ?_)
    · try refine sA ?_
      obtain ⟨hp3, hs1⟩ := guard_some hs1
      have hn3 : g368.t5.toNat < a0.length := by first | omega | (simp only [List.length_set, List.length_append, List.length_replicate, List.length_map]; omega)
      try refine sA ?_
      try refine andA ?_
      obtain ⟨c376, hr4, hs1⟩ := bind_ok hs1
      refine Cl_sA (w_laws_heldEventS hr4) ?_
      try refine sA ?_
      refine Bs_if hs1 (fun hs1 hc5 => ?_) (fun hs1 hc5 => ?_)
      · try refine sA ?_
        cases hs1
        cases hk1
        try dsimp only at h
        try refine sA ?_
        have he := Option.some.inj h
        subst he
        exact endsA ⟨[(4, (.lf false (.sc (.int .i64 (-1)))))], [], 0, 22⟩ []
      · try refine sA ?_
        cases hs1
        exact X_backP hk1 (weakA [])
    · try refine sA ?_
      cases hs1
      cases hk1
      try dsimp only at h
      try refine sA ?_
      have he := Option.some.inj h
      subst he
      exact endsA ⟨[(4, (.lf false (.sc (.int .i64 g368.t1))))], [], 0, 22⟩ []
end Go.TL.YtjkeoippmlmfbaaGreatDoor

import Derived.Test.YtmooampfjclmiaaGreatDoorTlTabr4zD
import Derived.Test.YtmooampfjclmiaaGreatDoorEnR4Z
import Derived.Test.YtmooampfjclmiaaGreatDoorTlAuto
import Derived.Test.YtmooampfjclmiaaGreatDoorTlTrimr4zD
import Derived.Test.YtmooampfjclmiaaGreatDoorTlBelow
import Derived.Test.YtmooampfjclmiaaGreatDoorTlInsr4zD
import Derived.Test.YtmooampfjclmiaaGreatDoorTlInsert
set_option linter.unusedSimpArgs false
set_option linter.unusedVariables false
set_option linter.unusedVariables false
set_option linter.unusedSimpArgs false
set_option maxRecDepth 8000
set_option maxHeartbeats 0
namespace Go.TL.YtmooampfjclmiaaGreatDoor
open Go Go.Proofs Go.TL
theorem w_laws_szEvent {a0 : EventT} {a1 : Int} {r : Int} (h : laws_szEvent a0 a1 = some r) : Fn Tryz.prog 84 [(.ag [(.lf false (.sc (.int .i64 a0.Id))), (.lf false (.sc (.int .i64 a0.Version))), (.lf false (.sc (.int .i64 a0.Kind))), (.lf false (.sc (.string a0.Name)))]), (.lf false (.sc (.int .i64 a1)))] [] 0 (.lf false (.sc (.int .i64 r))) [] 0 := by
  unfold laws_szEvent at h
  refine fn_code tab_ok mixed [(1000, [(1, 0), (2, 0)]), (1001, [(1, 0)]), (1002, [(1, 0), (11, 0)]), (1003, [(4, 0)]), (1004, [(4, 0)])] Tryz.func84 rfl rfl (by simp [Tryz.f84]) (by kernel_rfl) ?_
  simp only [Tryz.f84]
  refine sA ?_
  refine Bs_if h (fun h hc1 => ?_) (fun h hc1 => ?_)
  · try refine sA ?_
    have he := Option.some.inj h
    subst he
    exact endsA ⟨[(4, (.lf false (.sc (.int .i64 (-1)))))], [], 0, 13⟩ []
  · try refine sA ?_
    have he := Option.some.inj h
    subst he
    exact endsA ⟨[(4, (.lf false (.sc (.int .i64 (wI (a1 - (a0.Name.size : Int)))))))], [], 0, 13⟩ []
theorem w_laws_szEventS {a0 : (List EventT)} {a1 : Int} {r : Int} (h : laws_szEventS a0 a1 = some r) : Fn Tryz.prog 77 [(.lf true (.sl (a0.map eEvent))), (.lf false (.sc (.int .i64 a1)))] [] 0 (.lf false (.sc (.int .i64 r))) [] 0 := by
  unfold laws_szEventS at h
  refine fn_code tab_ok mixed [(1000, [(0, 0), (1, 0)]), (1001, [(0, 0), (1, 0)]), (1002, [(0, 0), (1, 0), (11, 0)]), (1003, [(4, 0)]), (1004, [(0, 0), (1, 0), (5, 0)]), (1005, [(0, 0), (1, 0), (5, 0), (15, 0)]), (1006, [(0, 0), (1, 0), (5, 0)]), (1007, [(0, 0), (1, 0), (5, 0)]), (1008, [(0, 0), (1, 0), (5, 0), (25, 0)]), (1009, [(4, 0)]), (1010, [(4, 0)])] Tryz.func77 rfl rfl (by simp [Tryz.f77]) (by kernel_rfl) ?_
  simp only [Tryz.f77]
  refine sA ?_
  refine Bs_if h (fun h hc1 => ?_) (fun h hc1 => ?_)
  · try refine sA ?_
    have he := Option.some.inj h
    subst he
    exact endsA ⟨[(4, (.lf false (.sc (.int .i64 (-1)))))], [], 0, 27⟩ []
  · try refine sA ?_
    obtain ⟨y5, hl2, h⟩ := bind_ok h
    refine W_loopP (fun g2 : laws_szEventS_G1 => ⟨[(0, (.lf true (.sl (a0.map eEvent)))), (1, (.lf false (.sc (.int .i64 g2.t1)))), (5, (.lf false (.sc (.int .i64 g2.t5))))], [], 0, 27⟩) (laws_szEventS_L1 a0) _ _ hl2 (weakA []) ?_
    · intro n1 g2 z1 hs1 hk1
      unfold laws_szEventS_L1 at hs1
      try dsimp only at hs1
      refine sA ?_
      refine Bs_if hs1 (fun hs1 hc3 => ?_) (fun hs1 hc3 => ?_)
      · try refine sA ?_
        obtain ⟨hp4, hs1⟩ := guard_some hs1
        have hn4 : g2.t5.toNat < a0.length := by first | omega | (simp only [List.length_set, List.length_append, List.length_replicate, List.length_map]; omega)
        try refine sA ?_
        try refine andA ?_
        obtain ⟨c4, hr5, hs1⟩ := bind_ok hs1
        refine Cl_sA (w_laws_szEvent hr5) ?_
        try refine sA ?_
        refine Bs_if hs1 (fun hs1 hc6 => ?_) (fun hs1 hc6 => ?_)
        · try refine sA ?_
          cases hs1
          cases hk1
          try dsimp only at h
          try refine sA ?_
          have he := Option.some.inj h
          subst he
          exact endsA ⟨[(4, (.lf false (.sc (.int .i64 (-1)))))], [], 0, 27⟩ []
        · try refine sA ?_
          cases hs1
          exact X_backP hk1 (weakA [])
      · try refine sA ?_
        cases hs1
        cases hk1
        try dsimp only at h
        try refine sA ?_
        have he := Option.some.inj h
        subst he
        exact endsA ⟨[(4, (.lf false (.sc (.int .i64 g2.t1))))], [], 0, 27⟩ []
theorem w_laws_szBranch {a0 : BranchT} {a1 : Int} {r : Int} (h : laws_szBranch a0 a1 = some r) : Fn Tryz.prog 61 [(.ag [(.lf true (.sl (a0.Events.map eEvent)))]), (.lf false (.sc (.int .i64 a1)))] [] 0 (.lf false (.sc (.int .i64 r))) [] 0 := by
  unfold laws_szBranch at h
  refine fn_code tab_ok mixed [(1000, [(1, 0), (2, 0)]), (1001, [(1, 0)]), (1002, [(1, 0), (10, 0)]), (1003, [(4, 0)]), (1004, [(4, 0)])] Tryz.func61 rfl rfl (by simp [Tryz.f61]) (by kernel_rfl) ?_
  simp only [Tryz.f61]
  refine sA ?_
  obtain ⟨c8, hr1, h⟩ := bind_ok h
  refine Cl_sA (w_laws_szEventS hr1) ?_
  try refine sA ?_
  refine Bs_if h (fun h hc2 => ?_) (fun h hc2 => ?_)
  · try refine sA ?_
    have he := Option.some.inj h
    subst he
    exact endsA ⟨[(4, (.lf false (.sc (.int .i64 (-1)))))], [], 0, 12⟩ []
  · try refine sA ?_
    have he := Option.some.inj h
    subst he
    exact endsA ⟨[(4, (.lf false (.sc (.int .i64 c8))))], [], 0, 12⟩ []
theorem w_laws_szBranchS {a0 : (List BranchT)} {a1 : Int} {r : Int} (h : laws_szBranchS a0 a1 = some r) : Fn Tryz.prog 42 [(.lf true (.sl (a0.map eBranch))), (.lf false (.sc (.int .i64 a1)))] [] 0 (.lf false (.sc (.int .i64 r))) [] 0 := by
  unfold laws_szBranchS at h
  refine fn_code tab_ok mixed [(1000, [(0, 0), (1, 0)]), (1001, [(0, 0), (1, 0)]), (1002, [(0, 0), (1, 0), (11, 0)]), (1003, [(4, 0)]), (1004, [(0, 0), (1, 0), (5, 0)]), (1005, [(0, 0), (1, 0), (5, 0), (15, 0)]), (1006, [(0, 0), (1, 0), (5, 0)]), (1007, [(0, 0), (1, 0), (5, 0)]), (1008, [(0, 0), (1, 0), (5, 0), (25, 0)]), (1009, [(4, 0)]), (1010, [(4, 0)])] Tryz.func42 rfl rfl (by simp [Tryz.f42]) (by kernel_rfl) ?_
  simp only [Tryz.f42]
  refine sA ?_
  refine Bs_if h (fun h hc1 => ?_) (fun h hc1 => ?_)
  · try refine sA ?_
    have he := Option.some.inj h
    subst he
    exact endsA ⟨[(4, (.lf false (.sc (.int .i64 (-1)))))], [], 0, 27⟩ []
  · try refine sA ?_
    obtain ⟨y11, hl2, h⟩ := bind_ok h
    refine W_loopP (fun g1 : laws_szBranchS_G1 => ⟨[(0, (.lf true (.sl (a0.map eBranch)))), (1, (.lf false (.sc (.int .i64 g1.t1)))), (5, (.lf false (.sc (.int .i64 g1.t5))))], [], 0, 27⟩) (laws_szBranchS_L1 a0) _ _ hl2 (weakA []) ?_
    · intro n1 g1 z1 hs1 hk1
      unfold laws_szBranchS_L1 at hs1
      try dsimp only at hs1
      refine sA ?_
      refine Bs_if hs1 (fun hs1 hc3 => ?_) (fun hs1 hc3 => ?_)
      · try refine sA ?_
        obtain ⟨hp4, hs1⟩ := guard_some hs1
        have hn4 : g1.t5.toNat < a0.length := by first | omega | (simp only [List.length_set, List.length_append, List.length_replicate, List.length_map]; omega)
        try refine sA ?_
        try refine andA ?_
        obtain ⟨c10, hr5, hs1⟩ := bind_ok hs1
        refine Cl_sA (w_laws_szBranch hr5) ?_
        try refine sA ?_
        refine Bs_if hs1 (fun hs1 hc6 => ?_) (fun hs1 hc6 => ?_)
        · try refine sA ?_
          cases hs1
          cases hk1
          try dsimp only at h
          try refine sA ?_
          have he := Option.some.inj h
          subst he
          exact endsA ⟨[(4, (.lf false (.sc (.int .i64 (-1)))))], [], 0, 27⟩ []
        · try refine sA ?_
          cases hs1
          exact X_backP hk1 (weakA [])
      · try refine sA ?_
        cases hs1
        cases hk1
        try dsimp only at h
        try refine sA ?_
        have he := Option.some.inj h
        subst he
        exact endsA ⟨[(4, (.lf false (.sc (.int .i64 g1.t1))))], [], 0, 27⟩ []
theorem w_laws_szTellings {a0 : TellingsT} {a1 : Int} {r : Int} (h : laws_szTellings a0 a1 = some r) : Fn Tryz.prog 21 [(.ag [(.lf true (.sl (a0.Branches.map eBranch)))]), (.lf false (.sc (.int .i64 a1)))] [] 0 (.lf false (.sc (.int .i64 r))) [] 0 := by
  unfold laws_szTellings at h
  refine fn_code tab_ok mixed [(1000, [(1, 0), (2, 0)]), (1001, [(1, 0)]), (1002, [(1, 0), (10, 0)]), (1003, [(4, 0)]), (1004, [(4, 0)])] Tryz.func21 rfl rfl (by simp [Tryz.f21]) (by kernel_rfl) ?_
  simp only [Tryz.f21]
  refine sA ?_
  obtain ⟨c14, hr1, h⟩ := bind_ok h
  refine Cl_sA (w_laws_szBranchS hr1) ?_
  try refine sA ?_
  refine Bs_if h (fun h hc2 => ?_) (fun h hc2 => ?_)
  · try refine sA ?_
    have he := Option.some.inj h
    subst he
    exact endsA ⟨[(4, (.lf false (.sc (.int .i64 (-1)))))], [], 0, 12⟩ []
  · try refine sA ?_
    have he := Option.some.inj h
    subst he
    exact endsA ⟨[(4, (.lf false (.sc (.int .i64 c14))))], [], 0, 12⟩ []
theorem w_laws_szRegion {a0 : RegionT} {a1 : Int} {r : Int} (h : laws_szRegion a0 a1 = some r) : Fn Tryz.prog 7 [(.ag [(.lf false (.sc (.int .i64 a0.Id))), (.lf false (.sc (.int .i64 a0.Version))), (.lf true (.sl (a0.Tellings.Branches.map eBranch)))]), (.lf false (.sc (.int .i64 a1)))] [] 0 (.lf false (.sc (.int .i64 r))) [] 0 := by
  unfold laws_szRegion at h
  refine fn_code tab_ok mixed [(1000, [(1, 0), (2, 0)]), (1001, [(1, 0)]), (1002, [(1, 0), (10, 0)]), (1003, [(4, 0)]), (1004, [(4, 0)])] Tryz.func7 rfl rfl (by simp [Tryz.f7]) (by kernel_rfl) ?_
  simp only [Tryz.f7]
  refine sA ?_
  obtain ⟨c15, hr1, h⟩ := bind_ok h
  refine Cl_sA (w_laws_szTellings hr1) ?_
  try refine sA ?_
  refine Bs_if h (fun h hc2 => ?_) (fun h hc2 => ?_)
  · try refine sA ?_
    have he := Option.some.inj h
    subst he
    exact endsA ⟨[(4, (.lf false (.sc (.int .i64 (-1)))))], [], 0, 12⟩ []
  · try refine sA ?_
    have he := Option.some.inj h
    subst he
    exact endsA ⟨[(4, (.lf false (.sc (.int .i64 c15))))], [], 0, 12⟩ []
theorem w_laws_toEvent {a0 : EventT} {r : EventT} (h : laws_toEvent a0 = some r) : Fn Tryz.prog 87 [(.ag [(.lf false (.sc (.int .i64 a0.Id))), (.lf false (.sc (.int .i64 a0.Version))), (.lf false (.sc (.int .i64 a0.Kind))), (.lf false (.sc (.string a0.Name)))])] [] 0 (.ag [(.lf false (.sc (.int .i64 r.Id))), (.lf false (.sc (.int .i64 r.Version))), (.lf false (.sc (.int .i64 r.Kind))), (.lf false (.sc (.string r.Name)))]) [] 1 := by
  unfold laws_toEvent at h
  refine fn_code tab_ok mixed [(1000, [(1, 0), (2, 0)]), (1001, [(1, 0), (2, 0), (3, 0)]), (1002, [(1, 0), (2, 0), (3, 0)]), (1003, [(1, 0), (2, 0), (3, 0)]), (1004, [(1, 0), (2, 0), (3, 0)]), (1005, [(2, 0), (3, 0)]), (1006, [(2, 0)])] Tryz.func87 rfl rfl (by simp [Tryz.f87]) (by kernel_rfl) ?_
  simp only [Tryz.f87]
  refine sA ?_
  have he := Option.some.inj h
  subst he
  exact endsA ⟨[(2, (.pb 0 0))], [(0, some (true, .box [(.lf false (.sc (.int .i64 a0.Id))), (.lf false (.sc (.int .i64 a0.Version))), (.lf false (.sc (.int .i64 a0.Kind))), (.lf false (.sc (.string a0.Name)))]))], 1, 17⟩ [some 1]
theorem w_laws_toEventS {a0 : (List EventT)} {r : (List EventT)} (h : laws_toEventS a0 = some r) : Fn Tryz.prog 79 [(.lf true (.sl (a0.map eEvent)))] [] 0 (.os 0 4 0 r.length r.length false) [(0, some (true, .arr false 4 (r.map eEvent)))] 1 := by
  unfold laws_toEventS at h
  refine fn_code tab_ok mixed [(1000, [(0, 0)]), (1001, [(0, 0), (3, 0)]), (1002, [(0, 0), (3, 0), (4, 0)]), (1003, [(0, 0), (3, 0), (4, 0), (11, 0)]), (1004, [(0, 0), (3, 0), (4, 0)]), (1005, [(0, 0), (3, 0), (4, 0)]), (1006, [(2, 0)])] Tryz.func79 rfl rfl (by simp [Tryz.f79]) (by kernel_rfl) ?_
  simp only [Tryz.f79]
  simp (disch := first | assumption | (simp only [List.length_set]; assumption)) only [go_sem, Nat.reduceAdd, Nat.reduceMul, Nat.reduceSub, Nat.reduceEqDiff, ↓reduceIte, Nat.reduceLT, reduceCtorEq, Nat.reduceLeDiff, Int.reduceToNat, Int.reduceEq, Int.reduceLE, Int.reduceLT, Nat.reduceBEq, fold_eEvent_rep]
  obtain ⟨hp1, h⟩ := guard_some h
  try simp (disch := first | assumption | (simp only [List.length_set]; assumption)) only [go_sem, Nat.reduceAdd, Nat.reduceMul, Nat.reduceSub, Nat.reduceEqDiff, ↓reduceIte, Nat.reduceLT, reduceCtorEq, Nat.reduceLeDiff, Int.reduceToNat, Int.reduceEq, Int.reduceLE, Int.reduceLT, Nat.reduceBEq, fold_eEvent_rep]
  try refine andA ?_
  obtain ⟨y21, hl2, h⟩ := bind_ok h
  refine W_loopP (fun g18 : laws_toEventS_G1 => ⟨[(0, (.lf true (.sl (a0.map eEvent)))), (3, (.os 0 4 0 g18.c0.length g18.c0.length false)), (4, (.lf false (.sc (.int .i64 g18.t4))))], [(0, some (true, .arr false 4 (g18.c0.map eEvent)))], 1, 23⟩) (laws_toEventS_L1 a0) _ _ hl2 (weak_of (m := 0) [some 0] rfl rfl rfl (by rfl) (by ((try simp (disch := first | assumption | (simp only [List.length_set]; assumption)) only [go_sem, Nat.reduceAdd, Nat.reduceMul, Nat.reduceSub, Nat.reduceEqDiff, ↓reduceIte, Nat.reduceLT, reduceCtorEq, Nat.reduceLeDiff, Int.reduceToNat, Int.reduceEq, Int.reduceLE, Int.reduceLT, Nat.reduceBEq, fold_eEvent_rep]); (repeat' first | done | rfl | omega | refine And.intro ?_ ?_ | (simp; done) | (simp; omega)))) (by ((try simp (disch := first | assumption | (simp only [List.length_set]; assumption)) only [go_sem, Nat.reduceAdd, Nat.reduceMul, Nat.reduceSub, Nat.reduceEqDiff, ↓reduceIte, Nat.reduceLT, reduceCtorEq, Nat.reduceLeDiff, Int.reduceToNat, Int.reduceEq, Int.reduceLE, Int.reduceLT, Nat.reduceBEq, fold_eEvent_rep]); (repeat' first | done | rfl | omega | refine And.intro ?_ ?_ | (simp; done) | (simp; omega))))) ?_
  · intro n1 g18 z1 hs1 hk1
    unfold laws_toEventS_L1 at hs1
    try dsimp only at hs1
    simp (disch := first | assumption | (simp only [List.length_set]; assumption)) only [go_sem, Nat.reduceAdd, Nat.reduceMul, Nat.reduceSub, Nat.reduceEqDiff, ↓reduceIte, Nat.reduceLT, reduceCtorEq, Nat.reduceLeDiff, Int.reduceToNat, Int.reduceEq, Int.reduceLE, Int.reduceLT, Nat.reduceBEq, fold_eEvent_rep]
    refine Bs_if hs1 (fun hs1 hc3 => ?_) (fun hs1 hc3 => ?_)
    · try simp (disch := first | assumption | (simp only [List.length_set]; assumption)) only [go_sem, Nat.reduceAdd, Nat.reduceMul, Nat.reduceSub, Nat.reduceEqDiff, ↓reduceIte, Nat.reduceLT, reduceCtorEq, Nat.reduceLeDiff, Int.reduceToNat, Int.reduceEq, Int.reduceLE, Int.reduceLT, Nat.reduceBEq, fold_eEvent_rep]
      obtain ⟨hp4, hs1⟩ := guard_some hs1
      have hn4 : g18.t4.toNat < a0.length := by first | omega | (simp only [List.length_set, List.length_append, List.length_replicate, List.length_map]; omega)
      try simp (disch := first | assumption | (simp only [List.length_set]; assumption)) only [go_sem, Nat.reduceAdd, Nat.reduceMul, Nat.reduceSub, Nat.reduceEqDiff, ↓reduceIte, Nat.reduceLT, reduceCtorEq, Nat.reduceLeDiff, Int.reduceToNat, Int.reduceEq, Int.reduceLE, Int.reduceLT, Nat.reduceBEq, fold_eEvent_rep]
      try refine andA ?_
      obtain ⟨c20, hr5, hs1⟩ := bind_ok hs1
      refine Cl_shown (w_laws_toEvent hr5) (by first | rfl | (simp (disch := first | assumption | (simp only [List.length_set]; assumption)) only [go_sem, Nat.reduceAdd, Nat.reduceMul, Nat.reduceSub, Nat.reduceEqDiff, ↓reduceIte, Nat.reduceLT, reduceCtorEq, Nat.reduceLeDiff, Int.reduceToNat, Int.reduceEq, Int.reduceLE, Int.reduceLT, Nat.reduceBEq, fold_eEvent_rep]; first | done | rfl) | (simp only [List.length_append, List.length_cons, List.length_nil, List.length_map, List.length_set, List.length_replicate, Nat.zero_add, Nat.reduceAdd]; rfl) | (simp (disch := first | assumption | (simp only [List.length_set]; assumption)) only [go_sem, Nat.reduceAdd, Nat.reduceMul, Nat.reduceSub, Nat.reduceEqDiff, ↓reduceIte, Nat.reduceLT, reduceCtorEq, Nat.reduceLeDiff, Int.reduceToNat, Int.reduceEq, Int.reduceLE, Int.reduceLT, Nat.reduceBEq, fold_eEvent_rep]; simp only [List.length_append, List.length_cons, List.length_nil, List.length_map, List.length_set, List.length_replicate, Nat.zero_add, Nat.reduceAdd]; rfl)) (FitAll.refl _) (.inl (by first | rfl | (simp (disch := first | assumption | (simp only [List.length_set]; assumption)) only [go_sem, Nat.reduceAdd, Nat.reduceMul, Nat.reduceSub, Nat.reduceEqDiff, ↓reduceIte, Nat.reduceLT, reduceCtorEq, Nat.reduceLeDiff, Int.reduceToNat, Int.reduceEq, Int.reduceLE, Int.reduceLT, Nat.reduceBEq, fold_eEvent_rep]; done))) ?_
      try simp (disch := first | assumption | (simp only [List.length_set]; assumption)) only [go_sem, Nat.reduceAdd, Nat.reduceMul, Nat.reduceSub, Nat.reduceEqDiff, ↓reduceIte, Nat.reduceLT, reduceCtorEq, Nat.reduceLeDiff, Int.reduceToNat, Int.reduceEq, Int.reduceLE, Int.reduceLT, Nat.reduceBEq, fold_eEvent_rep]
      obtain ⟨hp6, hs1⟩ := guard_some hs1
      have hn6 : g18.t4.toNat < g18.c0.length := by first | omega | (simp only [List.length_set, List.length_append, List.length_replicate, List.length_map]; omega)
      try simp (disch := first | assumption | (simp only [List.length_set]; assumption)) only [go_sem, Nat.reduceAdd, Nat.reduceMul, Nat.reduceSub, Nat.reduceEqDiff, ↓reduceIte, Nat.reduceLT, reduceCtorEq, Nat.reduceLeDiff, Int.reduceToNat, Int.reduceEq, Int.reduceLE, Int.reduceLT, Nat.reduceBEq, fold_eEvent_rep]
      try refine andA ?_
      try refine andB ?_
      try simp (disch := first | assumption | (simp only [List.length_set]; assumption)) only [go_sem, Nat.reduceAdd, Nat.reduceMul, Nat.reduceSub, Nat.reduceEqDiff, ↓reduceIte, Nat.reduceLT, reduceCtorEq, Nat.reduceLeDiff, Int.reduceToNat, Int.reduceEq, Int.reduceLE, Int.reduceLT, Nat.reduceBEq, fold_eEvent_rep]
      cases hs1
      refine X_backP hk1 ?_
      refine weak_of (m := 0) [some 0] rfl rfl rfl (by rfl) ?_ ?_
      all_goals ((try simp (disch := first | assumption | (simp only [List.length_set]; assumption)) only [go_sem, Nat.reduceAdd, Nat.reduceMul, Nat.reduceSub, Nat.reduceEqDiff, ↓reduceIte, Nat.reduceLT, reduceCtorEq, Nat.reduceLeDiff, Int.reduceToNat, Int.reduceEq, Int.reduceLE, Int.reduceLT, Nat.reduceBEq, fold_eEvent_rep]); (repeat' first | done | rfl | omega | refine And.intro ?_ ?_ | (simp; done) | (simp; omega)))
    · try simp (disch := first | assumption | (simp only [List.length_set]; assumption)) only [go_sem, Nat.reduceAdd, Nat.reduceMul, Nat.reduceSub, Nat.reduceEqDiff, ↓reduceIte, Nat.reduceLT, reduceCtorEq, Nat.reduceLeDiff, Int.reduceToNat, Int.reduceEq, Int.reduceLE, Int.reduceLT, Nat.reduceBEq, fold_eEvent_rep]
      cases hs1
      cases hk1
      try dsimp only at h
      try simp (disch := first | assumption | (simp only [List.length_set]; assumption)) only [go_sem, Nat.reduceAdd, Nat.reduceMul, Nat.reduceSub, Nat.reduceEqDiff, ↓reduceIte, Nat.reduceLT, reduceCtorEq, Nat.reduceLeDiff, Int.reduceToNat, Int.reduceEq, Int.reduceLE, Int.reduceLT, Nat.reduceBEq, fold_eEvent_rep]
      have he := Option.some.inj h
      subst he
      refine ends_weak ⟨[(2, (.os 0 4 0 g18.c0.length g18.c0.length false))], [(0, some (true, .arr false 4 (g18.c0.map eEvent)))], 1, 23⟩ (weak_of (m := 0) [some 0] rfl rfl rfl (by rfl) ?_ ?_) ?_
      all_goals ((try simp (disch := first | assumption | (simp only [List.length_set]; assumption)) only [go_sem, Nat.reduceAdd, Nat.reduceMul, Nat.reduceSub, Nat.reduceEqDiff, ↓reduceIte, Nat.reduceLT, reduceCtorEq, Nat.reduceLeDiff, Int.reduceToNat, Int.reduceEq, Int.reduceLE, Int.reduceLT, Nat.reduceBEq, fold_eEvent_rep]); (repeat' first | done | rfl | omega | refine And.intro ?_ ?_ | (simp; done) | (simp; omega)))
theorem w_laws_toBranch_F {a0 : BranchT} {r : BranchT} (h : laws_toBranch_F a0 = some r) : Fn Tryz.prog 64 [(.ag [(.lf true (.sl (a0.Events.map eEvent)))])] [] 0 (.ag [(.lf false (.sl (r.Events.map eEvent)))]) [] 1 := by
  unfold laws_toBranch_F at h
  refine fn_code tab_ok mixed [(1000, [(1, 0), (2, 0)]), (1001, [(1, 0), (2, 0), (3, 0)]), (1002, [(2, 0), (3, 0)]), (1003, [(2, 0)])] Tryz.func64 rfl rfl (by simp [Tryz.f64]) (by kernel_rfl) ?_
  simp only [Tryz.f64]
  refine sA ?_
  obtain ⟨c25, hr1, h⟩ := bind_ok h
  refine Cl_sA (w_laws_toEventS hr1) ?_
  try refine sA ?_
  have he := Option.some.inj h
  subst he
  refine ends_frz 3 ?_
  try refine sA ?_
  exact endsA ⟨[(2, (.pb 0 0))], [(0, some (true, .box [(.lf false (.sl (c25.map eEvent)))]))], 1, 9⟩ [some 1]
theorem w_laws_toBranchS {a0 : (List BranchT)} {r : (List BranchT)} (h : laws_toBranchS a0 = some r) : Fn Tryz.prog 46 [(.lf true (.sl (a0.map eBranch)))] [] 0 (.os 0 1 0 r.length r.length false) [(0, some (true, .arr false 1 (r.map eBranch)))] 1 := by
  unfold laws_toBranchS at h
  refine fn_code tab_ok mixed [(1000, [(0, 0)]), (1001, [(0, 0), (3, 0)]), (1002, [(0, 0), (3, 0), (4, 0)]), (1003, [(0, 0), (3, 0), (4, 0), (11, 0)]), (1004, [(0, 0), (3, 0), (4, 0)]), (1005, [(0, 0), (3, 0), (4, 0)]), (1006, [(2, 0)])] Tryz.func46 rfl rfl (by simp [Tryz.f46]) (by kernel_rfl) ?_
  simp only [Tryz.f46]
  simp (disch := first | assumption | (simp only [List.length_set]; assumption)) only [go_sem, Nat.reduceAdd, Nat.reduceMul, Nat.reduceSub, Nat.reduceEqDiff, ↓reduceIte, Nat.reduceLT, reduceCtorEq, Nat.reduceLeDiff, Int.reduceToNat, Int.reduceEq, Int.reduceLE, Int.reduceLT, Nat.reduceBEq, fold_eBranch_rep]
  obtain ⟨hp1, h⟩ := guard_some h
  try simp (disch := first | assumption | (simp only [List.length_set]; assumption)) only [go_sem, Nat.reduceAdd, Nat.reduceMul, Nat.reduceSub, Nat.reduceEqDiff, ↓reduceIte, Nat.reduceLT, reduceCtorEq, Nat.reduceLeDiff, Int.reduceToNat, Int.reduceEq, Int.reduceLE, Int.reduceLT, Nat.reduceBEq, fold_eBranch_rep]
  try refine andA ?_
  obtain ⟨y28, hl2, h⟩ := bind_ok h
  refine W_loopP (fun g24 : laws_toBranchS_G1 => ⟨[(0, (.lf true (.sl (a0.map eBranch)))), (3, (.os 0 1 0 g24.c0.length g24.c0.length false)), (4, (.lf false (.sc (.int .i64 g24.t4))))], [(0, some (true, .arr false 1 (g24.c0.map eBranch)))], 1, 23⟩) (laws_toBranchS_L1 a0) _ _ hl2 (weak_of (m := 0) [some 0] rfl rfl rfl (by rfl) (by ((try simp (disch := first | assumption | (simp only [List.length_set]; assumption)) only [go_sem, Nat.reduceAdd, Nat.reduceMul, Nat.reduceSub, Nat.reduceEqDiff, ↓reduceIte, Nat.reduceLT, reduceCtorEq, Nat.reduceLeDiff, Int.reduceToNat, Int.reduceEq, Int.reduceLE, Int.reduceLT, Nat.reduceBEq, fold_eBranch_rep]); (repeat' first | done | rfl | omega | refine And.intro ?_ ?_ | (simp; done) | (simp; omega)))) (by ((try simp (disch := first | assumption | (simp only [List.length_set]; assumption)) only [go_sem, Nat.reduceAdd, Nat.reduceMul, Nat.reduceSub, Nat.reduceEqDiff, ↓reduceIte, Nat.reduceLT, reduceCtorEq, Nat.reduceLeDiff, Int.reduceToNat, Int.reduceEq, Int.reduceLE, Int.reduceLT, Nat.reduceBEq, fold_eBranch_rep]); (repeat' first | done | rfl | omega | refine And.intro ?_ ?_ | (simp; done) | (simp; omega))))) ?_
  · intro n1 g24 z1 hs1 hk1
    unfold laws_toBranchS_L1 at hs1
    try dsimp only at hs1
    simp (disch := first | assumption | (simp only [List.length_set]; assumption)) only [go_sem, Nat.reduceAdd, Nat.reduceMul, Nat.reduceSub, Nat.reduceEqDiff, ↓reduceIte, Nat.reduceLT, reduceCtorEq, Nat.reduceLeDiff, Int.reduceToNat, Int.reduceEq, Int.reduceLE, Int.reduceLT, Nat.reduceBEq, fold_eBranch_rep]
    refine Bs_if hs1 (fun hs1 hc3 => ?_) (fun hs1 hc3 => ?_)
    · try simp (disch := first | assumption | (simp only [List.length_set]; assumption)) only [go_sem, Nat.reduceAdd, Nat.reduceMul, Nat.reduceSub, Nat.reduceEqDiff, ↓reduceIte, Nat.reduceLT, reduceCtorEq, Nat.reduceLeDiff, Int.reduceToNat, Int.reduceEq, Int.reduceLE, Int.reduceLT, Nat.reduceBEq, fold_eBranch_rep]
      obtain ⟨hp4, hs1⟩ := guard_some hs1
      have hn4 : g24.t4.toNat < a0.length := by first | omega | (simp only [List.length_set, List.length_append, List.length_replicate, List.length_map]; omega)
      try simp (disch := first | assumption | (simp only [List.length_set]; assumption)) only [go_sem, Nat.reduceAdd, Nat.reduceMul, Nat.reduceSub, Nat.reduceEqDiff, ↓reduceIte, Nat.reduceLT, reduceCtorEq, Nat.reduceLeDiff, Int.reduceToNat, Int.reduceEq, Int.reduceLE, Int.reduceLT, Nat.reduceBEq, fold_eBranch_rep]
      try refine andA ?_
      obtain ⟨c27, hr5, hs1⟩ := bind_ok hs1
      refine Cl_shown (w_laws_toBranch_F hr5) (by first | rfl | (simp (disch := first | assumption | (simp only [List.length_set]; assumption)) only [go_sem, Nat.reduceAdd, Nat.reduceMul, Nat.reduceSub, Nat.reduceEqDiff, ↓reduceIte, Nat.reduceLT, reduceCtorEq, Nat.reduceLeDiff, Int.reduceToNat, Int.reduceEq, Int.reduceLE, Int.reduceLT, Nat.reduceBEq, fold_eBranch_rep]; first | done | rfl) | (simp only [List.length_append, List.length_cons, List.length_nil, List.length_map, List.length_set, List.length_replicate, Nat.zero_add, Nat.reduceAdd]; rfl) | (simp (disch := first | assumption | (simp only [List.length_set]; assumption)) only [go_sem, Nat.reduceAdd, Nat.reduceMul, Nat.reduceSub, Nat.reduceEqDiff, ↓reduceIte, Nat.reduceLT, reduceCtorEq, Nat.reduceLeDiff, Int.reduceToNat, Int.reduceEq, Int.reduceLE, Int.reduceLT, Nat.reduceBEq, fold_eBranch_rep]; simp only [List.length_append, List.length_cons, List.length_nil, List.length_map, List.length_set, List.length_replicate, Nat.zero_add, Nat.reduceAdd]; rfl)) (FitAll.refl _) (.inl (by first | rfl | (simp (disch := first | assumption | (simp only [List.length_set]; assumption)) only [go_sem, Nat.reduceAdd, Nat.reduceMul, Nat.reduceSub, Nat.reduceEqDiff, ↓reduceIte, Nat.reduceLT, reduceCtorEq, Nat.reduceLeDiff, Int.reduceToNat, Int.reduceEq, Int.reduceLE, Int.reduceLT, Nat.reduceBEq, fold_eBranch_rep]; done))) ?_
      try simp (disch := first | assumption | (simp only [List.length_set]; assumption)) only [go_sem, Nat.reduceAdd, Nat.reduceMul, Nat.reduceSub, Nat.reduceEqDiff, ↓reduceIte, Nat.reduceLT, reduceCtorEq, Nat.reduceLeDiff, Int.reduceToNat, Int.reduceEq, Int.reduceLE, Int.reduceLT, Nat.reduceBEq, fold_eBranch_rep]
      obtain ⟨hp6, hs1⟩ := guard_some hs1
      have hn6 : g24.t4.toNat < g24.c0.length := by first | omega | (simp only [List.length_set, List.length_append, List.length_replicate, List.length_map]; omega)
      try simp (disch := first | assumption | (simp only [List.length_set]; assumption)) only [go_sem, Nat.reduceAdd, Nat.reduceMul, Nat.reduceSub, Nat.reduceEqDiff, ↓reduceIte, Nat.reduceLT, reduceCtorEq, Nat.reduceLeDiff, Int.reduceToNat, Int.reduceEq, Int.reduceLE, Int.reduceLT, Nat.reduceBEq, fold_eBranch_rep]
      try refine andA ?_
      try refine andB ?_
      try simp (disch := first | assumption | (simp only [List.length_set]; assumption)) only [go_sem, Nat.reduceAdd, Nat.reduceMul, Nat.reduceSub, Nat.reduceEqDiff, ↓reduceIte, Nat.reduceLT, reduceCtorEq, Nat.reduceLeDiff, Int.reduceToNat, Int.reduceEq, Int.reduceLE, Int.reduceLT, Nat.reduceBEq, fold_eBranch_rep]
      cases hs1
      refine X_backP hk1 ?_
      refine weak_of (m := 0) [some 0] rfl rfl rfl (by rfl) ?_ ?_
      all_goals ((try simp (disch := first | assumption | (simp only [List.length_set]; assumption)) only [go_sem, Nat.reduceAdd, Nat.reduceMul, Nat.reduceSub, Nat.reduceEqDiff, ↓reduceIte, Nat.reduceLT, reduceCtorEq, Nat.reduceLeDiff, Int.reduceToNat, Int.reduceEq, Int.reduceLE, Int.reduceLT, Nat.reduceBEq, fold_eBranch_rep]); (repeat' first | done | rfl | omega | refine And.intro ?_ ?_ | (simp; done) | (simp; omega)))
    · try simp (disch := first | assumption | (simp only [List.length_set]; assumption)) only [go_sem, Nat.reduceAdd, Nat.reduceMul, Nat.reduceSub, Nat.reduceEqDiff, ↓reduceIte, Nat.reduceLT, reduceCtorEq, Nat.reduceLeDiff, Int.reduceToNat, Int.reduceEq, Int.reduceLE, Int.reduceLT, Nat.reduceBEq, fold_eBranch_rep]
      cases hs1
      cases hk1
      try dsimp only at h
      try simp (disch := first | assumption | (simp only [List.length_set]; assumption)) only [go_sem, Nat.reduceAdd, Nat.reduceMul, Nat.reduceSub, Nat.reduceEqDiff, ↓reduceIte, Nat.reduceLT, reduceCtorEq, Nat.reduceLeDiff, Int.reduceToNat, Int.reduceEq, Int.reduceLE, Int.reduceLT, Nat.reduceBEq, fold_eBranch_rep]
      have he := Option.some.inj h
      subst he
      refine ends_weak ⟨[(2, (.os 0 1 0 g24.c0.length g24.c0.length false))], [(0, some (true, .arr false 1 (g24.c0.map eBranch)))], 1, 23⟩ (weak_of (m := 0) [some 0] rfl rfl rfl (by rfl) ?_ ?_) ?_
      all_goals ((try simp (disch := first | assumption | (simp only [List.length_set]; assumption)) only [go_sem, Nat.reduceAdd, Nat.reduceMul, Nat.reduceSub, Nat.reduceEqDiff, ↓reduceIte, Nat.reduceLT, reduceCtorEq, Nat.reduceLeDiff, Int.reduceToNat, Int.reduceEq, Int.reduceLE, Int.reduceLT, Nat.reduceBEq, fold_eBranch_rep]); (repeat' first | done | rfl | omega | refine And.intro ?_ ?_ | (simp; done) | (simp; omega)))
theorem w_laws_toTellings {a0 : TellingsT} {r : TellingsT} (h : laws_toTellings a0 = some r) : Fn Tryz.prog 25 [(.ag [(.lf true (.sl (a0.Branches.map eBranch)))])] [] 0 (.ag [(.os 0 1 0 r.Branches.length r.Branches.length false)]) [(0, some (true, .arr false 1 (r.Branches.map eBranch)))] 2 := by
  unfold laws_toTellings at h
  refine fn_code tab_ok mixed [(1000, [(1, 0), (2, 0)]), (1001, [(1, 0), (2, 0), (3, 0)]), (1002, [(2, 0), (3, 0)]), (1003, [(2, 0)])] Tryz.func25 rfl rfl (by simp [Tryz.f25]) (by kernel_rfl) ?_
  simp only [Tryz.f25]
  refine sA ?_
  obtain ⟨c29, hr1, h⟩ := bind_ok h
  refine Cl_sA (w_laws_toBranchS hr1) ?_
  try refine sA ?_
  have he := Option.some.inj h
  subst he
  exact endsA ⟨[(2, (.pb 1 0))], [(0, some (true, .arr false 1 (c29.map eBranch))), (1, some (true, .box [(.os 0 1 0 c29.length c29.length false)]))], 2, 9⟩ [some 3, some 1]
theorem w_laws_toRegion {a0 : RegionT} {r : RegionT} (h : laws_toRegion a0 = some r) : Fn Tryz.prog 9 [(.ag [(.lf false (.sc (.int .i64 a0.Id))), (.lf false (.sc (.int .i64 a0.Version))), (.lf true (.sl (a0.Tellings.Branches.map eBranch)))])] [] 0 (.ag [(.lf false (.sc (.int .i64 r.Id))), (.lf false (.sc (.int .i64 r.Version))), (.os 0 1 0 r.Tellings.Branches.length r.Tellings.Branches.length false)]) [(0, some (true, .arr false 1 (r.Tellings.Branches.map eBranch)))] 2 := by
  unfold laws_toRegion at h
  refine fn_code tab_ok mixed [(1000, [(1, 0), (2, 0)]), (1001, [(1, 0), (2, 0), (3, 0)]), (1002, [(1, 0), (2, 0), (3, 0)]), (1003, [(1, 0), (2, 0), (3, 0)]), (1004, [(2, 0), (3, 0)]), (1005, [(2, 0)])] Tryz.func9 rfl rfl (by simp [Tryz.f9]) (by kernel_rfl) ?_
  simp only [Tryz.f9]
  refine sA ?_
  obtain ⟨c30, hr1, h⟩ := bind_ok h
  refine Cl_sA (w_laws_toTellings hr1) ?_
  try refine sA ?_
  have he := Option.some.inj h
  subst he
  exact endsA ⟨[(2, (.pb 1 0))], [(0, some (true, .arr false 1 (c30.Branches.map eBranch))), (1, some (true, .box [(.lf false (.sc (.int .i64 a0.Id))), (.lf false (.sc (.int .i64 a0.Version))), (.os 0 1 0 c30.Branches.length c30.Branches.length false)]))], 2, 15⟩ [some 3, some 1]
theorem w_spec_l1In {a0 : Int} {a1 : Int} {a2 : Int} {r : Bool} (h : spec_l1In a0 a1 a2 = some r) : Fn Tryz.prog 22 [(.lf false (.sc (.int .i64 a0))), (.lf false (.sc (.int .i64 a1))), (.lf false (.sc (.int .i64 a2)))] [] 0 (.lf false (.sc (.bool r))) [] 0 := by
  unfold spec_l1In at h
  refine fn_code tab_ok mixed [] Tryz.func22 rfl rfl (by simp [Tryz.f22]) (by kernel_rfl) ?_
  simp only [Tryz.f22]
  refine sA ?_
  refine Sp_if h (fun h hc1 => ?_) (fun h hc1 => ?_)
  · try refine sA ?_
    have he := Option.some.inj h
    subst he
    exact endsA ⟨[(6, (.lf false (.sc (.bool (decide (a0 ≤ a2))))))], [], 0, 15⟩ []
  · try refine sA ?_
    have he := Option.some.inj h
    subst he
    exact endsA ⟨[(6, (.lf false (.sc (.bool false))))], [], 0, 15⟩ []
theorem w_spec_l13Version {a0 : Int} {r : Bool} (h : spec_l13Version a0 = some r) : Fn Tryz.prog 23 [(.lf false (.sc (.int .i64 a0)))] [] 0 (.lf false (.sc (.bool r))) [] 0 := by
  unfold spec_l13Version at h
  refine fn_code tab_ok mixed [] Tryz.func23 rfl rfl (by simp [Tryz.f23]) (by kernel_rfl) ?_
  simp only [Tryz.f23]
  refine sA ?_
  obtain ⟨c33, hr1, h⟩ := bind_ok h
  refine Cl_sA (w_spec_l1In hr1) ?_
  try refine sA ?_
  have he := Option.some.inj h
  subst he
  exact endsA ⟨[(2, (.lf false (.sc (.bool c33))))], [], 0, 5⟩ []
theorem w_spec_NewState {r : StateT} (h : spec_NewState = some r) : Fn Tryz.prog 85 [] [] 0 (.ag [(.lf false (.sc (.int .i64 r.Status))), (.lf false (.sc (.int .i64 r.Next))), (.lf false (.sc (.bool r.Cancel))), (.lf false (.sc (.int .i64 r.Done))), .nl, .nl]) [] 1 := by
  unfold spec_NewState at h
  refine fn_code tab_ok mixed [] Tryz.func85 rfl rfl (by simp [Tryz.f85]) (by kernel_rfl) ?_
  simp only [Tryz.f85]
  refine sA ?_
  have he := Option.some.inj h
  subst he
  exact endsA ⟨[(0, (.pb 0 0))], [(0, some (true, .box [(.lf false (.sc (.int .i64 0))), (.lf false (.sc (.int .i64 1))), (.lf false (.sc (.bool false))), (.lf false (.sc (.int .i64 0))), .nl, .nl]))], 1, 2⟩ [some 0]
theorem w_spec_l1Name {a0 : ByteArray} {r : Bool} (h : spec_l1Name a0 = some r) : Fn Tryz.prog 102 [(.lf false (.sc (.string a0)))] [] 0 (.lf false (.sc (.bool r))) [] 0 := by
  unfold spec_l1Name at h
  refine fn_code tab_ok mixed [(1000, [(0, 0)]), (1001, [(0, 0), (3, 0)]), (1002, [(0, 0), (3, 0), (7, 0)]), (1003, [(0, 0), (3, 0)]), (1004, [(0, 0), (3, 0), (32, 0)]), (1005, [(2, 0)]), (1006, [(2, 0)]), (4004, [])] Tryz.func102 rfl rfl (by simp [Tryz.f102]) (by kernel_rfl) ?_
  simp only [Tryz.f102]
  refine sA ?_
  obtain ⟨y50, hl1, h⟩ := bind_ok h
  refine W_loopP (fun g47 : spec_l1Name_G1 => ⟨[(0, (.lf false (.sc (.string a0)))), (3, (.lf false (.sc (.int .i64 g47.t3))))], [], 0, 36⟩) (spec_l1Name_L1 a0) _ _ hl1 (weakA []) ?_
  · intro n1 g47 z1 hs1 hk1
    unfold spec_l1Name_L1 at hs1
    try dsimp only at hs1
    refine sA ?_
    refine Bs_if hs1 (fun hs1 hc2 => ?_) (fun hs1 hc2 => ?_)
    · try refine sA ?_
      obtain ⟨p49, hq3, hs1⟩ := bind_ok hs1
      refine Sq_cut (fun s2 => s2 = ⟨[(0, (.lf false (.sc (.string a0)))), (3, (.lf false (.sc (.int .i64 g47.t3)))), (32, (.lf false (.sc (.bool p49.t32))))], [], 0, 36⟩) ?_ ?_
      · try refine sA ?_
        obtain ⟨hp4, hq3⟩ := guard_some hq3
        try refine sA ?_
        try refine andA ?_
        refine Sp_if hq3 (fun hq3 hc5 => ?_) (fun hq3 hc5 => ?_)
        · try refine sA ?_
          obtain ⟨hp6, hq3⟩ := guard_some hq3
          try refine sA ?_
          try refine andA ?_
          refine Sp_if hq3 (fun hq3 hc7 => ?_) (fun hq3 hc7 => ?_)
          · try refine sA ?_
            cases hq3
            exact X_cut rfl (weakA [])
          · try refine sA ?_
            obtain ⟨hp8, hq3⟩ := guard_some hq3
            try refine sA ?_
            try refine andA ?_
            refine Sp_if hq3 (fun hq3 hc9 => ?_) (fun hq3 hc9 => ?_)
            · try refine sA ?_
              obtain ⟨hp10, hq3⟩ := guard_some hq3
              try refine sA ?_
              try refine andA ?_
              cases hq3
              exact X_cut rfl (weakA [])
            · try refine sA ?_
              cases hq3
              exact X_cut rfl (weakA [])
        · try refine sA ?_
          obtain ⟨hp11, hq3⟩ := guard_some hq3
          try refine sA ?_
          try refine andA ?_
          refine Sp_if hq3 (fun hq3 hc12 => ?_) (fun hq3 hc12 => ?_)
          · try refine sA ?_
            obtain ⟨hp13, hq3⟩ := guard_some hq3
            try refine sA ?_
            try refine andA ?_
            cases hq3
            exact X_cut rfl (weakA [])
          · try refine sA ?_
            cases hq3
            exact X_cut rfl (weakA [])
      · intro s2 hJ; subst hJ
        try dsimp only at hs1
        try refine sA ?_
        refine Bs_if hs1 (fun hs1 hc14 => ?_) (fun hs1 hc14 => ?_)
        · try refine sA ?_
          cases hs1
          cases hk1
          try dsimp only at h
          try refine sA ?_
          have he := Option.some.inj h
          subst he
          exact endsA ⟨[(2, (.lf false (.sc (.bool false))))], [], 0, 36⟩ []
        · try refine sA ?_
          cases hs1
          exact X_backP hk1 (weakA [])
    · try refine sA ?_
      cases hs1
      cases hk1
      try dsimp only at h
      try refine sA ?_
      have he := Option.some.inj h
      subst he
      exact endsA ⟨[(2, (.lf false (.sc (.bool (decide ((a0.size : Int) ≤ 12))))))], [], 0, 36⟩ []
theorem w_spec_GoodEvent {a0 : EventT} {r : Bool} (h : spec_GoodEvent a0 = some r) : Fn Tryz.prog 93 [(.ag [(.lf false (.sc (.int .i64 a0.Id))), (.lf false (.sc (.int .i64 a0.Version))), (.lf false (.sc (.int .i64 a0.Kind))), (.lf false (.sc (.string a0.Name)))])] [] 0 (.lf false (.sc (.bool r))) [] 0 := by
  unfold spec_GoodEvent at h
  refine fn_code tab_ok mixed [] Tryz.func93 rfl rfl (by simp [Tryz.f93]) (by kernel_rfl) ?_
  simp only [Tryz.f93]
  refine sA ?_
  obtain ⟨c44, hr1, h⟩ := bind_ok h
  refine Cl_sA (w_spec_l1In hr1) ?_
  try refine sA ?_
  refine Sp_if h (fun h hc2 => ?_) (fun h hc2 => ?_)
  · try refine sA ?_
    obtain ⟨c45, hr3, h⟩ := bind_ok h
    refine Cl_sA (w_spec_l1In hr3) ?_
    try refine sA ?_
    refine Sp_if h (fun h hc4 => ?_) (fun h hc4 => ?_)
    · try refine sA ?_
      obtain ⟨c46, hr5, h⟩ := bind_ok h
      refine Cl_sA (w_spec_l1In hr5) ?_
      try refine sA ?_
      refine Sp_if h (fun h hc6 => ?_) (fun h hc6 => ?_)
      · try refine sA ?_
        obtain ⟨c53, hr7, h⟩ := bind_ok h
        refine Cl_sA (w_spec_l1Name hr7) ?_
        try refine sA ?_
        have he := Option.some.inj h
        subst he
        exact endsA ⟨[(2, (.lf false (.sc (.bool c53))))], [], 0, 21⟩ []
      · try refine sA ?_
        have he := Option.some.inj h
        subst he
        exact endsA ⟨[(2, (.lf false (.sc (.bool false))))], [], 0, 21⟩ []
    · try refine sA ?_
      have he := Option.some.inj h
      subst he
      exact endsA ⟨[(2, (.lf false (.sc (.bool false))))], [], 0, 21⟩ []
  · try refine sA ?_
    have he := Option.some.inj h
    subst he
    exact endsA ⟨[(2, (.lf false (.sc (.bool false))))], [], 0, 21⟩ []
theorem w_spec_l12Own {a0 : StateT} {r : StateT} (h : spec_l12Own a0 = some r) : Fn Tryz.prog 94 [(.ag [(.lf false (.sc (.int .i64 a0.Status))), (.lf false (.sc (.int .i64 a0.Next))), (.lf false (.sc (.bool a0.Cancel))), (.lf false (.sc (.int .i64 a0.Done))), (.lf true (.sl (a0.Signals.map eS))), (.lf true (.sl (a0.Timers.map eS)))])] [] 0 (.ag [(.lf false (.sc (.int .i64 r.Status))), (.lf false (.sc (.int .i64 r.Next))), (.lf false (.sc (.bool r.Cancel))), (.lf false (.sc (.int .i64 r.Done))), (.os 0 1 0 r.Signals.length r.Signals.length false), (.os 1 1 0 r.Timers.length r.Timers.length false)]) [(0, some (true, .arr false 1 (r.Signals.map eS))), (1, some (true, .arr false 1 (r.Timers.map eS)))] 3 := by
  unfold spec_l12Own at h
  refine fn_code tab_ok mixed [(1000, [(1, 0), (2, 0)]), (1001, [(1, 0), (2, 0)]), (1002, [(1, 0), (2, 0)]), (1003, [(2, 0)])] Tryz.func94 rfl rfl (by simp [Tryz.f94]) (by kernel_rfl) ?_
  simp only [Tryz.f94]
  refine sA ?_
  obtain ⟨hp1, h⟩ := guard_some h
  try refine sA ?_
  try refine andA ?_
  obtain ⟨hp2, h⟩ := guard_some h
  try refine sA ?_
  try refine andA ?_
  have he := Option.some.inj h
  subst he
  exact endsA ⟨[(2, (.pb 2 0))], [(0, some (true, .arr false 1 ((([]) ++ a0.Signals).map eS))), (1, some (true, .arr false 1 ((([]) ++ a0.Timers).map eS))), (2, some (true, .box [(.lf false (.sc (.int .i64 a0.Status))), (.lf false (.sc (.int .i64 a0.Next))), (.lf false (.sc (.bool a0.Cancel))), (.lf false (.sc (.int .i64 a0.Done))), (.os 0 1 0 ((([]) ++ a0.Signals).length) ((([]) ++ a0.Signals).length) false), (.os 1 1 0 ((([]) ++ a0.Timers).length) ((([]) ++ a0.Timers).length) false)]))], 3, 14⟩ [some 3, some 5, some 1]
theorem w_spec_l12At {a0 : (List ByteArray)} {a1 : ByteArray} {r : Int} (h : spec_l12At a0 a1 = some r) : Fn Tryz.prog 95 [(.lf true (.sl (a0.map eS))), (.lf false (.sc (.string a1)))] [] 0 (.lf false (.sc (.int .i64 r))) [] 0 := by
  unfold spec_l12At at h
  refine fn_code tab_ok mixed [(1000, [(0, 0), (1, 0)]), (1001, [(1, 0), (7, 0), (8, 0), (9, 0)]), (1002, [(1, 0), (7, 0), (8, 0), (9, 0), (10, 0)]), (1003, [(1, 0), (5, 0), (6, 0), (7, 0), (8, 0), (9, 0)]), (1004, [(1, 0), (5, 0), (7, 0), (8, 0), (9, 0), (16, 0)]), (1005, [(4, 0)]), (1006, [(1, 0), (7, 0), (8, 0), (9, 0)]), (1007, [(4, 0)])] Tryz.func95 rfl rfl (by simp [Tryz.f95]) (by kernel_rfl) ?_
  simp only [Tryz.f95]
  refine sA ?_
  obtain ⟨y58, hl1, h⟩ := bind_ok h
  refine W_loopP (fun g57 : spec_l12At_G1 => ⟨[(1, (.lf false (.sc (.string a1)))), (7, (.lf true (.sl (a0.map eS)))), (8, (.lf false (.sc (.int .i64 ((a0.length : Nat) : Int))))), (9, (.lf false (.sc (.int .i64 g57.t9))))], [], 0, 19⟩) (spec_l12At_L1 a0 a1) _ _ hl1 (weakA []) ?_
  · intro n1 g57 z1 hs1 hk1
    unfold spec_l12At_L1 at hs1
    try dsimp only at hs1
    refine sA ?_
    refine Bs_if hs1 (fun hs1 hc2 => ?_) (fun hs1 hc2 => ?_)
    · try refine sA ?_
      obtain ⟨hp3, hs1⟩ := guard_some hs1
      have hn3 : g57.t9.toNat < a0.length := by first | omega | (simp only [List.length_set, List.length_append, List.length_replicate, List.length_map]; omega)
      try refine sA ?_
      try refine andA ?_
      refine Bs_if hs1 (fun hs1 hc4 => ?_) (fun hs1 hc4 => ?_)
      · try refine sA ?_
        cases hs1
        cases hk1
        try dsimp only at h
        try refine sA ?_
        have he := Option.some.inj h
        subst he
        exact endsA ⟨[(4, (.lf false (.sc (.int .i64 g57.t9))))], [], 0, 19⟩ []
      · try refine sA ?_
        cases hs1
        exact X_backP hk1 (weakA [])
    · try refine sA ?_
      cases hs1
      cases hk1
      try dsimp only at h
      try refine sA ?_
      have he := Option.some.inj h
      subst he
      exact endsA ⟨[(4, (.lf false (.sc (.int .i64 (-1)))))], [], 0, 19⟩ []
theorem w_spec_l12Timer {a0 : (List ByteArray)} {a1 : ByteArray} {r : (List ByteArray)} (h : spec_l12Timer a0 a1 = some r) : Fn Tryz.prog 96 [(.lf true (.sl (a0.map eS))), (.lf false (.sc (.string a1)))] [] 0 (.os 0 1 0 r.length r.length false) [(0, some (true, .arr false 1 (r.map eS)))] 1 := by
  unfold spec_l12Timer at h
  refine fn_code tab_ok mixed [(1000, [(0, 0), (1, 0)]), (1001, [(0, 0), (1, 0), (5, 0)]), (1002, [(0, 0), (1, 0), (5, 0), (6, 0)]), (1003, [(1, 0), (5, 0), (6, 0), (13, 0), (14, 0), (15, 0)]), (1004, [(1, 0), (5, 0), (6, 0), (13, 0), (14, 0), (15, 0), (16, 0)]), (1005, [(1, 0), (5, 0), (6, 0), (8, 0), (13, 0), (14, 0), (15, 0)]), (1006, [(1, 0), (5, 0), (6, 0), (8, 0), (13, 0), (14, 0), (15, 0), (21, 0)]), (1007, [(1, 0), (5, 0), (6, 0), (8, 0), (13, 0), (14, 0), (15, 0), (28, 0)]), (1008, [(1, 0), (5, 0), (8, 0), (13, 0), (14, 0), (15, 0)]), (1009, [(1, 0), (5, 0), (6, 0), (8, 0), (13, 0), (14, 0), (15, 0)]), (1010, [(1, 0), (5, 0), (6, 0), (13, 0), (14, 0), (15, 0)]), (1011, [(1, 0), (5, 0), (6, 0), (13, 0), (14, 0), (15, 0)]), (1012, [(1, 0), (5, 0), (39, 0)]), (1013, [(5, 0)]), (1014, [(4, 0)]), (4007, [])] Tryz.func96 rfl rfl (by simp [Tryz.f96]) (by kernel_rfl) ?_
  simp only [Tryz.f96]
  refine sA ?_
  obtain ⟨c63, hr1, h⟩ := bind_ok h
  refine Cl_sA (w_spec_l12At hr1) ?_
  try refine sA ?_
  obtain ⟨y67, hl2, h⟩ := bind_ok h
  refine W_loopP (fun g64 : spec_l12Timer_G1 => ⟨[(1, (.lf false (.sc (.string a1)))), (5, (.os 0 1 0 g64.c0.length g64.c0.length false)), (6, (.lf false (.sc (.bool g64.t6)))), (13, (.lf true (.sl (a0.map eS)))), (14, (.lf false (.sc (.int .i64 ((a0.length : Nat) : Int))))), (15, (.lf false (.sc (.int .i64 g64.t15))))], [(0, some (true, .arr false 1 (g64.c0.map eS)))], 1, 45⟩) (spec_l12Timer_L1 a0 a1) _ _ hl2 (weakA [none]) ?_
  · intro n1 g64 z1 hs1 hk1
    unfold spec_l12Timer_L1 at hs1
    try dsimp only at hs1
    refine sA ?_
    refine Bs_if hs1 (fun hs1 hc3 => ?_) (fun hs1 hc3 => ?_)
    · try refine sA ?_
      obtain ⟨hp4, hs1⟩ := guard_some hs1
      have hn4 : g64.t15.toNat < a0.length := by first | omega | (simp only [List.length_set, List.length_append, List.length_replicate, List.length_map]; omega)
      try refine sA ?_
      try refine andA ?_
      refine Bs_if hs1 (fun hs1 hc5 => ?_) (fun hs1 hc5 => ?_)
      · try refine sA ?_
        cases hs1
        exact X_backP hk1 (weakA [some 0])
      · try refine sA ?_
        obtain ⟨p66, hq6, hs1⟩ := bind_ok hs1
        refine Sq_cut (fun s2 => s2 = ⟨[(1, (.lf false (.sc (.string a1)))), (5, (.os 0 1 0 g64.c0.length g64.c0.length false)), (6, (.lf false (.sc (.bool g64.t6)))), (8, (.lf false (.sc (.string (nth a0 g64.t15.toNat))))), (13, (.lf true (.sl (a0.map eS)))), (14, (.lf false (.sc (.int .i64 ((a0.length : Nat) : Int))))), (15, (.lf false (.sc (.int .i64 g64.t15)))), (28, (.lf false (.sc (.bool p66.t28))))], [(0, some (true, .arr false 1 (g64.c0.map eS)))], 1, 45⟩) ?_ ?_
        · try refine sA ?_
          refine Sp_if hq6 (fun hq6 hc7 => ?_) (fun hq6 hc7 => ?_)
          · try refine sA ?_
            cases hq6
            exact X_cut rfl (weakA [some 0])
          · try refine sA ?_
            cases hq6
            exact X_cut rfl (weakA [some 0])
        · intro s2 hJ; subst hJ
          try dsimp only at hs1
          try refine sA ?_
          refine Bs_if hs1 (fun hs1 hc8 => ?_) (fun hs1 hc8 => ?_)
          · try refine sA ?_
            obtain ⟨hp9, hs1⟩ := guard_some hs1
            try refine sA ?_
            try refine andA ?_
            obtain ⟨hp10, hs1⟩ := guard_some hs1
            try refine sA ?_
            try refine andA ?_
            cases hs1
            exact X_backP hk1 (weakA [some 4])
          · try refine sA ?_
            obtain ⟨hp11, hs1⟩ := guard_some hs1
            try refine sA ?_
            try refine andA ?_
            cases hs1
            exact X_backP hk1 (weakA [some 2])
    · try refine sA ?_
      cases hs1
      cases hk1
      try dsimp only at h
      try refine sA ?_
      refine Bs_if h (fun h hc12 => ?_) (fun h hc12 => ?_)
      · try refine sA ?_
        obtain ⟨hp13, h⟩ := guard_some h
        try refine sA ?_
        try refine andA ?_
        have he := Option.some.inj h
        subst he
        exact endsA ⟨[(4, (.os 0 1 0 ((g64.c0 ++ ([a1])).length) ((g64.c0 ++ ([a1])).length) false))], [(0, some (true, .arr false 1 ((g64.c0 ++ ([a1])).map eS)))], 1, 45⟩ [some 2]
      · try refine sA ?_
        have he := Option.some.inj h
        subst he
        exact endsA ⟨[(4, (.os 0 1 0 g64.c0.length g64.c0.length false))], [(0, some (true, .arr false 1 (g64.c0.map eS)))], 1, 45⟩ [some 0]
theorem w_spec_l12Names {a0 : (List ByteArray)} {a1 : Bool} {r : Bool} (h : spec_l12Names a0 a1 = some r) : Fn Tryz.prog 103 [(.lf true (.sl (a0.map eS))), (.lf false (.sc (.bool a1)))] [] 0 (.lf false (.sc (.bool r))) [] 0 := by
  unfold spec_l12Names at h
  refine fn_code tab_ok mixed [(1000, [(0, 0), (1, 0)]), (1001, [(0, 0), (1, 0), (9, 0), (10, 0), (11, 0)]), (1002, [(0, 0), (1, 0), (9, 0), (10, 0), (11, 0), (12, 0)]), (1003, [(0, 0), (1, 0), (5, 0), (6, 0), (9, 0), (10, 0), (11, 0)]), (1004, [(0, 0), (1, 0), (5, 0), (6, 0), (9, 0), (10, 0), (11, 0), (18, 0)]), (1005, [(4, 0)]), (1006, [(0, 0), (1, 0), (5, 0), (6, 0), (9, 0), (10, 0), (11, 0), (21, 0), (22, 0), (23, 0)]), (1007, [(0, 0), (1, 0), (5, 0), (6, 0), (9, 0), (10, 0), (11, 0), (21, 0), (22, 0), (23, 0), (24, 0)]), (1008, [(0, 0), (1, 0), (5, 0), (6, 0), (7, 0), (8, 0), (9, 0), (10, 0), (11, 0), (21, 0), (22, 0), (23, 0)]), (1009, [(0, 0), (1, 0), (5, 0), (6, 0), (9, 0), (10, 0), (11, 0), (21, 0), (22, 0), (23, 0), (44, 0)]), (1010, [(4, 0)]), (1011, [(0, 0), (1, 0), (5, 0), (6, 0), (9, 0), (10, 0), (11, 0), (21, 0), (22, 0), (23, 0)]), (1012, [(0, 0), (1, 0), (9, 0), (10, 0), (11, 0)]), (1013, [(4, 0)]), (4009, [])] Tryz.func103 rfl rfl (by simp [Tryz.f103]) (by kernel_rfl) ?_
  simp only [Tryz.f103]
  refine sA ?_
  obtain ⟨y87, hl1, h⟩ := bind_ok h
  refine W_loopP (fun g72 : spec_l12Names_G1 => ⟨[(0, (.lf true (.sl (a0.map eS)))), (1, (.lf false (.sc (.bool a1)))), (9, (.lf true (.sl (a0.map eS)))), (10, (.lf false (.sc (.int .i64 ((a0.length : Nat) : Int))))), (11, (.lf false (.sc (.int .i64 g72.t11))))], [], 0, 50⟩) (spec_l12Names_L1 a0 a1) _ _ hl1 (weakA []) ?_
  · intro n1 g72 z1 hs1 hk1
    unfold spec_l12Names_L1 at hs1
    try dsimp only at hs1
    refine sA ?_
    refine Bs_if hs1 (fun hs1 hc2 => ?_) (fun hs1 hc2 => ?_)
    · try refine sA ?_
      obtain ⟨hp3, hs1⟩ := guard_some hs1
      have hn3 : g72.t11.toNat < a0.length := by first | omega | (simp only [List.length_set, List.length_append, List.length_replicate, List.length_map]; omega)
      try refine sA ?_
      try refine andA ?_
      obtain ⟨c80, hr4, hs1⟩ := bind_ok hs1
      refine Cl_sA (w_spec_l1Name hr4) ?_
      try refine sA ?_
      refine Bs_if hs1 (fun hs1 hc5 => ?_) (fun hs1 hc5 => ?_)
      · try refine sA ?_
        cases hs1
        cases hk1
        try dsimp only at h
        try refine sA ?_
        have he := Option.some.inj h
        subst he
        exact endsA ⟨[(4, (.lf false (.sc (.bool false))))], [], 0, 50⟩ []
      · try refine sA ?_
        obtain ⟨hp6, hs1⟩ := guard_some hs1
        try refine sA ?_
        try refine andA ?_
        obtain ⟨y84, hl7, hs1⟩ := bind_ok hs1
        refine W_loopP (fun g81 : spec_l12Names_G2 => ⟨[(0, (.lf true (.sl (a0.map eS)))), (1, (.lf false (.sc (.bool a1)))), (5, (.lf false (.sc (.int .i64 g72.t11)))), (6, (.lf false (.sc (.string (nth a0 g72.t11.toNat))))), (9, (.lf true (.sl (a0.map eS)))), (10, (.lf false (.sc (.int .i64 ((a0.length : Nat) : Int))))), (11, (.lf false (.sc (.int .i64 g72.t11)))), (21, (.lf true (.sl ((a0.take g72.t11.toNat).map eS)))), (22, (.lf false (.sc (.int .i64 (((a0.take g72.t11.toNat).length : Nat) : Int))))), (23, (.lf false (.sc (.int .i64 g81.t23))))], [], 0, 50⟩) (spec_l12Names_L2 a0 g72 a1) _ _ hl7 (weakA []) ?_
        · intro n2 g81 z2 hs2 hk2
          unfold spec_l12Names_L2 at hs2
          try dsimp only at hs2
          refine sA ?_
          refine Bs_if hs2 (fun hs2 hc8 => ?_) (fun hs2 hc8 => ?_)
          · try refine sA ?_
            obtain ⟨hp9, hs2⟩ := guard_some hs2
            have hn9 : g81.t23.toNat < (a0.take g72.t11.toNat).length := by first | omega | (simp only [List.length_set, List.length_append, List.length_replicate, List.length_map]; omega)
            try refine sA ?_
            try refine andA ?_
            obtain ⟨p83, hq10, hs2⟩ := bind_ok hs2
            refine Sq_cut (fun s2 => s2 = ⟨[(0, (.lf true (.sl (a0.map eS)))), (1, (.lf false (.sc (.bool a1)))), (5, (.lf false (.sc (.int .i64 g72.t11)))), (6, (.lf false (.sc (.string (nth a0 g72.t11.toNat))))), (9, (.lf true (.sl (a0.map eS)))), (10, (.lf false (.sc (.int .i64 ((a0.length : Nat) : Int))))), (11, (.lf false (.sc (.int .i64 g72.t11)))), (21, (.lf true (.sl ((a0.take g72.t11.toNat).map eS)))), (22, (.lf false (.sc (.int .i64 (((a0.take g72.t11.toNat).length : Nat) : Int))))), (23, (.lf false (.sc (.int .i64 g81.t23)))), (44, (.lf false (.sc (.bool p83.t44))))], [], 0, 50⟩) ?_ ?_
            · try refine sA ?_
              refine Sp_if hq10 (fun hq10 hc11 => ?_) (fun hq10 hc11 => ?_)
              · try refine sA ?_
                cases hq10
                exact X_cut rfl (weakA [])
              · try refine sA ?_
                refine Sp_if hq10 (fun hq10 hc12 => ?_) (fun hq10 hc12 => ?_)
                · try refine sA ?_
                  refine Sp_if hq10 (fun hq10 hc13 => ?_) (fun hq10 hc13 => ?_)
                  · try refine sA ?_
                    cases hq10
                    exact X_cut rfl (weakA [])
                  · try refine sA ?_
                    cases hq10
                    exact X_cut rfl (weakA [])
                · try refine sA ?_
                  cases hq10
                  exact X_cut rfl (weakA [])
            · intro s2 hJ; subst hJ
              try dsimp only at hs2
              try refine sA ?_
              refine Bs_if hs2 (fun hs2 hc14 => ?_) (fun hs2 hc14 => ?_)
              · try refine sA ?_
                cases hs2
                cases hk2
                try dsimp only at hs1
                try refine sA ?_
                cases hs1
                cases hk1
                try dsimp only at h
                try refine sA ?_
                have he := Option.some.inj h
                subst he
                exact endsA ⟨[(4, (.lf false (.sc (.bool false))))], [], 0, 50⟩ []
              · try refine sA ?_
                cases hs2
                exact X_backP hk2 (weakA [])
          · try refine sA ?_
            cases hs2
            cases hk2
            try dsimp only at hs1
            try refine sA ?_
            cases hs1
            exact X_backP hk1 (weakA [])
    · try refine sA ?_
      cases hs1
      cases hk1
      try dsimp only at h
      try refine sA ?_
      have he := Option.some.inj h
      subst he
      exact endsA ⟨[(4, (.lf false (.sc (.bool (decide (((a0.length : Nat) : Int) ≤ 30))))))], [], 0, 50⟩ []
theorem w_spec_GoodState {a0 : StateT} {r : Bool} (h : spec_GoodState a0 = some r) : Fn Tryz.prog 97 [(.ag [(.lf false (.sc (.int .i64 a0.Status))), (.lf false (.sc (.int .i64 a0.Next))), (.lf false (.sc (.bool a0.Cancel))), (.lf false (.sc (.int .i64 a0.Done))), (.lf true (.sl (a0.Signals.map eS))), (.lf true (.sl (a0.Timers.map eS)))])] [] 0 (.lf false (.sc (.bool r))) [] 0 := by
  unfold spec_GoodState at h
  refine fn_code tab_ok mixed [(1000, [(1, 0)]), (1001, [(1, 0), (30, 0)]), (1002, [(2, 0)]), (1003, [(1, 0), (33, 0)]), (1004, [(2, 0)]), (1005, [(2, 0)]), (4001, [])] Tryz.func97 rfl rfl (by simp [Tryz.f97]) (by kernel_rfl) ?_
  simp only [Tryz.f97]
  refine sA ?_
  obtain ⟨p93, hq1, h⟩ := bind_ok h
  refine Sq_cut (fun s2 => s2 = ⟨[(1, (.pb 0 0)), (30, (.lf false (.sc (.bool p93.t30))))], [(0, some (true, .box [(.lf false (.sc (.int .i64 a0.Status))), (.lf false (.sc (.int .i64 a0.Next))), (.lf false (.sc (.bool a0.Cancel))), (.lf false (.sc (.int .i64 a0.Done))), (.lf true (.sl (a0.Signals.map eS))), (.lf true (.sl (a0.Timers.map eS)))]))], 1, 62⟩) ?_ ?_
  · try refine sA ?_
    obtain ⟨c70, hr2, hq1⟩ := bind_ok hq1
    refine Cl_sA (w_spec_l1In hr2) ?_
    try refine sA ?_
    refine Sp_if hq1 (fun hq1 hc3 => ?_) (fun hq1 hc3 => ?_)
    · try refine sA ?_
      cases hq1
      exact X_cut rfl (weakA [some 0])
    · try refine sA ?_
      obtain ⟨c71, hr4, hq1⟩ := bind_ok hq1
      refine Cl_sA (w_spec_l1In hr4) ?_
      try refine sA ?_
      refine Sp_if hq1 (fun hq1 hc5 => ?_) (fun hq1 hc5 => ?_)
      · try refine sA ?_
        cases hq1
        exact X_cut rfl (weakA [some 0])
      · try refine sA ?_
        obtain ⟨c90, hr6, hq1⟩ := bind_ok hq1
        refine Cl_sA (w_spec_l12Names hr6) ?_
        try refine sA ?_
        refine Sp_if hq1 (fun hq1 hc7 => ?_) (fun hq1 hc7 => ?_)
        · try refine sA ?_
          cases hq1
          exact X_cut rfl (weakA [some 0])
        · try refine sA ?_
          obtain ⟨c91, hr8, hq1⟩ := bind_ok hq1
          refine Cl_sA (w_spec_l12Names hr8) ?_
          try refine sA ?_
          refine Sp_if hq1 (fun hq1 hc9 => ?_) (fun hq1 hc9 => ?_)
          · try refine sA ?_
            cases hq1
            exact X_cut rfl (weakA [some 0])
          · try refine sA ?_
            obtain ⟨c92, hr10, hq1⟩ := bind_ok hq1
            refine Cl_sA (w_spec_l1In hr10) ?_
            try refine sA ?_
            cases hq1
            exact X_cut rfl (weakA [some 0])
  · intro s2 hJ; subst hJ
    try dsimp only at h
    try refine sA ?_
    refine Bs_if h (fun h hc11 => ?_) (fun h hc11 => ?_)
    · try refine sA ?_
      have he := Option.some.inj h
      subst he
      exact endsA ⟨[(2, (.lf false (.sc (.bool false))))], [], 0, 62⟩ []
    · try refine sA ?_
      refine Bs_if h (fun h hc12 => ?_) (fun h hc12 => ?_)
      · try refine sA ?_
        refine Sp_if h (fun h hc13 => ?_) (fun h hc13 => ?_)
        · try refine sA ?_
          refine Sp_if h (fun h hc14 => ?_) (fun h hc14 => ?_)
          · try refine sA ?_
            refine Sp_if h (fun h hc15 => ?_) (fun h hc15 => ?_)
            · try refine sA ?_
              refine Sp_if h (fun h hc16 => ?_) (fun h hc16 => ?_)
              · try refine sA ?_
                have he := Option.some.inj h
                subst he
                exact endsA ⟨[(2, (.lf false (.sc (.bool (((a0.Timers.length : Nat) : Int) == 0)))))], [], 0, 62⟩ []
              · try refine sA ?_
                have he := Option.some.inj h
                subst he
                exact endsA ⟨[(2, (.lf false (.sc (.bool false))))], [], 0, 62⟩ []
            · try refine sA ?_
              have he := Option.some.inj h
              subst he
              exact endsA ⟨[(2, (.lf false (.sc (.bool false))))], [], 0, 62⟩ []
          · try refine sA ?_
            have he := Option.some.inj h
            subst he
            exact endsA ⟨[(2, (.lf false (.sc (.bool false))))], [], 0, 62⟩ []
        · try refine sA ?_
          have he := Option.some.inj h
          subst he
          exact endsA ⟨[(2, (.lf false (.sc (.bool false))))], [], 0, 62⟩ []
      · try refine sA ?_
        have he := Option.some.inj h
        subst he
        exact endsA ⟨[(2, (.lf false (.sc (.bool (decide (a0.Next > 1))))))], [], 0, 62⟩ []
theorem w_spec_l12Apply {a0 : StateT} {a1 : EventT} {r : (StateT × Bool)} (h : spec_l12Apply a0 a1 = some r) : Fn Tryz.prog 86 [(.ag [(.lf false (.sc (.int .i64 a0.Status))), (.lf false (.sc (.int .i64 a0.Next))), (.lf false (.sc (.bool a0.Cancel))), (.lf false (.sc (.int .i64 a0.Done))), (.lf true (.sl (a0.Signals.map eS))), (.lf true (.sl (a0.Timers.map eS)))]), (.ag [(.lf false (.sc (.int .i64 a1.Id))), (.lf false (.sc (.int .i64 a1.Version))), (.lf false (.sc (.int .i64 a1.Kind))), (.lf false (.sc (.string a1.Name)))])] [] 0 (.tu [(.ag [(.lf false (.sc (.int .i64 r.1.Status))), (.lf false (.sc (.int .i64 r.1.Next))), (.lf false (.sc (.bool r.1.Cancel))), (.lf false (.sc (.int .i64 r.1.Done))), (.lf true (.sl (r.1.Signals.map eS))), (.lf true (.sl (r.1.Timers.map eS)))]), (.lf false (.sc (.bool r.2)))]) [] 1 := by
  unfold spec_l12Apply at h
  refine fn_code tab_ok mixed [(22, [(0, 2)]), (1000, [(2, 0), (3, 0), (4, 0)]), (1001, [(2, 0), (3, 0), (4, 0), (29, 0)]), (1002, [(4, 0), (5, 0)]), (1003, [(2, 0), (3, 0), (4, 0)]), (1004, [(2, 0), (3, 0), (4, 0), (34, 0)]), (1005, [(2, 0), (4, 0)]), (1006, [(2, 0), (4, 0)]), (1007, [(2, 0), (3, 0), (4, 0), (34, 0), (37, 0)]), (1008, [(2, 0), (4, 0)]), (1009, [(2, 0), (3, 0), (4, 0), (34, 0), (40, 0)]), (1010, [(2, 0), (3, 0), (4, 0), (53, 0)]), (1011, [(4, 0), (5, 0)]), (1012, [(2, 0), (4, 0)]), (1013, [(2, 0), (3, 0), (4, 0), (34, 0), (62, 0)]), (1014, [(2, 0), (4, 0)]), (1015, [(2, 0), (3, 0), (4, 0), (34, 0), (68, 0)]), (1016, [(2, 0), (4, 0)]), (1017, [(2, 0), (4, 0), (76, 0)]), (1018, [(2, 0), (4, 0), (79, 0)]), (1019, [(4, 0), (5, 0)]), (1020, [(2, 0), (4, 0)]), (1021, [(2, 0), (4, 0)]), (1022, [(4, 0), (5, 0)]), (3000, []), (4001, []), (4010, [])] Tryz.func86 rfl rfl (by simp [Tryz.f86]) (by kernel_rfl) ?_
  simp only [Tryz.f86]
  refine sA ?_
  obtain ⟨p55, hq1, h⟩ := bind_ok h
  refine Sq_cut (fun s2 => s2 = ⟨[(2, (.pb 0 0)), (3, (.pb 1 0)), (4, (.pb 2 0)), (29, (.lf false (.sc (.bool p55.t29))))], [(0, some (true, .box [(.lf false (.sc (.int .i64 a0.Status))), (.lf false (.sc (.int .i64 a0.Next))), (.lf false (.sc (.bool a0.Cancel))), (.lf false (.sc (.int .i64 a0.Done))), (.lf true (.sl (a0.Signals.map eS))), (.lf true (.sl (a0.Timers.map eS)))])), (1, some (true, .box [(.lf false (.sc (.int .i64 a1.Id))), (.lf false (.sc (.int .i64 a1.Version))), (.lf false (.sc (.int .i64 a1.Kind))), (.lf false (.sc (.string a1.Name)))])), (2, some (true, .box [(.lf false (.sc (.int .i64 0))), (.lf false (.sc (.int .i64 0))), (.lf false (.sc (.bool false))), (.lf false (.sc (.int .i64 0))), .nl, .nl]))], 3, 89⟩) ?_ ?_
  · try refine sA ?_
    obtain ⟨c54, hr2, hq1⟩ := bind_ok hq1
    refine Cl_sA (w_spec_GoodEvent hr2) ?_
    try refine sA ?_
    refine Sp_if hq1 (fun hq1 hc3 => ?_) (fun hq1 hc3 => ?_)
    · try refine sA ?_
      cases hq1
      exact X_cut rfl (weakA [some 0, some 1, some 2])
    · try refine sA ?_
      refine Sp_if hq1 (fun hq1 hc4 => ?_) (fun hq1 hc4 => ?_)
      · try refine sA ?_
        cases hq1
        exact X_cut rfl (weakA [some 0, some 1, some 2])
      · try refine sA ?_
        refine Sp_if hq1 (fun hq1 hc5 => ?_) (fun hq1 hc5 => ?_)
        · try refine sA ?_
          cases hq1
          exact X_cut rfl (weakA [some 0, some 1, some 2])
        · try refine sA ?_
          cases hq1
          exact X_cut rfl (weakA [some 0, some 1, some 2])
  · intro s2 hJ; subst hJ
    try dsimp only at h
    try refine sA ?_
    refine Bs_if h (fun h hc6 => ?_) (fun h hc6 => ?_)
    · try refine sA ?_
      have he := Option.some.inj h
      subst he
      exact endsA ⟨[(4, (.pb 0 0)), (5, (.lf false (.sc (.bool false))))], [(0, some (true, .box [(.lf false (.sc (.int .i64 a0.Status))), (.lf false (.sc (.int .i64 a0.Next))), (.lf false (.sc (.bool a0.Cancel))), (.lf false (.sc (.int .i64 a0.Done))), (.lf true (.sl (a0.Signals.map eS))), (.lf true (.sl (a0.Timers.map eS)))]))], 1, 89⟩ [some 2]
    · try refine sA ?_
      obtain ⟨c56, hr7, h⟩ := bind_ok h
      refine Cl_sA (w_spec_l12Own hr7) ?_
      try refine sA ?_
      obtain ⟨q8, hq8, h⟩ := bind_ok h
      refine Sq_cut (fun s2 => ∃ p69 : spec_l12Apply_J3000, q8 = .inl p69 ∧ s2 = ⟨[(2, (.pb 0 0)), (4, (.pb 1 0))], [(0, some (true, .box [(.lf false (.sc (.int .i64 p69.b0_0))), (.lf false (.sc (.int .i64 c56.Next))), (.lf false (.sc (.bool p69.b0_2))), (.lf false (.sc (.int .i64 p69.b0_3))), (.os 2 1 0 p69.c2.length p69.c2.length false), (.os 3 1 0 p69.c3.length p69.c3.length false)])), (1, some (true, .box [(.lf false (.sc (.int .i64 0))), (.lf false (.sc (.int .i64 0))), (.lf false (.sc (.bool false))), (.lf false (.sc (.int .i64 0))), .nl, .nl])), (2, some (true, .arr false 1 (p69.c2.map eS))), (3, some (true, .arr false 1 (p69.c3.map eS)))], 4, 89⟩) ?_ ?_
      · try refine sA ?_
        refine Bs_if hq8 (fun hq8 hc9 => ?_) (fun hq8 hc9 => ?_)
        · try refine sA ?_
          cases hq8
          exact X_cut ⟨_, rfl, rfl⟩ (weakA [some 0, some 2, some 3, some 4])
        · try refine sA ?_
          refine Bs_if hq8 (fun hq8 hc10 => ?_) (fun hq8 hc10 => ?_)
          · try refine sA ?_
            obtain ⟨p62, hq11, hq8⟩ := bind_ok hq8
            refine Sq_cut (fun s2 => s2 = ⟨[(2, (.pb 0 0)), (3, (.pb 1 0)), (4, (.pb 2 0)), (53, (.lf false (.sc (.bool p62.t53))))], [(0, some (true, .box [(.lf false (.sc (.int .i64 c56.Status))), (.lf false (.sc (.int .i64 c56.Next))), (.lf false (.sc (.bool c56.Cancel))), (.lf false (.sc (.int .i64 c56.Done))), (.os 3 1 0 c56.Signals.length c56.Signals.length false), (.os 4 1 0 c56.Timers.length c56.Timers.length false)])), (1, some (true, .box [(.lf false (.sc (.int .i64 a1.Id))), (.lf false (.sc (.int .i64 a1.Version))), (.lf false (.sc (.int .i64 a1.Kind))), (.lf false (.sc (.string a1.Name)))])), (2, some (true, .box [(.lf false (.sc (.int .i64 0))), (.lf false (.sc (.int .i64 0))), (.lf false (.sc (.bool false))), (.lf false (.sc (.int .i64 0))), .nl, .nl])), (3, some (true, .arr false 1 (c56.Signals.map eS))), (4, some (true, .arr false 1 (c56.Timers.map eS)))], 5, 89⟩) ?_ ?_
            · try refine sA ?_
              obtain ⟨c61, hr12, hq11⟩ := bind_ok hq11
              refine Cl_sA (w_spec_l12At hr12) ?_
              try refine sA ?_
              refine Sp_if hq11 (fun hq11 hc13 => ?_) (fun hq11 hc13 => ?_)
              · try refine sA ?_
                cases hq11
                exact X_cut rfl (weakA [some 0, some 1, some 2, some 3, some 4])
              · try refine sA ?_
                cases hq11
                exact X_cut rfl (weakA [some 0, some 1, some 2, some 3, some 4])
            · intro s2 hJ; subst hJ
              try dsimp only at hq8
              try refine sA ?_
              refine Bs_if hq8 (fun hq8 hc14 => ?_) (fun hq8 hc14 => ?_)
              · try refine sA ?_
                cases hq8
                try dsimp only at h
                have he := Option.some.inj h
                subst he
                refine ends_frz 3 ?_
                refine ends_frz 4 ?_
                try refine sA ?_
                exact endsA ⟨[(4, (.pb 0 0)), (5, (.lf false (.sc (.bool false))))], [(0, some (true, .box [(.lf false (.sc (.int .i64 c56.Status))), (.lf false (.sc (.int .i64 c56.Next))), (.lf false (.sc (.bool c56.Cancel))), (.lf false (.sc (.int .i64 c56.Done))), (.lf true (.sl (c56.Signals.map eS))), (.lf true (.sl (c56.Timers.map eS)))]))], 1, 89⟩ [some 2]
              · try refine sA ?_
                obtain ⟨hp15, hq8⟩ := guard_some hq8
                try refine sA ?_
                try refine andA ?_
                cases hq8
                exact X_cut ⟨_, rfl, rfl⟩ (weakA [some 0, some 2, some 6, some 4])
          · try refine sA ?_
            refine Bs_if hq8 (fun hq8 hc16 => ?_) (fun hq8 hc16 => ?_)
            · try refine sA ?_
              cases hq8
              exact X_cut ⟨_, rfl, rfl⟩ (weakA [some 0, some 2, some 3, some 4])
            · try refine sA ?_
              refine Bs_if hq8 (fun hq8 hc17 => ?_) (fun hq8 hc17 => ?_)
              · try refine sA ?_
                obtain ⟨c68, hr18, hq8⟩ := bind_ok hq8
                refine Cl_sA (w_spec_l12Timer hr18) ?_
                try refine sA ?_
                cases hq8
                exact X_cut ⟨_, rfl, rfl⟩ (weakA [some 0, some 2, some 3, some 6])
              · try refine sA ?_
                refine Bs_if hq8 (fun hq8 hc19 => ?_) (fun hq8 hc19 => ?_)
                · try refine sA ?_
                  refine Bs_if hq8 (fun hq8 hc20 => ?_) (fun hq8 hc20 => ?_)
                  · try refine sA ?_
                    cases hq8
                    try dsimp only at h
                    have he := Option.some.inj h
                    subst he
                    refine ends_frz 3 ?_
                    refine ends_frz 4 ?_
                    try refine sA ?_
                    exact endsA ⟨[(4, (.pb 0 0)), (5, (.lf false (.sc (.bool false))))], [(0, some (true, .box [(.lf false (.sc (.int .i64 c56.Status))), (.lf false (.sc (.int .i64 c56.Next))), (.lf false (.sc (.bool c56.Cancel))), (.lf false (.sc (.int .i64 c56.Done))), (.lf true (.sl (c56.Signals.map eS))), (.lf true (.sl (c56.Timers.map eS)))]))], 1, 89⟩ [some 2]
                  · try refine sA ?_
                    cases hq8
                    exact X_cut ⟨_, rfl, rfl⟩ (weakA [some 0, some 2, some 3, some 4])
                · try refine sA ?_
                  cases hq8
                  exact X_cut ⟨_, rfl, rfl⟩ (weakA [some 0, some 2, some 3, none])
      · intro s2 hJ; obtain ⟨p69, e, rfl⟩ := hJ; subst e
        try dsimp only at h
        try refine sA ?_
        obtain ⟨c94, hr21, h⟩ := bind_ok h
        refine Cl_sA (w_spec_GoodState hr21) ?_
        try refine sA ?_
        have he := Option.some.inj h
        subst he
        refine ends_frz 2 ?_
        refine ends_frz 3 ?_
        try refine sA ?_
        exact endsA ⟨[(4, (.pb 0 0)), (5, (.lf false (.sc (.bool c94))))], [(0, some (true, .box [(.lf false (.sc (.int .i64 p69.b0_0))), (.lf false (.sc (.int .i64 (wI (c56.Next + 1))))), (.lf false (.sc (.bool p69.b0_2))), (.lf false (.sc (.int .i64 p69.b0_3))), (.lf true (.sl (p69.c2.map eS))), (.lf true (.sl (p69.c3.map eS)))]))], 1, 89⟩ [some 1]
theorem w_spec_l12Fold {a0 : (List EventT)} {r : (StateT × Int)} (h : spec_l12Fold a0 = some r) : Fn Tryz.prog 78 [(.lf true (.sl (a0.map eEvent)))] [] 0 (.tu [(.ag [(.lf false (.sc (.int .i64 r.1.Status))), (.lf false (.sc (.int .i64 r.1.Next))), (.lf false (.sc (.bool r.1.Cancel))), (.lf false (.sc (.int .i64 r.1.Done))), (.lf true (.sl (r.1.Signals.map eS))), (.lf true (.sl (r.1.Timers.map eS)))]), (.lf false (.sc (.int .i64 r.2)))]) [] 1 := by
  unfold spec_l12Fold at h
  refine fn_code tab_ok mixed [(1000, [(0, 0), (2, 0)]), (1001, [(0, 0), (2, 0), (4, 0)]), (1002, [(0, 0), (2, 0), (4, 0), (10, 0), (11, 0), (12, 0)]), (1003, [(0, 0), (2, 0), (4, 0), (10, 0), (11, 0), (12, 0), (13, 0)]), (1004, [(0, 0), (2, 0), (4, 0), (5, 0), (6, 0), (10, 0), (11, 0), (12, 0)]), (1005, [(0, 0), (2, 0), (4, 0), (5, 0), (7, 0), (8, 0), (10, 0), (11, 0), (12, 0)]), (1006, [(0, 0), (2, 0), (4, 0), (5, 0), (7, 0), (10, 0), (11, 0), (12, 0), (24, 0)]), (1007, [(2, 0), (3, 0)]), (1008, [(0, 0), (2, 0), (4, 0), (10, 0), (11, 0), (12, 0)]), (1009, [(0, 0), (2, 0), (4, 0), (10, 0), (11, 0), (12, 0)]), (1010, [(2, 0), (3, 0)])] Tryz.func78 rfl rfl (by simp [Tryz.f78]) (by kernel_rfl) ?_
  simp only [Tryz.f78]
  refine sA ?_
  obtain ⟨c42, hr1, h⟩ := bind_ok h
  refine Cl_sA (w_spec_NewState hr1) ?_
  try refine sA ?_
  obtain ⟨y97, hl2, h⟩ := bind_ok h
  refine W_loopP (fun g43 : spec_l12Fold_G1 => ⟨[(0, (.lf true (.sl (a0.map eEvent)))), (2, (.pb 0 0)), (4, (.pb 1 0)), (10, (.lf true (.sl (a0.map eEvent)))), (11, (.lf false (.sc (.int .i64 ((a0.length : Nat) : Int))))), (12, (.lf false (.sc (.int .i64 g43.t12))))], [(0, some (true, .box [(.lf false (.sc (.int .i64 0))), (.lf false (.sc (.int .i64 0))), (.lf false (.sc (.bool false))), (.lf false (.sc (.int .i64 0))), .nl, .nl])), (1, some (true, .box [(.lf false (.sc (.int .i64 g43.b1_0))), (.lf false (.sc (.int .i64 g43.b1_1))), (.lf false (.sc (.bool g43.b1_2))), (.lf false (.sc (.int .i64 g43.b1_3))), (.lf true (.sl (g43.b1_4.map eS))), (.lf true (.sl (g43.b1_5.map eS)))]))], 2, 32⟩) (spec_l12Fold_L1 a0) _ _ hl2 (weakA [some 0, some 2]) ?_
  · intro n1 g43 z1 hs1 hk1
    unfold spec_l12Fold_L1 at hs1
    try dsimp only at hs1
    refine sA ?_
    refine Bs_if hs1 (fun hs1 hc3 => ?_) (fun hs1 hc3 => ?_)
    · try refine sA ?_
      obtain ⟨hp4, hs1⟩ := guard_some hs1
      have hn4 : g43.t12.toNat < a0.length := by first | omega | (simp only [List.length_set, List.length_append, List.length_replicate, List.length_map]; omega)
      try refine sA ?_
      try refine andA ?_
      obtain ⟨c96, hr5, hs1⟩ := bind_ok hs1
      refine Cl_sA (w_spec_l12Apply hr5) ?_
      try refine sA ?_
      refine Bs_if hs1 (fun hs1 hc6 => ?_) (fun hs1 hc6 => ?_)
      · try refine sA ?_
        cases hs1
        cases hk1
        try dsimp only at h
        try refine sA ?_
        have he := Option.some.inj h
        subst he
        exact endsA ⟨[(2, (.pb 0 0)), (3, (.lf false (.sc (.int .i64 g43.t12))))], [(0, some (true, .box [(.lf false (.sc (.int .i64 g43.b1_0))), (.lf false (.sc (.int .i64 g43.b1_1))), (.lf false (.sc (.bool g43.b1_2))), (.lf false (.sc (.int .i64 g43.b1_3))), (.lf true (.sl (g43.b1_4.map eS))), (.lf true (.sl (g43.b1_5.map eS)))]))], 1, 32⟩ [some 0]
      · try refine sA ?_
        cases hs1
        exact X_backP hk1 (weakA [some 0, some 1])
    · try refine sA ?_
      cases hs1
      cases hk1
      try dsimp only at h
      try refine sA ?_
      have he := Option.some.inj h
      subst he
      exact endsA ⟨[(2, (.pb 0 0)), (3, (.lf false (.sc (.int .i64 ((a0.length : Nat) : Int)))))], [(0, some (true, .box [(.lf false (.sc (.int .i64 g43.b1_0))), (.lf false (.sc (.int .i64 g43.b1_1))), (.lf false (.sc (.bool g43.b1_2))), (.lf false (.sc (.int .i64 g43.b1_3))), (.lf true (.sl (g43.b1_4.map eS))), (.lf true (.sl (g43.b1_5.map eS)))]))], 1, 32⟩ [some 0]
theorem w_spec_IsHistory {a0 : (List EventT)} {r : Bool} (h : spec_IsHistory a0 = some r) : Fn Tryz.prog 62 [(.lf true (.sl (a0.map eEvent)))] [] 0 (.lf false (.sc (.bool r))) [] 0 := by
  unfold spec_IsHistory at h
  refine fn_code tab_ok mixed [(1000, [(0, 0)]), (1001, [(0, 0), (7, 0), (8, 0)]), (1002, [(0, 0), (7, 0), (8, 0), (9, 0)]), (1003, [(0, 0), (3, 0), (7, 0), (8, 0)]), (1004, [(0, 0), (7, 0), (8, 0), (26, 0)]), (1005, [(2, 0)]), (1006, [(0, 0), (7, 0), (8, 0)]), (1007, [(0, 0), (5, 0)]), (1008, [(2, 0)]), (4004, [])] Tryz.func62 rfl rfl (by simp [Tryz.f62]) (by kernel_rfl) ?_
  simp only [Tryz.f62]
  refine sA ?_
  obtain ⟨y39, hl1, h⟩ := bind_ok h
  refine W_loopP (fun g36 : spec_IsHistory_G1 => ⟨[(0, (.lf true (.sl (a0.map eEvent)))), (7, (.lf false (.sc (.int .i64 ((a0.length : Nat) : Int))))), (8, (.lf false (.sc (.int .i64 g36.t8))))], [], 0, 42⟩) (spec_IsHistory_L1 a0) _ _ hl1 (weakA []) ?_
  · intro n1 g36 z1 hs1 hk1
    unfold spec_IsHistory_L1 at hs1
    try dsimp only at hs1
    refine sA ?_
    refine Bs_if hs1 (fun hs1 hc2 => ?_) (fun hs1 hc2 => ?_)
    · try refine sA ?_
      obtain ⟨p38, hq3, hs1⟩ := bind_ok hs1
      refine Sq_cut (fun s2 => s2 = ⟨[(0, (.lf true (.sl (a0.map eEvent)))), (7, (.lf false (.sc (.int .i64 ((a0.length : Nat) : Int))))), (8, (.lf false (.sc (.int .i64 g36.t8)))), (26, (.lf false (.sc (.bool p38.t26))))], [], 0, 42⟩) ?_ ?_
      · try refine sA ?_
        refine Sp_if hq3 (fun hq3 hc4 => ?_) (fun hq3 hc4 => ?_)
        · try refine sA ?_
          obtain ⟨hp5, hq3⟩ := guard_some hq3
          have hn5 : (wI (g36.t8 - 1)).toNat < a0.length := by first | omega | (simp only [List.length_set, List.length_append, List.length_replicate, List.length_map]; omega)
          try refine sA ?_
          try refine andA ?_
          obtain ⟨hp6, hq3⟩ := guard_some hq3
          have hn6 : g36.t8.toNat < a0.length := by first | omega | (simp only [List.length_set, List.length_append, List.length_replicate, List.length_map]; omega)
          try refine sA ?_
          try refine andA ?_
          cases hq3
          exact X_cut rfl (weakA [])
        · try refine sA ?_
          cases hq3
          exact X_cut rfl (weakA [])
      · intro s2 hJ; subst hJ
        try dsimp only at hs1
        try refine sA ?_
        refine Bs_if hs1 (fun hs1 hc7 => ?_) (fun hs1 hc7 => ?_)
        · try refine sA ?_
          cases hs1
          cases hk1
          try dsimp only at h
          try refine sA ?_
          have he := Option.some.inj h
          subst he
          exact endsA ⟨[(2, (.lf false (.sc (.bool false))))], [], 0, 42⟩ []
        · try refine sA ?_
          cases hs1
          exact X_backP hk1 (weakA [])
    · try refine sA ?_
      cases hs1
      cases hk1
      try dsimp only at h
      try refine sA ?_
      obtain ⟨c101, hr8, h⟩ := bind_ok h
      refine Cl_sA (w_spec_l12Fold hr8) ?_
      try refine sA ?_
      refine Sp_if h (fun h hc9 => ?_) (fun h hc9 => ?_)
      · try refine sA ?_
        have he := Option.some.inj h
        subst he
        exact endsA ⟨[(2, (.lf false (.sc (.bool (decide (((a0.length : Nat) : Int) ≤ 60))))))], [], 0, 42⟩ []
      · try refine sA ?_
        have he := Option.some.inj h
        subst he
        exact endsA ⟨[(2, (.lf false (.sc (.bool false))))], [], 0, 42⟩ []
theorem w_spec_l15History {a0 : (List EventT)} {r : Bool} (h : spec_l15History a0 = some r) : Fn Tryz.prog 43 [(.lf true (.sl (a0.map eEvent)))] [] 0 (.lf false (.sc (.bool r))) [] 0 := by
  unfold spec_l15History at h
  refine fn_code tab_ok mixed [] Tryz.func43 rfl rfl (by simp [Tryz.f43]) (by kernel_rfl) ?_
  simp only [Tryz.f43]
  refine sA ?_
  refine Sp_if h (fun h hc1 => ?_) (fun h hc1 => ?_)
  · try refine sA ?_
    obtain ⟨c102, hr2, h⟩ := bind_ok h
    refine Cl_sA (w_spec_IsHistory hr2) ?_
    try refine sA ?_
    have he := Option.some.inj h
    subst he
    exact endsA ⟨[(2, (.lf false (.sc (.bool c102))))], [], 0, 10⟩ []
  · try refine sA ?_
    have he := Option.some.inj h
    subst he
    exact endsA ⟨[(2, (.lf false (.sc (.bool false))))], [], 0, 10⟩ []
theorem w_spec_l15Event {a0 : EventT} {a1 : EventT} {r : Int} (h : spec_l15Event a0 a1 = some r) : Fn Tryz.prog 63 [(.ag [(.lf false (.sc (.int .i64 a0.Id))), (.lf false (.sc (.int .i64 a0.Version))), (.lf false (.sc (.int .i64 a0.Kind))), (.lf false (.sc (.string a0.Name)))]), (.ag [(.lf false (.sc (.int .i64 a1.Id))), (.lf false (.sc (.int .i64 a1.Version))), (.lf false (.sc (.int .i64 a1.Kind))), (.lf false (.sc (.string a1.Name)))])] [] 0 (.lf false (.sc (.int .i64 r))) [] 0 := by
  unfold spec_l15Event at h
  refine fn_code tab_ok mixed [(1000, [(2, 0), (3, 0)]), (1001, [(2, 0), (3, 0), (5, 0)]), (1002, [(15, 0)]), (1003, [(4, 0)]), (1004, [(4, 0)]), (1005, [(2, 0), (3, 0), (16, 0)]), (1006, [(26, 0)]), (1007, [(4, 0)]), (1008, [(4, 0)]), (1009, [(2, 0), (3, 0), (27, 0)]), (1010, [(4, 0)]), (1011, [(33, 0)]), (1012, [(4, 0)]), (1013, [(4, 0)])] Tryz.func63 rfl rfl (by simp [Tryz.f63]) (by kernel_rfl) ?_
  simp only [Tryz.f63]
  refine sA ?_
  refine Bs_if h (fun h hc1 => ?_) (fun h hc1 => ?_)
  · try refine sA ?_
    refine Bs_if h (fun h hc2 => ?_) (fun h hc2 => ?_)
    · try refine sA ?_
      have he := Option.some.inj h
      subst he
      exact endsA ⟨[(4, (.lf false (.sc (.int .i64 (-1)))))], [], 0, 39⟩ []
    · try refine sA ?_
      have he := Option.some.inj h
      subst he
      exact endsA ⟨[(4, (.lf false (.sc (.int .i64 1))))], [], 0, 39⟩ []
  · try refine sA ?_
    refine Bs_if h (fun h hc3 => ?_) (fun h hc3 => ?_)
    · try refine sA ?_
      refine Bs_if h (fun h hc4 => ?_) (fun h hc4 => ?_)
      · try refine sA ?_
        have he := Option.some.inj h
        subst he
        exact endsA ⟨[(4, (.lf false (.sc (.int .i64 (-1)))))], [], 0, 39⟩ []
      · try refine sA ?_
        have he := Option.some.inj h
        subst he
        exact endsA ⟨[(4, (.lf false (.sc (.int .i64 1))))], [], 0, 39⟩ []
    · try refine sA ?_
      refine Bs_if h (fun h hc5 => ?_) (fun h hc5 => ?_)
      · try refine sA ?_
        have he := Option.some.inj h
        subst he
        exact endsA ⟨[(4, (.lf false (.sc (.int .i64 (-1)))))], [], 0, 39⟩ []
      · try refine sA ?_
        refine Bs_if h (fun h hc6 => ?_) (fun h hc6 => ?_)
        · try refine sA ?_
          have he := Option.some.inj h
          subst he
          exact endsA ⟨[(4, (.lf false (.sc (.int .i64 1))))], [], 0, 39⟩ []
        · try refine sA ?_
          have he := Option.some.inj h
          subst he
          exact endsA ⟨[(4, (.lf false (.sc (.int .i64 0))))], [], 0, 39⟩ []
theorem w_spec_l15Compare {a0 : (List EventT)} {a1 : (List EventT)} {r : (Int × Int)} (h : spec_l15Compare a0 a1 = some r) : Fn Tryz.prog 44 [(.lf true (.sl (a0.map eEvent))), (.lf true (.sl (a1.map eEvent)))] [] 0 (.tu [(.lf false (.sc (.int .i64 r.1))), (.lf false (.sc (.int .i64 r.2)))]) [] 0 := by
  unfold spec_l15Compare at h
  refine fn_code tab_ok mixed [(1000, [(0, 0), (1, 0)]), (1001, [(0, 0), (1, 0), (6, 0)]), (1002, [(0, 0), (1, 0), (6, 0), (17, 0)]), (1003, [(0, 0), (1, 0), (6, 0)]), (1004, [(0, 0), (1, 0), (6, 0), (7, 0)]), (1005, [(0, 0), (1, 0), (6, 0), (7, 0), (30, 0)]), (1006, [(4, 0), (5, 0)]), (1007, [(0, 0), (1, 0), (33, 0)]), (1008, [(4, 0), (5, 0)]), (1009, [(0, 0), (1, 0), (41, 0)]), (1010, [(4, 0), (5, 0)]), (1011, [(4, 0), (5, 0)])] Tryz.func44 rfl rfl (by simp [Tryz.f44]) (by kernel_rfl) ?_
  simp only [Tryz.f44]
  refine sA ?_
  obtain ⟨y108, hl1, h⟩ := bind_ok h
  refine W_loopP (fun g105 : spec_l15Compare_G1 => ⟨[(0, (.lf true (.sl (a0.map eEvent)))), (1, (.lf true (.sl (a1.map eEvent)))), (6, (.lf false (.sc (.int .i64 g105.t6))))], [], 0, 51⟩) (spec_l15Compare_L1 a0 a1) _ _ hl1 (weakA []) ?_
  · intro n1 g105 z1 hs1 hk1
    unfold spec_l15Compare_L1 at hs1
    try dsimp only at hs1
    refine sA ?_
    refine Sp_if hs1 (fun hs1 hc2 => ?_) (fun hs1 hc2 => ?_)
    · try refine sA ?_
      refine Bs_if hs1 (fun hs1 hc3 => ?_) (fun hs1 hc3 => ?_)
      · try refine sA ?_
        obtain ⟨hp4, hs1⟩ := guard_some hs1
        have hn4 : g105.t6.toNat < a0.length := by first | omega | (simp only [List.length_set, List.length_append, List.length_replicate, List.length_map]; omega)
        try refine sA ?_
        try refine andA ?_
        obtain ⟨hp5, hs1⟩ := guard_some hs1
        have hn5 : g105.t6.toNat < a1.length := by first | omega | (simp only [List.length_set, List.length_append, List.length_replicate, List.length_map]; omega)
        try refine sA ?_
        try refine andA ?_
        obtain ⟨c107, hr6, hs1⟩ := bind_ok hs1
        refine Cl_sA (w_spec_l15Event hr6) ?_
        try refine sA ?_
        refine Bs_if hs1 (fun hs1 hc7 => ?_) (fun hs1 hc7 => ?_)
        · try refine sA ?_
          cases hs1
          cases hk1
          try dsimp only at h
          try refine sA ?_
          have he := Option.some.inj h
          subst he
          exact endsA ⟨[(4, (.lf false (.sc (.int .i64 c107)))), (5, (.lf false (.sc (.int .i64 g105.t6))))], [], 0, 51⟩ []
        · try refine sA ?_
          cases hs1
          exact X_backP hk1 (weakA [])
      · try refine sA ?_
        cases hs1
        cases hk1
        try dsimp only at h
        try refine sA ?_
        refine Bs_if h (fun h hc8 => ?_) (fun h hc8 => ?_)
        · try refine sA ?_
          have he := Option.some.inj h
          subst he
          exact endsA ⟨[(4, (.lf false (.sc (.int .i64 (-1))))), (5, (.lf false (.sc (.int .i64 ((a0.length : Nat) : Int)))))], [], 0, 51⟩ []
        · try refine sA ?_
          refine Bs_if h (fun h hc9 => ?_) (fun h hc9 => ?_)
          · try refine sA ?_
            have he := Option.some.inj h
            subst he
            exact endsA ⟨[(4, (.lf false (.sc (.int .i64 1)))), (5, (.lf false (.sc (.int .i64 ((a1.length : Nat) : Int)))))], [], 0, 51⟩ []
          · try refine sA ?_
            have he := Option.some.inj h
            subst he
            exact endsA ⟨[(4, (.lf false (.sc (.int .i64 0)))), (5, (.lf false (.sc (.int .i64 ((a0.length : Nat) : Int)))))], [], 0, 51⟩ []
    · try refine sA ?_
      cases hs1
      cases hk1
      try dsimp only at h
      try refine sA ?_
      refine Bs_if h (fun h hc10 => ?_) (fun h hc10 => ?_)
      · try refine sA ?_
        have he := Option.some.inj h
        subst he
        exact endsA ⟨[(4, (.lf false (.sc (.int .i64 (-1))))), (5, (.lf false (.sc (.int .i64 ((a0.length : Nat) : Int)))))], [], 0, 51⟩ []
      · try refine sA ?_
        refine Bs_if h (fun h hc11 => ?_) (fun h hc11 => ?_)
        · try refine sA ?_
          have he := Option.some.inj h
          subst he
          exact endsA ⟨[(4, (.lf false (.sc (.int .i64 1)))), (5, (.lf false (.sc (.int .i64 ((a1.length : Nat) : Int)))))], [], 0, 51⟩ []
        · try refine sA ?_
          have he := Option.some.inj h
          subst he
          exact endsA ⟨[(4, (.lf false (.sc (.int .i64 0)))), (5, (.lf false (.sc (.int .i64 ((a0.length : Nat) : Int)))))], [], 0, 51⟩ []
theorem w_spec_l15Begins {a0 : (List EventT)} {a1 : (List EventT)} {r : Bool} (h : spec_l15Begins a0 a1 = some r) : Fn Tryz.prog 45 [(.lf true (.sl (a0.map eEvent))), (.lf true (.sl (a1.map eEvent)))] [] 0 (.lf false (.sc (.bool r))) [] 0 := by
  unfold spec_l15Begins at h
  refine fn_code tab_ok mixed [(1000, [(0, 0), (1, 0)]), (1001, [(1, 0), (6, 0)]), (1002, [(4, 0)])] Tryz.func45 rfl rfl (by simp [Tryz.f45]) (by kernel_rfl) ?_
  simp only [Tryz.f45]
  refine sA ?_
  obtain ⟨c112, hr1, h⟩ := bind_ok h
  refine Cl_sA (w_spec_l15Compare hr1) ?_
  try refine sA ?_
  have he := Option.some.inj h
  subst he
  exact endsA ⟨[(4, (.lf false (.sc (.bool (c112.2 == ((a1.length : Nat) : Int))))))], [], 0, 17⟩ []
theorem w_spec_GoodTellings {a0 : TellingsT} {r : Bool} (h : spec_GoodTellings a0 = some r) : Fn Tryz.prog 24 [(.ag [(.lf true (.sl (a0.Branches.map eBranch)))])] [] 0 (.lf false (.sc (.bool r))) [] 0 := by
  unfold spec_GoodTellings at h
  refine fn_code tab_ok mixed [(1000, [(1, 0)]), (1001, [(1, 0), (10, 0), (11, 0), (12, 0)]), (1002, [(1, 0), (10, 0), (11, 0), (12, 0), (13, 0)]), (1003, [(1, 0), (3, 0), (4, 0), (10, 0), (11, 0), (12, 0)]), (1004, [(1, 0), (3, 0), (4, 0), (10, 0), (11, 0), (12, 0), (20, 0)]), (1005, [(2, 0)]), (1006, [(1, 0), (3, 0), (4, 0), (10, 0), (11, 0), (12, 0), (24, 0), (25, 0), (26, 0)]), (1007, [(1, 0), (3, 0), (4, 0), (10, 0), (11, 0), (12, 0), (24, 0), (25, 0), (26, 0), (27, 0)]), (1008, [(1, 0), (3, 0), (4, 0), (5, 0), (6, 0), (10, 0), (11, 0), (12, 0), (24, 0), (25, 0), (26, 0)]), (1009, [(1, 0), (3, 0), (4, 0), (5, 0), (6, 0), (7, 0), (10, 0), (11, 0), (12, 0), (24, 0), (25, 0), (26, 0)]), (1010, [(1, 0), (3, 0), (4, 0), (10, 0), (11, 0), (12, 0), (24, 0), (25, 0), (26, 0), (52, 0)]), (1011, [(2, 0)]), (1012, [(1, 0), (3, 0), (4, 0), (10, 0), (11, 0), (12, 0), (24, 0), (25, 0), (26, 0)]), (1013, [(1, 0), (10, 0), (11, 0), (12, 0)]), (1014, [(2, 0)]), (4010, [])] Tryz.func24 rfl rfl (by simp [Tryz.f24]) (by kernel_rfl) ?_
  simp only [Tryz.f24]
  refine sA ?_
  obtain ⟨y132, hl1, h⟩ := bind_ok h
  refine W_loopP (fun g35 : spec_GoodTellings_G1 => ⟨[(1, (.pb 0 0)), (10, (.lf true (.sl (a0.Branches.map eBranch)))), (11, (.lf false (.sc (.int .i64 ((a0.Branches.length : Nat) : Int))))), (12, (.lf false (.sc (.int .i64 g35.t12))))], [(0, some (true, .box [(.lf true (.sl (a0.Branches.map eBranch)))]))], 1, 59⟩) (spec_GoodTellings_L1 a0) _ _ hl1 (weakA [some 0]) ?_
  · intro n1 g35 z1 hs1 hk1
    unfold spec_GoodTellings_L1 at hs1
    try dsimp only at hs1
    refine sA ?_
    refine Bs_if hs1 (fun hs1 hc2 => ?_) (fun hs1 hc2 => ?_)
    · try refine sA ?_
      obtain ⟨hp3, hs1⟩ := guard_some hs1
      have hn3 : g35.t12.toNat < a0.Branches.length := by first | omega | (simp only [List.length_set, List.length_append, List.length_replicate, List.length_map]; omega)
      try refine sA ?_
      try refine andA ?_
      obtain ⟨c121, hr4, hs1⟩ := bind_ok hs1
      refine Cl_sA (w_spec_l15History hr4) ?_
      try refine sA ?_
      refine Bs_if hs1 (fun hs1 hc5 => ?_) (fun hs1 hc5 => ?_)
      · try refine sA ?_
        cases hs1
        cases hk1
        try dsimp only at h
        try refine sA ?_
        have he := Option.some.inj h
        subst he
        exact endsA ⟨[(2, (.lf false (.sc (.bool false))))], [], 0, 59⟩ []
      · try refine sA ?_
        obtain ⟨hp6, hs1⟩ := guard_some hs1
        try refine sA ?_
        try refine andA ?_
        obtain ⟨y129, hl7, hs1⟩ := bind_ok hs1
        refine W_loopP (fun g122 : spec_GoodTellings_G2 => ⟨[(1, (.pb 0 0)), (3, (.lf false (.sc (.int .i64 g35.t12)))), (4, (.pb 1 0)), (10, (.lf true (.sl (a0.Branches.map eBranch)))), (11, (.lf false (.sc (.int .i64 ((a0.Branches.length : Nat) : Int))))), (12, (.lf false (.sc (.int .i64 g35.t12)))), (24, (.lf true (.sl ((a0.Branches.take g35.t12.toNat).map eBranch)))), (25, (.lf false (.sc (.int .i64 (((a0.Branches.take g35.t12.toNat).length : Nat) : Int))))), (26, (.lf false (.sc (.int .i64 g122.t26))))], [(0, some (true, .box [(.lf true (.sl (a0.Branches.map eBranch)))])), (1, some (true, .box [(.lf true (.sl (((nth a0.Branches g35.t12.toNat).Events).map eEvent)))]))], 2, 59⟩) (spec_GoodTellings_L2 a0 g35) _ _ hl7 (weakA [some 0, some 1]) ?_
        · intro n2 g122 z2 hs2 hk2
          unfold spec_GoodTellings_L2 at hs2
          try dsimp only at hs2
          refine sA ?_
          refine Bs_if hs2 (fun hs2 hc8 => ?_) (fun hs2 hc8 => ?_)
          · try refine sA ?_
            obtain ⟨hp9, hs2⟩ := guard_some hs2
            have hn9 : g122.t26.toNat < (a0.Branches.take g35.t12.toNat).length := by first | omega | (simp only [List.length_set, List.length_append, List.length_replicate, List.length_map]; omega)
            try refine sA ?_
            try refine andA ?_
            obtain ⟨c126, hr10, hs2⟩ := bind_ok hs2
            refine Cl_sA (w_spec_l15Compare hr10) ?_
            try refine sA ?_
            obtain ⟨p128, hq11, hs2⟩ := bind_ok hs2
            refine Sq_cut (fun s2 => s2 = ⟨[(1, (.pb 0 0)), (3, (.lf false (.sc (.int .i64 g35.t12)))), (4, (.pb 1 0)), (10, (.lf true (.sl (a0.Branches.map eBranch)))), (11, (.lf false (.sc (.int .i64 ((a0.Branches.length : Nat) : Int))))), (12, (.lf false (.sc (.int .i64 g35.t12)))), (24, (.lf true (.sl ((a0.Branches.take g35.t12.toNat).map eBranch)))), (25, (.lf false (.sc (.int .i64 (((a0.Branches.take g35.t12.toNat).length : Nat) : Int))))), (26, (.lf false (.sc (.int .i64 g122.t26)))), (52, (.lf false (.sc (.bool p128.t52))))], [(0, some (true, .box [(.lf true (.sl (a0.Branches.map eBranch)))])), (1, some (true, .box [(.lf true (.sl (((nth a0.Branches g35.t12.toNat).Events).map eEvent)))]))], 2, 59⟩) ?_ ?_
            · try refine sA ?_
              refine Sp_if hq11 (fun hq11 hc12 => ?_) (fun hq11 hc12 => ?_)
              · try refine sA ?_
                cases hq11
                exact X_cut rfl (weakA [some 0, some 1])
              · try refine sA ?_
                obtain ⟨c127, hr13, hq11⟩ := bind_ok hq11
                refine Cl_sA (w_spec_l15Begins hr13) ?_
                try refine sA ?_
                refine Sp_if hq11 (fun hq11 hc14 => ?_) (fun hq11 hc14 => ?_)
                · try refine sA ?_
                  cases hq11
                  exact X_cut rfl (weakA [some 0, some 1])
                · try refine sA ?_
                  cases hq11
                  exact X_cut rfl (weakA [some 0, some 1])
            · intro s2 hJ; subst hJ
              try dsimp only at hs2
              try refine sA ?_
              refine Bs_if hs2 (fun hs2 hc15 => ?_) (fun hs2 hc15 => ?_)
              · try refine sA ?_
                cases hs2
                cases hk2
                try dsimp only at hs1
                try refine sA ?_
                cases hs1
                cases hk1
                try dsimp only at h
                try refine sA ?_
                have he := Option.some.inj h
                subst he
                exact endsA ⟨[(2, (.lf false (.sc (.bool false))))], [], 0, 59⟩ []
              · try refine sA ?_
                cases hs2
                exact X_backP hk2 (weakA [some 0, some 1])
          · try refine sA ?_
            cases hs2
            cases hk2
            try dsimp only at hs1
            try refine sA ?_
            cases hs1
            exact X_backP hk1 (weakA [some 0])
    · try refine sA ?_
      cases hs1
      cases hk1
      try dsimp only at h
      try refine sA ?_
      have he := Option.some.inj h
      subst he
      exact endsA ⟨[(2, (.lf false (.sc (.bool (decide (((a0.Branches.length : Nat) : Int) ≤ 12))))))], [], 0, 59⟩ []
theorem w_spec_GoodRegion {a0 : RegionT} {r : Bool} (h : spec_GoodRegion a0 = some r) : Fn Tryz.prog 8 [(.ag [(.lf false (.sc (.int .i64 a0.Id))), (.lf false (.sc (.int .i64 a0.Version))), (.lf true (.sl (a0.Tellings.Branches.map eBranch)))])] [] 0 (.lf false (.sc (.bool r))) [] 0 := by
  unfold spec_GoodRegion at h
  refine fn_code tab_ok mixed [(1000, [(1, 0)]), (1001, [(1, 0), (22, 0)]), (1002, [(2, 0)]), (1003, [(1, 0), (25, 0), (26, 0), (27, 0)]), (1004, [(1, 0), (25, 0), (26, 0), (27, 0), (28, 0)]), (1005, [(1, 0), (4, 0), (25, 0), (26, 0), (27, 0)]), (1006, [(1, 0), (25, 0), (26, 0), (27, 0), (32, 0), (33, 0), (34, 0)]), (1007, [(1, 0), (25, 0), (26, 0), (27, 0), (32, 0), (33, 0), (34, 0), (35, 0)]), (1008, [(1, 0), (6, 0), (25, 0), (26, 0), (27, 0), (32, 0), (33, 0), (34, 0)]), (1009, [(1, 0), (25, 0), (26, 0), (27, 0), (32, 0), (33, 0), (34, 0), (42, 0)]), (1010, [(2, 0)]), (1011, [(1, 0), (25, 0), (26, 0), (27, 0), (32, 0), (33, 0), (34, 0)]), (1012, [(1, 0), (25, 0), (26, 0), (27, 0)]), (1013, [(2, 0)]), (4001, [])] Tryz.func8 rfl rfl (by simp [Tryz.f8]) (by kernel_rfl) ?_
  simp only [Tryz.f8]
  refine sA ?_
  obtain ⟨p136, hq1, h⟩ := bind_ok h
  refine Sq_cut (fun s2 => s2 = ⟨[(1, (.pb 0 0)), (22, (.lf false (.sc (.bool p136.t22))))], [(0, some (true, .box [(.lf false (.sc (.int .i64 a0.Id))), (.lf false (.sc (.int .i64 a0.Version))), (.lf true (.sl (a0.Tellings.Branches.map eBranch)))]))], 1, 45⟩) ?_ ?_
  · try refine sA ?_
    obtain ⟨c32, hr2, hq1⟩ := bind_ok hq1
    refine Cl_sA (w_spec_l1In hr2) ?_
    try refine sA ?_
    refine Sp_if hq1 (fun hq1 hc3 => ?_) (fun hq1 hc3 => ?_)
    · try refine sA ?_
      cases hq1
      exact X_cut rfl (weakA [some 0])
    · try refine sA ?_
      obtain ⟨c34, hr4, hq1⟩ := bind_ok hq1
      refine Cl_sA (w_spec_l13Version hr4) ?_
      try refine sA ?_
      refine Sp_if hq1 (fun hq1 hc5 => ?_) (fun hq1 hc5 => ?_)
      · try refine sA ?_
        cases hq1
        exact X_cut rfl (weakA [some 0])
      · try refine sA ?_
        obtain ⟨c135, hr6, hq1⟩ := bind_ok hq1
        refine Cl_sA (w_spec_GoodTellings hr6) ?_
        try refine sA ?_
        cases hq1
        exact X_cut rfl (weakA [some 0])
  · intro s2 hJ; subst hJ
    try dsimp only at h
    try refine sA ?_
    refine Bs_if h (fun h hc7 => ?_) (fun h hc7 => ?_)
    · try refine sA ?_
      have he := Option.some.inj h
      subst he
      exact endsA ⟨[(2, (.lf false (.sc (.bool false))))], [], 0, 45⟩ []
    · try refine sA ?_
      obtain ⟨y146, hl8, h⟩ := bind_ok h
      refine W_loopP (fun g137 : spec_GoodRegion_G1 => ⟨[(1, (.pb 0 0)), (25, (.lf true (.sl (a0.Tellings.Branches.map eBranch)))), (26, (.lf false (.sc (.int .i64 ((a0.Tellings.Branches.length : Nat) : Int))))), (27, (.lf false (.sc (.int .i64 g137.t27))))], [(0, some (true, .box [(.lf false (.sc (.int .i64 a0.Id))), (.lf false (.sc (.int .i64 a0.Version))), (.lf true (.sl (a0.Tellings.Branches.map eBranch)))]))], 1, 45⟩) (spec_GoodRegion_L1 a0) _ _ hl8 (weakA [some 0]) ?_
      · intro n1 g137 z1 hs1 hk1
        unfold spec_GoodRegion_L1 at hs1
        try dsimp only at hs1
        refine sA ?_
        refine Bs_if hs1 (fun hs1 hc9 => ?_) (fun hs1 hc9 => ?_)
        · try refine sA ?_
          obtain ⟨hp10, hs1⟩ := guard_some hs1
          have hn10 : g137.t27.toNat < a0.Tellings.Branches.length := by first | omega | (simp only [List.length_set, List.length_append, List.length_replicate, List.length_map]; omega)
          try refine sA ?_
          try refine andA ?_
          obtain ⟨y143, hl11, hs1⟩ := bind_ok hs1
          refine W_loopP (fun g142 : spec_GoodRegion_G2 => ⟨[(1, (.pb 0 0)), (25, (.lf true (.sl (a0.Tellings.Branches.map eBranch)))), (26, (.lf false (.sc (.int .i64 ((a0.Tellings.Branches.length : Nat) : Int))))), (27, (.lf false (.sc (.int .i64 g137.t27)))), (32, (.lf true (.sl (((nth a0.Tellings.Branches g137.t27.toNat).Events).map eEvent)))), (33, (.lf false (.sc (.int .i64 ((((nth a0.Tellings.Branches g137.t27.toNat).Events).length : Nat) : Int))))), (34, (.lf false (.sc (.int .i64 g142.t34))))], [(0, some (true, .box [(.lf false (.sc (.int .i64 a0.Id))), (.lf false (.sc (.int .i64 a0.Version))), (.lf true (.sl (a0.Tellings.Branches.map eBranch)))]))], 1, 45⟩) (spec_GoodRegion_L2 a0 g137) _ _ hl11 (weakA [some 0]) ?_
          · intro n2 g142 z2 hs2 hk2
            unfold spec_GoodRegion_L2 at hs2
            try dsimp only at hs2
            refine sA ?_
            refine Bs_if hs2 (fun hs2 hc12 => ?_) (fun hs2 hc12 => ?_)
            · try refine sA ?_
              obtain ⟨hp13, hs2⟩ := guard_some hs2
              have hn13 : g142.t34.toNat < ((nth a0.Tellings.Branches g137.t27.toNat).Events).length := by first | omega | (simp only [List.length_set, List.length_append, List.length_replicate, List.length_map]; omega)
              try refine sA ?_
              try refine andA ?_
              refine Bs_if hs2 (fun hs2 hc14 => ?_) (fun hs2 hc14 => ?_)
              · try refine sA ?_
                cases hs2
                cases hk2
                try dsimp only at hs1
                try refine sA ?_
                cases hs1
                cases hk1
                try dsimp only at h
                try refine sA ?_
                have he := Option.some.inj h
                subst he
                exact endsA ⟨[(2, (.lf false (.sc (.bool false))))], [], 0, 45⟩ []
              · try refine sA ?_
                cases hs2
                exact X_backP hk2 (weakA [some 0])
            · try refine sA ?_
              cases hs2
              cases hk2
              try dsimp only at hs1
              try refine sA ?_
              cases hs1
              exact X_backP hk1 (weakA [some 0])
        · try refine sA ?_
          cases hs1
          cases hk1
          try dsimp only at h
          try refine sA ?_
          have he := Option.some.inj h
          subst he
          exact endsA ⟨[(2, (.lf false (.sc (.bool true))))], [], 0, 45⟩ []
theorem w_spec_l16Active {a0 : RegionT} {r : Bool} (h : spec_l16Active a0 = some r) : Fn Tryz.prog 29 [(.ag [(.lf false (.sc (.int .i64 a0.Id))), (.lf false (.sc (.int .i64 a0.Version))), (.lf true (.sl (a0.Tellings.Branches.map eBranch)))])] [] 0 (.lf false (.sc (.bool r))) [] 0 := by
  unfold spec_l16Active at h
  refine fn_code tab_ok mixed [] Tryz.func29 rfl rfl (by simp [Tryz.f29]) (by kernel_rfl) ?_
  simp only [Tryz.f29]
  refine sA ?_
  have he := Option.some.inj h
  subst he
  exact endsA ⟨[(2, (.lf false (.sc (.bool ((a0.Version.tmod 10) == a0.Id)))))], [], 0, 9⟩ []
theorem w_spec_IsActive {a0 : RegionT} {r : (Bool × Bool)} (h : spec_IsActive a0 = some r) : Fn Tryz.prog 12 [(.ag [(.lf false (.sc (.int .i64 a0.Id))), (.lf false (.sc (.int .i64 a0.Version))), (.lf true (.sl (a0.Tellings.Branches.map eBranch)))])] [] 0 (.tu [(.lf false (.sc (.bool r.1))), (.lf false (.sc (.bool r.2)))]) [] 0 := by
  unfold spec_IsActive at h
  refine fn_code tab_ok mixed [(1000, [(1, 0)]), (1001, [(1, 0), (6, 0)]), (1002, [(2, 0), (3, 0)]), (1003, [(2, 0), (3, 0)])] Tryz.func12 rfl rfl (by simp [Tryz.f12]) (by kernel_rfl) ?_
  simp only [Tryz.f12]
  refine sA ?_
  obtain ⟨c149, hr1, h⟩ := bind_ok h
  refine Cl_sA (w_spec_GoodRegion hr1) ?_
  try refine sA ?_
  refine Bs_if h (fun h hc2 => ?_) (fun h hc2 => ?_)
  · try refine sA ?_
    have he := Option.some.inj h
    subst he
    exact endsA ⟨[(2, (.lf false (.sc (.bool false)))), (3, (.lf false (.sc (.bool false))))], [], 0, 9⟩ []
  · try refine sA ?_
    obtain ⟨c150, hr3, h⟩ := bind_ok h
    refine Cl_sA (w_spec_l16Active hr3) ?_
    try refine sA ?_
    have he := Option.some.inj h
    subst he
    exact endsA ⟨[(2, (.lf false (.sc (.bool c150)))), (3, (.lf false (.sc (.bool true))))], [], 0, 9⟩ []
theorem w_impl_in {a0 : Int} {a1 : Int} {a2 : Int} {r : Bool} (h : impl_in a0 a1 a2 = some r) : Fn Tryz.prog 47 [(.lf false (.sc (.int .i64 a0))), (.lf false (.sc (.int .i64 a1))), (.lf false (.sc (.int .i64 a2)))] [] 0 (.lf false (.sc (.bool r))) [] 0 := by
  unfold impl_in at h
  refine fn_code tab_ok mixed [] Tryz.func47 rfl rfl (by simp [Tryz.f47]) (by kernel_rfl) ?_
  simp only [Tryz.f47]
  refine sA ?_
  refine Sp_if h (fun h hc1 => ?_) (fun h hc1 => ?_)
  · try refine sA ?_
    have he := Option.some.inj h
    subst he
    exact endsA ⟨[(6, (.lf false (.sc (.bool (decide (a0 ≤ a2))))))], [], 0, 15⟩ []
  · try refine sA ?_
    have he := Option.some.inj h
    subst he
    exact endsA ⟨[(6, (.lf false (.sc (.bool false))))], [], 0, 15⟩ []
theorem w_impl_isRegion {a0 : Int} {r : Bool} (h : impl_isRegion a0 = some r) : Fn Tryz.prog 26 [(.lf false (.sc (.int .i64 a0)))] [] 0 (.lf false (.sc (.bool r))) [] 0 := by
  unfold impl_isRegion at h
  refine fn_code tab_ok mixed [] Tryz.func26 rfl rfl (by simp [Tryz.f26]) (by kernel_rfl) ?_
  simp only [Tryz.f26]
  refine sA ?_
  obtain ⟨c153, hr1, h⟩ := bind_ok h
  refine Cl_sA (w_impl_in hr1) ?_
  try refine sA ?_
  have he := Option.some.inj h
  subst he
  exact endsA ⟨[(2, (.lf false (.sc (.bool c153))))], [], 0, 5⟩ []
theorem w_impl_isVersion {a0 : Int} {r : Bool} (h : impl_isVersion a0 = some r) : Fn Tryz.prog 48 [(.lf false (.sc (.int .i64 a0)))] [] 0 (.lf false (.sc (.bool r))) [] 0 := by
  unfold impl_isVersion at h
  refine fn_code tab_ok mixed [] Tryz.func48 rfl rfl (by simp [Tryz.f48]) (by kernel_rfl) ?_
  simp only [Tryz.f48]
  refine sA ?_
  obtain ⟨c155, hr1, h⟩ := bind_ok h
  refine Cl_sA (w_impl_in hr1) ?_
  try refine sA ?_
  have he := Option.some.inj h
  subst he
  exact endsA ⟨[(2, (.lf false (.sc (.bool c155))))], [], 0, 5⟩ []
theorem w_impl_NewState {r : StateT} (h : impl_NewState = some r) : Fn Tryz.prog 98 [] [] 0 (.ag [(.lf false (.sc (.int .i64 r.Status))), (.lf false (.sc (.int .i64 r.Next))), (.lf false (.sc (.bool r.Cancel))), (.lf false (.sc (.int .i64 r.Done))), .nl, .nl]) [] 1 := by
  unfold impl_NewState at h
  refine fn_code tab_ok mixed [] Tryz.func98 rfl rfl (by simp [Tryz.f98]) (by kernel_rfl) ?_
  simp only [Tryz.f98]
  refine sA ?_
  have he := Option.some.inj h
  subst he
  exact endsA ⟨[(0, (.pb 0 0))], [(0, some (true, .box [(.lf false (.sc (.int .i64 0))), (.lf false (.sc (.int .i64 1))), (.lf false (.sc (.bool false))), (.lf false (.sc (.int .i64 0))), .nl, .nl]))], 1, 2⟩ [some 0]
theorem w_strings_Trim {a0 a1 : ByteArray} {r : ByteArray} (h : strings_Trim a0 a1 = some r) : Fn Tryz.prog 119 [.lf false (.sc (.string a0)), .lf false (.sc (.string a1))] [] 0 (.lf false (.sc (.string r))) [] 0 := by
  unfold strings_Trim at h
  obtain ⟨⟨hp1, hp2, hp3⟩, h⟩ := guard_some h
  have he := Option.some.inj h; subst he
  exact fn_str2 (Ent.of Tryz.func119 rfl (by simp [Tryz.f119])) fun w => Go.Proofs.Any.strings_Trim_laid Go.Proofs.Tryz.lays160 (by kernel_rfl) a0 a1 w hp1 hp2 (ascii_of_all hp3)
theorem w_impl_goodName {a0 : ByteArray} {r : Bool} (h : impl_goodName a0 = some r) : Fn Tryz.prog 112 [(.lf false (.sc (.string a0)))] [] 0 (.lf false (.sc (.bool r))) [] 0 := by
  unfold impl_goodName at h
  refine fn_code tab_ok mixed [] Tryz.func112 rfl rfl (by simp [Tryz.f112]) (by kernel_rfl) ?_
  simp only [Tryz.f112]
  refine sA ?_
  refine Sp_if h (fun h hc1 => ?_) (fun h hc1 => ?_)
  · try refine sA ?_
    obtain ⟨c171, hr2, h⟩ := bind_ok h
    refine Cl_sA (w_strings_Trim hr2) ?_
    try refine sA ?_
    have he := Option.some.inj h
    subst he
    exact endsA ⟨[(2, (.lf false (.sc (.bool (c171.toList == ByteArray.empty.toList)))))], [], 0, 11⟩ []
  · try refine sA ?_
    have he := Option.some.inj h
    subst he
    exact endsA ⟨[(2, (.lf false (.sc (.bool false))))], [], 0, 11⟩ []
theorem w_impl_namesOk_c1 {a0 : ByteArray} {r : Bool} (h : impl_namesOk_c1 a0 = some r) : Fn Tryz.prog 117 [(.lf false (.sc (.string a0)))] [] 0 (.lf false (.sc (.bool r))) [] 0 := by
  unfold impl_namesOk_c1 at h
  refine fn_code tab_ok mixed [] Tryz.func117 rfl rfl (by simp [Tryz.f117]) (by kernel_rfl) ?_
  simp only [Tryz.f117]
  refine sA ?_
  obtain ⟨c172, hr1, h⟩ := bind_ok h
  refine Cl_sA (w_impl_goodName hr1) ?_
  try refine sA ?_
  have he := Option.some.inj h
  subst he
  exact endsA ⟨[(2, (.lf false (.sc (.bool (!c172)))))], [], 0, 6⟩ []
theorem w_slices_IndexFunc_string_impl_namesOk_c1 {a0 : (List ByteArray)} {r : Int} (h : slices_IndexFunc_string_impl_namesOk_c1 a0 = some r) : Fn Tryz.prog 124 [(.lf true (.sl (a0.map eS))), (.fn 117 [])] [] 0 (.lf false (.sc (.int .i64 r))) [] 0 := by
  unfold slices_IndexFunc_string_impl_namesOk_c1 at h
  refine fn_code tab_ok mixed [(1000, [(0, 0), (1, 0)]), (1001, [(0, 0), (1, 0), (7, 0), (8, 0)]), (1002, [(0, 0), (1, 0), (7, 0), (8, 0), (9, 0)]), (1003, [(0, 0), (1, 0), (5, 0), (7, 0), (8, 0)]), (1004, [(0, 0), (1, 0), (5, 0), (7, 0), (8, 0), (16, 0)]), (1005, [(4, 0)]), (1006, [(0, 0), (1, 0), (7, 0), (8, 0)]), (1007, [(4, 0)])] Tryz.func124 rfl rfl (by simp [Tryz.f124]) (by kernel_rfl) ?_
  simp only [Tryz.f124]
  refine sA ?_
  obtain ⟨y175, hl1, h⟩ := bind_ok h
  refine W_loopP (fun g170 : slices_IndexFunc_string_impl_namesOk_c1_G1 => ⟨[(0, (.lf true (.sl (a0.map eS)))), (1, (.fn 117 [])), (7, (.lf false (.sc (.int .i64 ((a0.length : Nat) : Int))))), (8, (.lf false (.sc (.int .i64 g170.t8))))], [], 0, 19⟩) (slices_IndexFunc_string_impl_namesOk_c1_L1 a0) _ _ hl1 (weakA []) ?_
  · intro n1 g170 z1 hs1 hk1
    unfold slices_IndexFunc_string_impl_namesOk_c1_L1 at hs1
    try dsimp only at hs1
    refine sA ?_
    refine Bs_if hs1 (fun hs1 hc2 => ?_) (fun hs1 hc2 => ?_)
    · try refine sA ?_
      obtain ⟨hp3, hs1⟩ := guard_some hs1
      have hn3 : g170.t8.toNat < a0.length := by first | omega | (simp only [List.length_set, List.length_append, List.length_replicate, List.length_map]; omega)
      try refine sA ?_
      try refine andA ?_
      obtain ⟨c174, hr4, hs1⟩ := bind_ok hs1
      refine Cl_sA (w_impl_namesOk_c1 hr4) ?_
      try refine sA ?_
      refine Bs_if hs1 (fun hs1 hc5 => ?_) (fun hs1 hc5 => ?_)
      · try refine sA ?_
        cases hs1
        cases hk1
        try dsimp only at h
        try refine sA ?_
        have he := Option.some.inj h
        subst he
        exact endsA ⟨[(4, (.lf false (.sc (.int .i64 g170.t8))))], [], 0, 19⟩ []
      · try refine sA ?_
        cases hs1
        exact X_backP hk1 (weakA [])
    · try refine sA ?_
      cases hs1
      cases hk1
      try dsimp only at h
      try refine sA ?_
      have he := Option.some.inj h
      subst he
      exact endsA ⟨[(4, (.lf false (.sc (.int .i64 (-1)))))], [], 0, 19⟩ []
theorem w_slices_ContainsFunc_string_impl_namesOk_c1 {a0 : (List ByteArray)} {r : Bool} (h : slices_ContainsFunc_string_impl_namesOk_c1 a0 = some r) : Fn Tryz.prog 116 [(.lf true (.sl (a0.map eS))), (.fn 117 [])] [] 0 (.lf false (.sc (.bool r))) [] 0 := by
  unfold slices_ContainsFunc_string_impl_namesOk_c1 at h
  refine fn_code tab_ok mixed [] Tryz.func116 rfl rfl (by simp [Tryz.f116]) (by kernel_rfl) ?_
  simp only [Tryz.f116]
  refine sA ?_
  obtain ⟨c178, hr1, h⟩ := bind_ok h
  refine Cl_sA (w_slices_IndexFunc_string_impl_namesOk_c1 hr1) ?_
  try refine sA ?_
  have he := Option.some.inj h
  subst he
  exact endsA ⟨[(4, (.lf false (.sc (.bool (decide (c178 ≥ 0))))))], [], 0, 9⟩ []
theorem w_impl_namesOk {a0 : (List ByteArray)} {a1 : Int} {r : Bool} (h : impl_namesOk a0 a1 = some r) : Fn Tryz.prog 108 [(.lf true (.sl (a0.map eS))), (.lf false (.sc (.int .i64 a1)))] [] 0 (.lf false (.sc (.bool r))) [] 0 := by
  unfold impl_namesOk at h
  refine fn_code tab_ok mixed [] Tryz.func108 rfl rfl (by simp [Tryz.f108]) (by kernel_rfl) ?_
  simp only [Tryz.f108]
  refine sA ?_
  refine Sp_if h (fun h hc1 => ?_) (fun h hc1 => ?_)
  · try refine sA ?_
    obtain ⟨c179, hr2, h⟩ := bind_ok h
    refine Cl_sA (w_slices_ContainsFunc_string_impl_namesOk_c1 hr2) ?_
    try refine sA ?_
    have he := Option.some.inj h
    subst he
    exact endsA ⟨[(4, (.lf false (.sc (.bool (!c179)))))], [], 0, 14⟩ []
  · try refine sA ?_
    have he := Option.some.inj h
    subst he
    exact endsA ⟨[(4, (.lf false (.sc (.bool false))))], [], 0, 14⟩ []
theorem w_slices_Index_string {a0 : (List ByteArray)} {a1 : ByteArray} {r : Int} (h : slices_Index_string a0 a1 = some r) : Fn Tryz.prog 120 [(.lf true (.sl (a0.map eS))), (.lf false (.sc (.string a1)))] [] 0 (.lf false (.sc (.int .i64 r))) [] 0 := by
  unfold slices_Index_string at h
  refine fn_code tab_ok mixed [(1000, [(0, 0), (1, 0)]), (1001, [(0, 0), (1, 0), (7, 0), (8, 0)]), (1002, [(0, 0), (1, 0), (7, 0), (8, 0), (9, 0)]), (1003, [(0, 0), (1, 0), (5, 0), (7, 0), (8, 0)]), (1004, [(0, 0), (1, 0), (5, 0), (7, 0), (8, 0), (16, 0)]), (1005, [(4, 0)]), (1006, [(0, 0), (1, 0), (7, 0), (8, 0)]), (1007, [(4, 0)])] Tryz.func120 rfl rfl (by simp [Tryz.f120]) (by kernel_rfl) ?_
  simp only [Tryz.f120]
  refine sA ?_
  obtain ⟨y183, hl1, h⟩ := bind_ok h
  refine W_loopP (fun g182 : slices_Index_string_G1 => ⟨[(0, (.lf true (.sl (a0.map eS)))), (1, (.lf false (.sc (.string a1)))), (7, (.lf false (.sc (.int .i64 ((a0.length : Nat) : Int))))), (8, (.lf false (.sc (.int .i64 g182.t8))))], [], 0, 19⟩) (slices_Index_string_L1 a0 a1) _ _ hl1 (weakA []) ?_
  · intro n1 g182 z1 hs1 hk1
    unfold slices_Index_string_L1 at hs1
    try dsimp only at hs1
    refine sA ?_
    refine Bs_if hs1 (fun hs1 hc2 => ?_) (fun hs1 hc2 => ?_)
    · try refine sA ?_
      obtain ⟨hp3, hs1⟩ := guard_some hs1
      have hn3 : g182.t8.toNat < a0.length := by first | omega | (simp only [List.length_set, List.length_append, List.length_replicate, List.length_map]; omega)
      try refine sA ?_
      try refine andA ?_
      refine Bs_if hs1 (fun hs1 hc4 => ?_) (fun hs1 hc4 => ?_)
      · try refine sA ?_
        cases hs1
        cases hk1
        try dsimp only at h
        try refine sA ?_
        have he := Option.some.inj h
        subst he
        exact endsA ⟨[(4, (.lf false (.sc (.int .i64 g182.t8))))], [], 0, 19⟩ []
      · try refine sA ?_
        cases hs1
        exact X_backP hk1 (weakA [])
    · try refine sA ?_
      cases hs1
      cases hk1
      try dsimp only at h
      try refine sA ?_
      have he := Option.some.inj h
      subst he
      exact endsA ⟨[(4, (.lf false (.sc (.int .i64 (-1)))))], [], 0, 19⟩ []
theorem w_slices_Contains_string {a0 : (List ByteArray)} {a1 : ByteArray} {r : Bool} (h : slices_Contains_string a0 a1 = some r) : Fn Tryz.prog 114 [(.lf true (.sl (a0.map eS))), (.lf false (.sc (.string a1)))] [] 0 (.lf false (.sc (.bool r))) [] 0 := by
  unfold slices_Contains_string at h
  refine fn_code tab_ok mixed [] Tryz.func114 rfl rfl (by simp [Tryz.f114]) (by kernel_rfl) ?_
  simp only [Tryz.f114]
  refine sA ?_
  obtain ⟨c186, hr1, h⟩ := bind_ok h
  refine Cl_sA (w_slices_Index_string hr1) ?_
  try refine sA ?_
  have he := Option.some.inj h
  subst he
  exact endsA ⟨[(4, (.lf false (.sc (.bool (decide (c186 ≥ 0))))))], [], 0, 9⟩ []
theorem w_impl_distinct {a0 : (List ByteArray)} {r : Bool} (h : impl_distinct a0 = some r) : Fn Tryz.prog 109 [(.lf true (.sl (a0.map eS)))] [] 0 (.lf false (.sc (.bool r))) [] 0 := by
  unfold impl_distinct at h
  refine fn_code tab_ok mixed [(1000, [(0, 0)]), (1001, [(0, 0), (5, 0), (6, 0), (7, 0)]), (1002, [(0, 0), (5, 0), (6, 0), (7, 0), (8, 0)]), (1003, [(0, 0), (3, 0), (4, 0), (5, 0), (6, 0), (7, 0)]), (1004, [(0, 0), (5, 0), (6, 0), (7, 0), (16, 0)]), (1005, [(2, 0)]), (1006, [(0, 0), (5, 0), (6, 0), (7, 0)]), (1007, [(2, 0)])] Tryz.func109 rfl rfl (by simp [Tryz.f109]) (by kernel_rfl) ?_
  simp only [Tryz.f109]
  refine sA ?_
  obtain ⟨y189, hl1, h⟩ := bind_ok h
  refine W_loopP (fun g181 : impl_distinct_G1 => ⟨[(0, (.lf true (.sl (a0.map eS)))), (5, (.lf true (.sl (a0.map eS)))), (6, (.lf false (.sc (.int .i64 ((a0.length : Nat) : Int))))), (7, (.lf false (.sc (.int .i64 g181.t7))))], [], 0, 18⟩) (impl_distinct_L1 a0) _ _ hl1 (weakA []) ?_
  · intro n1 g181 z1 hs1 hk1
    unfold impl_distinct_L1 at hs1
    try dsimp only at hs1
    refine sA ?_
    refine Bs_if hs1 (fun hs1 hc2 => ?_) (fun hs1 hc2 => ?_)
    · try refine sA ?_
      obtain ⟨hp3, hs1⟩ := guard_some hs1
      have hn3 : g181.t7.toNat < a0.length := by first | omega | (simp only [List.length_set, List.length_append, List.length_replicate, List.length_map]; omega)
      try refine sA ?_
      try refine andA ?_
      obtain ⟨hp4, hs1⟩ := guard_some hs1
      try refine sA ?_
      try refine andA ?_
      obtain ⟨c188, hr5, hs1⟩ := bind_ok hs1
      refine Cl_sA (w_slices_Contains_string hr5) ?_
      try refine sA ?_
      refine Bs_if hs1 (fun hs1 hc6 => ?_) (fun hs1 hc6 => ?_)
      · try refine sA ?_
        cases hs1
        cases hk1
        try dsimp only at h
        try refine sA ?_
        have he := Option.some.inj h
        subst he
        exact endsA ⟨[(2, (.lf false (.sc (.bool false))))], [], 0, 18⟩ []
      · try refine sA ?_
        cases hs1
        exact X_backP hk1 (weakA [])
    · try refine sA ?_
      cases hs1
      cases hk1
      try dsimp only at h
      try refine sA ?_
      have he := Option.some.inj h
      subst he
      exact endsA ⟨[(2, (.lf false (.sc (.bool true))))], [], 0, 18⟩ []
theorem w_cmp_isNaN_string {a0 : ByteArray} {r : Bool} (h : cmp_isNaN_string a0 = some r) : Fn Tryz.prog 101 [(.lf false (.sc (.string a0)))] [] 0 (.lf false (.sc (.bool r))) [] 0 := by
  unfold cmp_isNaN_string at h
  refine fn_code tab_ok mixed [] Tryz.func101 rfl rfl (by simp [Tryz.f101]) (by kernel_rfl) ?_
  simp only [Tryz.f101]
  refine sA ?_
  have he := Option.some.inj h
  subst he
  exact endsA ⟨[(2, (.lf false (.sc (.bool (!(a0.toList == a0.toList))))))], [], 0, 6⟩ []
theorem w_cmp_Less_string {a0 : ByteArray} {a1 : ByteArray} {r : Bool} (h : cmp_Less_string a0 a1 = some r) : Fn Tryz.prog 118 [(.lf false (.sc (.string a0))), (.lf false (.sc (.string a1)))] [] 0 (.lf false (.sc (.bool r))) [] 0 := by
  unfold cmp_Less_string at h
  refine fn_code tab_ok mixed [] Tryz.func118 rfl rfl (by simp [Tryz.f118]) (by kernel_rfl) ?_
  simp only [Tryz.f118]
  refine sA ?_
  obtain ⟨c195, hr1, h⟩ := bind_ok h
  refine Cl_sA (w_cmp_isNaN_string hr1) ?_
  try refine sA ?_
  refine Sp_if h (fun h hc2 => ?_) (fun h hc2 => ?_)
  · try refine sA ?_
    obtain ⟨c196, hr3, h⟩ := bind_ok h
    refine Cl_sA (w_cmp_isNaN_string hr3) ?_
    try refine sA ?_
    refine Sp_if h (fun h hc4 => ?_) (fun h hc4 => ?_)
    · try refine sA ?_
      have he := Option.some.inj h
      subst he
      exact endsA ⟨[(4, (.lf false (.sc (.bool true))))], [], 0, 17⟩ []
    · try refine sA ?_
      have he := Option.some.inj h
      subst he
      exact endsA ⟨[(4, (.lf false (.sc (.bool (sLt a0 a1)))))], [], 0, 17⟩ []
  · try refine sA ?_
    have he := Option.some.inj h
    subst he
    exact endsA ⟨[(4, (.lf false (.sc (.bool (sLt a0 a1)))))], [], 0, 17⟩ []
theorem w_slices_IsSorted_string {a0 : (List ByteArray)} {r : Bool} (h : slices_IsSorted_string a0 = some r) : Fn Tryz.prog 110 [(.lf true (.sl (a0.map eS)))] [] 0 (.lf false (.sc (.bool r))) [] 0 := by
  unfold slices_IsSorted_string at h
  refine fn_code tab_ok mixed [(1000, [(0, 0)]), (1001, [(0, 0), (3, 0)]), (1002, [(0, 0), (3, 0), (8, 0)]), (1003, [(0, 0), (3, 0)]), (1004, [(0, 0), (3, 0), (20, 0)]), (1005, [(2, 0)]), (1006, [(2, 0)])] Tryz.func110 rfl rfl (by simp [Tryz.f110]) (by kernel_rfl) ?_
  simp only [Tryz.f110]
  refine sA ?_
  obtain ⟨y199, hl1, h⟩ := bind_ok h
  refine W_loopP (fun g194 : slices_IsSorted_string_G1 => ⟨[(0, (.lf true (.sl (a0.map eS)))), (3, (.lf false (.sc (.int .i64 g194.t3))))], [], 0, 21⟩) (slices_IsSorted_string_L1 a0) _ _ hl1 (weakA []) ?_
  · intro n1 g194 z1 hs1 hk1
    unfold slices_IsSorted_string_L1 at hs1
    try dsimp only at hs1
    refine sA ?_
    refine Bs_if hs1 (fun hs1 hc2 => ?_) (fun hs1 hc2 => ?_)
    · try refine sA ?_
      obtain ⟨hp3, hs1⟩ := guard_some hs1
      have hn3 : g194.t3.toNat < a0.length := by first | omega | (simp only [List.length_set, List.length_append, List.length_replicate, List.length_map]; omega)
      try refine sA ?_
      try refine andA ?_
      obtain ⟨hp4, hs1⟩ := guard_some hs1
      have hn4 : (wI (g194.t3 - 1)).toNat < a0.length := by first | omega | (simp only [List.length_set, List.length_append, List.length_replicate, List.length_map]; omega)
      try refine sA ?_
      try refine andA ?_
      obtain ⟨c198, hr5, hs1⟩ := bind_ok hs1
      refine Cl_sA (w_cmp_Less_string hr5) ?_
      try refine sA ?_
      refine Bs_if hs1 (fun hs1 hc6 => ?_) (fun hs1 hc6 => ?_)
      · try refine sA ?_
        cases hs1
        cases hk1
        try dsimp only at h
        try refine sA ?_
        have he := Option.some.inj h
        subst he
        exact endsA ⟨[(2, (.lf false (.sc (.bool false))))], [], 0, 21⟩ []
      · try refine sA ?_
        cases hs1
        exact X_backP hk1 (weakA [])
    · try refine sA ?_
      cases hs1
      cases hk1
      try dsimp only at h
      try refine sA ?_
      have he := Option.some.inj h
      subst he
      exact endsA ⟨[(2, (.lf false (.sc (.bool true))))], [], 0, 21⟩ []
theorem w_impl_GoodState {a0 : StateT} {r : Bool} (h : impl_GoodState a0 = some r) : Fn Tryz.prog 104 [(.ag [(.lf false (.sc (.int .i64 a0.Status))), (.lf false (.sc (.int .i64 a0.Next))), (.lf false (.sc (.bool a0.Cancel))), (.lf false (.sc (.int .i64 a0.Done))), (.lf true (.sl (a0.Signals.map eS))), (.lf true (.sl (a0.Timers.map eS)))])] [] 0 (.lf false (.sc (.bool r))) [] 0 := by
  unfold impl_GoodState at h
  refine fn_code tab_ok mixed [(1000, [(1, 0)]), (1001, [(1, 0), (18, 0)]), (1002, [(2, 0)]), (1003, [(1, 0), (46, 0)]), (1004, [(2, 0)]), (1005, [(1, 0), (49, 0)]), (1006, [(2, 0)]), (1007, [(2, 0)]), (4001, []), (4003, [])] Tryz.func104 rfl rfl (by simp [Tryz.f104]) (by kernel_rfl) ?_
  simp only [Tryz.f104]
  refine sA ?_
  obtain ⟨p169, hq1, h⟩ := bind_ok h
  refine Sq_cut (fun s2 => s2 = ⟨[(1, (.pb 0 0)), (18, (.lf false (.sc (.bool p169.t18))))], [(0, some (true, .box [(.lf false (.sc (.int .i64 a0.Status))), (.lf false (.sc (.int .i64 a0.Next))), (.lf false (.sc (.bool a0.Cancel))), (.lf false (.sc (.int .i64 a0.Done))), (.lf true (.sl (a0.Signals.map eS))), (.lf true (.sl (a0.Timers.map eS)))]))], 1, 78⟩) ?_ ?_
  · try refine sA ?_
    obtain ⟨c166, hr2, hq1⟩ := bind_ok hq1
    refine Cl_sA (w_impl_in hr2) ?_
    try refine sA ?_
    refine Sp_if hq1 (fun hq1 hc3 => ?_) (fun hq1 hc3 => ?_)
    · try refine sA ?_
      cases hq1
      exact X_cut rfl (weakA [some 0])
    · try refine sA ?_
      obtain ⟨c167, hr4, hq1⟩ := bind_ok hq1
      refine Cl_sA (w_impl_in hr4) ?_
      try refine sA ?_
      refine Sp_if hq1 (fun hq1 hc5 => ?_) (fun hq1 hc5 => ?_)
      · try refine sA ?_
        cases hq1
        exact X_cut rfl (weakA [some 0])
      · try refine sA ?_
        obtain ⟨c168, hr6, hq1⟩ := bind_ok hq1
        refine Cl_sA (w_impl_in hr6) ?_
        try refine sA ?_
        cases hq1
        exact X_cut rfl (weakA [some 0])
  · intro s2 hJ; subst hJ
    try dsimp only at h
    try refine sA ?_
    refine Bs_if h (fun h hc7 => ?_) (fun h hc7 => ?_)
    · try refine sA ?_
      have he := Option.some.inj h
      subst he
      exact endsA ⟨[(2, (.lf false (.sc (.bool false))))], [], 0, 78⟩ []
    · try refine sA ?_
      obtain ⟨p204, hq8, h⟩ := bind_ok h
      refine Sq_cut (fun s2 => s2 = ⟨[(1, (.pb 0 0)), (46, (.lf false (.sc (.bool p204.t46))))], [(0, some (true, .box [(.lf false (.sc (.int .i64 a0.Status))), (.lf false (.sc (.int .i64 a0.Next))), (.lf false (.sc (.bool a0.Cancel))), (.lf false (.sc (.int .i64 a0.Done))), (.lf true (.sl (a0.Signals.map eS))), (.lf true (.sl (a0.Timers.map eS)))]))], 1, 78⟩) ?_ ?_
      · try refine sA ?_
        obtain ⟨c180, hr9, hq8⟩ := bind_ok hq8
        refine Cl_sA (w_impl_namesOk hr9) ?_
        try refine sA ?_
        refine Sp_if hq8 (fun hq8 hc10 => ?_) (fun hq8 hc10 => ?_)
        · try refine sA ?_
          cases hq8
          exact X_cut rfl (weakA [some 0])
        · try refine sA ?_
          obtain ⟨c192, hr11, hq8⟩ := bind_ok hq8
          refine Cl_sA (w_impl_distinct hr11) ?_
          try refine sA ?_
          refine Sp_if hq8 (fun hq8 hc12 => ?_) (fun hq8 hc12 => ?_)
          · try refine sA ?_
            cases hq8
            exact X_cut rfl (weakA [some 0])
          · try refine sA ?_
            obtain ⟨c193, hr13, hq8⟩ := bind_ok hq8
            refine Cl_sA (w_impl_namesOk hr13) ?_
            try refine sA ?_
            refine Sp_if hq8 (fun hq8 hc14 => ?_) (fun hq8 hc14 => ?_)
            · try refine sA ?_
              cases hq8
              exact X_cut rfl (weakA [some 0])
            · try refine sA ?_
              obtain ⟨c202, hr15, hq8⟩ := bind_ok hq8
              refine Cl_sA (w_slices_IsSorted_string hr15) ?_
              try refine sA ?_
              refine Sp_if hq8 (fun hq8 hc16 => ?_) (fun hq8 hc16 => ?_)
              · try refine sA ?_
                cases hq8
                exact X_cut rfl (weakA [some 0])
              · try refine sA ?_
                obtain ⟨c203, hr17, hq8⟩ := bind_ok hq8
                refine Cl_sA (w_impl_distinct hr17) ?_
                try refine sA ?_
                cases hq8
                exact X_cut rfl (weakA [some 0])
      · intro s2 hJ; subst hJ
        try dsimp only at h
        try refine sA ?_
        refine Bs_if h (fun h hc18 => ?_) (fun h hc18 => ?_)
        · try refine sA ?_
          have he := Option.some.inj h
          subst he
          exact endsA ⟨[(2, (.lf false (.sc (.bool false))))], [], 0, 78⟩ []
        · try refine sA ?_
          refine Bs_if h (fun h hc19 => ?_) (fun h hc19 => ?_)
          · try refine sA ?_
            have he := Option.some.inj h
            subst he
            exact endsA ⟨[(2, (.lf false (.sc (.bool (decide (a0.Next > 1))))))], [], 0, 78⟩ []
          · try refine sA ?_
            refine Sp_if h (fun h hc20 => ?_) (fun h hc20 => ?_)
            · try refine sA ?_
              refine Sp_if h (fun h hc21 => ?_) (fun h hc21 => ?_)
              · try refine sA ?_
                refine Sp_if h (fun h hc22 => ?_) (fun h hc22 => ?_)
                · try refine sA ?_
                  refine Sp_if h (fun h hc23 => ?_) (fun h hc23 => ?_)
                  · try refine sA ?_
                    have he := Option.some.inj h
                    subst he
                    exact endsA ⟨[(2, (.lf false (.sc (.bool (((a0.Timers.length : Nat) : Int) == 0)))))], [], 0, 78⟩ []
                  · try refine sA ?_
                    have he := Option.some.inj h
                    subst he
                    exact endsA ⟨[(2, (.lf false (.sc (.bool false))))], [], 0, 78⟩ []
                · try refine sA ?_
                  have he := Option.some.inj h
                  subst he
                  exact endsA ⟨[(2, (.lf false (.sc (.bool false))))], [], 0, 78⟩ []
              · try refine sA ?_
                have he := Option.some.inj h
                subst he
                exact endsA ⟨[(2, (.lf false (.sc (.bool false))))], [], 0, 78⟩ []
            · try refine sA ?_
              have he := Option.some.inj h
              subst he
              exact endsA ⟨[(2, (.lf false (.sc (.bool false))))], [], 0, 78⟩ []
theorem w_impl_goodKind {a0 : Int} {r : Bool} (h : impl_goodKind a0 = some r) : Fn Tryz.prog 111 [(.lf false (.sc (.int .i64 a0)))] [] 0 (.lf false (.sc (.bool r))) [] 0 := by
  unfold impl_goodKind at h
  refine fn_code tab_ok mixed [] Tryz.func111 rfl rfl (by simp [Tryz.f111]) (by kernel_rfl) ?_
  simp only [Tryz.f111]
  refine sA ?_
  obtain ⟨c208, hr1, h⟩ := bind_ok h
  refine Cl_sA (w_impl_in hr1) ?_
  try refine sA ?_
  have he := Option.some.inj h
  subst he
  exact endsA ⟨[(2, (.lf false (.sc (.bool c208))))], [], 0, 5⟩ []
theorem w_impl_GoodEvent {a0 : EventT} {r : Bool} (h : impl_GoodEvent a0 = some r) : Fn Tryz.prog 105 [(.ag [(.lf false (.sc (.int .i64 a0.Id))), (.lf false (.sc (.int .i64 a0.Version))), (.lf false (.sc (.int .i64 a0.Kind))), (.lf false (.sc (.string a0.Name)))])] [] 0 (.lf false (.sc (.bool r))) [] 0 := by
  unfold impl_GoodEvent at h
  refine fn_code tab_ok mixed [] Tryz.func105 rfl rfl (by simp [Tryz.f105]) (by kernel_rfl) ?_
  simp only [Tryz.f105]
  refine sA ?_
  obtain ⟨c206, hr1, h⟩ := bind_ok h
  refine Cl_sA (w_impl_in hr1) ?_
  try refine sA ?_
  refine Sp_if h (fun h hc2 => ?_) (fun h hc2 => ?_)
  · try refine sA ?_
    obtain ⟨c207, hr3, h⟩ := bind_ok h
    refine Cl_sA (w_impl_isVersion hr3) ?_
    try refine sA ?_
    refine Sp_if h (fun h hc4 => ?_) (fun h hc4 => ?_)
    · try refine sA ?_
      obtain ⟨c209, hr5, h⟩ := bind_ok h
      refine Cl_sA (w_impl_goodKind hr5) ?_
      try refine sA ?_
      refine Sp_if h (fun h hc6 => ?_) (fun h hc6 => ?_)
      · try refine sA ?_
        obtain ⟨c210, hr7, h⟩ := bind_ok h
        refine Cl_sA (w_impl_goodName hr7) ?_
        try refine sA ?_
        have he := Option.some.inj h
        subst he
        exact endsA ⟨[(2, (.lf false (.sc (.bool c210))))], [], 0, 21⟩ []
      · try refine sA ?_
        have he := Option.some.inj h
        subst he
        exact endsA ⟨[(2, (.lf false (.sc (.bool false))))], [], 0, 21⟩ []
    · try refine sA ?_
      have he := Option.some.inj h
      subst he
      exact endsA ⟨[(2, (.lf false (.sc (.bool false))))], [], 0, 21⟩ []
  · try refine sA ?_
    have he := Option.some.inj h
    subst he
    exact endsA ⟨[(2, (.lf false (.sc (.bool false))))], [], 0, 21⟩ []
theorem w_slices_Clone_string {a0 : (List ByteArray)} {r : (List ByteArray)} (h : slices_Clone_string a0 = some r) : Fn Tryz.prog 113 [(.lf true (.sl (a0.map eS)))] [] 0 (.os 0 1 0 r.length r.length false) [(0, some (true, .arr false 1 (r.map eS)))] 1 := by
  unfold slices_Clone_string at h
  obtain ⟨hp, h⟩ := guard_some h
  have he := Option.some.inj h; subst he
  refine fn_code tab_ok mixed [] Tryz.func113 rfl rfl (by simp [Tryz.f113]) (by kernel_rfl) ?_
  simp only [Tryz.f113]
  simp (disch := assumption) only [go_sem, Nat.reduceAdd, Nat.reduceMul, Nat.reduceSub, Nat.reduceEqDiff, ↓reduceIte, Nat.reduceLT, reduceCtorEq, Nat.reduceLeDiff, Int.reduceToNat, Int.reduceEq, Int.reduceLE, Int.reduceLT, Nat.reduceBEq]
  intro b hb
  refine Bs_splitC (b = true) (by simp) (fun hc => ?_) (fun hc => ?_)
  · have h0 : a0 = [] := by simpa using hb (by simpa using hc)
    subst h0
    try simp (disch := assumption) only [go_sem, Nat.reduceAdd, Nat.reduceMul, Nat.reduceSub, Nat.reduceEqDiff, ↓reduceIte, Nat.reduceLT, reduceCtorEq, Nat.reduceLeDiff, Int.reduceToNat, Int.reduceEq, Int.reduceLE, Int.reduceLT, Nat.reduceBEq]
    refine ends_weak ⟨[(2, (.os 0 1 0 0 0 false))], [(0, some (true, .arr false 1 (([] : List ByteArray).map eS)))], 1, 8⟩ (weak_of (m := 0) [none] rfl rfl rfl (by rfl) ?_ ?_) ?_
    all_goals ((try simp (disch := assumption) only [go_sem, Nat.reduceAdd, Nat.reduceMul, Nat.reduceSub, Nat.reduceEqDiff, ↓reduceIte, Nat.reduceLT, reduceCtorEq, Nat.reduceLeDiff, Int.reduceToNat, Int.reduceEq, Int.reduceLE, Int.reduceLT, Nat.reduceBEq]); (repeat' first | done | rfl | omega | refine And.intro ?_ ?_ | (simp; done) | (simp; omega)))
  · try simp (disch := assumption) only [go_sem, Nat.reduceAdd, Nat.reduceMul, Nat.reduceSub, Nat.reduceEqDiff, ↓reduceIte, Nat.reduceLT, reduceCtorEq, Nat.reduceLeDiff, Int.reduceToNat, Int.reduceEq, Int.reduceLE, Int.reduceLT, Nat.reduceBEq]
    first | refine And.intro (by first | omega | exact ⟨by omega, fun _ => mapLen fun _ => rfl⟩ | (refine ⟨?_, by omega⟩; first | exact mapLen fun _ => rfl | simp)) ?_ | skip
    try simp (disch := assumption) only [go_sem, Nat.reduceAdd, Nat.reduceMul, Nat.reduceSub, Nat.reduceEqDiff, ↓reduceIte, Nat.reduceLT, reduceCtorEq, Nat.reduceLeDiff, Int.reduceToNat, Int.reduceEq, Int.reduceLE, Int.reduceLT, Nat.reduceBEq]
    refine ends_weak ⟨[(2, (.os 0 1 0 a0.length a0.length false))], [(0, some (true, .arr false 1 (a0.map eS)))], 1, 8⟩ (weak_of (m := 0) [some 1] rfl rfl rfl (by rfl) ?_ ?_) ?_
    all_goals ((try simp (disch := assumption) only [go_sem, Nat.reduceAdd, Nat.reduceMul, Nat.reduceSub, Nat.reduceEqDiff, ↓reduceIte, Nat.reduceLT, reduceCtorEq, Nat.reduceLeDiff, Int.reduceToNat, Int.reduceEq, Int.reduceLE, Int.reduceLT, Nat.reduceBEq]); (repeat' first | done | rfl | omega | refine And.intro ?_ ?_ | (simp; done) | (simp; omega)))
theorem w_impl_cloneState {a0 : StateT} {r : StateT} (h : impl_cloneState a0 = some r) : Fn Tryz.prog 106 [(.ag [(.lf false (.sc (.int .i64 a0.Status))), (.lf false (.sc (.int .i64 a0.Next))), (.lf false (.sc (.bool a0.Cancel))), (.lf false (.sc (.int .i64 a0.Done))), (.lf true (.sl (a0.Signals.map eS))), (.lf true (.sl (a0.Timers.map eS)))])] [] 0 (.ag [(.lf false (.sc (.int .i64 r.Status))), (.lf false (.sc (.int .i64 r.Next))), (.lf false (.sc (.bool r.Cancel))), (.lf false (.sc (.int .i64 r.Done))), (.os 0 1 0 r.Signals.length r.Signals.length false), (.os 1 1 0 r.Timers.length r.Timers.length false)]) [(0, some (true, .arr false 1 (r.Signals.map eS))), (1, some (true, .arr false 1 (r.Timers.map eS)))] 3 := by
  unfold impl_cloneState at h
  refine fn_code tab_ok mixed [(1, [(4, 2)]), (1000, [(1, 0), (2, 0)]), (1001, [(1, 0), (2, 0)]), (1002, [(2, 0)])] Tryz.func106 rfl rfl (by simp [Tryz.f106]) (by kernel_rfl) ?_
  simp only [Tryz.f106]
  refine sA ?_
  obtain ⟨c213, hr1, h⟩ := bind_ok h
  refine Cl_sA (w_slices_Clone_string hr1) ?_
  try refine sA ?_
  obtain ⟨c214, hr2, h⟩ := bind_ok h
  refine Cl_sA (w_slices_Clone_string hr2) ?_
  try refine sA ?_
  have he := Option.some.inj h
  subst he
  exact endsA ⟨[(2, (.pb 2 0))], [(0, some (true, .arr false 1 (c213.map eS))), (1, some (true, .arr false 1 (c214.map eS))), (2, some (true, .box [(.lf false (.sc (.int .i64 a0.Status))), (.lf false (.sc (.int .i64 a0.Next))), (.lf false (.sc (.bool a0.Cancel))), (.lf false (.sc (.int .i64 a0.Done))), (.os 0 1 0 c213.length c213.length false), (.os 1 1 0 c214.length c214.length false)]))], 3, 12⟩ [some 2, some 3, some 1]
theorem w_slices_isNaN_string {a0 : ByteArray} {r : Bool} (h : slices_isNaN_string a0 = some r) : Fn Tryz.prog 132 [(.lf false (.sc (.string a0)))] [] 0 (.lf false (.sc (.bool r))) [] 0 := by
  unfold slices_isNaN_string at h
  refine fn_code tab_ok mixed [] Tryz.func132 rfl rfl (by simp [Tryz.f132]) (by kernel_rfl) ?_
  simp only [Tryz.f132]
  refine sA ?_
  have he := Option.some.inj h
  subst he
  exact endsA ⟨[(2, (.lf false (.sc (.bool (!(a0.toList == a0.toList))))))], [], 0, 6⟩ []
theorem w_slices_BinarySearch_string {a0 : (List ByteArray)} {a1 : ByteArray} {r : (Int × Bool)} (h : slices_BinarySearch_string a0 a1 = some r) : Fn Tryz.prog 121 [(.lf true (.sl (a0.map eS))), (.lf false (.sc (.string a1)))] [] 0 (.tu [(.lf false (.sc (.int .i64 r.1))), (.lf false (.sc (.bool r.2)))]) [] 0 := by
  unfold slices_BinarySearch_string at h
  refine fn_code tab_ok mixed [(1000, [(0, 0), (1, 0)]), (1001, [(0, 0), (1, 0), (6, 0)]), (1002, [(0, 0), (1, 0), (6, 0), (7, 0), (8, 0)]), (1003, [(0, 0), (1, 0), (6, 0), (7, 0), (8, 0), (15, 0)]), (1004, [(0, 0), (1, 0), (6, 0), (7, 0), (8, 0), (9, 0)]), (1005, [(0, 0), (1, 0), (6, 0), (7, 0), (8, 0), (9, 0), (27, 0)]), (1006, [(0, 0), (1, 0), (6, 0), (7, 0), (8, 0)]), (1007, [(0, 0), (1, 0), (6, 0), (7, 0), (8, 0)]), (1008, [(4, 0), (5, 0)])] Tryz.func121 rfl rfl (by simp [Tryz.f121]) (by kernel_rfl) ?_
  simp only [Tryz.f121]
  refine sA ?_
  obtain ⟨y222, hl1, h⟩ := bind_ok h
  refine W_loopP (fun g219 : slices_BinarySearch_string_G1 => ⟨[(0, (.lf true (.sl (a0.map eS)))), (1, (.lf false (.sc (.string a1)))), (6, (.lf false (.sc (.int .i64 ((a0.length : Nat) : Int))))), (7, (.lf false (.sc (.int .i64 g219.t7)))), (8, (.lf false (.sc (.int .i64 g219.t8))))], [], 0, 54⟩) (slices_BinarySearch_string_L1 a0 a1) _ _ hl1 (weakA []) ?_
  · intro n1 g219 z1 hs1 hk1
    unfold slices_BinarySearch_string_L1 at hs1
    try dsimp only at hs1
    refine sA ?_
    refine Bs_if hs1 (fun hs1 hc2 => ?_) (fun hs1 hc2 => ?_)
    · try refine sA ?_
      obtain ⟨hp3, hs1⟩ := guard_some hs1
      have hn3 : (wI (shR 64 (wU (wI (g219.t7 + g219.t8))) 1)).toNat < a0.length := by first | omega | (simp only [List.length_set, List.length_append, List.length_replicate, List.length_map]; omega)
      try refine sA ?_
      try refine andA ?_
      obtain ⟨c221, hr4, hs1⟩ := bind_ok hs1
      refine Cl_sA (w_cmp_Less_string hr4) ?_
      try refine sA ?_
      refine Bs_if hs1 (fun hs1 hc5 => ?_) (fun hs1 hc5 => ?_)
      · try refine sA ?_
        cases hs1
        exact X_backP hk1 (weakA [])
      · try refine sA ?_
        cases hs1
        exact X_backP hk1 (weakA [])
    · try refine sA ?_
      cases hs1
      cases hk1
      try dsimp only at h
      try refine sA ?_
      refine Sp_if h (fun h hc6 => ?_) (fun h hc6 => ?_)
      · try refine sA ?_
        obtain ⟨hp7, h⟩ := guard_some h
        have hn7 : g219.t7.toNat < a0.length := by first | omega | (simp only [List.length_set, List.length_append, List.length_replicate, List.length_map]; omega)
        try refine sA ?_
        try refine andA ?_
        refine Sp_if h (fun h hc8 => ?_) (fun h hc8 => ?_)
        · try refine sA ?_
          have he := Option.some.inj h
          subst he
          exact endsA ⟨[(4, (.lf false (.sc (.int .i64 g219.t7)))), (5, (.lf false (.sc (.bool true))))], [], 0, 54⟩ []
        · try refine sA ?_
          obtain ⟨hp9, h⟩ := guard_some h
          have hn9 : g219.t7.toNat < a0.length := by first | omega | (simp only [List.length_set, List.length_append, List.length_replicate, List.length_map]; omega)
          try refine sA ?_
          try refine andA ?_
          obtain ⟨c225, hr10, h⟩ := bind_ok h
          refine Cl_sA (w_slices_isNaN_string hr10) ?_
          try refine sA ?_
          refine Sp_if h (fun h hc11 => ?_) (fun h hc11 => ?_)
          · try refine sA ?_
            obtain ⟨c226, hr12, h⟩ := bind_ok h
            refine Cl_sA (w_slices_isNaN_string hr12) ?_
            try refine sA ?_
            have he := Option.some.inj h
            subst he
            exact endsA ⟨[(4, (.lf false (.sc (.int .i64 g219.t7)))), (5, (.lf false (.sc (.bool c226))))], [], 0, 54⟩ []
          · try refine sA ?_
            have he := Option.some.inj h
            subst he
            exact endsA ⟨[(4, (.lf false (.sc (.int .i64 g219.t7)))), (5, (.lf false (.sc (.bool false))))], [], 0, 54⟩ []
      · try refine sA ?_
        have he := Option.some.inj h
        subst he
        exact endsA ⟨[(4, (.lf false (.sc (.int .i64 g219.t7)))), (5, (.lf false (.sc (.bool false))))], [], 0, 54⟩ []
theorem w_slices_Delete_string_w {a0 : List ByteArray} {a1 a2 : Int} {m0 : Nat} {x0 : Bool} {r : List ByteArray} (h : slices_Delete_string_w a0 a1 a2 = some r) : Fn Tryz.prog 122 [(.os 0 1 0 a0.length m0 x0), (.lf false (.sc (.int .i64 a1))), (.lf false (.sc (.int .i64 a2)))] [(0, some (false, .arr true 1 (a0.map eS)))] 1 (.os 1 1 0 r.length r.length false) [(0, none), (1, some (false, .arr false 1 (r.map eS)))] 2 := by
  unfold slices_Delete_string_w at h
  obtain ⟨⟨hp1, hp2, hp3, hp4⟩, h⟩ := guard_some h
  have he := Option.some.inj h; subst he
  refine fn_code tab_ok mixed [] Tryz.func122 rfl rfl (by simp [Tryz.f122]) (by kernel_rfl) ?_
  simp only [Tryz.f122]
  simp (disch := assumption) only [go_sem, Nat.reduceAdd, Nat.reduceMul, Nat.reduceSub, Nat.reduceEqDiff, ↓reduceIte, Nat.reduceLT, reduceCtorEq, Nat.reduceLeDiff, Int.reduceToNat, Int.reduceEq, Int.reduceLE, Int.reduceLT, Nat.reduceBEq]
  refine And.intro (by omega) ?_
  try simp (disch := assumption) only [go_sem, Nat.reduceAdd, Nat.reduceMul, Nat.reduceSub, Nat.reduceEqDiff, ↓reduceIte, Nat.reduceLT, reduceCtorEq, Nat.reduceLeDiff, Int.reduceToNat, Int.reduceEq, Int.reduceLE, Int.reduceLT, Nat.reduceBEq]
  refine Bs_splitC (a1 == a2) (by first | rfl | simp) (fun hc => ?_) (fun hc => ?_)
  · try simp (disch := assumption) only [go_sem, Nat.reduceAdd, Nat.reduceMul, Nat.reduceSub, Nat.reduceEqDiff, ↓reduceIte, Nat.reduceLT, reduceCtorEq, Nat.reduceLeDiff, Int.reduceToNat, Int.reduceEq, Int.reduceLE, Int.reduceLT, Nat.reduceBEq]
    have he : a1 = a2 := by simpa using hc
    have hr : a0.take a1.toNat ++ a0.drop a2.toNat = a0 := by rw [he]; exact List.take_append_drop _ _
    rw [hr]
    refine ends_weak ⟨[(6, (.os 1 1 0 a0.length a0.length false))], [(0, none), (1, some (false, .arr false 1 (a0.map eS)))], 2, 33⟩ (weak_of (m := 1) [some 0, some 0] rfl rfl rfl (by rfl) ?_ ?_) ?_
    all_goals ((try simp (disch := assumption) only [go_sem, Nat.reduceAdd, Nat.reduceMul, Nat.reduceSub, Nat.reduceEqDiff, ↓reduceIte, Nat.reduceLT, reduceCtorEq, Nat.reduceLeDiff, Int.reduceToNat, Int.reduceEq, Int.reduceLE, Int.reduceLT, Nat.reduceBEq]); (repeat' first | done | rfl | omega | refine And.intro ?_ ?_ | (simp; done) | (simp; omega)))
  · try simp (disch := assumption) only [go_sem, Nat.reduceAdd, Nat.reduceMul, Nat.reduceSub, Nat.reduceEqDiff, ↓reduceIte, Nat.reduceLT, reduceCtorEq, Nat.reduceLeDiff, Int.reduceToNat, Int.reduceEq, Int.reduceLE, Int.reduceLT, Nat.reduceBEq]
    refine And.intro (by omega) (And.intro (by omega) ?_)
    have hs : a2.toNat + (a0.length - a2.toNat) ≤ a0.length := by omega
    simp (disch := assumption) only [go_sem, Nat.reduceAdd, Nat.reduceMul, Nat.reduceSub, Nat.reduceEqDiff, ↓reduceIte, Nat.reduceLT, reduceCtorEq, Nat.reduceLeDiff, Int.reduceToNat, Int.reduceEq, Int.reduceLE, Int.reduceLT, Nat.reduceBEq, hs]
    have hd : (a0.drop a2.toNat).length = a0.length - a2.toNat := List.length_drop
    have ht : (a0.take a1.toNat).length = a1.toNat := by rw [List.length_take]; omega
    have hR : (a0.take a1.toNat ++ a0.drop a2.toNat).length = a1.toNat + (a0.drop a2.toNat).length := by rw [List.length_append, ht]
    refine And.intro ⟨by omega, (by first | exact mapLen fun _ => rfl | simp), by omega⟩ (And.intro ⟨by omega, by omega, by omega⟩ (And.intro (by omega) ?_))
    refine ends_weak ⟨[(6, (.os 1 1 0 (a0.take a1.toNat ++ a0.drop a2.toNat).length (a0.take a1.toNat ++ a0.drop a2.toNat).length false))], [(0, none), (1, some (false, .arr false 1 ((a0.take a1.toNat ++ a0.drop a2.toNat).map eS)))], 2, 33⟩ (weak_of (m := 1) [some 0, some 1] rfl rfl rfl (by rfl) ?_ ?_) ?_
    all_goals ((try simp (disch := assumption) only [go_sem, Nat.reduceAdd, Nat.reduceMul, Nat.reduceSub, Nat.reduceEqDiff, ↓reduceIte, Nat.reduceLT, reduceCtorEq, Nat.reduceLeDiff, Int.reduceToNat, Int.reduceEq, Int.reduceLE, Int.reduceLT, Nat.reduceBEq]); (repeat' first | done | rfl | omega | refine And.intro ?_ ?_ | (simp; done) | (simp; omega)))
theorem w_slices_Insert_string_w {a0 : List ByteArray} {a1 : Int} {a2 : List ByteArray} {m0 m2 : Nat} {x0 x2 : Bool} {r : List ByteArray} (h : slices_Insert_string_w a0 a1 a2 = some r) : Fn Tryz.prog 123 [(.os 0 1 0 a0.length m0 x0), (.lf false (.sc (.int .i64 a1))), (.os 1 1 0 a2.length m2 x2)] [(0, some (false, .arr true 1 (a0.map eS))), (1, some (false, .arr true 1 (a2.map eS)))] 2 (.os 2 1 0 r.length r.length false) [(0, none), (1, none), (2, some (false, .arr false 1 (r.map eS)))] 3 := by
  unfold slices_Insert_string_w at h
  obtain ⟨⟨hp1, hp2, hp3, hp4⟩, h⟩ := guard_some h
  have he := Option.some.inj h; subst he
  obtain ⟨x, rfl⟩ := List.length_eq_one_iff.1 hp1
  rw [List.append_assoc, List.singleton_append]
  exact fn_insert Go.Proofs.Tryz.lays22 (Ent.of Tryz.func123 rfl (by simp [Tryz.f123])) (fun _ => rfl) hp2 hp3 hp4
theorem w_impl_State_turnTimer_o {a0 : StateT} {a1 : ByteArray} {m1 : Nat} {x1 : Bool} {m2 : Nat} {x2 : Bool} {r : (Bool × StateT)} (h : impl_State_turnTimer_o a0 a1 = some r) : Fn Tryz.prog 115 [(.pb 0 0), (.lf false (.sc (.string a1)))] [(0, some (false, .box [(.lf false (.sc (.int .i64 a0.Status))), (.lf false (.sc (.int .i64 a0.Next))), (.lf false (.sc (.bool a0.Cancel))), (.lf false (.sc (.int .i64 a0.Done))), (.os 1 1 0 a0.Signals.length m1 x1), (.os 2 1 0 a0.Timers.length m2 x2)])), (1, some (false, .arr true 1 (a0.Signals.map eS))), (2, some (false, .arr true 1 (a0.Timers.map eS)))] 3 (.lf false (.sc (.bool r.1))) [(0, some (false, .box [(.lf false (.sc (.int .i64 r.2.Status))), (.lf false (.sc (.int .i64 r.2.Next))), (.lf false (.sc (.bool r.2.Cancel))), (.lf false (.sc (.int .i64 r.2.Done))), (.os 1 1 0 a0.Signals.length a0.Signals.length false), (.os 3 1 0 r.2.Timers.length r.2.Timers.length false)])), (1, some (false, .arr false 1 (a0.Signals.map eS))), (2, none), (3, some (false, .arr false 1 (r.2.Timers.map eS)))] 4 := by
  unfold impl_State_turnTimer_o at h
  refine fn_code tab_ok mixed [(1000, [(0, 0), (1, 0)]), (1001, [(0, 0), (1, 0), (5, 0), (6, 0)]), (1002, []), (1003, [(0, 0), (1, 0), (5, 0), (27, 0)]), (1004, []), (1005, [(0, 0), (1, 0), (5, 0), (40, 0)]), (1006, [(4, 0)]), (1007, [(4, 0)])] Tryz.func115 rfl rfl (by simp [Tryz.f115]) (by kernel_rfl) ?_
  simp only [Tryz.f115]
  refine sA ?_
  obtain ⟨c227, hr1, h⟩ := bind_ok h
  refine Cl_sA (w_slices_BinarySearch_string hr1) ?_
  try refine sA ?_
  refine Bs_if h (fun h hc2 => ?_) (fun h hc2 => ?_)
  · try refine sA ?_
    obtain ⟨c228, hr3, h⟩ := bind_ok h
    refine Cl_hA [2] (w_slices_Delete_string_w hr3) ?_
    try refine sA ?_
    have he := Option.some.inj h
    subst he
    exact endsA ⟨[(4, (.lf false (.sc (.bool true))))], [(0, some (false, .box [(.lf false (.sc (.int .i64 a0.Status))), (.lf false (.sc (.int .i64 a0.Next))), (.lf false (.sc (.bool a0.Cancel))), (.lf false (.sc (.int .i64 a0.Done))), (.os 1 1 0 a0.Signals.length a0.Signals.length false), (.os 3 1 0 c228.length c228.length false)])), (1, some (false, .arr false 1 (a0.Signals.map eS))), (2, none), (3, some (false, .arr false 1 (c228.map eS)))], 4, 47⟩ [some 0, some 1, some 2, some 3]
  · try refine sA ?_
    refine Bs_if h (fun h hc4 => ?_) (fun h hc4 => ?_)
    · try refine sA ?_
      have he := Option.some.inj h
      subst he
      exact endsA ⟨[(4, (.lf false (.sc (.bool false))))], [(0, some (false, .box [(.lf false (.sc (.int .i64 a0.Status))), (.lf false (.sc (.int .i64 a0.Next))), (.lf false (.sc (.bool a0.Cancel))), (.lf false (.sc (.int .i64 a0.Done))), (.os 1 1 0 a0.Signals.length a0.Signals.length false), (.os 3 1 0 a0.Timers.length a0.Timers.length false)])), (1, some (false, .arr false 1 (a0.Signals.map eS))), (2, none), (3, some (false, .arr false 1 (a0.Timers.map eS)))], 4, 47⟩ [some 0, some 1, some 2, some 2]
    · try refine sA ?_
      obtain ⟨c229, hr5, h⟩ := bind_ok h
      refine Cl_hA [2, 3] (w_slices_Insert_string_w hr5) ?_
      try refine sA ?_
      have he := Option.some.inj h
      subst he
      exact endsA ⟨[(4, (.lf false (.sc (.bool true))))], [(0, some (false, .box [(.lf false (.sc (.int .i64 a0.Status))), (.lf false (.sc (.int .i64 a0.Next))), (.lf false (.sc (.bool a0.Cancel))), (.lf false (.sc (.int .i64 a0.Done))), (.os 1 1 0 a0.Signals.length a0.Signals.length false), (.os 3 1 0 c229.length c229.length false)])), (1, some (false, .arr false 1 (a0.Signals.map eS))), (2, none), (3, some (false, .arr false 1 (c229.map eS)))], 4, 47⟩ [some 0, some 1, some 2, some 4]
theorem w_impl_State_apply_o {a0 : StateT} {a1 : Int} {a2 : ByteArray} {m1 : Nat} {x1 : Bool} {m2 : Nat} {x2 : Bool} {r : (Bool × StateT)} (h : impl_State_apply_o a0 a1 a2 = some r) : Fn Tryz.prog 107 [(.pb 0 0), (.lf false (.sc (.int .i64 a1))), (.lf false (.sc (.string a2)))] [(0, some (false, .box [(.lf false (.sc (.int .i64 a0.Status))), (.lf false (.sc (.int .i64 a0.Next))), (.lf false (.sc (.bool a0.Cancel))), (.lf false (.sc (.int .i64 a0.Done))), (.os 1 1 0 a0.Signals.length m1 x1), (.os 2 1 0 a0.Timers.length m2 x2)])), (1, some (false, .arr true 1 (a0.Signals.map eS))), (2, some (false, .arr true 1 (a0.Timers.map eS)))] 3 (.lf false (.sc (.bool r.1))) [(0, some (false, .box [(.lf false (.sc (.int .i64 r.2.Status))), (.lf false (.sc (.int .i64 r.2.Next))), (.lf false (.sc (.bool r.2.Cancel))), (.lf false (.sc (.int .i64 r.2.Done))), (.os 3 1 0 r.2.Signals.length r.2.Signals.length false), (.os 4 1 0 r.2.Timers.length r.2.Timers.length false)])), (1, none), (2, none), (3, some (false, .arr false 1 (r.2.Signals.map eS))), (4, some (false, .arr false 1 (r.2.Timers.map eS)))] 5 := by
  unfold impl_State_apply_o at h
  refine fn_code tab_ok mixed [(1000, [(0, 0), (1, 0), (2, 0)]), (1001, [(0, 0), (1, 0), (2, 0), (32, 0)]), (1002, [(6, 0)]), (1003, [(0, 0), (2, 0), (33, 0)]), (1004, [(0, 0), (2, 0), (33, 0), (34, 0)]), (1005, [(0, 0)]), (1006, [(0, 0), (2, 0), (33, 0), (39, 0)]), (1007, [(0, 0), (2, 0), (54, 0)]), (1008, [(6, 0)]), (1009, [(0, 0)]), (1010, [(0, 0), (2, 0), (33, 0), (65, 0)]), (1011, [(0, 0)]), (1012, [(0, 0), (2, 0), (33, 0), (74, 0)]), (1013, [(0, 0), (79, 0)]), (1014, [(6, 0)]), (1015, [(0, 0), (33, 0), (80, 0)]), (1016, [(0, 0), (85, 0)]), (1017, [(6, 0)]), (1018, [(0, 0)]), (1019, [(0, 0), (89, 0)]), (1020, [(0, 0)]), (1021, []), (1022, [(6, 0)]), (4001, []), (4007, [])] Tryz.func107 rfl rfl (by simp [Tryz.f107]) (by kernel_rfl) ?_
  simp only [Tryz.f107]
  refine sA ?_
  obtain ⟨p232, hq1, h⟩ := bind_ok h
  refine Sq_cut (fun s2 => s2 = ⟨[(0, (.pb 0 0)), (1, (.lf false (.sc (.int .i64 a1)))), (2, (.lf false (.sc (.string a2)))), (32, (.lf false (.sc (.bool p232.t32))))], [(0, some (false, .box [(.lf false (.sc (.int .i64 a0.Status))), (.lf false (.sc (.int .i64 a0.Next))), (.lf false (.sc (.bool a0.Cancel))), (.lf false (.sc (.int .i64 a0.Done))), (.os 1 1 0 a0.Signals.length m1 x1), (.os 2 1 0 a0.Timers.length m2 x2)])), (1, some (false, .arr true 1 (a0.Signals.map eS))), (2, some (false, .arr true 1 (a0.Timers.map eS)))], 3, 104⟩) ?_ ?_
  · try refine sA ?_
    refine Sp_if hq1 (fun hq1 hc2 => ?_) (fun hq1 hc2 => ?_)
    · try refine sA ?_
      cases hq1
      exact X_cut rfl (weakA [some 0, some 1, some 2])
    · try refine sA ?_
      refine Sp_if hq1 (fun hq1 hc3 => ?_) (fun hq1 hc3 => ?_)
      · try refine sA ?_
        cases hq1
        exact X_cut rfl (weakA [some 0, some 1, some 2])
      · try refine sA ?_
        refine Sp_if hq1 (fun hq1 hc4 => ?_) (fun hq1 hc4 => ?_)
        · try refine sA ?_
          cases hq1
          exact X_cut rfl (weakA [some 0, some 1, some 2])
        · try refine sA ?_
          cases hq1
          exact X_cut rfl (weakA [some 0, some 1, some 2])
  · intro s2 hJ; subst hJ
    try dsimp only at h
    try refine sA ?_
    refine Bs_if h (fun h hc5 => ?_) (fun h hc5 => ?_)
    · try refine sA ?_
      have he := Option.some.inj h
      subst he
      exact endsA ⟨[(6, (.lf false (.sc (.bool false))))], [(0, some (false, .box [(.lf false (.sc (.int .i64 a0.Status))), (.lf false (.sc (.int .i64 a0.Next))), (.lf false (.sc (.bool a0.Cancel))), (.lf false (.sc (.int .i64 a0.Done))), (.os 3 1 0 a0.Signals.length a0.Signals.length false), (.os 4 1 0 a0.Timers.length a0.Timers.length false)])), (1, none), (2, none), (3, some (false, .arr false 1 (a0.Signals.map eS))), (4, some (false, .arr false 1 (a0.Timers.map eS)))], 5, 104⟩ [some 0, some 1, some 2, some 1, some 2]
    · try refine sA ?_
      refine Bs_if h (fun h hc6 => ?_) (fun h hc6 => ?_)
      · try refine sA ?_
        have he := Option.some.inj h
        subst he
        exact endsA ⟨[(6, (.lf false (.sc (.bool true))))], [(0, some (false, .box [(.lf false (.sc (.int .i64 1))), (.lf false (.sc (.int .i64 (wI (a0.Next + 1))))), (.lf false (.sc (.bool a0.Cancel))), (.lf false (.sc (.int .i64 a0.Done))), (.os 3 1 0 a0.Signals.length a0.Signals.length false), (.os 4 1 0 a0.Timers.length a0.Timers.length false)])), (1, none), (2, none), (3, some (false, .arr false 1 (a0.Signals.map eS))), (4, some (false, .arr false 1 (a0.Timers.map eS)))], 5, 104⟩ [some 0, some 1, some 2, some 1, some 2]
      · try refine sA ?_
        refine Bs_if h (fun h hc7 => ?_) (fun h hc7 => ?_)
        · try refine sA ?_
          obtain ⟨p234, hq8, h⟩ := bind_ok h
          refine Sq_cut (fun s2 => s2 = ⟨[(0, (.pb 0 0)), (2, (.lf false (.sc (.string a2)))), (54, (.lf false (.sc (.bool p234.t54))))], [(0, some (false, .box [(.lf false (.sc (.int .i64 a0.Status))), (.lf false (.sc (.int .i64 a0.Next))), (.lf false (.sc (.bool a0.Cancel))), (.lf false (.sc (.int .i64 a0.Done))), (.os 1 1 0 a0.Signals.length m1 x1), (.os 2 1 0 a0.Timers.length m2 x2)])), (1, some (false, .arr true 1 (a0.Signals.map eS))), (2, some (false, .arr true 1 (a0.Timers.map eS)))], 3, 104⟩) ?_ ?_
          · try refine sA ?_
            obtain ⟨c233, hr9, hq8⟩ := bind_ok hq8
            refine Cl_sA (w_slices_Contains_string hr9) ?_
            try refine sA ?_
            refine Sp_if hq8 (fun hq8 hc10 => ?_) (fun hq8 hc10 => ?_)
            · try refine sA ?_
              cases hq8
              exact X_cut rfl (weakA [some 0, some 1, some 2])
            · try refine sA ?_
              cases hq8
              exact X_cut rfl (weakA [some 0, some 1, some 2])
          · intro s2 hJ; subst hJ
            try dsimp only at h
            try refine sA ?_
            refine Bs_if h (fun h hc11 => ?_) (fun h hc11 => ?_)
            · try refine sA ?_
              have he := Option.some.inj h
              subst he
              exact endsA ⟨[(6, (.lf false (.sc (.bool false))))], [(0, some (false, .box [(.lf false (.sc (.int .i64 a0.Status))), (.lf false (.sc (.int .i64 a0.Next))), (.lf false (.sc (.bool a0.Cancel))), (.lf false (.sc (.int .i64 a0.Done))), (.os 3 1 0 a0.Signals.length a0.Signals.length false), (.os 4 1 0 a0.Timers.length a0.Timers.length false)])), (1, none), (2, none), (3, some (false, .arr false 1 (a0.Signals.map eS))), (4, some (false, .arr false 1 (a0.Timers.map eS)))], 5, 104⟩ [some 0, some 1, some 2, some 1, some 2]
            · try refine sA ?_
              obtain ⟨hp12, h⟩ := guard_some h
              try refine sA ?_
              try refine andA ?_
              have he := Option.some.inj h
              subst he
              exact endsA ⟨[(6, (.lf false (.sc (.bool true))))], [(0, some (false, .box [(.lf false (.sc (.int .i64 a0.Status))), (.lf false (.sc (.int .i64 (wI (a0.Next + 1))))), (.lf false (.sc (.bool a0.Cancel))), (.lf false (.sc (.int .i64 a0.Done))), (.os 3 1 0 ((a0.Signals ++ ([a2])).length) ((a0.Signals ++ ([a2])).length) false), (.os 4 1 0 a0.Timers.length a0.Timers.length false)])), (1, none), (2, none), (3, some (false, .arr false 1 ((a0.Signals ++ ([a2])).map eS))), (4, some (false, .arr false 1 (a0.Timers.map eS)))], 5, 104⟩ [some 0, some 1, some 2, some 4, some 2]
        · try refine sA ?_
          refine Bs_if h (fun h hc13 => ?_) (fun h hc13 => ?_)
          · try refine sA ?_
            have he := Option.some.inj h
            subst he
            exact endsA ⟨[(6, (.lf false (.sc (.bool true))))], [(0, some (false, .box [(.lf false (.sc (.int .i64 a0.Status))), (.lf false (.sc (.int .i64 (wI (a0.Next + 1))))), (.lf false (.sc (.bool a0.Cancel))), (.lf false (.sc (.int .i64 (wI (a0.Done + 1))))), (.os 3 1 0 a0.Signals.length a0.Signals.length false), (.os 4 1 0 a0.Timers.length a0.Timers.length false)])), (1, none), (2, none), (3, some (false, .arr false 1 (a0.Signals.map eS))), (4, some (false, .arr false 1 (a0.Timers.map eS)))], 5, 104⟩ [some 0, some 1, some 2, some 1, some 2]
          · try refine sA ?_
            refine Bs_if h (fun h hc14 => ?_) (fun h hc14 => ?_)
            · try refine sA ?_
              obtain ⟨c235, hr15, h⟩ := bind_ok h
              refine Cl_hA [0, 1, 2] (w_impl_State_turnTimer_o hr15) ?_
              try refine sA ?_
              refine Bs_if h (fun h hc16 => ?_) (fun h hc16 => ?_)
              · try refine sA ?_
                have he := Option.some.inj h
                subst he
                exact endsA ⟨[(6, (.lf false (.sc (.bool false))))], [(0, some (false, .box [(.lf false (.sc (.int .i64 c235.2.Status))), (.lf false (.sc (.int .i64 c235.2.Next))), (.lf false (.sc (.bool c235.2.Cancel))), (.lf false (.sc (.int .i64 c235.2.Done))), (.os 3 1 0 a0.Signals.length a0.Signals.length false), (.os 4 1 0 c235.2.Timers.length c235.2.Timers.length false)])), (1, none), (2, none), (3, some (false, .arr false 1 (a0.Signals.map eS))), (4, some (false, .arr false 1 (c235.2.Timers.map eS)))], 5, 104⟩ [some 0, some 1, some 2, some 1, some 3]
              · try refine sA ?_
                have he := Option.some.inj h
                subst he
                exact endsA ⟨[(6, (.lf false (.sc (.bool true))))], [(0, some (false, .box [(.lf false (.sc (.int .i64 c235.2.Status))), (.lf false (.sc (.int .i64 (wI (c235.2.Next + 1))))), (.lf false (.sc (.bool c235.2.Cancel))), (.lf false (.sc (.int .i64 c235.2.Done))), (.os 3 1 0 a0.Signals.length a0.Signals.length false), (.os 4 1 0 c235.2.Timers.length c235.2.Timers.length false)])), (1, none), (2, none), (3, some (false, .arr false 1 (a0.Signals.map eS))), (4, some (false, .arr false 1 (c235.2.Timers.map eS)))], 5, 104⟩ [some 0, some 1, some 2, some 1, some 3]
            · try refine sA ?_
              refine Bs_if h (fun h hc17 => ?_) (fun h hc17 => ?_)
              · try refine sA ?_
                refine Bs_if h (fun h hc18 => ?_) (fun h hc18 => ?_)
                · try refine sA ?_
                  have he := Option.some.inj h
                  subst he
                  exact endsA ⟨[(6, (.lf false (.sc (.bool false))))], [(0, some (false, .box [(.lf false (.sc (.int .i64 a0.Status))), (.lf false (.sc (.int .i64 a0.Next))), (.lf false (.sc (.bool a0.Cancel))), (.lf false (.sc (.int .i64 a0.Done))), (.os 3 1 0 a0.Signals.length a0.Signals.length false), (.os 4 1 0 a0.Timers.length a0.Timers.length false)])), (1, none), (2, none), (3, some (false, .arr false 1 (a0.Signals.map eS))), (4, some (false, .arr false 1 (a0.Timers.map eS)))], 5, 104⟩ [some 0, some 1, some 2, some 1, some 2]
                · try refine sA ?_
                  have he := Option.some.inj h
                  subst he
                  exact endsA ⟨[(6, (.lf false (.sc (.bool true))))], [(0, some (false, .box [(.lf false (.sc (.int .i64 a0.Status))), (.lf false (.sc (.int .i64 (wI (a0.Next + 1))))), (.lf false (.sc (.bool true))), (.lf false (.sc (.int .i64 a0.Done))), (.os 3 1 0 a0.Signals.length a0.Signals.length false), (.os 4 1 0 a0.Timers.length a0.Timers.length false)])), (1, none), (2, none), (3, some (false, .arr false 1 (a0.Signals.map eS))), (4, some (false, .arr false 1 (a0.Timers.map eS)))], 5, 104⟩ [some 0, some 1, some 2, some 1, some 2]
              · try refine sA ?_
                refine Bs_if h (fun h hc19 => ?_) (fun h hc19 => ?_)
                · try refine sA ?_
                  have he := Option.some.inj h
                  subst he
                  exact endsA ⟨[(6, (.lf false (.sc (.bool true))))], [(0, some (false, .box [(.lf false (.sc (.int .i64 2))), (.lf false (.sc (.int .i64 (wI (a0.Next + 1))))), (.lf false (.sc (.bool a0.Cancel))), (.lf false (.sc (.int .i64 a0.Done))), (.os 3 1 0 a0.Signals.length a0.Signals.length false), (.os 4 1 0 (([] : List ByteArray).length) (([] : List ByteArray).length) false)])), (1, none), (2, none), (3, some (false, .arr false 1 (a0.Signals.map eS))), (4, some (false, .arr false 1 (([] : List ByteArray).map eS)))], 5, 104⟩ [some 0, some 1, some 2, some 1, none]
                · try refine sA ?_
                  have he := Option.some.inj h
                  subst he
                  exact endsA ⟨[(6, (.lf false (.sc (.bool true))))], [(0, some (false, .box [(.lf false (.sc (.int .i64 a0.Status))), (.lf false (.sc (.int .i64 (wI (a0.Next + 1))))), (.lf false (.sc (.bool a0.Cancel))), (.lf false (.sc (.int .i64 a0.Done))), (.os 3 1 0 a0.Signals.length a0.Signals.length false), (.os 4 1 0 a0.Timers.length a0.Timers.length false)])), (1, none), (2, none), (3, some (false, .arr false 1 (a0.Signals.map eS))), (4, some (false, .arr false 1 (a0.Timers.map eS)))], 5, 104⟩ [some 0, some 1, some 2, some 1, some 2]
theorem w_impl_ApplyEvent {a0 : StateT} {a1 : EventT} {r : (StateT × Bool)} (h : impl_ApplyEvent a0 a1 = some r) : Fn Tryz.prog 99 [(.ag [(.lf false (.sc (.int .i64 a0.Status))), (.lf false (.sc (.int .i64 a0.Next))), (.lf false (.sc (.bool a0.Cancel))), (.lf false (.sc (.int .i64 a0.Done))), (.lf true (.sl (a0.Signals.map eS))), (.lf true (.sl (a0.Timers.map eS)))]), (.ag [(.lf false (.sc (.int .i64 a1.Id))), (.lf false (.sc (.int .i64 a1.Version))), (.lf false (.sc (.int .i64 a1.Kind))), (.lf false (.sc (.string a1.Name)))])] [] 0 (.tu [(.ag [(.lf false (.sc (.int .i64 r.1.Status))), (.lf false (.sc (.int .i64 r.1.Next))), (.lf false (.sc (.bool r.1.Cancel))), (.lf false (.sc (.int .i64 r.1.Done))), (.os 0 1 0 r.1.Signals.length r.1.Signals.length false), (.os 1 1 0 r.1.Timers.length r.1.Timers.length false)]), (.lf false (.sc (.bool r.2)))]) [(0, some (false, .arr false 1 (r.1.Signals.map eS))), (1, some (false, .arr false 1 (r.1.Timers.map eS)))] 3 := by
  unfold impl_ApplyEvent at h
  refine fn_code tab_ok mixed [(1000, [(2, 0), (3, 0), (4, 0)]), (1001, [(2, 0), (3, 0), (4, 0), (21, 0)]), (1002, [(4, 0), (5, 0)]), (1003, [(3, 0), (4, 0), (6, 0)]), (1004, [(4, 0), (6, 0), (35, 0)]), (1005, [(4, 0), (5, 0)]), (1006, [(4, 0), (5, 0)]), (4001, []), (4004, [])] Tryz.func99 rfl rfl (by simp [Tryz.f99]) (by kernel_rfl) ?_
  simp only [Tryz.f99]
  refine sA ?_
  obtain ⟨p212, hq1, h⟩ := bind_ok h
  refine Sq_cut (fun s2 => s2 = ⟨[(2, (.pb 0 0)), (3, (.pb 1 0)), (4, (.pb 2 0)), (21, (.lf false (.sc (.bool p212.t21))))], [(0, some (true, .box [(.lf false (.sc (.int .i64 a0.Status))), (.lf false (.sc (.int .i64 a0.Next))), (.lf false (.sc (.bool a0.Cancel))), (.lf false (.sc (.int .i64 a0.Done))), (.lf true (.sl (a0.Signals.map eS))), (.lf true (.sl (a0.Timers.map eS)))])), (1, some (true, .box [(.lf false (.sc (.int .i64 a1.Id))), (.lf false (.sc (.int .i64 a1.Version))), (.lf false (.sc (.int .i64 a1.Kind))), (.lf false (.sc (.string a1.Name)))])), (2, some (true, .box [(.lf false (.sc (.int .i64 0))), (.lf false (.sc (.int .i64 0))), (.lf false (.sc (.bool false))), (.lf false (.sc (.int .i64 0))), .nl, .nl]))], 3, 38⟩) ?_ ?_
  · try refine sA ?_
    obtain ⟨c205, hr2, hq1⟩ := bind_ok hq1
    refine Cl_sA (w_impl_GoodState hr2) ?_
    try refine sA ?_
    refine Sp_if hq1 (fun hq1 hc3 => ?_) (fun hq1 hc3 => ?_)
    · try refine sA ?_
      cases hq1
      exact X_cut rfl (weakA [some 0, some 1, some 2])
    · try refine sA ?_
      obtain ⟨c211, hr4, hq1⟩ := bind_ok hq1
      refine Cl_sA (w_impl_GoodEvent hr4) ?_
      try refine sA ?_
      refine Sp_if hq1 (fun hq1 hc5 => ?_) (fun hq1 hc5 => ?_)
      · try refine sA ?_
        cases hq1
        exact X_cut rfl (weakA [some 0, some 1, some 2])
      · try refine sA ?_
        cases hq1
        exact X_cut rfl (weakA [some 0, some 1, some 2])
  · intro s2 hJ; subst hJ
    try dsimp only at h
    try refine sA ?_
    refine Bs_if h (fun h hc6 => ?_) (fun h hc6 => ?_)
    · try refine sA ?_
      have he := Option.some.inj h
      subst he
      exact endsA ⟨[(4, (.pb 2 0)), (5, (.lf false (.sc (.bool false))))], [(0, some (false, .arr false 1 (([] : List ByteArray).map eS))), (1, some (false, .arr false 1 (([] : List ByteArray).map eS))), (2, some (true, .box [(.lf false (.sc (.int .i64 0))), (.lf false (.sc (.int .i64 0))), (.lf false (.sc (.bool false))), (.lf false (.sc (.int .i64 0))), (.os 0 1 0 (([] : List ByteArray).length) (([] : List ByteArray).length) false), (.os 1 1 0 (([] : List ByteArray).length) (([] : List ByteArray).length) false)]))], 3, 38⟩ [none, none, some 2]
    · try refine sA ?_
      obtain ⟨c215, hr7, h⟩ := bind_ok h
      refine Cl_sA (w_impl_cloneState hr7) ?_
      try refine sA ?_
      obtain ⟨p238, hq8, h⟩ := bind_ok h
      refine Sq_cut (fun s2 => s2 = ⟨[(4, (.pb 0 0)), (6, (.pb 1 0)), (35, (.lf false (.sc (.bool p238.t35))))], [(0, some (true, .box [(.lf false (.sc (.int .i64 0))), (.lf false (.sc (.int .i64 0))), (.lf false (.sc (.bool false))), (.lf false (.sc (.int .i64 0))), .nl, .nl])), (1, some (true, .box [(.lf false (.sc (.int .i64 p238.b1_0))), (.lf false (.sc (.int .i64 p238.b1_1))), (.lf false (.sc (.bool p238.b1_2))), (.lf false (.sc (.int .i64 p238.b1_3))), (.os 2 1 0 p238.c2.length p238.c2.length false), (.os 3 1 0 p238.c3.length p238.c3.length false)])), (2, some (false, .arr false 1 (p238.c2.map eS))), (3, some (false, .arr false 1 (p238.c3.map eS)))], 4, 38⟩) ?_ ?_
      · try refine sA ?_
        obtain ⟨c236, hr9, hq8⟩ := bind_ok hq8
        refine Cl_hA [6, 3, 4] (w_impl_State_apply_o hr9) ?_
        try refine sA ?_
        refine Sp_if hq8 (fun hq8 hc10 => ?_) (fun hq8 hc10 => ?_)
        · try refine sA ?_
          cases hq8
          exact X_cut rfl (weakA [some 2, some 6, some 7, some 8])
        · try refine sA ?_
          obtain ⟨c237, hr11, hq8⟩ := bind_ok hq8
          refine Cl_sA (w_impl_GoodState hr11) ?_
          try refine sA ?_
          cases hq8
          exact X_cut rfl (weakA [some 2, some 6, some 7, some 8])
      · intro s2 hJ; subst hJ
        try dsimp only at h
        try refine sA ?_
        refine Bs_if h (fun h hc12 => ?_) (fun h hc12 => ?_)
        · try refine sA ?_
          have he := Option.some.inj h
          subst he
          exact endsA ⟨[(4, (.pb 2 0)), (5, (.lf false (.sc (.bool false))))], [(0, some (false, .arr false 1 (([] : List ByteArray).map eS))), (1, some (false, .arr false 1 (([] : List ByteArray).map eS))), (2, some (true, .box [(.lf false (.sc (.int .i64 0))), (.lf false (.sc (.int .i64 0))), (.lf false (.sc (.bool false))), (.lf false (.sc (.int .i64 0))), (.os 0 1 0 (([] : List ByteArray).length) (([] : List ByteArray).length) false), (.os 1 1 0 (([] : List ByteArray).length) (([] : List ByteArray).length) false)]))], 3, 38⟩ [none, none, some 0]
        · try refine sA ?_
          have he := Option.some.inj h
          subst he
          exact endsA ⟨[(4, (.pb 2 0)), (5, (.lf false (.sc (.bool true))))], [(0, some (false, .arr false 1 (p238.c2.map eS))), (1, some (false, .arr false 1 (p238.c3.map eS))), (2, some (true, .box [(.lf false (.sc (.int .i64 p238.b1_0))), (.lf false (.sc (.int .i64 p238.b1_1))), (.lf false (.sc (.bool p238.b1_2))), (.lf false (.sc (.int .i64 p238.b1_3))), (.os 0 1 0 p238.c2.length p238.c2.length false), (.os 1 1 0 p238.c3.length p238.c3.length false)]))], 3, 38⟩ [some 2, some 3, some 0]
theorem w_impl_FoldEvents {a0 : (List EventT)} {r : (StateT × Int)} (h : impl_FoldEvents a0 = some r) : Fn Tryz.prog 88 [(.lf true (.sl (a0.map eEvent)))] [] 0 (.tu [(.ag [(.lf false (.sc (.int .i64 r.1.Status))), (.lf false (.sc (.int .i64 r.1.Next))), (.lf false (.sc (.bool r.1.Cancel))), (.lf false (.sc (.int .i64 r.1.Done))), (.os 0 1 0 r.1.Signals.length r.1.Signals.length false), (.os 1 1 0 r.1.Timers.length r.1.Timers.length false)]), (.lf false (.sc (.int .i64 r.2)))]) [(0, some (false, .arr false 1 (r.1.Signals.map eS))), (1, some (false, .arr false 1 (r.1.Timers.map eS)))] 3 := by
  unfold impl_FoldEvents at h
  refine fn_code tab_ok mixed [(1000, [(0, 0), (2, 0)]), (1001, [(0, 0), (2, 0), (4, 0)]), (1002, [(0, 0), (2, 0), (4, 0), (10, 0), (11, 0), (12, 0)]), (1003, [(0, 0), (2, 0), (4, 0), (10, 0), (11, 0), (12, 0), (13, 0)]), (1004, [(0, 0), (2, 0), (4, 0), (5, 0), (6, 0), (10, 0), (11, 0), (12, 0)]), (1005, [(0, 0), (2, 0), (4, 0), (5, 0), (7, 0), (8, 0), (10, 0), (11, 0), (12, 0)]), (1006, [(0, 0), (2, 0), (4, 0), (5, 0), (7, 0), (10, 0), (11, 0), (12, 0), (24, 0)]), (1007, [(2, 0), (3, 0)]), (1008, [(0, 0), (2, 0), (4, 0), (10, 0), (11, 0), (12, 0)]), (1009, [(0, 0), (2, 0), (4, 0), (10, 0), (11, 0), (12, 0)]), (1010, [(2, 0), (3, 0)])] Tryz.func88 rfl rfl (by simp [Tryz.f88]) (by kernel_rfl) ?_
  simp only [Tryz.f88]
  refine sA ?_
  obtain ⟨c164, hr1, h⟩ := bind_ok h
  refine Cl_sA (w_impl_NewState hr1) ?_
  try refine sA ?_
  obtain ⟨y241, hl2, h⟩ := bind_ok h
  refine W_loopP (fun g165 : impl_FoldEvents_G1 => ⟨[(0, (.lf true (.sl (a0.map eEvent)))), (2, (.pb 0 0)), (4, (.pb 1 0)), (10, (.lf true (.sl (a0.map eEvent)))), (11, (.lf false (.sc (.int .i64 ((a0.length : Nat) : Int))))), (12, (.lf false (.sc (.int .i64 g165.t12))))], [(0, some (true, .box [(.lf false (.sc (.int .i64 0))), (.lf false (.sc (.int .i64 0))), (.lf false (.sc (.bool false))), (.lf false (.sc (.int .i64 0))), .nl, .nl])), (1, some (true, .box [(.lf false (.sc (.int .i64 g165.b1_0))), (.lf false (.sc (.int .i64 g165.b1_1))), (.lf false (.sc (.bool g165.b1_2))), (.lf false (.sc (.int .i64 g165.b1_3))), (.os 2 1 0 g165.c2.length g165.c2.length false), (.os 3 1 0 g165.c3.length g165.c3.length false)])), (2, some (false, .arr false 1 (g165.c2.map eS))), (3, some (false, .arr false 1 (g165.c3.map eS)))], 4, 32⟩) (impl_FoldEvents_L1 a0) _ _ hl2 (weakA [some 0, some 2, none, none]) ?_
  · intro n1 g165 z1 hs1 hk1
    unfold impl_FoldEvents_L1 at hs1
    try dsimp only at hs1
    refine sA ?_
    refine Bs_if hs1 (fun hs1 hc3 => ?_) (fun hs1 hc3 => ?_)
    · try refine sA ?_
      obtain ⟨hp4, hs1⟩ := guard_some hs1
      have hn4 : g165.t12.toNat < a0.length := by first | omega | (simp only [List.length_set, List.length_append, List.length_replicate, List.length_map]; omega)
      try refine sA ?_
      try refine andA ?_
      obtain ⟨c240, hr5, hs1⟩ := bind_ok hs1
      refine Cl_sA (w_impl_ApplyEvent hr5) ?_
      try refine sA ?_
      refine Bs_if hs1 (fun hs1 hc6 => ?_) (fun hs1 hc6 => ?_)
      · try refine sA ?_
        cases hs1
        cases hk1
        try dsimp only at h
        try refine sA ?_
        have he := Option.some.inj h
        subst he
        exact endsA ⟨[(2, (.pb 2 0)), (3, (.lf false (.sc (.int .i64 g165.t12))))], [(0, some (false, .arr false 1 (g165.c2.map eS))), (1, some (false, .arr false 1 (g165.c3.map eS))), (2, some (true, .box [(.lf false (.sc (.int .i64 g165.b1_0))), (.lf false (.sc (.int .i64 g165.b1_1))), (.lf false (.sc (.bool g165.b1_2))), (.lf false (.sc (.int .i64 g165.b1_3))), (.os 0 1 0 g165.c2.length g165.c2.length false), (.os 1 1 0 g165.c3.length g165.c3.length false)]))], 3, 32⟩ [some 2, some 3, some 0]
      · try refine sA ?_
        cases hs1
        exact X_backP hk1 (weakA [some 0, some 1, some 5, some 6])
    · try refine sA ?_
      cases hs1
      cases hk1
      try dsimp only at h
      try refine sA ?_
      have he := Option.some.inj h
      subst he
      exact endsA ⟨[(2, (.pb 2 0)), (3, (.lf false (.sc (.int .i64 ((a0.length : Nat) : Int)))))], [(0, some (false, .arr false 1 (g165.c2.map eS))), (1, some (false, .arr false 1 (g165.c3.map eS))), (2, some (true, .box [(.lf false (.sc (.int .i64 g165.b1_0))), (.lf false (.sc (.int .i64 g165.b1_1))), (.lf false (.sc (.bool g165.b1_2))), (.lf false (.sc (.int .i64 g165.b1_3))), (.os 0 1 0 g165.c2.length g165.c2.length false), (.os 1 1 0 g165.c3.length g165.c3.length false)]))], 3, 32⟩ [some 2, some 3, some 0]
theorem w_impl_IsHistory {a0 : (List EventT)} {r : Bool} (h : impl_IsHistory a0 = some r) : Fn Tryz.prog 80 [(.lf true (.sl (a0.map eEvent)))] [] 0 (.lf false (.sc (.bool r))) [] 0 := by
  unfold impl_IsHistory at h
  refine fn_code tab_ok mixed [(1000, [(0, 0)]), (1001, [(0, 0), (9, 0)]), (1002, [(2, 0)]), (1003, [(0, 0), (10, 0), (11, 0), (12, 0)]), (1004, [(0, 0), (10, 0), (11, 0), (12, 0), (13, 0)]), (1005, [(0, 0), (3, 0), (4, 0), (10, 0), (11, 0), (12, 0)]), (1006, [(0, 0), (10, 0), (11, 0), (12, 0), (29, 0)]), (1007, [(2, 0)]), (1008, [(0, 0), (10, 0), (11, 0), (12, 0)]), (1009, [(0, 0), (6, 0)]), (1010, [(2, 0)]), (4006, [])] Tryz.func80 rfl rfl (by simp [Tryz.f80]) (by kernel_rfl) ?_
  simp only [Tryz.f80]
  refine sA ?_
  refine Bs_if h (fun h hc1 => ?_) (fun h hc1 => ?_)
  · try refine sA ?_
    have he := Option.some.inj h
    subst he
    exact endsA ⟨[(2, (.lf false (.sc (.bool false))))], [], 0, 40⟩ []
  · try refine sA ?_
    obtain ⟨y161, hl2, h⟩ := bind_ok h
    refine W_loopP (fun g158 : impl_IsHistory_G1 => ⟨[(0, (.lf true (.sl (a0.map eEvent)))), (10, (.lf true (.sl (a0.map eEvent)))), (11, (.lf false (.sc (.int .i64 ((a0.length : Nat) : Int))))), (12, (.lf false (.sc (.int .i64 g158.t12))))], [], 0, 40⟩) (impl_IsHistory_L1 a0) _ _ hl2 (weakA []) ?_
    · intro n1 g158 z1 hs1 hk1
      unfold impl_IsHistory_L1 at hs1
      try dsimp only at hs1
      refine sA ?_
      refine Bs_if hs1 (fun hs1 hc3 => ?_) (fun hs1 hc3 => ?_)
      · try refine sA ?_
        obtain ⟨hp4, hs1⟩ := guard_some hs1
        have hn4 : g158.t12.toNat < a0.length := by first | omega | (simp only [List.length_set, List.length_append, List.length_replicate, List.length_map]; omega)
        try refine sA ?_
        try refine andA ?_
        obtain ⟨p160, hq5, hs1⟩ := bind_ok hs1
        refine Sq_cut (fun s2 => s2 = ⟨[(0, (.lf true (.sl (a0.map eEvent)))), (10, (.lf true (.sl (a0.map eEvent)))), (11, (.lf false (.sc (.int .i64 ((a0.length : Nat) : Int))))), (12, (.lf false (.sc (.int .i64 g158.t12)))), (29, (.lf false (.sc (.bool p160.t29))))], [], 0, 40⟩) ?_ ?_
        · try refine sA ?_
          refine Sp_if hq5 (fun hq5 hc6 => ?_) (fun hq5 hc6 => ?_)
          · try refine sA ?_
            obtain ⟨hp7, hq5⟩ := guard_some hq5
            have hn7 : (wI (g158.t12 - 1)).toNat < a0.length := by first | omega | (simp only [List.length_set, List.length_append, List.length_replicate, List.length_map]; omega)
            try refine sA ?_
            try refine andA ?_
            cases hq5
            exact X_cut rfl (weakA [])
          · try refine sA ?_
            cases hq5
            exact X_cut rfl (weakA [])
        · intro s2 hJ; subst hJ
          try dsimp only at hs1
          try refine sA ?_
          refine Bs_if hs1 (fun hs1 hc8 => ?_) (fun hs1 hc8 => ?_)
          · try refine sA ?_
            cases hs1
            cases hk1
            try dsimp only at h
            try refine sA ?_
            have he := Option.some.inj h
            subst he
            exact endsA ⟨[(2, (.lf false (.sc (.bool false))))], [], 0, 40⟩ []
          · try refine sA ?_
            cases hs1
            exact X_backP hk1 (weakA [])
      · try refine sA ?_
        cases hs1
        cases hk1
        try dsimp only at h
        try refine sA ?_
        obtain ⟨c245, hr9, h⟩ := bind_ok h
        refine Cl_sA (w_impl_FoldEvents hr9) ?_
        try refine sA ?_
        have he := Option.some.inj h
        subst he
        exact endsA ⟨[(2, (.lf false (.sc (.bool (c245.2 == ((a0.length : Nat) : Int))))))], [], 0, 40⟩ []
theorem w_impl_isTelling {a0 : (List EventT)} {r : Bool} (h : impl_isTelling a0 = some r) : Fn Tryz.prog 65 [(.lf true (.sl (a0.map eEvent)))] [] 0 (.lf false (.sc (.bool r))) [] 0 := by
  unfold impl_isTelling at h
  refine fn_code tab_ok mixed [] Tryz.func65 rfl rfl (by simp [Tryz.f65]) (by kernel_rfl) ?_
  simp only [Tryz.f65]
  refine sA ?_
  refine Sp_if h (fun h hc1 => ?_) (fun h hc1 => ?_)
  · try refine sA ?_
    obtain ⟨c246, hr2, h⟩ := bind_ok h
    refine Cl_sA (w_impl_IsHistory hr2) ?_
    try refine sA ?_
    have he := Option.some.inj h
    subst he
    exact endsA ⟨[(2, (.lf false (.sc (.bool c246))))], [], 0, 10⟩ []
  · try refine sA ?_
    have he := Option.some.inj h
    subst he
    exact endsA ⟨[(2, (.lf false (.sc (.bool false))))], [], 0, 10⟩ []
theorem w_cmp_isNaN_int {a0 : Int} {r : Bool} (h : cmp_isNaN_int a0 = some r) : Fn Tryz.prog 100 [(.lf false (.sc (.int .i64 a0)))] [] 0 (.lf false (.sc (.bool r))) [] 0 := by
  unfold cmp_isNaN_int at h
  refine fn_code tab_ok mixed [] Tryz.func100 rfl rfl (by simp [Tryz.f100]) (by kernel_rfl) ?_
  simp only [Tryz.f100]
  refine sA ?_
  have he := Option.some.inj h
  subst he
  exact endsA ⟨[(2, (.lf false (.sc (.bool (a0 != a0)))))], [], 0, 6⟩ []
theorem w_cmp_Compare_int {a0 : Int} {a1 : Int} {r : Int} (h : cmp_Compare_int a0 a1 = some r) : Fn Tryz.prog 90 [(.lf false (.sc (.int .i64 a0))), (.lf false (.sc (.int .i64 a1)))] [] 0 (.lf false (.sc (.int .i64 r))) [] 0 := by
  unfold cmp_Compare_int at h
  refine fn_code tab_ok mixed [(1000, [(0, 0), (1, 0)]), (1001, [(0, 0), (1, 0), (5, 0)]), (1002, [(0, 0), (1, 0), (5, 0), (6, 0)]), (1003, [(0, 0), (1, 0), (6, 0), (11, 0)]), (1004, [(12, 0)]), (1005, [(4, 0)]), (1006, [(4, 0)]), (1007, [(0, 0), (1, 0), (13, 0)]), (1008, [(4, 0)]), (1009, [(0, 0), (1, 0), (16, 0)]), (1010, [(4, 0)]), (1011, [(19, 0)]), (1012, [(4, 0)]), (1013, [(4, 0)])] Tryz.func90 rfl rfl (by simp [Tryz.f90]) (by kernel_rfl) ?_
  simp only [Tryz.f90]
  refine sA ?_
  obtain ⟨c250, hr1, h⟩ := bind_ok h
  refine Cl_sA (w_cmp_isNaN_int hr1) ?_
  try refine sA ?_
  obtain ⟨c251, hr2, h⟩ := bind_ok h
  refine Cl_sA (w_cmp_isNaN_int hr2) ?_
  try refine sA ?_
  refine Bs_if h (fun h hc3 => ?_) (fun h hc3 => ?_)
  · try refine sA ?_
    refine Bs_if h (fun h hc4 => ?_) (fun h hc4 => ?_)
    · try refine sA ?_
      have he := Option.some.inj h
      subst he
      exact endsA ⟨[(4, (.lf false (.sc (.int .i64 0))))], [], 0, 20⟩ []
    · try refine sA ?_
      have he := Option.some.inj h
      subst he
      exact endsA ⟨[(4, (.lf false (.sc (.int .i64 (-1)))))], [], 0, 20⟩ []
  · try refine sA ?_
    refine Bs_if h (fun h hc5 => ?_) (fun h hc5 => ?_)
    · try refine sA ?_
      have he := Option.some.inj h
      subst he
      exact endsA ⟨[(4, (.lf false (.sc (.int .i64 1))))], [], 0, 20⟩ []
    · try refine sA ?_
      refine Bs_if h (fun h hc6 => ?_) (fun h hc6 => ?_)
      · try refine sA ?_
        have he := Option.some.inj h
        subst he
        exact endsA ⟨[(4, (.lf false (.sc (.int .i64 (-1)))))], [], 0, 20⟩ []
      · try refine sA ?_
        refine Bs_if h (fun h hc7 => ?_) (fun h hc7 => ?_)
        · try refine sA ?_
          have he := Option.some.inj h
          subst he
          exact endsA ⟨[(4, (.lf false (.sc (.int .i64 1))))], [], 0, 20⟩ []
        · try refine sA ?_
          have he := Option.some.inj h
          subst he
          exact endsA ⟨[(4, (.lf false (.sc (.int .i64 0))))], [], 0, 20⟩ []
theorem w_cmp_Compare_string {a0 : ByteArray} {a1 : ByteArray} {r : Int} (h : cmp_Compare_string a0 a1 = some r) : Fn Tryz.prog 91 [(.lf false (.sc (.string a0))), (.lf false (.sc (.string a1)))] [] 0 (.lf false (.sc (.int .i64 r))) [] 0 := by
  unfold cmp_Compare_string at h
  refine fn_code tab_ok mixed [(1000, [(0, 0), (1, 0)]), (1001, [(0, 0), (1, 0), (5, 0)]), (1002, [(0, 0), (1, 0), (5, 0), (6, 0)]), (1003, [(0, 0), (1, 0), (6, 0), (11, 0)]), (1004, [(12, 0)]), (1005, [(4, 0)]), (1006, [(4, 0)]), (1007, [(0, 0), (1, 0), (13, 0)]), (1008, [(4, 0)]), (1009, [(0, 0), (1, 0), (16, 0)]), (1010, [(4, 0)]), (1011, [(19, 0)]), (1012, [(4, 0)]), (1013, [(4, 0)])] Tryz.func91 rfl rfl (by simp [Tryz.f91]) (by kernel_rfl) ?_
  simp only [Tryz.f91]
  refine sA ?_
  obtain ⟨c254, hr1, h⟩ := bind_ok h
  refine Cl_sA (w_cmp_isNaN_string hr1) ?_
  try refine sA ?_
  obtain ⟨c255, hr2, h⟩ := bind_ok h
  refine Cl_sA (w_cmp_isNaN_string hr2) ?_
  try refine sA ?_
  refine Bs_if h (fun h hc3 => ?_) (fun h hc3 => ?_)
  · try refine sA ?_
    refine Bs_if h (fun h hc4 => ?_) (fun h hc4 => ?_)
    · try refine sA ?_
      have he := Option.some.inj h
      subst he
      exact endsA ⟨[(4, (.lf false (.sc (.int .i64 0))))], [], 0, 20⟩ []
    · try refine sA ?_
      have he := Option.some.inj h
      subst he
      exact endsA ⟨[(4, (.lf false (.sc (.int .i64 (-1)))))], [], 0, 20⟩ []
  · try refine sA ?_
    refine Bs_if h (fun h hc5 => ?_) (fun h hc5 => ?_)
    · try refine sA ?_
      have he := Option.some.inj h
      subst he
      exact endsA ⟨[(4, (.lf false (.sc (.int .i64 1))))], [], 0, 20⟩ []
    · try refine sA ?_
      refine Bs_if h (fun h hc6 => ?_) (fun h hc6 => ?_)
      · try refine sA ?_
        have he := Option.some.inj h
        subst he
        exact endsA ⟨[(4, (.lf false (.sc (.int .i64 (-1)))))], [], 0, 20⟩ []
      · try refine sA ?_
        refine Bs_if h (fun h hc7 => ?_) (fun h hc7 => ?_)
        · try refine sA ?_
          have he := Option.some.inj h
          subst he
          exact endsA ⟨[(4, (.lf false (.sc (.int .i64 1))))], [], 0, 20⟩ []
        · try refine sA ?_
          have he := Option.some.inj h
          subst he
          exact endsA ⟨[(4, (.lf false (.sc (.int .i64 0))))], [], 0, 20⟩ []
theorem w_cmp_Or_int {a0 : (List Int)} {r : Int} (h : cmp_Or_int a0 = some r) : Fn Tryz.prog 89 [(.lf true (.sl (a0.map eI)))] [] 0 (.lf false (.sc (.int .i64 r))) [] 0 := by
  unfold cmp_Or_int at h
  refine fn_code tab_ok mixed [(1000, [(0, 0)]), (1001, [(0, 0), (3, 0)]), (1002, [(3, 0), (6, 0), (7, 0), (8, 0)]), (1003, [(3, 0), (6, 0), (7, 0), (8, 0), (9, 0)]), (1004, [(3, 0), (5, 0), (6, 0), (7, 0), (8, 0)]), (1005, [(3, 0), (5, 0), (6, 0), (7, 0), (8, 0), (14, 0)]), (1006, [(2, 0)]), (1007, [(3, 0), (6, 0), (7, 0), (8, 0)]), (1008, [(2, 0)])] Tryz.func89 rfl rfl (by simp [Tryz.f89]) (by kernel_rfl) ?_
  simp only [Tryz.f89]
  refine sA ?_
  obtain ⟨y258, hl1, h⟩ := bind_ok h
  refine W_loopP (fun g257 : cmp_Or_int_G1 => ⟨[(3, (.lf false (.sc (.int .i64 0)))), (6, (.lf true (.sl (a0.map eI)))), (7, (.lf false (.sc (.int .i64 ((a0.length : Nat) : Int))))), (8, (.lf false (.sc (.int .i64 g257.t8))))], [], 0, 18⟩) (cmp_Or_int_L1 a0) _ _ hl1 (weakA []) ?_
  · intro n1 g257 z1 hs1 hk1
    unfold cmp_Or_int_L1 at hs1
    try dsimp only at hs1
    refine sA ?_
    refine Bs_if hs1 (fun hs1 hc2 => ?_) (fun hs1 hc2 => ?_)
    · try refine sA ?_
      obtain ⟨hp3, hs1⟩ := guard_some hs1
      have hn3 : g257.t8.toNat < a0.length := by first | omega | (simp only [List.length_set, List.length_append, List.length_replicate, List.length_map]; omega)
      try refine sA ?_
      try refine andA ?_
      refine Bs_if hs1 (fun hs1 hc4 => ?_) (fun hs1 hc4 => ?_)
      · try refine sA ?_
        cases hs1
        cases hk1
        try dsimp only at h
        try refine sA ?_
        have he := Option.some.inj h
        subst he
        exact endsA ⟨[(2, (.lf false (.sc (.int .i64 (nth a0 g257.t8.toNat)))))], [], 0, 18⟩ []
      · try refine sA ?_
        cases hs1
        exact X_backP hk1 (weakA [])
    · try refine sA ?_
      cases hs1
      cases hk1
      try dsimp only at h
      try refine sA ?_
      have he := Option.some.inj h
      subst he
      exact endsA ⟨[(2, (.lf false (.sc (.int .i64 0))))], [], 0, 18⟩ []
theorem w_impl_eventOrder {a0 : EventT} {a1 : EventT} {r : Int} (h : impl_eventOrder a0 a1 = some r) : Fn Tryz.prog 82 [(.ag [(.lf false (.sc (.int .i64 a0.Id))), (.lf false (.sc (.int .i64 a0.Version))), (.lf false (.sc (.int .i64 a0.Kind))), (.lf false (.sc (.string a0.Name)))]), (.ag [(.lf false (.sc (.int .i64 a1.Id))), (.lf false (.sc (.int .i64 a1.Version))), (.lf false (.sc (.int .i64 a1.Kind))), (.lf false (.sc (.string a1.Name)))])] [] 0 (.lf false (.sc (.int .i64 r))) [] 0 := by
  unfold impl_eventOrder at h
  refine fn_code tab_ok mixed [(1, [(6, 4), (8, 4), (11, 4), (11, 9), (13, 4), (13, 9)])] Tryz.func82 rfl rfl (by simp [Tryz.f82]) (by kernel_rfl) ?_
  simp only [Tryz.f82]
  refine sA ?_
  obtain ⟨c252, hr1, h⟩ := bind_ok h
  refine Cl_sA (w_cmp_Compare_int hr1) ?_
  try refine sA ?_
  obtain ⟨c253, hr2, h⟩ := bind_ok h
  refine Cl_sA (w_cmp_Compare_int hr2) ?_
  try refine sA ?_
  obtain ⟨c256, hr3, h⟩ := bind_ok h
  refine Cl_sA (w_cmp_Compare_string hr3) ?_
  try refine sA ?_
  obtain ⟨c261, hr4, h⟩ := bind_ok h
  refine Cl_sA (w_cmp_Or_int hr4) ?_
  try refine sA ?_
  have he := Option.some.inj h
  subst he
  exact endsA ⟨[(4, (.lf false (.sc (.int .i64 c261))))], [], 0, 22⟩ []
theorem w_slices_CompareFunc_impl_Event_impl_eventOrder {a0 : (List EventT)} {a1 : (List EventT)} {r : Int} (h : slices_CompareFunc_impl_Event_impl_eventOrder a0 a1 = some r) : Fn Tryz.prog 81 [(.lf true (.sl (a0.map eEvent))), (.lf true (.sl (a1.map eEvent))), (.fn 82 [])] [] 0 (.lf false (.sc (.int .i64 r))) [] 0 := by
  unfold slices_CompareFunc_impl_Event_impl_eventOrder at h
  refine fn_code tab_ok mixed [(1000, [(0, 0), (1, 0), (2, 0)]), (1001, [(0, 0), (1, 0), (2, 0), (11, 0), (12, 0), (13, 0)]), (1002, [(0, 0), (1, 0), (2, 0), (11, 0), (12, 0), (13, 0), (14, 0)]), (1003, [(0, 0), (1, 0), (2, 0), (7, 0), (8, 0), (11, 0), (12, 0), (13, 0)]), (1004, [(0, 0), (1, 0), (2, 0), (7, 0), (8, 0), (11, 0), (12, 0), (13, 0), (21, 0)]), (1005, [(6, 0)]), (1006, [(0, 0), (1, 0), (2, 0), (8, 0), (9, 0), (11, 0), (12, 0), (13, 0)]), (1007, [(0, 0), (1, 0), (2, 0), (10, 0), (11, 0), (12, 0), (13, 0)]), (1008, [(0, 0), (1, 0), (2, 0), (10, 0), (11, 0), (12, 0), (13, 0), (31, 0)]), (1009, [(6, 0)]), (1010, [(0, 0), (1, 0), (2, 0), (11, 0), (12, 0), (13, 0)]), (1011, [(38, 0)]), (1012, [(6, 0)]), (1013, [(6, 0)])] Tryz.func81 rfl rfl (by simp [Tryz.f81]) (by kernel_rfl) ?_
  simp only [Tryz.f81]
  refine sA ?_
  obtain ⟨y264, hl1, h⟩ := bind_ok h
  refine W_loopP (fun g249 : slices_CompareFunc_impl_Event_impl_eventOrder_G1 => ⟨[(0, (.lf true (.sl (a0.map eEvent)))), (1, (.lf true (.sl (a1.map eEvent)))), (2, (.fn 82 [])), (11, (.lf true (.sl (a0.map eEvent)))), (12, (.lf false (.sc (.int .i64 ((a0.length : Nat) : Int))))), (13, (.lf false (.sc (.int .i64 g249.t13))))], [], 0, 39⟩) (slices_CompareFunc_impl_Event_impl_eventOrder_L1 a0 a1) _ _ hl1 (weakA []) ?_
  · intro n1 g249 z1 hs1 hk1
    unfold slices_CompareFunc_impl_Event_impl_eventOrder_L1 at hs1
    try dsimp only at hs1
    refine sA ?_
    refine Bs_if hs1 (fun hs1 hc2 => ?_) (fun hs1 hc2 => ?_)
    · try refine sA ?_
      obtain ⟨hp3, hs1⟩ := guard_some hs1
      have hn3 : g249.t13.toNat < a0.length := by first | omega | (simp only [List.length_set, List.length_append, List.length_replicate, List.length_map]; omega)
      try refine sA ?_
      try refine andA ?_
      refine Bs_if hs1 (fun hs1 hc4 => ?_) (fun hs1 hc4 => ?_)
      · try refine sA ?_
        cases hs1
        cases hk1
        try dsimp only at h
        try refine sA ?_
        have he := Option.some.inj h
        subst he
        exact endsA ⟨[(6, (.lf false (.sc (.int .i64 1))))], [], 0, 39⟩ []
      · try refine sA ?_
        obtain ⟨hp5, hs1⟩ := guard_some hs1
        have hn5 : g249.t13.toNat < a1.length := by first | omega | (simp only [List.length_set, List.length_append, List.length_replicate, List.length_map]; omega)
        try refine sA ?_
        try refine andA ?_
        obtain ⟨c263, hr6, hs1⟩ := bind_ok hs1
        refine Cl_sA (w_impl_eventOrder hr6) ?_
        try refine sA ?_
        refine Bs_if hs1 (fun hs1 hc7 => ?_) (fun hs1 hc7 => ?_)
        · try refine sA ?_
          cases hs1
          cases hk1
          try dsimp only at h
          try refine sA ?_
          have he := Option.some.inj h
          subst he
          exact endsA ⟨[(6, (.lf false (.sc (.int .i64 c263))))], [], 0, 39⟩ []
        · try refine sA ?_
          cases hs1
          exact X_backP hk1 (weakA [])
    · try refine sA ?_
      cases hs1
      cases hk1
      try dsimp only at h
      try refine sA ?_
      refine Bs_if h (fun h hc8 => ?_) (fun h hc8 => ?_)
      · try refine sA ?_
        have he := Option.some.inj h
        subst he
        exact endsA ⟨[(6, (.lf false (.sc (.int .i64 (-1)))))], [], 0, 39⟩ []
      · try refine sA ?_
        have he := Option.some.inj h
        subst he
        exact endsA ⟨[(6, (.lf false (.sc (.int .i64 0))))], [], 0, 39⟩ []
theorem w_impl_branchOrder {a0 : (List EventT)} {a1 : (List EventT)} {r : Int} (h : impl_branchOrder a0 a1 = some r) : Fn Tryz.prog 66 [(.lf true (.sl (a0.map eEvent))), (.lf true (.sl (a1.map eEvent)))] [] 0 (.lf false (.sc (.int .i64 r))) [] 0 := by
  unfold impl_branchOrder at h
  refine fn_code tab_ok mixed [] Tryz.func66 rfl rfl (by simp [Tryz.f66]) (by kernel_rfl) ?_
  simp only [Tryz.f66]
  refine sA ?_
  obtain ⟨c267, hr1, h⟩ := bind_ok h
  refine Cl_sA (w_slices_CompareFunc_impl_Event_impl_eventOrder hr1) ?_
  try refine sA ?_
  have he := Option.some.inj h
  subst he
  exact endsA ⟨[(4, (.lf false (.sc (.int .i64 c267))))], [], 0, 8⟩ []
theorem w_slices_Equal_impl_Event {a0 : (List EventT)} {a1 : (List EventT)} {r : Bool} (h : slices_Equal_impl_Event a0 a1 = some r) : Fn Tryz.prog 76 [(.lf true (.sl (a0.map eEvent))), (.lf true (.sl (a1.map eEvent)))] [] 0 (.lf false (.sc (.bool r))) [] 0 := by
  unfold slices_Equal_impl_Event at h
  refine fn_code tab_ok mixed [(1000, [(0, 0), (1, 0)]), (1001, [(0, 0), (1, 0), (10, 0)]), (1002, [(4, 0)]), (1003, [(0, 0), (1, 0), (12, 0), (13, 0)]), (1004, [(0, 0), (1, 0), (12, 0), (13, 0), (14, 0)]), (1005, [(0, 0), (1, 0), (5, 0), (12, 0), (13, 0)]), (1006, [(0, 0), (1, 0), (12, 0), (13, 0), (24, 0)]), (1007, [(4, 0)]), (1008, [(0, 0), (1, 0), (12, 0), (13, 0)]), (1009, [(4, 0)])] Tryz.func76 rfl rfl (by simp [Tryz.f76]) (by kernel_rfl) ?_
  simp only [Tryz.f76]
  refine sA ?_
  refine Bs_if h (fun h hc1 => ?_) (fun h hc1 => ?_)
  · try refine sA ?_
    have he := Option.some.inj h
    subst he
    exact endsA ⟨[(4, (.lf false (.sc (.bool false))))], [], 0, 26⟩ []
  · try refine sA ?_
    obtain ⟨y270, hl2, h⟩ := bind_ok h
    refine W_loopP (fun g269 : slices_Equal_impl_Event_G1 => ⟨[(0, (.lf true (.sl (a0.map eEvent)))), (1, (.lf true (.sl (a1.map eEvent)))), (12, (.lf false (.sc (.int .i64 ((a0.length : Nat) : Int))))), (13, (.lf false (.sc (.int .i64 g269.t13))))], [], 0, 26⟩) (slices_Equal_impl_Event_L1 a0 a1) _ _ hl2 (weakA []) ?_
    · intro n1 g269 z1 hs1 hk1
      unfold slices_Equal_impl_Event_L1 at hs1
      try dsimp only at hs1
      refine sA ?_
      refine Bs_if hs1 (fun hs1 hc3 => ?_) (fun hs1 hc3 => ?_)
      · try refine sA ?_
        obtain ⟨hp4, hs1⟩ := guard_some hs1
        have hn4 : g269.t13.toNat < a0.length := by first | omega | (simp only [List.length_set, List.length_append, List.length_replicate, List.length_map]; omega)
        try refine sA ?_
        try refine andA ?_
        obtain ⟨hp5, hs1⟩ := guard_some hs1
        have hn5 : g269.t13.toNat < a1.length := by first | omega | (simp only [List.length_set, List.length_append, List.length_replicate, List.length_map]; omega)
        try refine sA ?_
        try refine andA ?_
        first | refine And.intro ⟨by kernel_rfl, by kernel_rfl, by kernel_rfl⟩ ?_ | skip
        try refine sA ?_
        refine Bs_if hs1 (fun hs1 hc7 => ?_) (fun hs1 hc7 => ?_)
        · try refine sA ?_
          cases hs1
          cases hk1
          try dsimp only at h
          try refine sA ?_
          have he := Option.some.inj h
          subst he
          exact endsA ⟨[(4, (.lf false (.sc (.bool false))))], [], 0, 26⟩ []
        · try refine sA ?_
          cases hs1
          exact X_backP hk1 (weakA [])
      · try refine sA ?_
        cases hs1
        cases hk1
        try dsimp only at h
        try refine sA ?_
        have he := Option.some.inj h
        subst he
        exact endsA ⟨[(4, (.lf false (.sc (.bool true))))], [], 0, 26⟩ []
theorem w_impl_begins {a0 : (List EventT)} {a1 : (List EventT)} {r : Bool} (h : impl_begins a0 a1 = some r) : Fn Tryz.prog 67 [(.lf true (.sl (a0.map eEvent))), (.lf true (.sl (a1.map eEvent)))] [] 0 (.lf false (.sc (.bool r))) [] 0 := by
  unfold impl_begins at h
  refine fn_code tab_ok mixed [] Tryz.func67 rfl rfl (by simp [Tryz.f67]) (by kernel_rfl) ?_
  simp only [Tryz.f67]
  refine sA ?_
  refine Sp_if h (fun h hc1 => ?_) (fun h hc1 => ?_)
  · try refine sA ?_
    obtain ⟨hp2, h⟩ := guard_some h
    try refine sA ?_
    try refine andA ?_
    obtain ⟨c273, hr3, h⟩ := bind_ok h
    refine Cl_sA (w_slices_Equal_impl_Event hr3) ?_
    try refine sA ?_
    have he := Option.some.inj h
    subst he
    exact endsA ⟨[(4, (.lf false (.sc (.bool c273))))], [], 0, 18⟩ []
  · try refine sA ?_
    have he := Option.some.inj h
    subst he
    exact endsA ⟨[(4, (.lf false (.sc (.bool false))))], [], 0, 18⟩ []
theorem w_impl_GoodTellings {a0 : TellingsT} {r : Bool} (h : impl_GoodTellings a0 = some r) : Fn Tryz.prog 49 [(.ag [(.lf true (.sl (a0.Branches.map eBranch)))])] [] 0 (.lf false (.sc (.bool r))) [] 0 := by
  unfold impl_GoodTellings at h
  refine fn_code tab_ok mixed [(1000, [(1, 0)]), (1001, [(1, 0), (10, 0)]), (1002, [(2, 0)]), (1003, [(1, 0), (12, 0), (13, 0), (14, 0)]), (1004, [(1, 0), (12, 0), (13, 0), (14, 0), (15, 0)]), (1005, [(1, 0), (3, 0), (4, 0), (12, 0), (13, 0), (14, 0)]), (1006, [(1, 0), (3, 0), (4, 0), (12, 0), (13, 0), (14, 0), (22, 0)]), (1007, [(2, 0)]), (1008, [(1, 0), (4, 0), (12, 0), (13, 0), (14, 0), (26, 0), (27, 0), (28, 0)]), (1009, [(1, 0), (4, 0), (12, 0), (13, 0), (14, 0), (26, 0), (27, 0), (28, 0), (29, 0)]), (1010, [(1, 0), (4, 0), (6, 0), (12, 0), (13, 0), (14, 0), (26, 0), (27, 0), (28, 0)]), (1011, [(1, 0), (4, 0), (12, 0), (13, 0), (14, 0), (26, 0), (27, 0), (28, 0), (44, 0)]), (1012, [(2, 0)]), (1013, [(1, 0), (4, 0), (12, 0), (13, 0), (14, 0), (26, 0), (27, 0), (28, 0)]), (1014, [(1, 0), (12, 0), (13, 0), (14, 0)]), (1015, [(2, 0)]), (4011, [])] Tryz.func49 rfl rfl (by simp [Tryz.f49]) (by kernel_rfl) ?_
  simp only [Tryz.f49]
  refine sA ?_
  refine Bs_if h (fun h hc1 => ?_) (fun h hc1 => ?_)
  · try refine sA ?_
    have he := Option.some.inj h
    subst he
    exact endsA ⟨[(2, (.lf false (.sc (.bool false))))], [], 0, 47⟩ []
  · try refine sA ?_
    obtain ⟨y293, hl2, h⟩ := bind_ok h
    refine W_loopP (fun g157 : impl_GoodTellings_G1 => ⟨[(1, (.pb 0 0)), (12, (.lf true (.sl (a0.Branches.map eBranch)))), (13, (.lf false (.sc (.int .i64 ((a0.Branches.length : Nat) : Int))))), (14, (.lf false (.sc (.int .i64 g157.t14))))], [(0, some (true, .box [(.lf true (.sl (a0.Branches.map eBranch)))]))], 1, 47⟩) (impl_GoodTellings_L1 a0) _ _ hl2 (weakA [some 0]) ?_
    · intro n1 g157 z1 hs1 hk1
      unfold impl_GoodTellings_L1 at hs1
      try dsimp only at hs1
      refine sA ?_
      refine Bs_if hs1 (fun hs1 hc3 => ?_) (fun hs1 hc3 => ?_)
      · try refine sA ?_
        obtain ⟨hp4, hs1⟩ := guard_some hs1
        have hn4 : g157.t14.toNat < a0.Branches.length := by first | omega | (simp only [List.length_set, List.length_append, List.length_replicate, List.length_map]; omega)
        try refine sA ?_
        try refine andA ?_
        obtain ⟨c282, hr5, hs1⟩ := bind_ok hs1
        refine Cl_sA (w_impl_isTelling hr5) ?_
        try refine sA ?_
        refine Bs_if hs1 (fun hs1 hc6 => ?_) (fun hs1 hc6 => ?_)
        · try refine sA ?_
          cases hs1
          cases hk1
          try dsimp only at h
          try refine sA ?_
          have he := Option.some.inj h
          subst he
          exact endsA ⟨[(2, (.lf false (.sc (.bool false))))], [], 0, 47⟩ []
        · try refine sA ?_
          obtain ⟨hp7, hs1⟩ := guard_some hs1
          try refine sA ?_
          try refine andA ?_
          obtain ⟨y290, hl8, hs1⟩ := bind_ok hs1
          refine W_loopP (fun g283 : impl_GoodTellings_G2 => ⟨[(1, (.pb 0 0)), (4, (.pb 1 0)), (12, (.lf true (.sl (a0.Branches.map eBranch)))), (13, (.lf false (.sc (.int .i64 ((a0.Branches.length : Nat) : Int))))), (14, (.lf false (.sc (.int .i64 g157.t14)))), (26, (.lf true (.sl ((a0.Branches.take g157.t14.toNat).map eBranch)))), (27, (.lf false (.sc (.int .i64 (((a0.Branches.take g157.t14.toNat).length : Nat) : Int))))), (28, (.lf false (.sc (.int .i64 g283.t28))))], [(0, some (true, .box [(.lf true (.sl (a0.Branches.map eBranch)))])), (1, some (true, .box [(.lf true (.sl (((nth a0.Branches g157.t14.toNat).Events).map eEvent)))]))], 2, 47⟩) (impl_GoodTellings_L2 a0 g157) _ _ hl8 (weakA [some 0, some 1]) ?_
          · intro n2 g283 z2 hs2 hk2
            unfold impl_GoodTellings_L2 at hs2
            try dsimp only at hs2
            refine sA ?_
            refine Bs_if hs2 (fun hs2 hc9 => ?_) (fun hs2 hc9 => ?_)
            · try refine sA ?_
              obtain ⟨hp10, hs2⟩ := guard_some hs2
              have hn10 : g283.t28.toNat < (a0.Branches.take g157.t14.toNat).length := by first | omega | (simp only [List.length_set, List.length_append, List.length_replicate, List.length_map]; omega)
              try refine sA ?_
              try refine andA ?_
              obtain ⟨p289, hq11, hs2⟩ := bind_ok hs2
              refine Sq_cut (fun s2 => s2 = ⟨[(1, (.pb 0 0)), (4, (.pb 1 0)), (12, (.lf true (.sl (a0.Branches.map eBranch)))), (13, (.lf false (.sc (.int .i64 ((a0.Branches.length : Nat) : Int))))), (14, (.lf false (.sc (.int .i64 g157.t14)))), (26, (.lf true (.sl ((a0.Branches.take g157.t14.toNat).map eBranch)))), (27, (.lf false (.sc (.int .i64 (((a0.Branches.take g157.t14.toNat).length : Nat) : Int))))), (28, (.lf false (.sc (.int .i64 g283.t28)))), (44, (.lf false (.sc (.bool p289.t44))))], [(0, some (true, .box [(.lf true (.sl (a0.Branches.map eBranch)))])), (1, some (true, .box [(.lf true (.sl (((nth a0.Branches g157.t14.toNat).Events).map eEvent)))]))], 2, 47⟩) ?_ ?_
              · try refine sA ?_
                obtain ⟨c287, hr12, hq11⟩ := bind_ok hq11
                refine Cl_sA (w_impl_branchOrder hr12) ?_
                try refine sA ?_
                refine Sp_if hq11 (fun hq11 hc13 => ?_) (fun hq11 hc13 => ?_)
                · try refine sA ?_
                  cases hq11
                  exact X_cut rfl (weakA [some 0, some 1])
                · try refine sA ?_
                  obtain ⟨c288, hr14, hq11⟩ := bind_ok hq11
                  refine Cl_sA (w_impl_begins hr14) ?_
                  try refine sA ?_
                  cases hq11
                  exact X_cut rfl (weakA [some 0, some 1])
              · intro s2 hJ; subst hJ
                try dsimp only at hs2
                try refine sA ?_
                refine Bs_if hs2 (fun hs2 hc15 => ?_) (fun hs2 hc15 => ?_)
                · try refine sA ?_
                  cases hs2
                  cases hk2
                  try dsimp only at hs1
                  try refine sA ?_
                  cases hs1
                  cases hk1
                  try dsimp only at h
                  try refine sA ?_
                  have he := Option.some.inj h
                  subst he
                  exact endsA ⟨[(2, (.lf false (.sc (.bool false))))], [], 0, 47⟩ []
                · try refine sA ?_
                  cases hs2
                  exact X_backP hk2 (weakA [some 0, some 1])
            · try refine sA ?_
              cases hs2
              cases hk2
              try dsimp only at hs1
              try refine sA ?_
              cases hs1
              exact X_backP hk1 (weakA [some 0])
      · try refine sA ?_
        cases hs1
        cases hk1
        try dsimp only at h
        try refine sA ?_
        have he := Option.some.inj h
        subst he
        exact endsA ⟨[(2, (.lf false (.sc (.bool true))))], [], 0, 47⟩ []
theorem w_impl_wordOk_c1_c1_r {a0 : EventT} {a1 : Int} {r : Bool} (h : impl_wordOk_c1_c1_r a0 a1 = some r) : Fn Tryz.prog 53 [(.ag [(.lf false (.sc (.int .i64 a0.Id))), (.lf false (.sc (.int .i64 a0.Version))), (.lf false (.sc (.int .i64 a0.Kind))), (.lf false (.sc (.string a0.Name)))]), (.ra true [.sc (.int .i64 a1)])] [] 0 (.lf false (.sc (.bool r))) [] 0 := by
  unfold impl_wordOk_c1_c1_r at h
  refine fn_code tab_ok mixed [] Tryz.func53 rfl rfl (by simp [Tryz.f53]) (by kernel_rfl) ?_
  simp only [Tryz.f53]
  refine sA ?_
  have he := Option.some.inj h
  subst he
  exact endsA ⟨[(3, (.lf false (.sc (.bool (decide (a0.Version > a1))))))], [], 0, 8⟩ []
theorem w_slices_IndexFunc_impl_Event_impl_wordOk_c1_c1r {a0 : (List EventT)} {a1 : Int} {r : Int} (h : slices_IndexFunc_impl_Event_impl_wordOk_c1_c1r a0 a1 = some r) : Fn Tryz.prog 69 [(.lf true (.sl (a0.map eEvent))), (.fn 53 [(.ra true [.sc (.int .i64 a1)])])] [] 0 (.lf false (.sc (.int .i64 r))) [] 0 := by
  unfold slices_IndexFunc_impl_Event_impl_wordOk_c1_c1r at h
  refine fn_code tab_ok mixed [(1000, [(0, 0), (1, 0)]), (1001, [(0, 0), (1, 0), (7, 0), (8, 0)]), (1002, [(0, 0), (1, 0), (7, 0), (8, 0), (9, 0)]), (1003, [(0, 0), (1, 0), (5, 0), (7, 0), (8, 0)]), (1004, [(0, 0), (1, 0), (5, 0), (7, 0), (8, 0), (16, 0)]), (1005, [(4, 0)]), (1006, [(0, 0), (1, 0), (7, 0), (8, 0)]), (1007, [(4, 0)])] Tryz.func69 rfl rfl (by simp [Tryz.f69]) (by kernel_rfl) ?_
  simp only [Tryz.f69]
  refine sA ?_
  obtain ⟨y302, hl1, h⟩ := bind_ok h
  refine W_loopP (fun g299 : slices_IndexFunc_impl_Event_impl_wordOk_c1_c1r_G1 => ⟨[(0, (.lf true (.sl (a0.map eEvent)))), (1, (.fn 53 [(.ra true [.sc (.int .i64 a1)])])), (7, (.lf false (.sc (.int .i64 ((a0.length : Nat) : Int))))), (8, (.lf false (.sc (.int .i64 g299.t8))))], [], 0, 19⟩) (slices_IndexFunc_impl_Event_impl_wordOk_c1_c1r_L1 a0 a1) _ _ hl1 (weakA []) ?_
  · intro n1 g299 z1 hs1 hk1
    unfold slices_IndexFunc_impl_Event_impl_wordOk_c1_c1r_L1 at hs1
    try dsimp only at hs1
    refine sA ?_
    refine Bs_if hs1 (fun hs1 hc2 => ?_) (fun hs1 hc2 => ?_)
    · try refine sA ?_
      obtain ⟨hp3, hs1⟩ := guard_some hs1
      have hn3 : g299.t8.toNat < a0.length := by first | omega | (simp only [List.length_set, List.length_append, List.length_replicate, List.length_map]; omega)
      try refine sA ?_
      try refine andA ?_
      obtain ⟨c301, hr4, hs1⟩ := bind_ok hs1
      refine Cl_sA (w_impl_wordOk_c1_c1_r hr4) ?_
      try refine sA ?_
      refine Bs_if hs1 (fun hs1 hc5 => ?_) (fun hs1 hc5 => ?_)
      · try refine sA ?_
        cases hs1
        cases hk1
        try dsimp only at h
        try refine sA ?_
        have he := Option.some.inj h
        subst he
        exact endsA ⟨[(4, (.lf false (.sc (.int .i64 g299.t8))))], [], 0, 19⟩ []
      · try refine sA ?_
        cases hs1
        exact X_backP hk1 (weakA [])
    · try refine sA ?_
      cases hs1
      cases hk1
      try dsimp only at h
      try refine sA ?_
      have he := Option.some.inj h
      subst he
      exact endsA ⟨[(4, (.lf false (.sc (.int .i64 (-1)))))], [], 0, 19⟩ []
theorem w_slices_ContainsFunc_impl_Event_impl_wordOk_c1_c1r {a0 : (List EventT)} {a1 : Int} {r : Bool} (h : slices_ContainsFunc_impl_Event_impl_wordOk_c1_c1r a0 a1 = some r) : Fn Tryz.prog 52 [(.lf true (.sl (a0.map eEvent))), (.fn 53 [(.ra true [.sc (.int .i64 a1)])])] [] 0 (.lf false (.sc (.bool r))) [] 0 := by
  unfold slices_ContainsFunc_impl_Event_impl_wordOk_c1_c1r at h
  refine fn_code tab_ok mixed [] Tryz.func52 rfl rfl (by simp [Tryz.f52]) (by kernel_rfl) ?_
  simp only [Tryz.f52]
  refine sA ?_
  obtain ⟨c305, hr1, h⟩ := bind_ok h
  refine Cl_sA (w_slices_IndexFunc_impl_Event_impl_wordOk_c1_c1r hr1) ?_
  try refine sA ?_
  have he := Option.some.inj h
  subst he
  exact endsA ⟨[(4, (.lf false (.sc (.bool (decide (c305 ≥ 0))))))], [], 0, 9⟩ []
theorem w_impl_wordOk_c1_r {a0 : BranchT} {a1 : Int} {r : Bool} (h : impl_wordOk_c1_r a0 a1 = some r) : Fn Tryz.prog 51 [(.ag [(.lf true (.sl (a0.Events.map eEvent)))]), (.ra true [.sc (.int .i64 a1)])] [] 0 (.lf false (.sc (.bool r))) [] 0 := by
  unfold impl_wordOk_c1_r at h
  refine fn_code tab_ok mixed [] Tryz.func51 rfl rfl (by simp [Tryz.f51]) (by kernel_rfl) ?_
  simp only [Tryz.f51]
  refine sA ?_
  obtain ⟨c306, hr1, h⟩ := bind_ok h
  refine Cl_sA (w_slices_ContainsFunc_impl_Event_impl_wordOk_c1_c1r hr1) ?_
  try refine sA ?_
  have he := Option.some.inj h
  subst he
  exact endsA ⟨[(3, (.lf false (.sc (.bool c306))))], [], 0, 8⟩ []
theorem w_slices_IndexFunc_impl_Branch_impl_wordOk_c1r {a0 : (List BranchT)} {a1 : Int} {r : Int} (h : slices_IndexFunc_impl_Branch_impl_wordOk_c1r a0 a1 = some r) : Fn Tryz.prog 68 [(.lf true (.sl (a0.map eBranch))), (.fn 51 [(.ra true [.sc (.int .i64 a1)])])] [] 0 (.lf false (.sc (.int .i64 r))) [] 0 := by
  unfold slices_IndexFunc_impl_Branch_impl_wordOk_c1r at h
  refine fn_code tab_ok mixed [(1000, [(0, 0), (1, 0)]), (1001, [(0, 0), (1, 0), (7, 0), (8, 0)]), (1002, [(0, 0), (1, 0), (7, 0), (8, 0), (9, 0)]), (1003, [(0, 0), (1, 0), (5, 0), (7, 0), (8, 0)]), (1004, [(0, 0), (1, 0), (5, 0), (7, 0), (8, 0), (16, 0)]), (1005, [(4, 0)]), (1006, [(0, 0), (1, 0), (7, 0), (8, 0)]), (1007, [(4, 0)])] Tryz.func68 rfl rfl (by simp [Tryz.f68]) (by kernel_rfl) ?_
  simp only [Tryz.f68]
  refine sA ?_
  obtain ⟨y309, hl1, h⟩ := bind_ok h
  refine W_loopP (fun g298 : slices_IndexFunc_impl_Branch_impl_wordOk_c1r_G1 => ⟨[(0, (.lf true (.sl (a0.map eBranch)))), (1, (.fn 51 [(.ra true [.sc (.int .i64 a1)])])), (7, (.lf false (.sc (.int .i64 ((a0.length : Nat) : Int))))), (8, (.lf false (.sc (.int .i64 g298.t8))))], [], 0, 19⟩) (slices_IndexFunc_impl_Branch_impl_wordOk_c1r_L1 a0 a1) _ _ hl1 (weakA []) ?_
  · intro n1 g298 z1 hs1 hk1
    unfold slices_IndexFunc_impl_Branch_impl_wordOk_c1r_L1 at hs1
    try dsimp only at hs1
    refine sA ?_
    refine Bs_if hs1 (fun hs1 hc2 => ?_) (fun hs1 hc2 => ?_)
    · try refine sA ?_
      obtain ⟨hp3, hs1⟩ := guard_some hs1
      have hn3 : g298.t8.toNat < a0.length := by first | omega | (simp only [List.length_set, List.length_append, List.length_replicate, List.length_map]; omega)
      try refine sA ?_
      try refine andA ?_
      obtain ⟨c308, hr4, hs1⟩ := bind_ok hs1
      refine Cl_sA (w_impl_wordOk_c1_r hr4) ?_
      try refine sA ?_
      refine Bs_if hs1 (fun hs1 hc5 => ?_) (fun hs1 hc5 => ?_)
      · try refine sA ?_
        cases hs1
        cases hk1
        try dsimp only at h
        try refine sA ?_
        have he := Option.some.inj h
        subst he
        exact endsA ⟨[(4, (.lf false (.sc (.int .i64 g298.t8))))], [], 0, 19⟩ []
      · try refine sA ?_
        cases hs1
        exact X_backP hk1 (weakA [])
    · try refine sA ?_
      cases hs1
      cases hk1
      try dsimp only at h
      try refine sA ?_
      have he := Option.some.inj h
      subst he
      exact endsA ⟨[(4, (.lf false (.sc (.int .i64 (-1)))))], [], 0, 19⟩ []
theorem w_slices_ContainsFunc_impl_Branch_impl_wordOk_c1r {a0 : (List BranchT)} {a1 : Int} {r : Bool} (h : slices_ContainsFunc_impl_Branch_impl_wordOk_c1r a0 a1 = some r) : Fn Tryz.prog 50 [(.lf true (.sl (a0.map eBranch))), (.fn 51 [(.ra true [.sc (.int .i64 a1)])])] [] 0 (.lf false (.sc (.bool r))) [] 0 := by
  unfold slices_ContainsFunc_impl_Branch_impl_wordOk_c1r at h
  refine fn_code tab_ok mixed [] Tryz.func50 rfl rfl (by simp [Tryz.f50]) (by kernel_rfl) ?_
  simp only [Tryz.f50]
  refine sA ?_
  obtain ⟨c312, hr1, h⟩ := bind_ok h
  refine Cl_sA (w_slices_IndexFunc_impl_Branch_impl_wordOk_c1r hr1) ?_
  try refine sA ?_
  have he := Option.some.inj h
  subst he
  exact endsA ⟨[(4, (.lf false (.sc (.bool (decide (c312 ≥ 0))))))], [], 0, 9⟩ []
theorem w_impl_wordOk {a0 : Int} {a1 : TellingsT} {r : Bool} (h : impl_wordOk a0 a1 = some r) : Fn Tryz.prog 27 [(.lf false (.sc (.int .i64 a0))), (.ag [(.lf true (.sl (a1.Branches.map eBranch)))])] [] 0 (.lf false (.sc (.bool r))) [] 0 := by
  unfold impl_wordOk at h
  refine fn_code tab_ok mixed [(1000, [(2, 0), (3, 0)]), (1001, [(2, 0), (3, 0), (12, 0)]), (1002, [(4, 0)]), (1003, [(4, 0)]), (4001, [])] Tryz.func27 rfl rfl (by simp [Tryz.f27]) (by kernel_rfl) ?_
  simp only [Tryz.f27]
  refine sA ?_
  obtain ⟨p297, hq1, h⟩ := bind_ok h
  refine Sq_cut (fun s2 => s2 = ⟨[(2, (.pb 0 0)), (3, (.pb 1 0)), (12, (.lf false (.sc (.bool p297.t12))))], [(0, some (true, .box [(.lf false (.sc (.int .i64 a0)))])), (1, some (true, .box [(.lf true (.sl (a1.Branches.map eBranch)))]))], 2, 18⟩) ?_ ?_
  · try refine sA ?_
    obtain ⟨c156, hr2, hq1⟩ := bind_ok hq1
    refine Cl_sA (w_impl_isVersion hr2) ?_
    try refine sA ?_
    refine Sp_if hq1 (fun hq1 hc3 => ?_) (fun hq1 hc3 => ?_)
    · try refine sA ?_
      cases hq1
      exact X_cut rfl (weakA [some 0, some 1])
    · try refine sA ?_
      obtain ⟨c296, hr4, hq1⟩ := bind_ok hq1
      refine Cl_sA (w_impl_GoodTellings hr4) ?_
      try refine sA ?_
      cases hq1
      exact X_cut rfl (weakA [some 0, some 1])
  · intro s2 hJ; subst hJ
    try dsimp only at h
    try refine sA ?_
    refine Bs_if h (fun h hc5 => ?_) (fun h hc5 => ?_)
    · try refine sA ?_
      have he := Option.some.inj h
      subst he
      exact endsA ⟨[(4, (.lf false (.sc (.bool false))))], [], 0, 18⟩ []
    · try refine sA ?_
      obtain ⟨c313, hr6, h⟩ := bind_ok h
      refine Cl_sA (w_slices_ContainsFunc_impl_Branch_impl_wordOk_c1r hr6) ?_
      try refine sA ?_
      have he := Option.some.inj h
      subst he
      exact endsA ⟨[(4, (.lf false (.sc (.bool (!c313)))))], [], 0, 18⟩ []
theorem w_impl_GoodRegion {a0 : RegionT} {r : Bool} (h : impl_GoodRegion a0 = some r) : Fn Tryz.prog 10 [(.ag [(.lf false (.sc (.int .i64 a0.Id))), (.lf false (.sc (.int .i64 a0.Version))), (.lf true (.sl (a0.Tellings.Branches.map eBranch)))])] [] 0 (.lf false (.sc (.bool r))) [] 0 := by
  unfold impl_GoodRegion at h
  refine fn_code tab_ok mixed [] Tryz.func10 rfl rfl (by simp [Tryz.f10]) (by kernel_rfl) ?_
  simp only [Tryz.f10]
  refine sA ?_
  obtain ⟨c154, hr1, h⟩ := bind_ok h
  refine Cl_sA (w_impl_isRegion hr1) ?_
  try refine sA ?_
  refine Sp_if h (fun h hc2 => ?_) (fun h hc2 => ?_)
  · try refine sA ?_
    obtain ⟨c314, hr3, h⟩ := bind_ok h
    refine Cl_sA (w_impl_wordOk hr3) ?_
    try refine sA ?_
    have he := Option.some.inj h
    subst he
    exact endsA ⟨[(2, (.lf false (.sc (.bool c314))))], [], 0, 13⟩ []
  · try refine sA ?_
    have he := Option.some.inj h
    subst he
    exact endsA ⟨[(2, (.lf false (.sc (.bool false))))], [], 0, 13⟩ []
theorem w_impl_Region_active_r {a0 : RegionT} {r : Bool} (h : impl_Region_active_r a0 = some r) : Fn Tryz.prog 30 [(.ra true [.sc (.int .i64 a0.Id), .sc (.int .i64 a0.Version), .sl (a0.Tellings.Branches.map eBranch)])] [] 0 (.lf false (.sc (.bool r))) [] 0 := by
  unfold impl_Region_active_r at h
  refine fn_code tab_ok mixed [] Tryz.func30 rfl rfl (by simp [Tryz.f30]) (by kernel_rfl) ?_
  simp only [Tryz.f30]
  refine sA ?_
  have he := Option.some.inj h
  subst he
  exact endsA ⟨[(2, (.lf false (.sc (.bool ((a0.Version.tmod 10) == a0.Id)))))], [], 0, 13⟩ []
theorem w_impl_IsActive {a0 : RegionT} {r : (Bool × Bool)} (h : impl_IsActive a0 = some r) : Fn Tryz.prog 13 [(.ag [(.lf false (.sc (.int .i64 a0.Id))), (.lf false (.sc (.int .i64 a0.Version))), (.lf true (.sl (a0.Tellings.Branches.map eBranch)))])] [] 0 (.tu [(.lf false (.sc (.bool r.1))), (.lf false (.sc (.bool r.2)))]) [] 0 := by
  unfold impl_IsActive at h
  refine fn_code tab_ok mixed [(1000, [(1, 0)]), (1001, [(1, 0), (6, 0)]), (1002, [(2, 0), (3, 0)]), (1003, [(2, 0), (3, 0)])] Tryz.func13 rfl rfl (by simp [Tryz.f13]) (by kernel_rfl) ?_
  simp only [Tryz.f13]
  refine sA ?_
  obtain ⟨c315, hr1, h⟩ := bind_ok h
  refine Cl_sA (w_impl_GoodRegion hr1) ?_
  try refine sA ?_
  refine Bs_if h (fun h hc2 => ?_) (fun h hc2 => ?_)
  · try refine sA ?_
    have he := Option.some.inj h
    subst he
    exact endsA ⟨[(2, (.lf false (.sc (.bool false)))), (3, (.lf false (.sc (.bool false))))], [], 0, 8⟩ []
  · try refine sA ?_
    obtain ⟨c316, hr3, h⟩ := bind_ok h
    refine Cl_sA (w_impl_Region_active_r hr3) ?_
    try refine sA ?_
    have he := Option.some.inj h
    subst he
    exact endsA ⟨[(2, (.lf false (.sc (.bool c316)))), (3, (.lf false (.sc (.bool true))))], [], 0, 8⟩ []
theorem w_laws_eqEvent {a0 : EventT} {a1 : EventT} {r : Bool} (h : laws_eqEvent a0 a1 = some r) : Fn Tryz.prog 92 [(.ag [(.lf false (.sc (.int .i64 a0.Id))), (.lf false (.sc (.int .i64 a0.Version))), (.lf false (.sc (.int .i64 a0.Kind))), (.lf false (.sc (.string a0.Name)))]), (.ag [(.lf false (.sc (.int .i64 a1.Id))), (.lf false (.sc (.int .i64 a1.Version))), (.lf false (.sc (.int .i64 a1.Kind))), (.lf false (.sc (.string a1.Name)))])] [] 0 (.lf false (.sc (.bool r))) [] 0 := by
  unfold laws_eqEvent at h
  refine fn_code tab_ok mixed [(1000, [(2, 0), (3, 0)]), (1001, [(2, 0), (3, 0), (9, 0)]), (1002, [(4, 0)]), (1003, [(2, 0), (3, 0), (14, 0)]), (1004, [(4, 0)]), (1005, [(2, 0), (3, 0), (19, 0)]), (1006, [(4, 0)]), (1007, [(24, 0)]), (1008, [(4, 0)]), (1009, [(4, 0)])] Tryz.func92 rfl rfl (by simp [Tryz.f92]) (by kernel_rfl) ?_
  simp only [Tryz.f92]
  refine sA ?_
  refine Bs_if h (fun h hc1 => ?_) (fun h hc1 => ?_)
  · try refine sA ?_
    have he := Option.some.inj h
    subst he
    exact endsA ⟨[(4, (.lf false (.sc (.bool false))))], [], 0, 25⟩ []
  · try refine sA ?_
    refine Bs_if h (fun h hc2 => ?_) (fun h hc2 => ?_)
    · try refine sA ?_
      have he := Option.some.inj h
      subst he
      exact endsA ⟨[(4, (.lf false (.sc (.bool false))))], [], 0, 25⟩ []
    · try refine sA ?_
      refine Bs_if h (fun h hc3 => ?_) (fun h hc3 => ?_)
      · try refine sA ?_
        have he := Option.some.inj h
        subst he
        exact endsA ⟨[(4, (.lf false (.sc (.bool false))))], [], 0, 25⟩ []
      · try refine sA ?_
        refine Bs_if h (fun h hc4 => ?_) (fun h hc4 => ?_)
        · try refine sA ?_
          have he := Option.some.inj h
          subst he
          exact endsA ⟨[(4, (.lf false (.sc (.bool false))))], [], 0, 25⟩ []
        · try refine sA ?_
          have he := Option.some.inj h
          subst he
          exact endsA ⟨[(4, (.lf false (.sc (.bool true))))], [], 0, 25⟩ []
theorem w_laws_eqEventS {a0 : (List EventT)} {a1 : (List EventT)} {r : Bool} (h : laws_eqEventS a0 a1 = some r) : Fn Tryz.prog 83 [(.lf true (.sl (a0.map eEvent))), (.lf true (.sl (a1.map eEvent)))] [] 0 (.lf false (.sc (.bool r))) [] 0 := by
  unfold laws_eqEventS at h
  refine fn_code tab_ok mixed [(1000, [(0, 0), (1, 0)]), (1001, [(0, 0), (1, 0), (10, 0)]), (1002, [(4, 0)]), (1003, [(0, 0), (1, 0), (5, 0)]), (1004, [(0, 0), (1, 0), (5, 0), (14, 0)]), (1005, [(0, 0), (1, 0), (5, 0)]), (1006, [(0, 0), (1, 0), (5, 0), (26, 0)]), (1007, [(4, 0)]), (1008, [(4, 0)])] Tryz.func83 rfl rfl (by simp [Tryz.f83]) (by kernel_rfl) ?_
  simp only [Tryz.f83]
  refine sA ?_
  refine Bs_if h (fun h hc1 => ?_) (fun h hc1 => ?_)
  · try refine sA ?_
    have he := Option.some.inj h
    subst he
    exact endsA ⟨[(4, (.lf false (.sc (.bool false))))], [], 0, 27⟩ []
  · try refine sA ?_
    obtain ⟨y324, hl2, h⟩ := bind_ok h
    refine W_loopP (fun g321 : laws_eqEventS_G1 => ⟨[(0, (.lf true (.sl (a0.map eEvent)))), (1, (.lf true (.sl (a1.map eEvent)))), (5, (.lf false (.sc (.int .i64 g321.t5))))], [], 0, 27⟩) (laws_eqEventS_L1 a0 a1) _ _ hl2 (weakA []) ?_
    · intro n1 g321 z1 hs1 hk1
      unfold laws_eqEventS_L1 at hs1
      try dsimp only at hs1
      refine sA ?_
      refine Bs_if hs1 (fun hs1 hc3 => ?_) (fun hs1 hc3 => ?_)
      · try refine sA ?_
        obtain ⟨hp4, hs1⟩ := guard_some hs1
        have hn4 : g321.t5.toNat < a0.length := by first | omega | (simp only [List.length_set, List.length_append, List.length_replicate, List.length_map]; omega)
        try refine sA ?_
        try refine andA ?_
        obtain ⟨hp5, hs1⟩ := guard_some hs1
        have hn5 : g321.t5.toNat < a1.length := by first | omega | (simp only [List.length_set, List.length_append, List.length_replicate, List.length_map]; omega)
        try refine sA ?_
        try refine andA ?_
        obtain ⟨c323, hr6, hs1⟩ := bind_ok hs1
        refine Cl_sA (w_laws_eqEvent hr6) ?_
        try refine sA ?_
        refine Bs_if hs1 (fun hs1 hc7 => ?_) (fun hs1 hc7 => ?_)
        · try refine sA ?_
          cases hs1
          cases hk1
          try dsimp only at h
          try refine sA ?_
          have he := Option.some.inj h
          subst he
          exact endsA ⟨[(4, (.lf false (.sc (.bool false))))], [], 0, 27⟩ []
        · try refine sA ?_
          cases hs1
          exact X_backP hk1 (weakA [])
      · try refine sA ?_
        cases hs1
        cases hk1
        try dsimp only at h
        try refine sA ?_
        have he := Option.some.inj h
        subst he
        exact endsA ⟨[(4, (.lf false (.sc (.bool true))))], [], 0, 27⟩ []
theorem w_laws_eqBranch {a0 : BranchT} {a1 : BranchT} {r : Bool} (h : laws_eqBranch a0 a1 = some r) : Fn Tryz.prog 70 [(.ag [(.lf true (.sl (a0.Events.map eEvent)))]), (.ag [(.lf true (.sl (a1.Events.map eEvent)))])] [] 0 (.lf false (.sc (.bool r))) [] 0 := by
  unfold laws_eqBranch at h
  refine fn_code tab_ok mixed [(1000, [(2, 0), (3, 0)]), (1001, [(10, 0)]), (1002, [(4, 0)]), (1003, [(4, 0)])] Tryz.func70 rfl rfl (by simp [Tryz.f70]) (by kernel_rfl) ?_
  simp only [Tryz.f70]
  refine sA ?_
  obtain ⟨c327, hr1, h⟩ := bind_ok h
  refine Cl_sA (w_laws_eqEventS hr1) ?_
  try refine sA ?_
  refine Bs_if h (fun h hc2 => ?_) (fun h hc2 => ?_)
  · try refine sA ?_
    have he := Option.some.inj h
    subst he
    exact endsA ⟨[(4, (.lf false (.sc (.bool false))))], [], 0, 11⟩ []
  · try refine sA ?_
    have he := Option.some.inj h
    subst he
    exact endsA ⟨[(4, (.lf false (.sc (.bool true))))], [], 0, 11⟩ []
theorem w_laws_eqBranchS {a0 : (List BranchT)} {a1 : (List BranchT)} {r : Bool} (h : laws_eqBranchS a0 a1 = some r) : Fn Tryz.prog 54 [(.lf true (.sl (a0.map eBranch))), (.lf true (.sl (a1.map eBranch)))] [] 0 (.lf false (.sc (.bool r))) [] 0 := by
  unfold laws_eqBranchS at h
  refine fn_code tab_ok mixed [(1000, [(0, 0), (1, 0)]), (1001, [(0, 0), (1, 0), (10, 0)]), (1002, [(4, 0)]), (1003, [(0, 0), (1, 0), (5, 0)]), (1004, [(0, 0), (1, 0), (5, 0), (14, 0)]), (1005, [(0, 0), (1, 0), (5, 0)]), (1006, [(0, 0), (1, 0), (5, 0), (26, 0)]), (1007, [(4, 0)]), (1008, [(4, 0)])] Tryz.func54 rfl rfl (by simp [Tryz.f54]) (by kernel_rfl) ?_
  simp only [Tryz.f54]
  refine sA ?_
  refine Bs_if h (fun h hc1 => ?_) (fun h hc1 => ?_)
  · try refine sA ?_
    have he := Option.some.inj h
    subst he
    exact endsA ⟨[(4, (.lf false (.sc (.bool false))))], [], 0, 27⟩ []
  · try refine sA ?_
    obtain ⟨y330, hl2, h⟩ := bind_ok h
    refine W_loopP (fun g320 : laws_eqBranchS_G1 => ⟨[(0, (.lf true (.sl (a0.map eBranch)))), (1, (.lf true (.sl (a1.map eBranch)))), (5, (.lf false (.sc (.int .i64 g320.t5))))], [], 0, 27⟩) (laws_eqBranchS_L1 a0 a1) _ _ hl2 (weakA []) ?_
    · intro n1 g320 z1 hs1 hk1
      unfold laws_eqBranchS_L1 at hs1
      try dsimp only at hs1
      refine sA ?_
      refine Bs_if hs1 (fun hs1 hc3 => ?_) (fun hs1 hc3 => ?_)
      · try refine sA ?_
        obtain ⟨hp4, hs1⟩ := guard_some hs1
        have hn4 : g320.t5.toNat < a0.length := by first | omega | (simp only [List.length_set, List.length_append, List.length_replicate, List.length_map]; omega)
        try refine sA ?_
        try refine andA ?_
        obtain ⟨hp5, hs1⟩ := guard_some hs1
        have hn5 : g320.t5.toNat < a1.length := by first | omega | (simp only [List.length_set, List.length_append, List.length_replicate, List.length_map]; omega)
        try refine sA ?_
        try refine andA ?_
        obtain ⟨c329, hr6, hs1⟩ := bind_ok hs1
        refine Cl_sA (w_laws_eqBranch hr6) ?_
        try refine sA ?_
        refine Bs_if hs1 (fun hs1 hc7 => ?_) (fun hs1 hc7 => ?_)
        · try refine sA ?_
          cases hs1
          cases hk1
          try dsimp only at h
          try refine sA ?_
          have he := Option.some.inj h
          subst he
          exact endsA ⟨[(4, (.lf false (.sc (.bool false))))], [], 0, 27⟩ []
        · try refine sA ?_
          cases hs1
          exact X_backP hk1 (weakA [])
      · try refine sA ?_
        cases hs1
        cases hk1
        try dsimp only at h
        try refine sA ?_
        have he := Option.some.inj h
        subst he
        exact endsA ⟨[(4, (.lf false (.sc (.bool true))))], [], 0, 27⟩ []
theorem w_laws_eqTellings {a0 : TellingsT} {a1 : TellingsT} {r : Bool} (h : laws_eqTellings a0 a1 = some r) : Fn Tryz.prog 28 [(.ag [(.lf true (.sl (a0.Branches.map eBranch)))]), (.ag [(.lf true (.sl (a1.Branches.map eBranch)))])] [] 0 (.lf false (.sc (.bool r))) [] 0 := by
  unfold laws_eqTellings at h
  refine fn_code tab_ok mixed [(1000, [(2, 0), (3, 0)]), (1001, [(10, 0)]), (1002, [(4, 0)]), (1003, [(4, 0)])] Tryz.func28 rfl rfl (by simp [Tryz.f28]) (by kernel_rfl) ?_
  simp only [Tryz.f28]
  refine sA ?_
  obtain ⟨c333, hr1, h⟩ := bind_ok h
  refine Cl_sA (w_laws_eqBranchS hr1) ?_
  try refine sA ?_
  refine Bs_if h (fun h hc2 => ?_) (fun h hc2 => ?_)
  · try refine sA ?_
    have he := Option.some.inj h
    subst he
    exact endsA ⟨[(4, (.lf false (.sc (.bool false))))], [], 0, 11⟩ []
  · try refine sA ?_
    have he := Option.some.inj h
    subst he
    exact endsA ⟨[(4, (.lf false (.sc (.bool true))))], [], 0, 11⟩ []
theorem w_laws_eqRegion {a0 : RegionT} {a1 : RegionT} {r : Bool} (h : laws_eqRegion a0 a1 = some r) : Fn Tryz.prog 11 [(.ag [(.lf false (.sc (.int .i64 a0.Id))), (.lf false (.sc (.int .i64 a0.Version))), (.lf true (.sl (a0.Tellings.Branches.map eBranch)))]), (.ag [(.lf false (.sc (.int .i64 a1.Id))), (.lf false (.sc (.int .i64 a1.Version))), (.lf true (.sl (a1.Tellings.Branches.map eBranch)))])] [] 0 (.lf false (.sc (.bool r))) [] 0 := by
  unfold laws_eqRegion at h
  refine fn_code tab_ok mixed [(1000, [(2, 0), (3, 0)]), (1001, [(2, 0), (3, 0), (9, 0)]), (1002, [(4, 0)]), (1003, [(2, 0), (3, 0), (14, 0)]), (1004, [(4, 0)]), (1005, [(20, 0)]), (1006, [(4, 0)]), (1007, [(4, 0)])] Tryz.func11 rfl rfl (by simp [Tryz.f11]) (by kernel_rfl) ?_
  simp only [Tryz.f11]
  refine sA ?_
  refine Bs_if h (fun h hc1 => ?_) (fun h hc1 => ?_)
  · try refine sA ?_
    have he := Option.some.inj h
    subst he
    exact endsA ⟨[(4, (.lf false (.sc (.bool false))))], [], 0, 21⟩ []
  · try refine sA ?_
    refine Bs_if h (fun h hc2 => ?_) (fun h hc2 => ?_)
    · try refine sA ?_
      have he := Option.some.inj h
      subst he
      exact endsA ⟨[(4, (.lf false (.sc (.bool false))))], [], 0, 21⟩ []
    · try refine sA ?_
      obtain ⟨c334, hr3, h⟩ := bind_ok h
      refine Cl_sA (w_laws_eqTellings hr3) ?_
      try refine sA ?_
      refine Bs_if h (fun h hc4 => ?_) (fun h hc4 => ?_)
      · try refine sA ?_
        have he := Option.some.inj h
        subst he
        exact endsA ⟨[(4, (.lf false (.sc (.bool false))))], [], 0, 21⟩ []
      · try refine sA ?_
        have he := Option.some.inj h
        subst he
        exact endsA ⟨[(4, (.lf false (.sc (.bool true))))], [], 0, 21⟩ []
theorem w_laws_FnExactIsActive {a0 : RegionT} {r : Bool} (h : laws_FnExactIsActive a0 = some r) : Fn Tryz.prog 4 [(.ag [(.lf false (.sc (.int .i64 a0.Id))), (.lf false (.sc (.int .i64 a0.Version))), (.lf true (.sl (a0.Tellings.Branches.map eBranch)))])] [] 0 (.lf false (.sc (.bool r))) [] 0 := by
  unfold laws_FnExactIsActive at h
  refine fn_code tab_ok mixed [(10, [(0, 2)]), (1000, [(1, 0)]), (1001, [(1, 0), (3, 0)]), (1002, [(1, 0), (3, 0)]), (1003, [(1, 0), (13, 0)]), (1004, [(2, 0)]), (1005, [(1, 0), (4, 0), (5, 0)]), (1006, [(1, 0), (4, 0), (5, 0), (6, 0)]), (1007, [(1, 0), (4, 0), (5, 0), (6, 0), (7, 0), (8, 0)]), (1008, [(1, 0), (6, 0), (34, 0)]), (1009, [(2, 0)]), (1010, [(39, 0)]), (1011, [(2, 0)]), (1012, [(2, 0)]), (4008, [])] Tryz.func4 rfl rfl (by simp [Tryz.f4]) (by kernel_rfl) ?_
  simp only [Tryz.f4]
  refine sA ?_
  obtain ⟨c16, hr1, h⟩ := bind_ok h
  refine Cl_sA (w_laws_szRegion hr1) ?_
  try refine sA ?_
  refine Bs_if h (fun h hc2 => ?_) (fun h hc2 => ?_)
  · try refine sA ?_
    have he := Option.some.inj h
    subst he
    exact endsA ⟨[(2, (.lf false (.sc (.bool true))))], [], 0, 40⟩ []
  · try refine sA ?_
    obtain ⟨c31, hr3, h⟩ := bind_ok h
    refine Cl_sA (w_laws_toRegion hr3) ?_
    try refine sA ?_
    obtain ⟨c151, hr4, h⟩ := bind_ok h
    refine Cl_sA (w_spec_IsActive hr4) ?_
    try refine sA ?_
    obtain ⟨c152, hr5, h⟩ := bind_ok h
    refine Cl_sA (w_laws_toRegion hr5) ?_
    try refine sA ?_
    obtain ⟨c317, hr6, h⟩ := bind_ok h
    refine Cl_sA (w_impl_IsActive hr6) ?_
    try refine sA ?_
    obtain ⟨p318, hq7, h⟩ := bind_ok h
    refine Sq_cut (fun s2 => s2 = ⟨[(1, (.pb 0 0)), (6, (.pb 1 0)), (34, (.lf false (.sc (.bool p318.t34))))], [(0, some (true, .box [(.lf false (.sc (.int .i64 a0.Id))), (.lf false (.sc (.int .i64 a0.Version))), (.lf true (.sl (a0.Tellings.Branches.map eBranch)))])), (1, some (true, .box [(.lf false (.sc (.int .i64 c152.Id))), (.lf false (.sc (.int .i64 c152.Version))), (.os 2 1 0 c152.Tellings.Branches.length c152.Tellings.Branches.length false)])), (2, some (true, .arr false 1 (c152.Tellings.Branches.map eBranch)))], 3, 40⟩) ?_ ?_
    · try refine sA ?_
      refine Sp_if hq7 (fun hq7 hc8 => ?_) (fun hq7 hc8 => ?_)
      · try refine sA ?_
        cases hq7
        exact X_cut rfl (weakA [some 0, some 5, some 3])
      · try refine sA ?_
        cases hq7
        exact X_cut rfl (weakA [some 0, some 5, some 3])
    · intro s2 hJ; subst hJ
      try dsimp only at h
      try refine sA ?_
      refine Bs_if h (fun h hc9 => ?_) (fun h hc9 => ?_)
      · try refine sA ?_
        have he := Option.some.inj h
        subst he
        exact endsA ⟨[(2, (.lf false (.sc (.bool false))))], [], 0, 40⟩ []
      · try refine sA ?_
        obtain ⟨c319, hr10, h⟩ := bind_ok h
        refine Cl_sA (w_laws_toRegion hr10) ?_
        try refine sA ?_
        obtain ⟨c335, hr11, h⟩ := bind_ok h
        refine Cl_sA (w_laws_eqRegion hr11) ?_
        try refine sA ?_
        refine Bs_if h (fun h hc12 => ?_) (fun h hc12 => ?_)
        · try refine sA ?_
          have he := Option.some.inj h
          subst he
          exact endsA ⟨[(2, (.lf false (.sc (.bool false))))], [], 0, 40⟩ []
        · try refine sA ?_
          have he := Option.some.inj h
          subst he
          exact endsA ⟨[(2, (.lf false (.sc (.bool true))))], [], 0, 40⟩ []
end Go.TL.YtmooampfjclmiaaGreatDoor

import Derived.Test.YtmooampfjclmiaaDoorTlTabr4D
import Derived.Test.YtmooampfjclmiaaDoorEnR4D
import Derived.Test.YtmooampfjclmiaaDoorTlAuto
import Derived.Test.YtmooampfjclmiaaDoorTlTrimr4D
import Derived.Test.YtmooampfjclmiaaDoorTlBelow
import Derived.Test.YtmooampfjclmiaaDoorTlInsr4D
import Derived.Test.YtmooampfjclmiaaDoorTlInsert
set_option linter.unusedSimpArgs false
set_option linter.unusedVariables false
set_option linter.unusedVariables false
set_option linter.unusedSimpArgs false
set_option maxRecDepth 8000
set_option maxHeartbeats 0
namespace Go.TL.YtmooampfjclmiaaDoor
open Go Go.Proofs Go.TL
theorem w_laws_szEvent {a0 : EventT} {a1 : Int} {r : Int} (h : laws_szEvent a0 a1 = some r) : Fn Tryd.prog 33 [(.ag [(.lf false (.sc (.int .i64 a0.Id))), (.lf false (.sc (.int .i64 a0.Version))), (.lf false (.sc (.int .i64 a0.Kind))), (.lf false (.sc (.string a0.Name)))]), (.lf false (.sc (.int .i64 a1)))] [] 0 (.lf false (.sc (.int .i64 r))) [] 0 := by
  unfold laws_szEvent at h
  refine fn_code tab_ok mixed [(1000, [(1, 0), (2, 0)]), (1001, [(1, 0)]), (1002, [(1, 0), (11, 0)]), (1003, [(4, 0)]), (1004, [(4, 0)])] Tryd.func33 rfl rfl (by simp [Tryd.f33]) (by kernel_rfl) ?_
  simp only [Tryd.f33]
  refine sA ?_
  refine Bs_if h (fun h hc1 => ?_) (fun h hc1 => ?_)
  · try refine sA ?_
    have he := Option.some.inj h
    subst he
    exact endsA ⟨[(4, (.lf false (.sc (.int .i64 (-1)))))], [], 0, 13⟩ []
  · try refine sA ?_
    have he := Option.some.inj h
    subst he
    exact endsA ⟨[(4, (.lf false (.sc (.int .i64 (wI (a1 - (a0.Name.size : Int)))))))], [], 0, 13⟩ []
theorem w_laws_szEventS {a0 : (List EventT)} {a1 : Int} {r : Int} (h : laws_szEventS a0 a1 = some r) : Fn Tryd.prog 25 [(.lf true (.sl (a0.map eEvent))), (.lf false (.sc (.int .i64 a1)))] [] 0 (.lf false (.sc (.int .i64 r))) [] 0 := by
  unfold laws_szEventS at h
  refine fn_code tab_ok mixed [(1000, [(0, 0), (1, 0)]), (1001, [(0, 0), (1, 0)]), (1002, [(0, 0), (1, 0), (11, 0)]), (1003, [(4, 0)]), (1004, [(0, 0), (1, 0), (5, 0)]), (1005, [(0, 0), (1, 0), (5, 0), (15, 0)]), (1006, [(0, 0), (1, 0), (5, 0)]), (1007, [(0, 0), (1, 0), (5, 0)]), (1008, [(0, 0), (1, 0), (5, 0), (25, 0)]), (1009, [(4, 0)]), (1010, [(4, 0)])] Tryd.func25 rfl rfl (by simp [Tryd.f25]) (by kernel_rfl) ?_
  simp only [Tryd.f25]
  refine sA ?_
  refine Bs_if h (fun h hc1 => ?_) (fun h hc1 => ?_)
  · try refine sA ?_
    have he := Option.some.inj h
    subst he
    exact endsA ⟨[(4, (.lf false (.sc (.int .i64 (-1)))))], [], 0, 27⟩ []
  · try refine sA ?_
    obtain ⟨y5, hl2, h⟩ := bind_ok h
    refine W_loopP (fun g2 : laws_szEventS_G1 => ⟨[(0, (.lf true (.sl (a0.map eEvent)))), (1, (.lf false (.sc (.int .i64 g2.t1)))), (5, (.lf false (.sc (.int .i64 g2.t5))))], [], 0, 27⟩) (laws_szEventS_L1 a0) _ _ hl2 (weakA []) ?_
    · intro n1 g2 z1 hs1 hk1
      unfold laws_szEventS_L1 at hs1
      try dsimp only at hs1
      refine sA ?_
      refine Bs_if hs1 (fun hs1 hc3 => ?_) (fun hs1 hc3 => ?_)
      · try refine sA ?_
        obtain ⟨hp4, hs1⟩ := guard_some hs1
        have hn4 : g2.t5.toNat < a0.length := by first | omega | (simp only [List.length_set, List.length_append, List.length_replicate, List.length_map]; omega)
        try refine sA ?_
        try refine andA ?_
        obtain ⟨c4, hr5, hs1⟩ := bind_ok hs1
        refine Cl_sA (w_laws_szEvent hr5) ?_
        try refine sA ?_
        refine Bs_if hs1 (fun hs1 hc6 => ?_) (fun hs1 hc6 => ?_)
        · try refine sA ?_
          cases hs1
          cases hk1
          try dsimp only at h
          try refine sA ?_
          have he := Option.some.inj h
          subst he
          exact endsA ⟨[(4, (.lf false (.sc (.int .i64 (-1)))))], [], 0, 27⟩ []
        · try refine sA ?_
          cases hs1
          exact X_backP hk1 (weakA [])
      · try refine sA ?_
        cases hs1
        cases hk1
        try dsimp only at h
        try refine sA ?_
        have he := Option.some.inj h
        subst he
        exact endsA ⟨[(4, (.lf false (.sc (.int .i64 g2.t1))))], [], 0, 27⟩ []
theorem w_laws_szBranch {a0 : BranchT} {a1 : Int} {r : Int} (h : laws_szBranch a0 a1 = some r) : Fn Tryd.prog 16 [(.ag [(.lf true (.sl (a0.Events.map eEvent)))]), (.lf false (.sc (.int .i64 a1)))] [] 0 (.lf false (.sc (.int .i64 r))) [] 0 := by
  unfold laws_szBranch at h
  refine fn_code tab_ok mixed [(1000, [(1, 0), (2, 0)]), (1001, [(1, 0)]), (1002, [(1, 0), (10, 0)]), (1003, [(4, 0)]), (1004, [(4, 0)])] Tryd.func16 rfl rfl (by simp [Tryd.f16]) (by kernel_rfl) ?_
  simp only [Tryd.f16]
  refine sA ?_
  obtain ⟨c8, hr1, h⟩ := bind_ok h
  refine Cl_sA (w_laws_szEventS hr1) ?_
  try refine sA ?_
  refine Bs_if h (fun h hc2 => ?_) (fun h hc2 => ?_)
  · try refine sA ?_
    have he := Option.some.inj h
    subst he
    exact endsA ⟨[(4, (.lf false (.sc (.int .i64 (-1)))))], [], 0, 12⟩ []
  · try refine sA ?_
    have he := Option.some.inj h
    subst he
    exact endsA ⟨[(4, (.lf false (.sc (.int .i64 c8))))], [], 0, 12⟩ []
theorem w_laws_szBranchS {a0 : (List BranchT)} {a1 : Int} {r : Int} (h : laws_szBranchS a0 a1 = some r) : Fn Tryd.prog 9 [(.lf true (.sl (a0.map eBranch))), (.lf false (.sc (.int .i64 a1)))] [] 0 (.lf false (.sc (.int .i64 r))) [] 0 := by
  unfold laws_szBranchS at h
  refine fn_code tab_ok mixed [(1000, [(0, 0), (1, 0)]), (1001, [(0, 0), (1, 0)]), (1002, [(0, 0), (1, 0), (11, 0)]), (1003, [(4, 0)]), (1004, [(0, 0), (1, 0), (5, 0)]), (1005, [(0, 0), (1, 0), (5, 0), (15, 0)]), (1006, [(0, 0), (1, 0), (5, 0)]), (1007, [(0, 0), (1, 0), (5, 0)]), (1008, [(0, 0), (1, 0), (5, 0), (25, 0)]), (1009, [(4, 0)]), (1010, [(4, 0)])] Tryd.func9 rfl rfl (by simp [Tryd.f9]) (by kernel_rfl) ?_
  simp only [Tryd.f9]
  refine sA ?_
  refine Bs_if h (fun h hc1 => ?_) (fun h hc1 => ?_)
  · try refine sA ?_
    have he := Option.some.inj h
    subst he
    exact endsA ⟨[(4, (.lf false (.sc (.int .i64 (-1)))))], [], 0, 27⟩ []
  · try refine sA ?_
    obtain ⟨y11, hl2, h⟩ := bind_ok h
    refine W_loopP (fun g1 : laws_szBranchS_G1 => ⟨[(0, (.lf true (.sl (a0.map eBranch)))), (1, (.lf false (.sc (.int .i64 g1.t1)))), (5, (.lf false (.sc (.int .i64 g1.t5))))], [], 0, 27⟩) (laws_szBranchS_L1 a0) _ _ hl2 (weakA []) ?_
    · intro n1 g1 z1 hs1 hk1
      unfold laws_szBranchS_L1 at hs1
      try dsimp only at hs1
      refine sA ?_
      refine Bs_if hs1 (fun hs1 hc3 => ?_) (fun hs1 hc3 => ?_)
      · try refine sA ?_
        obtain ⟨hp4, hs1⟩ := guard_some hs1
        have hn4 : g1.t5.toNat < a0.length := by first | omega | (simp only [List.length_set, List.length_append, List.length_replicate, List.length_map]; omega)
        try refine sA ?_
        try refine andA ?_
        obtain ⟨c10, hr5, hs1⟩ := bind_ok hs1
        refine Cl_sA (w_laws_szBranch hr5) ?_
        try refine sA ?_
        refine Bs_if hs1 (fun hs1 hc6 => ?_) (fun hs1 hc6 => ?_)
        · try refine sA ?_
          cases hs1
          cases hk1
          try dsimp only at h
          try refine sA ?_
          have he := Option.some.inj h
          subst he
          exact endsA ⟨[(4, (.lf false (.sc (.int .i64 (-1)))))], [], 0, 27⟩ []
        · try refine sA ?_
          cases hs1
          exact X_backP hk1 (weakA [])
      · try refine sA ?_
        cases hs1
        cases hk1
        try dsimp only at h
        try refine sA ?_
        have he := Option.some.inj h
        subst he
        exact endsA ⟨[(4, (.lf false (.sc (.int .i64 g1.t1))))], [], 0, 27⟩ []
theorem w_laws_szTellings {a0 : TellingsT} {a1 : Int} {r : Int} (h : laws_szTellings a0 a1 = some r) : Fn Tryd.prog 4 [(.ag [(.lf true (.sl (a0.Branches.map eBranch)))]), (.lf false (.sc (.int .i64 a1)))] [] 0 (.lf false (.sc (.int .i64 r))) [] 0 := by
  unfold laws_szTellings at h
  refine fn_code tab_ok mixed [(1000, [(1, 0), (2, 0)]), (1001, [(1, 0)]), (1002, [(1, 0), (10, 0)]), (1003, [(4, 0)]), (1004, [(4, 0)])] Tryd.func4 rfl rfl (by simp [Tryd.f4]) (by kernel_rfl) ?_
  simp only [Tryd.f4]
  refine sA ?_
  obtain ⟨c14, hr1, h⟩ := bind_ok h
  refine Cl_sA (w_laws_szBranchS hr1) ?_
  try refine sA ?_
  refine Bs_if h (fun h hc2 => ?_) (fun h hc2 => ?_)
  · try refine sA ?_
    have he := Option.some.inj h
    subst he
    exact endsA ⟨[(4, (.lf false (.sc (.int .i64 (-1)))))], [], 0, 12⟩ []
  · try refine sA ?_
    have he := Option.some.inj h
    subst he
    exact endsA ⟨[(4, (.lf false (.sc (.int .i64 c14))))], [], 0, 12⟩ []
theorem w_laws_toEvent {a0 : EventT} {r : EventT} (h : laws_toEvent a0 = some r) : Fn Tryd.prog 35 [(.ag [(.lf false (.sc (.int .i64 a0.Id))), (.lf false (.sc (.int .i64 a0.Version))), (.lf false (.sc (.int .i64 a0.Kind))), (.lf false (.sc (.string a0.Name)))])] [] 0 (.ag [(.lf false (.sc (.int .i64 r.Id))), (.lf false (.sc (.int .i64 r.Version))), (.lf false (.sc (.int .i64 r.Kind))), (.lf false (.sc (.string r.Name)))]) [] 1 := by
  unfold laws_toEvent at h
  refine fn_code tab_ok mixed [(1000, [(1, 0), (2, 0)]), (1001, [(1, 0), (2, 0), (3, 0)]), (1002, [(1, 0), (2, 0), (3, 0)]), (1003, [(1, 0), (2, 0), (3, 0)]), (1004, [(1, 0), (2, 0), (3, 0)]), (1005, [(2, 0), (3, 0)]), (1006, [(2, 0)])] Tryd.func35 rfl rfl (by simp [Tryd.f35]) (by kernel_rfl) ?_
  simp only [Tryd.f35]
  refine sA ?_
  have he := Option.some.inj h
  subst he
  exact endsA ⟨[(2, (.pb 0 0))], [(0, some (true, .box [(.lf false (.sc (.int .i64 a0.Id))), (.lf false (.sc (.int .i64 a0.Version))), (.lf false (.sc (.int .i64 a0.Kind))), (.lf false (.sc (.string a0.Name)))]))], 1, 17⟩ [some 1]
theorem w_laws_toEventS {a0 : (List EventT)} {r : (List EventT)} (h : laws_toEventS a0 = some r) : Fn Tryd.prog 27 [(.lf true (.sl (a0.map eEvent)))] [] 0 (.os 0 4 0 r.length r.length false) [(0, some (true, .arr false 4 (r.map eEvent)))] 1 := by
  unfold laws_toEventS at h
  refine fn_code tab_ok mixed [(1000, [(0, 0)]), (1001, [(0, 0), (3, 0)]), (1002, [(0, 0), (3, 0), (4, 0)]), (1003, [(0, 0), (3, 0), (4, 0), (11, 0)]), (1004, [(0, 0), (3, 0), (4, 0)]), (1005, [(0, 0), (3, 0), (4, 0)]), (1006, [(2, 0)])] Tryd.func27 rfl rfl (by simp [Tryd.f27]) (by kernel_rfl) ?_
  simp only [Tryd.f27]
  simp (disch := first | assumption | (simp only [List.length_set]; assumption)) only [go_sem, Nat.reduceAdd, Nat.reduceMul, Nat.reduceSub, Nat.reduceEqDiff, ↓reduceIte, Nat.reduceLT, reduceCtorEq, Nat.reduceLeDiff, Int.reduceToNat, Int.reduceEq, Int.reduceLE, Int.reduceLT, Nat.reduceBEq, fold_eEvent_rep]
  obtain ⟨hp1, h⟩ := guard_some h
  try simp (disch := first | assumption | (simp only [List.length_set]; assumption)) only [go_sem, Nat.reduceAdd, Nat.reduceMul, Nat.reduceSub, Nat.reduceEqDiff, ↓reduceIte, Nat.reduceLT, reduceCtorEq, Nat.reduceLeDiff, Int.reduceToNat, Int.reduceEq, Int.reduceLE, Int.reduceLT, Nat.reduceBEq, fold_eEvent_rep]
  try refine andA ?_
  obtain ⟨y20, hl2, h⟩ := bind_ok h
  refine W_loopP (fun g17 : laws_toEventS_G1 => ⟨[(0, (.lf true (.sl (a0.map eEvent)))), (3, (.os 0 4 0 g17.c0.length g17.c0.length false)), (4, (.lf false (.sc (.int .i64 g17.t4))))], [(0, some (true, .arr false 4 (g17.c0.map eEvent)))], 1, 23⟩) (laws_toEventS_L1 a0) _ _ hl2 (weak_of (m := 0) [some 0] rfl rfl rfl (by rfl) (by ((try simp (disch := first | assumption | (simp only [List.length_set]; assumption)) only [go_sem, Nat.reduceAdd, Nat.reduceMul, Nat.reduceSub, Nat.reduceEqDiff, ↓reduceIte, Nat.reduceLT, reduceCtorEq, Nat.reduceLeDiff, Int.reduceToNat, Int.reduceEq, Int.reduceLE, Int.reduceLT, Nat.reduceBEq, fold_eEvent_rep]); (repeat' first | done | rfl | omega | refine And.intro ?_ ?_ | (simp; done) | (simp; omega)))) (by ((try simp (disch := first | assumption | (simp only [List.length_set]; assumption)) only [go_sem, Nat.reduceAdd, Nat.reduceMul, Nat.reduceSub, Nat.reduceEqDiff, ↓reduceIte, Nat.reduceLT, reduceCtorEq, Nat.reduceLeDiff, Int.reduceToNat, Int.reduceEq, Int.reduceLE, Int.reduceLT, Nat.reduceBEq, fold_eEvent_rep]); (repeat' first | done | rfl | omega | refine And.intro ?_ ?_ | (simp; done) | (simp; omega))))) ?_
  · intro n1 g17 z1 hs1 hk1
    unfold laws_toEventS_L1 at hs1
    try dsimp only at hs1
    simp (disch := first | assumption | (simp only [List.length_set]; assumption)) only [go_sem, Nat.reduceAdd, Nat.reduceMul, Nat.reduceSub, Nat.reduceEqDiff, ↓reduceIte, Nat.reduceLT, reduceCtorEq, Nat.reduceLeDiff, Int.reduceToNat, Int.reduceEq, Int.reduceLE, Int.reduceLT, Nat.reduceBEq, fold_eEvent_rep]
    refine Bs_if hs1 (fun hs1 hc3 => ?_) (fun hs1 hc3 => ?_)
    · try simp (disch := first | assumption | (simp only [List.length_set]; assumption)) only [go_sem, Nat.reduceAdd, Nat.reduceMul, Nat.reduceSub, Nat.reduceEqDiff, ↓reduceIte, Nat.reduceLT, reduceCtorEq, Nat.reduceLeDiff, Int.reduceToNat, Int.reduceEq, Int.reduceLE, Int.reduceLT, Nat.reduceBEq, fold_eEvent_rep]
      obtain ⟨hp4, hs1⟩ := guard_some hs1
      have hn4 : g17.t4.toNat < a0.length := by first | omega | (simp only [List.length_set, List.length_append, List.length_replicate, List.length_map]; omega)
      try simp (disch := first | assumption | (simp only [List.length_set]; assumption)) only [go_sem, Nat.reduceAdd, Nat.reduceMul, Nat.reduceSub, Nat.reduceEqDiff, ↓reduceIte, Nat.reduceLT, reduceCtorEq, Nat.reduceLeDiff, Int.reduceToNat, Int.reduceEq, Int.reduceLE, Int.reduceLT, Nat.reduceBEq, fold_eEvent_rep]
      try refine andA ?_
      obtain ⟨c19, hr5, hs1⟩ := bind_ok hs1
      refine Cl_shown (w_laws_toEvent hr5) (by first | rfl | (simp (disch := first | assumption | (simp only [List.length_set]; assumption)) only [go_sem, Nat.reduceAdd, Nat.reduceMul, Nat.reduceSub, Nat.reduceEqDiff, ↓reduceIte, Nat.reduceLT, reduceCtorEq, Nat.reduceLeDiff, Int.reduceToNat, Int.reduceEq, Int.reduceLE, Int.reduceLT, Nat.reduceBEq, fold_eEvent_rep]; first | done | rfl) | (simp only [List.length_append, List.length_cons, List.length_nil, List.length_map, List.length_set, List.length_replicate, Nat.zero_add, Nat.reduceAdd]; rfl) | (simp (disch := first | assumption | (simp only [List.length_set]; assumption)) only [go_sem, Nat.reduceAdd, Nat.reduceMul, Nat.reduceSub, Nat.reduceEqDiff, ↓reduceIte, Nat.reduceLT, reduceCtorEq, Nat.reduceLeDiff, Int.reduceToNat, Int.reduceEq, Int.reduceLE, Int.reduceLT, Nat.reduceBEq, fold_eEvent_rep]; simp only [List.length_append, List.length_cons, List.length_nil, List.length_map, List.length_set, List.length_replicate, Nat.zero_add, Nat.reduceAdd]; rfl)) (FitAll.refl _) (.inl (by first | rfl | (simp (disch := first | assumption | (simp only [List.length_set]; assumption)) only [go_sem, Nat.reduceAdd, Nat.reduceMul, Nat.reduceSub, Nat.reduceEqDiff, ↓reduceIte, Nat.reduceLT, reduceCtorEq, Nat.reduceLeDiff, Int.reduceToNat, Int.reduceEq, Int.reduceLE, Int.reduceLT, Nat.reduceBEq, fold_eEvent_rep]; done))) ?_
      try simp (disch := first | assumption | (simp only [List.length_set]; assumption)) only [go_sem, Nat.reduceAdd, Nat.reduceMul, Nat.reduceSub, Nat.reduceEqDiff, ↓reduceIte, Nat.reduceLT, reduceCtorEq, Nat.reduceLeDiff, Int.reduceToNat, Int.reduceEq, Int.reduceLE, Int.reduceLT, Nat.reduceBEq, fold_eEvent_rep]
      obtain ⟨hp6, hs1⟩ := guard_some hs1
      have hn6 : g17.t4.toNat < g17.c0.length := by first | omega | (simp only [List.length_set, List.length_append, List.length_replicate, List.length_map]; omega)
      try simp (disch := first | assumption | (simp only [List.length_set]; assumption)) only [go_sem, Nat.reduceAdd, Nat.reduceMul, Nat.reduceSub, Nat.reduceEqDiff, ↓reduceIte, Nat.reduceLT, reduceCtorEq, Nat.reduceLeDiff, Int.reduceToNat, Int.reduceEq, Int.reduceLE, Int.reduceLT, Nat.reduceBEq, fold_eEvent_rep]
      try refine andA ?_
      try refine andB ?_
      try simp (disch := first | assumption | (simp only [List.length_set]; assumption)) only [go_sem, Nat.reduceAdd, Nat.reduceMul, Nat.reduceSub, Nat.reduceEqDiff, ↓reduceIte, Nat.reduceLT, reduceCtorEq, Nat.reduceLeDiff, Int.reduceToNat, Int.reduceEq, Int.reduceLE, Int.reduceLT, Nat.reduceBEq, fold_eEvent_rep]
      cases hs1
      refine X_backP hk1 ?_
      refine weak_of (m := 0) [some 0] rfl rfl rfl (by rfl) ?_ ?_
      all_goals ((try simp (disch := first | assumption | (simp only [List.length_set]; assumption)) only [go_sem, Nat.reduceAdd, Nat.reduceMul, Nat.reduceSub, Nat.reduceEqDiff, ↓reduceIte, Nat.reduceLT, reduceCtorEq, Nat.reduceLeDiff, Int.reduceToNat, Int.reduceEq, Int.reduceLE, Int.reduceLT, Nat.reduceBEq, fold_eEvent_rep]); (repeat' first | done | rfl | omega | refine And.intro ?_ ?_ | (simp; done) | (simp; omega)))
    · try simp (disch := first | assumption | (simp only [List.length_set]; assumption)) only [go_sem, Nat.reduceAdd, Nat.reduceMul, Nat.reduceSub, Nat.reduceEqDiff, ↓reduceIte, Nat.reduceLT, reduceCtorEq, Nat.reduceLeDiff, Int.reduceToNat, Int.reduceEq, Int.reduceLE, Int.reduceLT, Nat.reduceBEq, fold_eEvent_rep]
      cases hs1
      cases hk1
      try dsimp only at h
      try simp (disch := first | assumption | (simp only [List.length_set]; assumption)) only [go_sem, Nat.reduceAdd, Nat.reduceMul, Nat.reduceSub, Nat.reduceEqDiff, ↓reduceIte, Nat.reduceLT, reduceCtorEq, Nat.reduceLeDiff, Int.reduceToNat, Int.reduceEq, Int.reduceLE, Int.reduceLT, Nat.reduceBEq, fold_eEvent_rep]
      have he := Option.some.inj h
      subst he
      refine ends_weak ⟨[(2, (.os 0 4 0 g17.c0.length g17.c0.length false))], [(0, some (true, .arr false 4 (g17.c0.map eEvent)))], 1, 23⟩ (weak_of (m := 0) [some 0] rfl rfl rfl (by rfl) ?_ ?_) ?_
      all_goals ((try simp (disch := first | assumption | (simp only [List.length_set]; assumption)) only [go_sem, Nat.reduceAdd, Nat.reduceMul, Nat.reduceSub, Nat.reduceEqDiff, ↓reduceIte, Nat.reduceLT, reduceCtorEq, Nat.reduceLeDiff, Int.reduceToNat, Int.reduceEq, Int.reduceLE, Int.reduceLT, Nat.reduceBEq, fold_eEvent_rep]); (repeat' first | done | rfl | omega | refine And.intro ?_ ?_ | (simp; done) | (simp; omega)))
theorem w_laws_toBranch_F {a0 : BranchT} {r : BranchT} (h : laws_toBranch_F a0 = some r) : Fn Tryd.prog 20 [(.ag [(.lf true (.sl (a0.Events.map eEvent)))])] [] 0 (.ag [(.lf false (.sl (r.Events.map eEvent)))]) [] 1 := by
  unfold laws_toBranch_F at h
  refine fn_code tab_ok mixed [(1000, [(1, 0), (2, 0)]), (1001, [(1, 0), (2, 0), (3, 0)]), (1002, [(2, 0), (3, 0)]), (1003, [(2, 0)])] Tryd.func20 rfl rfl (by simp [Tryd.f20]) (by kernel_rfl) ?_
  simp only [Tryd.f20]
  refine sA ?_
  obtain ⟨c24, hr1, h⟩ := bind_ok h
  refine Cl_sA (w_laws_toEventS hr1) ?_
  try refine sA ?_
  have he := Option.some.inj h
  subst he
  refine ends_frz 3 ?_
  try refine sA ?_
  exact endsA ⟨[(2, (.pb 0 0))], [(0, some (true, .box [(.lf false (.sl (c24.map eEvent)))]))], 1, 9⟩ [some 1]
theorem w_laws_toBranchS {a0 : (List BranchT)} {r : (List BranchT)} (h : laws_toBranchS a0 = some r) : Fn Tryd.prog 12 [(.lf true (.sl (a0.map eBranch)))] [] 0 (.os 0 1 0 r.length r.length false) [(0, some (true, .arr false 1 (r.map eBranch)))] 1 := by
  unfold laws_toBranchS at h
  refine fn_code tab_ok mixed [(1000, [(0, 0)]), (1001, [(0, 0), (3, 0)]), (1002, [(0, 0), (3, 0), (4, 0)]), (1003, [(0, 0), (3, 0), (4, 0), (11, 0)]), (1004, [(0, 0), (3, 0), (4, 0)]), (1005, [(0, 0), (3, 0), (4, 0)]), (1006, [(2, 0)])] Tryd.func12 rfl rfl (by simp [Tryd.f12]) (by kernel_rfl) ?_
  simp only [Tryd.f12]
  simp (disch := first | assumption | (simp only [List.length_set]; assumption)) only [go_sem, Nat.reduceAdd, Nat.reduceMul, Nat.reduceSub, Nat.reduceEqDiff, ↓reduceIte, Nat.reduceLT, reduceCtorEq, Nat.reduceLeDiff, Int.reduceToNat, Int.reduceEq, Int.reduceLE, Int.reduceLT, Nat.reduceBEq, fold_eBranch_rep]
  obtain ⟨hp1, h⟩ := guard_some h
  try simp (disch := first | assumption | (simp only [List.length_set]; assumption)) only [go_sem, Nat.reduceAdd, Nat.reduceMul, Nat.reduceSub, Nat.reduceEqDiff, ↓reduceIte, Nat.reduceLT, reduceCtorEq, Nat.reduceLeDiff, Int.reduceToNat, Int.reduceEq, Int.reduceLE, Int.reduceLT, Nat.reduceBEq, fold_eBranch_rep]
  try refine andA ?_
  obtain ⟨y27, hl2, h⟩ := bind_ok h
  refine W_loopP (fun g23 : laws_toBranchS_G1 => ⟨[(0, (.lf true (.sl (a0.map eBranch)))), (3, (.os 0 1 0 g23.c0.length g23.c0.length false)), (4, (.lf false (.sc (.int .i64 g23.t4))))], [(0, some (true, .arr false 1 (g23.c0.map eBranch)))], 1, 23⟩) (laws_toBranchS_L1 a0) _ _ hl2 (weak_of (m := 0) [some 0] rfl rfl rfl (by rfl) (by ((try simp (disch := first | assumption | (simp only [List.length_set]; assumption)) only [go_sem, Nat.reduceAdd, Nat.reduceMul, Nat.reduceSub, Nat.reduceEqDiff, ↓reduceIte, Nat.reduceLT, reduceCtorEq, Nat.reduceLeDiff, Int.reduceToNat, Int.reduceEq, Int.reduceLE, Int.reduceLT, Nat.reduceBEq, fold_eBranch_rep]); (repeat' first | done | rfl | omega | refine And.intro ?_ ?_ | (simp; done) | (simp; omega)))) (by ((try simp (disch := first | assumption | (simp only [List.length_set]; assumption)) only [go_sem, Nat.reduceAdd, Nat.reduceMul, Nat.reduceSub, Nat.reduceEqDiff, ↓reduceIte, Nat.reduceLT, reduceCtorEq, Nat.reduceLeDiff, Int.reduceToNat, Int.reduceEq, Int.reduceLE, Int.reduceLT, Nat.reduceBEq, fold_eBranch_rep]); (repeat' first | done | rfl | omega | refine And.intro ?_ ?_ | (simp; done) | (simp; omega))))) ?_
  · intro n1 g23 z1 hs1 hk1
    unfold laws_toBranchS_L1 at hs1
    try dsimp only at hs1
    simp (disch := first | assumption | (simp only [List.length_set]; assumption)) only [go_sem, Nat.reduceAdd, Nat.reduceMul, Nat.reduceSub, Nat.reduceEqDiff, ↓reduceIte, Nat.reduceLT, reduceCtorEq, Nat.reduceLeDiff, Int.reduceToNat, Int.reduceEq, Int.reduceLE, Int.reduceLT, Nat.reduceBEq, fold_eBranch_rep]
    refine Bs_if hs1 (fun hs1 hc3 => ?_) (fun hs1 hc3 => ?_)
    · try simp (disch := first | assumption | (simp only [List.length_set]; assumption)) only [go_sem, Nat.reduceAdd, Nat.reduceMul, Nat.reduceSub, Nat.reduceEqDiff, ↓reduceIte, Nat.reduceLT, reduceCtorEq, Nat.reduceLeDiff, Int.reduceToNat, Int.reduceEq, Int.reduceLE, Int.reduceLT, Nat.reduceBEq, fold_eBranch_rep]
      obtain ⟨hp4, hs1⟩ := guard_some hs1
      have hn4 : g23.t4.toNat < a0.length := by first | omega | (simp only [List.length_set, List.length_append, List.length_replicate, List.length_map]; omega)
      try simp (disch := first | assumption | (simp only [List.length_set]; assumption)) only [go_sem, Nat.reduceAdd, Nat.reduceMul, Nat.reduceSub, Nat.reduceEqDiff, ↓reduceIte, Nat.reduceLT, reduceCtorEq, Nat.reduceLeDiff, Int.reduceToNat, Int.reduceEq, Int.reduceLE, Int.reduceLT, Nat.reduceBEq, fold_eBranch_rep]
      try refine andA ?_
      obtain ⟨c26, hr5, hs1⟩ := bind_ok hs1
      refine Cl_shown (w_laws_toBranch_F hr5) (by first | rfl | (simp (disch := first | assumption | (simp only [List.length_set]; assumption)) only [go_sem, Nat.reduceAdd, Nat.reduceMul, Nat.reduceSub, Nat.reduceEqDiff, ↓reduceIte, Nat.reduceLT, reduceCtorEq, Nat.reduceLeDiff, Int.reduceToNat, Int.reduceEq, Int.reduceLE, Int.reduceLT, Nat.reduceBEq, fold_eBranch_rep]; first | done | rfl) | (simp only [List.length_append, List.length_cons, List.length_nil, List.length_map, List.length_set, List.length_replicate, Nat.zero_add, Nat.reduceAdd]; rfl) | (simp (disch := first | assumption | (simp only [List.length_set]; assumption)) only [go_sem, Nat.reduceAdd, Nat.reduceMul, Nat.reduceSub, Nat.reduceEqDiff, ↓reduceIte, Nat.reduceLT, reduceCtorEq, Nat.reduceLeDiff, Int.reduceToNat, Int.reduceEq, Int.reduceLE, Int.reduceLT, Nat.reduceBEq, fold_eBranch_rep]; simp only [List.length_append, List.length_cons, List.length_nil, List.length_map, List.length_set, List.length_replicate, Nat.zero_add, Nat.reduceAdd]; rfl)) (FitAll.refl _) (.inl (by first | rfl | (simp (disch := first | assumption | (simp only [List.length_set]; assumption)) only [go_sem, Nat.reduceAdd, Nat.reduceMul, Nat.reduceSub, Nat.reduceEqDiff, ↓reduceIte, Nat.reduceLT, reduceCtorEq, Nat.reduceLeDiff, Int.reduceToNat, Int.reduceEq, Int.reduceLE, Int.reduceLT, Nat.reduceBEq, fold_eBranch_rep]; done))) ?_
      try simp (disch := first | assumption | (simp only [List.length_set]; assumption)) only [go_sem, Nat.reduceAdd, Nat.reduceMul, Nat.reduceSub, Nat.reduceEqDiff, ↓reduceIte, Nat.reduceLT, reduceCtorEq, Nat.reduceLeDiff, Int.reduceToNat, Int.reduceEq, Int.reduceLE, Int.reduceLT, Nat.reduceBEq, fold_eBranch_rep]
      obtain ⟨hp6, hs1⟩ := guard_some hs1
      have hn6 : g23.t4.toNat < g23.c0.length := by first | omega | (simp only [List.length_set, List.length_append, List.length_replicate, List.length_map]; omega)
      try simp (disch := first | assumption | (simp only [List.length_set]; assumption)) only [go_sem, Nat.reduceAdd, Nat.reduceMul, Nat.reduceSub, Nat.reduceEqDiff, ↓reduceIte, Nat.reduceLT, reduceCtorEq, Nat.reduceLeDiff, Int.reduceToNat, Int.reduceEq, Int.reduceLE, Int.reduceLT, Nat.reduceBEq, fold_eBranch_rep]
      try refine andA ?_
      try refine andB ?_
      try simp (disch := first | assumption | (simp only [List.length_set]; assumption)) only [go_sem, Nat.reduceAdd, Nat.reduceMul, Nat.reduceSub, Nat.reduceEqDiff, ↓reduceIte, Nat.reduceLT, reduceCtorEq, Nat.reduceLeDiff, Int.reduceToNat, Int.reduceEq, Int.reduceLE, Int.reduceLT, Nat.reduceBEq, fold_eBranch_rep]
      cases hs1
      refine X_backP hk1 ?_
      refine weak_of (m := 0) [some 0] rfl rfl rfl (by rfl) ?_ ?_
      all_goals ((try simp (disch := first | assumption | (simp only [List.length_set]; assumption)) only [go_sem, Nat.reduceAdd, Nat.reduceMul, Nat.reduceSub, Nat.reduceEqDiff, ↓reduceIte, Nat.reduceLT, reduceCtorEq, Nat.reduceLeDiff, Int.reduceToNat, Int.reduceEq, Int.reduceLE, Int.reduceLT, Nat.reduceBEq, fold_eBranch_rep]); (repeat' first | done | rfl | omega | refine And.intro ?_ ?_ | (simp; done) | (simp; omega)))
    · try simp (disch := first | assumption | (simp only [List.length_set]; assumption)) only [go_sem, Nat.reduceAdd, Nat.reduceMul, Nat.reduceSub, Nat.reduceEqDiff, ↓reduceIte, Nat.reduceLT, reduceCtorEq, Nat.reduceLeDiff, Int.reduceToNat, Int.reduceEq, Int.reduceLE, Int.reduceLT, Nat.reduceBEq, fold_eBranch_rep]
      cases hs1
      cases hk1
      try dsimp only at h
      try simp (disch := first | assumption | (simp only [List.length_set]; assumption)) only [go_sem, Nat.reduceAdd, Nat.reduceMul, Nat.reduceSub, Nat.reduceEqDiff, ↓reduceIte, Nat.reduceLT, reduceCtorEq, Nat.reduceLeDiff, Int.reduceToNat, Int.reduceEq, Int.reduceLE, Int.reduceLT, Nat.reduceBEq, fold_eBranch_rep]
      have he := Option.some.inj h
      subst he
      refine ends_weak ⟨[(2, (.os 0 1 0 g23.c0.length g23.c0.length false))], [(0, some (true, .arr false 1 (g23.c0.map eBranch)))], 1, 23⟩ (weak_of (m := 0) [some 0] rfl rfl rfl (by rfl) ?_ ?_) ?_
      all_goals ((try simp (disch := first | assumption | (simp only [List.length_set]; assumption)) only [go_sem, Nat.reduceAdd, Nat.reduceMul, Nat.reduceSub, Nat.reduceEqDiff, ↓reduceIte, Nat.reduceLT, reduceCtorEq, Nat.reduceLeDiff, Int.reduceToNat, Int.reduceEq, Int.reduceLE, Int.reduceLT, Nat.reduceBEq, fold_eBranch_rep]); (repeat' first | done | rfl | omega | refine And.intro ?_ ?_ | (simp; done) | (simp; omega)))
theorem w_laws_toTellings {a0 : TellingsT} {r : TellingsT} (h : laws_toTellings a0 = some r) : Fn Tryd.prog 6 [(.ag [(.lf true (.sl (a0.Branches.map eBranch)))])] [] 0 (.ag [(.os 0 1 0 r.Branches.length r.Branches.length false)]) [(0, some (true, .arr false 1 (r.Branches.map eBranch)))] 2 := by
  unfold laws_toTellings at h
  refine fn_code tab_ok mixed [(1000, [(1, 0), (2, 0)]), (1001, [(1, 0), (2, 0), (3, 0)]), (1002, [(2, 0), (3, 0)]), (1003, [(2, 0)])] Tryd.func6 rfl rfl (by simp [Tryd.f6]) (by kernel_rfl) ?_
  simp only [Tryd.f6]
  refine sA ?_
  obtain ⟨c28, hr1, h⟩ := bind_ok h
  refine Cl_sA (w_laws_toBranchS hr1) ?_
  try refine sA ?_
  have he := Option.some.inj h
  subst he
  exact endsA ⟨[(2, (.pb 1 0))], [(0, some (true, .arr false 1 (c28.map eBranch))), (1, some (true, .box [(.os 0 1 0 c28.length c28.length false)]))], 2, 9⟩ [some 3, some 1]
theorem w_spec_NewState {r : StateT} (h : spec_NewState = some r) : Fn Tryd.prog 41 [] [] 0 (.ag [(.lf false (.sc (.int .i64 r.Status))), (.lf false (.sc (.int .i64 r.Next))), (.lf false (.sc (.bool r.Cancel))), (.lf false (.sc (.int .i64 r.Done))), .nl, .nl]) [] 1 := by
  unfold spec_NewState at h
  refine fn_code tab_ok mixed [] Tryd.func41 rfl rfl (by simp [Tryd.f41]) (by kernel_rfl) ?_
  simp only [Tryd.f41]
  refine sA ?_
  have he := Option.some.inj h
  subst he
  exact endsA ⟨[(0, (.pb 0 0))], [(0, some (true, .box [(.lf false (.sc (.int .i64 0))), (.lf false (.sc (.int .i64 1))), (.lf false (.sc (.bool false))), (.lf false (.sc (.int .i64 0))), .nl, .nl]))], 1, 2⟩ [some 0]
theorem w_spec_l1In {a0 : Int} {a1 : Int} {a2 : Int} {r : Bool} (h : spec_l1In a0 a1 a2 = some r) : Fn Tryd.prog 56 [(.lf false (.sc (.int .i64 a0))), (.lf false (.sc (.int .i64 a1))), (.lf false (.sc (.int .i64 a2)))] [] 0 (.lf false (.sc (.bool r))) [] 0 := by
  unfold spec_l1In at h
  refine fn_code tab_ok mixed [] Tryd.func56 rfl rfl (by simp [Tryd.f56]) (by kernel_rfl) ?_
  simp only [Tryd.f56]
  refine sA ?_
  refine Sp_if h (fun h hc1 => ?_) (fun h hc1 => ?_)
  · try refine sA ?_
    have he := Option.some.inj h
    subst he
    exact endsA ⟨[(6, (.lf false (.sc (.bool (decide (a0 ≤ a2))))))], [], 0, 15⟩ []
  · try refine sA ?_
    have he := Option.some.inj h
    subst he
    exact endsA ⟨[(6, (.lf false (.sc (.bool false))))], [], 0, 15⟩ []
theorem w_spec_l1Name {a0 : ByteArray} {r : Bool} (h : spec_l1Name a0 = some r) : Fn Tryd.prog 57 [(.lf false (.sc (.string a0)))] [] 0 (.lf false (.sc (.bool r))) [] 0 := by
  unfold spec_l1Name at h
  refine fn_code tab_ok mixed [(1000, [(0, 0)]), (1001, [(0, 0), (3, 0)]), (1002, [(0, 0), (3, 0), (7, 0)]), (1003, [(0, 0), (3, 0)]), (1004, [(0, 0), (3, 0), (32, 0)]), (1005, [(2, 0)]), (1006, [(2, 0)]), (4004, [])] Tryd.func57 rfl rfl (by simp [Tryd.f57]) (by kernel_rfl) ?_
  simp only [Tryd.f57]
  refine sA ?_
  obtain ⟨y45, hl1, h⟩ := bind_ok h
  refine W_loopP (fun g42 : spec_l1Name_G1 => ⟨[(0, (.lf false (.sc (.string a0)))), (3, (.lf false (.sc (.int .i64 g42.t3))))], [], 0, 36⟩) (spec_l1Name_L1 a0) _ _ hl1 (weakA []) ?_
  · intro n1 g42 z1 hs1 hk1
    unfold spec_l1Name_L1 at hs1
    try dsimp only at hs1
    refine sA ?_
    refine Bs_if hs1 (fun hs1 hc2 => ?_) (fun hs1 hc2 => ?_)
    · try refine sA ?_
      obtain ⟨p44, hq3, hs1⟩ := bind_ok hs1
      refine Sq_cut (fun s2 => s2 = ⟨[(0, (.lf false (.sc (.string a0)))), (3, (.lf false (.sc (.int .i64 g42.t3)))), (32, (.lf false (.sc (.bool p44.t32))))], [], 0, 36⟩) ?_ ?_
      · try refine sA ?_
        obtain ⟨hp4, hq3⟩ := guard_some hq3
        try refine sA ?_
        try refine andA ?_
        refine Sp_if hq3 (fun hq3 hc5 => ?_) (fun hq3 hc5 => ?_)
        · try refine sA ?_
          obtain ⟨hp6, hq3⟩ := guard_some hq3
          try refine sA ?_
          try refine andA ?_
          refine Sp_if hq3 (fun hq3 hc7 => ?_) (fun hq3 hc7 => ?_)
          · try refine sA ?_
            cases hq3
            exact X_cut rfl (weakA [])
          · try refine sA ?_
            obtain ⟨hp8, hq3⟩ := guard_some hq3
            try refine sA ?_
            try refine andA ?_
            refine Sp_if hq3 (fun hq3 hc9 => ?_) (fun hq3 hc9 => ?_)
            · try refine sA ?_
              obtain ⟨hp10, hq3⟩ := guard_some hq3
              try refine sA ?_
              try refine andA ?_
              cases hq3
              exact X_cut rfl (weakA [])
            · try refine sA ?_
              cases hq3
              exact X_cut rfl (weakA [])
        · try refine sA ?_
          obtain ⟨hp11, hq3⟩ := guard_some hq3
          try refine sA ?_
          try refine andA ?_
          refine Sp_if hq3 (fun hq3 hc12 => ?_) (fun hq3 hc12 => ?_)
          · try refine sA ?_
            obtain ⟨hp13, hq3⟩ := guard_some hq3
            try refine sA ?_
            try refine andA ?_
            cases hq3
            exact X_cut rfl (weakA [])
          · try refine sA ?_
            cases hq3
            exact X_cut rfl (weakA [])
      · intro s2 hJ; subst hJ
        try dsimp only at hs1
        try refine sA ?_
        refine Bs_if hs1 (fun hs1 hc14 => ?_) (fun hs1 hc14 => ?_)
        · try refine sA ?_
          cases hs1
          cases hk1
          try dsimp only at h
          try refine sA ?_
          have he := Option.some.inj h
          subst he
          exact endsA ⟨[(2, (.lf false (.sc (.bool false))))], [], 0, 36⟩ []
        · try refine sA ?_
          cases hs1
          exact X_backP hk1 (weakA [])
    · try refine sA ?_
      cases hs1
      cases hk1
      try dsimp only at h
      try refine sA ?_
      have he := Option.some.inj h
      subst he
      exact endsA ⟨[(2, (.lf false (.sc (.bool (decide ((a0.size : Int) ≤ 12))))))], [], 0, 36⟩ []
theorem w_spec_GoodEvent {a0 : EventT} {r : Bool} (h : spec_GoodEvent a0 = some r) : Fn Tryd.prog 47 [(.ag [(.lf false (.sc (.int .i64 a0.Id))), (.lf false (.sc (.int .i64 a0.Version))), (.lf false (.sc (.int .i64 a0.Kind))), (.lf false (.sc (.string a0.Name)))])] [] 0 (.lf false (.sc (.bool r))) [] 0 := by
  unfold spec_GoodEvent at h
  refine fn_code tab_ok mixed [] Tryd.func47 rfl rfl (by simp [Tryd.f47]) (by kernel_rfl) ?_
  simp only [Tryd.f47]
  refine sA ?_
  obtain ⟨c39, hr1, h⟩ := bind_ok h
  refine Cl_sA (w_spec_l1In hr1) ?_
  try refine sA ?_
  refine Sp_if h (fun h hc2 => ?_) (fun h hc2 => ?_)
  · try refine sA ?_
    obtain ⟨c40, hr3, h⟩ := bind_ok h
    refine Cl_sA (w_spec_l1In hr3) ?_
    try refine sA ?_
    refine Sp_if h (fun h hc4 => ?_) (fun h hc4 => ?_)
    · try refine sA ?_
      obtain ⟨c41, hr5, h⟩ := bind_ok h
      refine Cl_sA (w_spec_l1In hr5) ?_
      try refine sA ?_
      refine Sp_if h (fun h hc6 => ?_) (fun h hc6 => ?_)
      · try refine sA ?_
        obtain ⟨c48, hr7, h⟩ := bind_ok h
        refine Cl_sA (w_spec_l1Name hr7) ?_
        try refine sA ?_
        have he := Option.some.inj h
        subst he
        exact endsA ⟨[(2, (.lf false (.sc (.bool c48))))], [], 0, 21⟩ []
      · try refine sA ?_
        have he := Option.some.inj h
        subst he
        exact endsA ⟨[(2, (.lf false (.sc (.bool false))))], [], 0, 21⟩ []
    · try refine sA ?_
      have he := Option.some.inj h
      subst he
      exact endsA ⟨[(2, (.lf false (.sc (.bool false))))], [], 0, 21⟩ []
  · try refine sA ?_
    have he := Option.some.inj h
    subst he
    exact endsA ⟨[(2, (.lf false (.sc (.bool false))))], [], 0, 21⟩ []
theorem w_spec_l12Own {a0 : StateT} {r : StateT} (h : spec_l12Own a0 = some r) : Fn Tryd.prog 48 [(.ag [(.lf false (.sc (.int .i64 a0.Status))), (.lf false (.sc (.int .i64 a0.Next))), (.lf false (.sc (.bool a0.Cancel))), (.lf false (.sc (.int .i64 a0.Done))), (.lf true (.sl (a0.Signals.map eS))), (.lf true (.sl (a0.Timers.map eS)))])] [] 0 (.ag [(.lf false (.sc (.int .i64 r.Status))), (.lf false (.sc (.int .i64 r.Next))), (.lf false (.sc (.bool r.Cancel))), (.lf false (.sc (.int .i64 r.Done))), (.os 0 1 0 r.Signals.length r.Signals.length false), (.os 1 1 0 r.Timers.length r.Timers.length false)]) [(0, some (true, .arr false 1 (r.Signals.map eS))), (1, some (true, .arr false 1 (r.Timers.map eS)))] 3 := by
  unfold spec_l12Own at h
  refine fn_code tab_ok mixed [(1000, [(1, 0), (2, 0)]), (1001, [(1, 0), (2, 0)]), (1002, [(1, 0), (2, 0)]), (1003, [(2, 0)])] Tryd.func48 rfl rfl (by simp [Tryd.f48]) (by kernel_rfl) ?_
  simp only [Tryd.f48]
  refine sA ?_
  obtain ⟨hp1, h⟩ := guard_some h
  try refine sA ?_
  try refine andA ?_
  obtain ⟨hp2, h⟩ := guard_some h
  try refine sA ?_
  try refine andA ?_
  have he := Option.some.inj h
  subst he
  exact endsA ⟨[(2, (.pb 2 0))], [(0, some (true, .arr false 1 ((([]) ++ a0.Signals).map eS))), (1, some (true, .arr false 1 ((([]) ++ a0.Timers).map eS))), (2, some (true, .box [(.lf false (.sc (.int .i64 a0.Status))), (.lf false (.sc (.int .i64 a0.Next))), (.lf false (.sc (.bool a0.Cancel))), (.lf false (.sc (.int .i64 a0.Done))), (.os 0 1 0 ((([]) ++ a0.Signals).length) ((([]) ++ a0.Signals).length) false), (.os 1 1 0 ((([]) ++ a0.Timers).length) ((([]) ++ a0.Timers).length) false)]))], 3, 14⟩ [some 3, some 5, some 1]
theorem w_spec_l12At {a0 : (List ByteArray)} {a1 : ByteArray} {r : Int} (h : spec_l12At a0 a1 = some r) : Fn Tryd.prog 49 [(.lf true (.sl (a0.map eS))), (.lf false (.sc (.string a1)))] [] 0 (.lf false (.sc (.int .i64 r))) [] 0 := by
  unfold spec_l12At at h
  refine fn_code tab_ok mixed [(1000, [(0, 0), (1, 0)]), (1001, [(1, 0), (7, 0), (8, 0), (9, 0)]), (1002, [(1, 0), (7, 0), (8, 0), (9, 0), (10, 0)]), (1003, [(1, 0), (5, 0), (6, 0), (7, 0), (8, 0), (9, 0)]), (1004, [(1, 0), (5, 0), (7, 0), (8, 0), (9, 0), (16, 0)]), (1005, [(4, 0)]), (1006, [(1, 0), (7, 0), (8, 0), (9, 0)]), (1007, [(4, 0)])] Tryd.func49 rfl rfl (by simp [Tryd.f49]) (by kernel_rfl) ?_
  simp only [Tryd.f49]
  refine sA ?_
  obtain ⟨y53, hl1, h⟩ := bind_ok h
  refine W_loopP (fun g52 : spec_l12At_G1 => ⟨[(1, (.lf false (.sc (.string a1)))), (7, (.lf true (.sl (a0.map eS)))), (8, (.lf false (.sc (.int .i64 ((a0.length : Nat) : Int))))), (9, (.lf false (.sc (.int .i64 g52.t9))))], [], 0, 19⟩) (spec_l12At_L1 a0 a1) _ _ hl1 (weakA []) ?_
  · intro n1 g52 z1 hs1 hk1
    unfold spec_l12At_L1 at hs1
    try dsimp only at hs1
    refine sA ?_
    refine Bs_if hs1 (fun hs1 hc2 => ?_) (fun hs1 hc2 => ?_)
    · try refine sA ?_
      obtain ⟨hp3, hs1⟩ := guard_some hs1
      have hn3 : g52.t9.toNat < a0.length := by first | omega | (simp only [List.length_set, List.length_append, List.length_replicate, List.length_map]; omega)
      try refine sA ?_
      try refine andA ?_
      refine Bs_if hs1 (fun hs1 hc4 => ?_) (fun hs1 hc4 => ?_)
      · try refine sA ?_
        cases hs1
        cases hk1
        try dsimp only at h
        try refine sA ?_
        have he := Option.some.inj h
        subst he
        exact endsA ⟨[(4, (.lf false (.sc (.int .i64 g52.t9))))], [], 0, 19⟩ []
      · try refine sA ?_
        cases hs1
        exact X_backP hk1 (weakA [])
    · try refine sA ?_
      cases hs1
      cases hk1
      try dsimp only at h
      try refine sA ?_
      have he := Option.some.inj h
      subst he
      exact endsA ⟨[(4, (.lf false (.sc (.int .i64 (-1)))))], [], 0, 19⟩ []
theorem w_spec_l12Timer {a0 : (List ByteArray)} {a1 : ByteArray} {r : (List ByteArray)} (h : spec_l12Timer a0 a1 = some r) : Fn Tryd.prog 50 [(.lf true (.sl (a0.map eS))), (.lf false (.sc (.string a1)))] [] 0 (.os 0 1 0 r.length r.length false) [(0, some (true, .arr false 1 (r.map eS)))] 1 := by
  unfold spec_l12Timer at h
  refine fn_code tab_ok mixed [(1000, [(0, 0), (1, 0)]), (1001, [(0, 0), (1, 0), (5, 0)]), (1002, [(0, 0), (1, 0), (5, 0), (6, 0)]), (1003, [(1, 0), (5, 0), (6, 0), (13, 0), (14, 0), (15, 0)]), (1004, [(1, 0), (5, 0), (6, 0), (13, 0), (14, 0), (15, 0), (16, 0)]), (1005, [(1, 0), (5, 0), (6, 0), (8, 0), (13, 0), (14, 0), (15, 0)]), (1006, [(1, 0), (5, 0), (6, 0), (8, 0), (13, 0), (14, 0), (15, 0), (21, 0)]), (1007, [(1, 0), (5, 0), (6, 0), (8, 0), (13, 0), (14, 0), (15, 0), (28, 0)]), (1008, [(1, 0), (5, 0), (8, 0), (13, 0), (14, 0), (15, 0)]), (1009, [(1, 0), (5, 0), (6, 0), (8, 0), (13, 0), (14, 0), (15, 0)]), (1010, [(1, 0), (5, 0), (6, 0), (13, 0), (14, 0), (15, 0)]), (1011, [(1, 0), (5, 0), (6, 0), (13, 0), (14, 0), (15, 0)]), (1012, [(1, 0), (5, 0), (39, 0)]), (1013, [(5, 0)]), (1014, [(4, 0)]), (4007, [])] Tryd.func50 rfl rfl (by simp [Tryd.f50]) (by kernel_rfl) ?_
  simp only [Tryd.f50]
  refine sA ?_
  obtain ⟨c58, hr1, h⟩ := bind_ok h
  refine Cl_sA (w_spec_l12At hr1) ?_
  try refine sA ?_
  obtain ⟨y62, hl2, h⟩ := bind_ok h
  refine W_loopP (fun g59 : spec_l12Timer_G1 => ⟨[(1, (.lf false (.sc (.string a1)))), (5, (.os 0 1 0 g59.c0.length g59.c0.length false)), (6, (.lf false (.sc (.bool g59.t6)))), (13, (.lf true (.sl (a0.map eS)))), (14, (.lf false (.sc (.int .i64 ((a0.length : Nat) : Int))))), (15, (.lf false (.sc (.int .i64 g59.t15))))], [(0, some (true, .arr false 1 (g59.c0.map eS)))], 1, 45⟩) (spec_l12Timer_L1 a0 a1) _ _ hl2 (weakA [none]) ?_
  · intro n1 g59 z1 hs1 hk1
    unfold spec_l12Timer_L1 at hs1
    try dsimp only at hs1
    refine sA ?_
    refine Bs_if hs1 (fun hs1 hc3 => ?_) (fun hs1 hc3 => ?_)
    · try refine sA ?_
      obtain ⟨hp4, hs1⟩ := guard_some hs1
      have hn4 : g59.t15.toNat < a0.length := by first | omega | (simp only [List.length_set, List.length_append, List.length_replicate, List.length_map]; omega)
      try refine sA ?_
      try refine andA ?_
      refine Bs_if hs1 (fun hs1 hc5 => ?_) (fun hs1 hc5 => ?_)
      · try refine sA ?_
        cases hs1
        exact X_backP hk1 (weakA [some 0])
      · try refine sA ?_
        obtain ⟨p61, hq6, hs1⟩ := bind_ok hs1
        refine Sq_cut (fun s2 => s2 = ⟨[(1, (.lf false (.sc (.string a1)))), (5, (.os 0 1 0 g59.c0.length g59.c0.length false)), (6, (.lf false (.sc (.bool g59.t6)))), (8, (.lf false (.sc (.string (nth a0 g59.t15.toNat))))), (13, (.lf true (.sl (a0.map eS)))), (14, (.lf false (.sc (.int .i64 ((a0.length : Nat) : Int))))), (15, (.lf false (.sc (.int .i64 g59.t15)))), (28, (.lf false (.sc (.bool p61.t28))))], [(0, some (true, .arr false 1 (g59.c0.map eS)))], 1, 45⟩) ?_ ?_
        · try refine sA ?_
          refine Sp_if hq6 (fun hq6 hc7 => ?_) (fun hq6 hc7 => ?_)
          · try refine sA ?_
            cases hq6
            exact X_cut rfl (weakA [some 0])
          · try refine sA ?_
            cases hq6
            exact X_cut rfl (weakA [some 0])
        · intro s2 hJ; subst hJ
          try dsimp only at hs1
          try refine sA ?_
          refine Bs_if hs1 (fun hs1 hc8 => ?_) (fun hs1 hc8 => ?_)
          · try refine sA ?_
            obtain ⟨hp9, hs1⟩ := guard_some hs1
            try refine sA ?_
            try refine andA ?_
            obtain ⟨hp10, hs1⟩ := guard_some hs1
            try refine sA ?_
            try refine andA ?_
            cases hs1
            exact X_backP hk1 (weakA [some 4])
          · try refine sA ?_
            obtain ⟨hp11, hs1⟩ := guard_some hs1
            try refine sA ?_
            try refine andA ?_
            cases hs1
            exact X_backP hk1 (weakA [some 2])
    · try refine sA ?_
      cases hs1
      cases hk1
      try dsimp only at h
      try refine sA ?_
      refine Bs_if h (fun h hc12 => ?_) (fun h hc12 => ?_)
      · try refine sA ?_
        obtain ⟨hp13, h⟩ := guard_some h
        try refine sA ?_
        try refine andA ?_
        have he := Option.some.inj h
        subst he
        exact endsA ⟨[(4, (.os 0 1 0 ((g59.c0 ++ ([a1])).length) ((g59.c0 ++ ([a1])).length) false))], [(0, some (true, .arr false 1 ((g59.c0 ++ ([a1])).map eS)))], 1, 45⟩ [some 2]
      · try refine sA ?_
        have he := Option.some.inj h
        subst he
        exact endsA ⟨[(4, (.os 0 1 0 g59.c0.length g59.c0.length false))], [(0, some (true, .arr false 1 (g59.c0.map eS)))], 1, 45⟩ [some 0]
theorem w_spec_l12Names {a0 : (List ByteArray)} {a1 : Bool} {r : Bool} (h : spec_l12Names a0 a1 = some r) : Fn Tryd.prog 58 [(.lf true (.sl (a0.map eS))), (.lf false (.sc (.bool a1)))] [] 0 (.lf false (.sc (.bool r))) [] 0 := by
  unfold spec_l12Names at h
  refine fn_code tab_ok mixed [(1000, [(0, 0), (1, 0)]), (1001, [(0, 0), (1, 0), (9, 0), (10, 0), (11, 0)]), (1002, [(0, 0), (1, 0), (9, 0), (10, 0), (11, 0), (12, 0)]), (1003, [(0, 0), (1, 0), (5, 0), (6, 0), (9, 0), (10, 0), (11, 0)]), (1004, [(0, 0), (1, 0), (5, 0), (6, 0), (9, 0), (10, 0), (11, 0), (18, 0)]), (1005, [(4, 0)]), (1006, [(0, 0), (1, 0), (5, 0), (6, 0), (9, 0), (10, 0), (11, 0), (21, 0), (22, 0), (23, 0)]), (1007, [(0, 0), (1, 0), (5, 0), (6, 0), (9, 0), (10, 0), (11, 0), (21, 0), (22, 0), (23, 0), (24, 0)]), (1008, [(0, 0), (1, 0), (5, 0), (6, 0), (7, 0), (8, 0), (9, 0), (10, 0), (11, 0), (21, 0), (22, 0), (23, 0)]), (1009, [(0, 0), (1, 0), (5, 0), (6, 0), (9, 0), (10, 0), (11, 0), (21, 0), (22, 0), (23, 0), (44, 0)]), (1010, [(4, 0)]), (1011, [(0, 0), (1, 0), (5, 0), (6, 0), (9, 0), (10, 0), (11, 0), (21, 0), (22, 0), (23, 0)]), (1012, [(0, 0), (1, 0), (9, 0), (10, 0), (11, 0)]), (1013, [(4, 0)]), (4009, [])] Tryd.func58 rfl rfl (by simp [Tryd.f58]) (by kernel_rfl) ?_
  simp only [Tryd.f58]
  refine sA ?_
  obtain ⟨y82, hl1, h⟩ := bind_ok h
  refine W_loopP (fun g67 : spec_l12Names_G1 => ⟨[(0, (.lf true (.sl (a0.map eS)))), (1, (.lf false (.sc (.bool a1)))), (9, (.lf true (.sl (a0.map eS)))), (10, (.lf false (.sc (.int .i64 ((a0.length : Nat) : Int))))), (11, (.lf false (.sc (.int .i64 g67.t11))))], [], 0, 50⟩) (spec_l12Names_L1 a0 a1) _ _ hl1 (weakA []) ?_
  · intro n1 g67 z1 hs1 hk1
    unfold spec_l12Names_L1 at hs1
    try dsimp only at hs1
    refine sA ?_
    refine Bs_if hs1 (fun hs1 hc2 => ?_) (fun hs1 hc2 => ?_)
    · try refine sA ?_
      obtain ⟨hp3, hs1⟩ := guard_some hs1
      have hn3 : g67.t11.toNat < a0.length := by first | omega | (simp only [List.length_set, List.length_append, List.length_replicate, List.length_map]; omega)
      try refine sA ?_
      try refine andA ?_
      obtain ⟨c75, hr4, hs1⟩ := bind_ok hs1
      refine Cl_sA (w_spec_l1Name hr4) ?_
      try refine sA ?_
      refine Bs_if hs1 (fun hs1 hc5 => ?_) (fun hs1 hc5 => ?_)
      · try refine sA ?_
        cases hs1
        cases hk1
        try dsimp only at h
        try refine sA ?_
        have he := Option.some.inj h
        subst he
        exact endsA ⟨[(4, (.lf false (.sc (.bool false))))], [], 0, 50⟩ []
      · try refine sA ?_
        obtain ⟨hp6, hs1⟩ := guard_some hs1
        try refine sA ?_
        try refine andA ?_
        obtain ⟨y79, hl7, hs1⟩ := bind_ok hs1
        refine W_loopP (fun g76 : spec_l12Names_G2 => ⟨[(0, (.lf true (.sl (a0.map eS)))), (1, (.lf false (.sc (.bool a1)))), (5, (.lf false (.sc (.int .i64 g67.t11)))), (6, (.lf false (.sc (.string (nth a0 g67.t11.toNat))))), (9, (.lf true (.sl (a0.map eS)))), (10, (.lf false (.sc (.int .i64 ((a0.length : Nat) : Int))))), (11, (.lf false (.sc (.int .i64 g67.t11)))), (21, (.lf true (.sl ((a0.take g67.t11.toNat).map eS)))), (22, (.lf false (.sc (.int .i64 (((a0.take g67.t11.toNat).length : Nat) : Int))))), (23, (.lf false (.sc (.int .i64 g76.t23))))], [], 0, 50⟩) (spec_l12Names_L2 a0 g67 a1) _ _ hl7 (weakA []) ?_
        · intro n2 g76 z2 hs2 hk2
          unfold spec_l12Names_L2 at hs2
          try dsimp only at hs2
          refine sA ?_
          refine Bs_if hs2 (fun hs2 hc8 => ?_) (fun hs2 hc8 => ?_)
          · try refine sA ?_
            obtain ⟨hp9, hs2⟩ := guard_some hs2
            have hn9 : g76.t23.toNat < (a0.take g67.t11.toNat).length := by first | omega | (simp only [List.length_set, List.length_append, List.length_replicate, List.length_map]; omega)
            try refine sA ?_
            try refine andA ?_
            obtain ⟨p78, hq10, hs2⟩ := bind_ok hs2
            refine Sq_cut (fun s2 => s2 = ⟨[(0, (.lf true (.sl (a0.map eS)))), (1, (.lf false (.sc (.bool a1)))), (5, (.lf false (.sc (.int .i64 g67.t11)))), (6, (.lf false (.sc (.string (nth a0 g67.t11.toNat))))), (9, (.lf true (.sl (a0.map eS)))), (10, (.lf false (.sc (.int .i64 ((a0.length : Nat) : Int))))), (11, (.lf false (.sc (.int .i64 g67.t11)))), (21, (.lf true (.sl ((a0.take g67.t11.toNat).map eS)))), (22, (.lf false (.sc (.int .i64 (((a0.take g67.t11.toNat).length : Nat) : Int))))), (23, (.lf false (.sc (.int .i64 g76.t23)))), (44, (.lf false (.sc (.bool p78.t44))))], [], 0, 50⟩) ?_ ?_
            · try refine sA ?_
              refine Sp_if hq10 (fun hq10 hc11 => ?_) (fun hq10 hc11 => ?_)
              · try refine sA ?_
                cases hq10
                exact X_cut rfl (weakA [])
              · try refine sA ?_
                refine Sp_if hq10 (fun hq10 hc12 => ?_) (fun hq10 hc12 => ?_)
                · try refine sA ?_
                  refine Sp_if hq10 (fun hq10 hc13 => ?_) (fun hq10 hc13 => ?_)
                  · try refine sA ?_
                    cases hq10
                    exact X_cut rfl (weakA [])
                  · try refine sA ?_
                    cases hq10
                    exact X_cut rfl (weakA [])
                · try refine sA ?_
                  cases hq10
                  exact X_cut rfl (weakA [])
            · intro s2 hJ; subst hJ
              try dsimp only at hs2
              try refine sA ?_
              refine Bs_if hs2 (fun hs2 hc14 => ?_) (fun hs2 hc14 => ?_)
              · try refine sA ?_
                cases hs2
                cases hk2
                try dsimp only at hs1
                try refine sA ?_
                cases hs1
                cases hk1
                try dsimp only at h
                try refine sA ?_
                have he := Option.some.inj h
                subst he
                exact endsA ⟨[(4, (.lf false (.sc (.bool false))))], [], 0, 50⟩ []
              · try refine sA ?_
                cases hs2
                exact X_backP hk2 (weakA [])
          · try refine sA ?_
            cases hs2
            cases hk2
            try dsimp only at hs1
            try refine sA ?_
            cases hs1
            exact X_backP hk1 (weakA [])
    · try refine sA ?_
      cases hs1
      cases hk1
      try dsimp only at h
      try refine sA ?_
      have he := Option.some.inj h
      subst he
      exact endsA ⟨[(4, (.lf false (.sc (.bool (decide (((a0.length : Nat) : Int) ≤ 30))))))], [], 0, 50⟩ []
theorem w_spec_GoodState {a0 : StateT} {r : Bool} (h : spec_GoodState a0 = some r) : Fn Tryd.prog 51 [(.ag [(.lf false (.sc (.int .i64 a0.Status))), (.lf false (.sc (.int .i64 a0.Next))), (.lf false (.sc (.bool a0.Cancel))), (.lf false (.sc (.int .i64 a0.Done))), (.lf true (.sl (a0.Signals.map eS))), (.lf true (.sl (a0.Timers.map eS)))])] [] 0 (.lf false (.sc (.bool r))) [] 0 := by
  unfold spec_GoodState at h
  refine fn_code tab_ok mixed [(1000, [(1, 0)]), (1001, [(1, 0), (30, 0)]), (1002, [(2, 0)]), (1003, [(1, 0), (33, 0)]), (1004, [(2, 0)]), (1005, [(2, 0)]), (4001, [])] Tryd.func51 rfl rfl (by simp [Tryd.f51]) (by kernel_rfl) ?_
  simp only [Tryd.f51]
  refine sA ?_
  obtain ⟨p88, hq1, h⟩ := bind_ok h
  refine Sq_cut (fun s2 => s2 = ⟨[(1, (.pb 0 0)), (30, (.lf false (.sc (.bool p88.t30))))], [(0, some (true, .box [(.lf false (.sc (.int .i64 a0.Status))), (.lf false (.sc (.int .i64 a0.Next))), (.lf false (.sc (.bool a0.Cancel))), (.lf false (.sc (.int .i64 a0.Done))), (.lf true (.sl (a0.Signals.map eS))), (.lf true (.sl (a0.Timers.map eS)))]))], 1, 62⟩) ?_ ?_
  · try refine sA ?_
    obtain ⟨c65, hr2, hq1⟩ := bind_ok hq1
    refine Cl_sA (w_spec_l1In hr2) ?_
    try refine sA ?_
    refine Sp_if hq1 (fun hq1 hc3 => ?_) (fun hq1 hc3 => ?_)
    · try refine sA ?_
      cases hq1
      exact X_cut rfl (weakA [some 0])
    · try refine sA ?_
      obtain ⟨c66, hr4, hq1⟩ := bind_ok hq1
      refine Cl_sA (w_spec_l1In hr4) ?_
      try refine sA ?_
      refine Sp_if hq1 (fun hq1 hc5 => ?_) (fun hq1 hc5 => ?_)
      · try refine sA ?_
        cases hq1
        exact X_cut rfl (weakA [some 0])
      · try refine sA ?_
        obtain ⟨c85, hr6, hq1⟩ := bind_ok hq1
        refine Cl_sA (w_spec_l12Names hr6) ?_
        try refine sA ?_
        refine Sp_if hq1 (fun hq1 hc7 => ?_) (fun hq1 hc7 => ?_)
        · try refine sA ?_
          cases hq1
          exact X_cut rfl (weakA [some 0])
        · try refine sA ?_
          obtain ⟨c86, hr8, hq1⟩ := bind_ok hq1
          refine Cl_sA (w_spec_l12Names hr8) ?_
          try refine sA ?_
          refine Sp_if hq1 (fun hq1 hc9 => ?_) (fun hq1 hc9 => ?_)
          · try refine sA ?_
            cases hq1
            exact X_cut rfl (weakA [some 0])
          · try refine sA ?_
            obtain ⟨c87, hr10, hq1⟩ := bind_ok hq1
            refine Cl_sA (w_spec_l1In hr10) ?_
            try refine sA ?_
            cases hq1
            exact X_cut rfl (weakA [some 0])
  · intro s2 hJ; subst hJ
    try dsimp only at h
    try refine sA ?_
    refine Bs_if h (fun h hc11 => ?_) (fun h hc11 => ?_)
    · try refine sA ?_
      have he := Option.some.inj h
      subst he
      exact endsA ⟨[(2, (.lf false (.sc (.bool false))))], [], 0, 62⟩ []
    · try refine sA ?_
      refine Bs_if h (fun h hc12 => ?_) (fun h hc12 => ?_)
      · try refine sA ?_
        refine Sp_if h (fun h hc13 => ?_) (fun h hc13 => ?_)
        · try refine sA ?_
          refine Sp_if h (fun h hc14 => ?_) (fun h hc14 => ?_)
          · try refine sA ?_
            refine Sp_if h (fun h hc15 => ?_) (fun h hc15 => ?_)
            · try refine sA ?_
              refine Sp_if h (fun h hc16 => ?_) (fun h hc16 => ?_)
              · try refine sA ?_
                have he := Option.some.inj h
                subst he
                exact endsA ⟨[(2, (.lf false (.sc (.bool (((a0.Timers.length : Nat) : Int) == 0)))))], [], 0, 62⟩ []
              · try refine sA ?_
                have he := Option.some.inj h
                subst he
                exact endsA ⟨[(2, (.lf false (.sc (.bool false))))], [], 0, 62⟩ []
            · try refine sA ?_
              have he := Option.some.inj h
              subst he
              exact endsA ⟨[(2, (.lf false (.sc (.bool false))))], [], 0, 62⟩ []
          · try refine sA ?_
            have he := Option.some.inj h
            subst he
            exact endsA ⟨[(2, (.lf false (.sc (.bool false))))], [], 0, 62⟩ []
        · try refine sA ?_
          have he := Option.some.inj h
          subst he
          exact endsA ⟨[(2, (.lf false (.sc (.bool false))))], [], 0, 62⟩ []
      · try refine sA ?_
        have he := Option.some.inj h
        subst he
        exact endsA ⟨[(2, (.lf false (.sc (.bool (decide (a0.Next > 1))))))], [], 0, 62⟩ []
theorem w_spec_l12Apply {a0 : StateT} {a1 : EventT} {r : (StateT × Bool)} (h : spec_l12Apply a0 a1 = some r) : Fn Tryd.prog 42 [(.ag [(.lf false (.sc (.int .i64 a0.Status))), (.lf false (.sc (.int .i64 a0.Next))), (.lf false (.sc (.bool a0.Cancel))), (.lf false (.sc (.int .i64 a0.Done))), (.lf true (.sl (a0.Signals.map eS))), (.lf true (.sl (a0.Timers.map eS)))]), (.ag [(.lf false (.sc (.int .i64 a1.Id))), (.lf false (.sc (.int .i64 a1.Version))), (.lf false (.sc (.int .i64 a1.Kind))), (.lf false (.sc (.string a1.Name)))])] [] 0 (.tu [(.ag [(.lf false (.sc (.int .i64 r.1.Status))), (.lf false (.sc (.int .i64 r.1.Next))), (.lf false (.sc (.bool r.1.Cancel))), (.lf false (.sc (.int .i64 r.1.Done))), (.lf true (.sl (r.1.Signals.map eS))), (.lf true (.sl (r.1.Timers.map eS)))]), (.lf false (.sc (.bool r.2)))]) [] 1 := by
  unfold spec_l12Apply at h
  refine fn_code tab_ok mixed [(22, [(0, 2)]), (1000, [(2, 0), (3, 0), (4, 0)]), (1001, [(2, 0), (3, 0), (4, 0), (29, 0)]), (1002, [(4, 0), (5, 0)]), (1003, [(2, 0), (3, 0), (4, 0)]), (1004, [(2, 0), (3, 0), (4, 0), (34, 0)]), (1005, [(2, 0), (4, 0)]), (1006, [(2, 0), (4, 0)]), (1007, [(2, 0), (3, 0), (4, 0), (34, 0), (37, 0)]), (1008, [(2, 0), (4, 0)]), (1009, [(2, 0), (3, 0), (4, 0), (34, 0), (40, 0)]), (1010, [(2, 0), (3, 0), (4, 0), (53, 0)]), (1011, [(4, 0), (5, 0)]), (1012, [(2, 0), (4, 0)]), (1013, [(2, 0), (3, 0), (4, 0), (34, 0), (62, 0)]), (1014, [(2, 0), (4, 0)]), (1015, [(2, 0), (3, 0), (4, 0), (34, 0), (68, 0)]), (1016, [(2, 0), (4, 0)]), (1017, [(2, 0), (4, 0), (76, 0)]), (1018, [(2, 0), (4, 0), (79, 0)]), (1019, [(4, 0), (5, 0)]), (1020, [(2, 0), (4, 0)]), (1021, [(2, 0), (4, 0)]), (1022, [(4, 0), (5, 0)]), (3000, []), (4001, []), (4010, [])] Tryd.func42 rfl rfl (by simp [Tryd.f42]) (by kernel_rfl) ?_
  simp only [Tryd.f42]
  refine sA ?_
  obtain ⟨p50, hq1, h⟩ := bind_ok h
  refine Sq_cut (fun s2 => s2 = ⟨[(2, (.pb 0 0)), (3, (.pb 1 0)), (4, (.pb 2 0)), (29, (.lf false (.sc (.bool p50.t29))))], [(0, some (true, .box [(.lf false (.sc (.int .i64 a0.Status))), (.lf false (.sc (.int .i64 a0.Next))), (.lf false (.sc (.bool a0.Cancel))), (.lf false (.sc (.int .i64 a0.Done))), (.lf true (.sl (a0.Signals.map eS))), (.lf true (.sl (a0.Timers.map eS)))])), (1, some (true, .box [(.lf false (.sc (.int .i64 a1.Id))), (.lf false (.sc (.int .i64 a1.Version))), (.lf false (.sc (.int .i64 a1.Kind))), (.lf false (.sc (.string a1.Name)))])), (2, some (true, .box [(.lf false (.sc (.int .i64 0))), (.lf false (.sc (.int .i64 0))), (.lf false (.sc (.bool false))), (.lf false (.sc (.int .i64 0))), .nl, .nl]))], 3, 89⟩) ?_ ?_
  · try refine sA ?_
    obtain ⟨c49, hr2, hq1⟩ := bind_ok hq1
    refine Cl_sA (w_spec_GoodEvent hr2) ?_
    try refine sA ?_
    refine Sp_if hq1 (fun hq1 hc3 => ?_) (fun hq1 hc3 => ?_)
    · try refine sA ?_
      cases hq1
      exact X_cut rfl (weakA [some 0, some 1, some 2])
    · try refine sA ?_
      refine Sp_if hq1 (fun hq1 hc4 => ?_) (fun hq1 hc4 => ?_)
      · try refine sA ?_
        cases hq1
        exact X_cut rfl (weakA [some 0, some 1, some 2])
      · try refine sA ?_
        refine Sp_if hq1 (fun hq1 hc5 => ?_) (fun hq1 hc5 => ?_)
        · try refine sA ?_
          cases hq1
          exact X_cut rfl (weakA [some 0, some 1, some 2])
        · try refine sA ?_
          cases hq1
          exact X_cut rfl (weakA [some 0, some 1, some 2])
  · intro s2 hJ; subst hJ
    try dsimp only at h
    try refine sA ?_
    refine Bs_if h (fun h hc6 => ?_) (fun h hc6 => ?_)
    · try refine sA ?_
      have he := Option.some.inj h
      subst he
      exact endsA ⟨[(4, (.pb 0 0)), (5, (.lf false (.sc (.bool false))))], [(0, some (true, .box [(.lf false (.sc (.int .i64 a0.Status))), (.lf false (.sc (.int .i64 a0.Next))), (.lf false (.sc (.bool a0.Cancel))), (.lf false (.sc (.int .i64 a0.Done))), (.lf true (.sl (a0.Signals.map eS))), (.lf true (.sl (a0.Timers.map eS)))]))], 1, 89⟩ [some 2]
    · try refine sA ?_
      obtain ⟨c51, hr7, h⟩ := bind_ok h
      refine Cl_sA (w_spec_l12Own hr7) ?_
      try refine sA ?_
      obtain ⟨q8, hq8, h⟩ := bind_ok h
      refine Sq_cut (fun s2 => ∃ p64 : spec_l12Apply_J3000, q8 = .inl p64 ∧ s2 = ⟨[(2, (.pb 0 0)), (4, (.pb 1 0))], [(0, some (true, .box [(.lf false (.sc (.int .i64 p64.b0_0))), (.lf false (.sc (.int .i64 c51.Next))), (.lf false (.sc (.bool p64.b0_2))), (.lf false (.sc (.int .i64 p64.b0_3))), (.os 2 1 0 p64.c2.length p64.c2.length false), (.os 3 1 0 p64.c3.length p64.c3.length false)])), (1, some (true, .box [(.lf false (.sc (.int .i64 0))), (.lf false (.sc (.int .i64 0))), (.lf false (.sc (.bool false))), (.lf false (.sc (.int .i64 0))), .nl, .nl])), (2, some (true, .arr false 1 (p64.c2.map eS))), (3, some (true, .arr false 1 (p64.c3.map eS)))], 4, 89⟩) ?_ ?_
      · try refine sA ?_
        refine Bs_if hq8 (fun hq8 hc9 => ?_) (fun hq8 hc9 => ?_)
        · try refine sA ?_
          cases hq8
          exact X_cut ⟨_, rfl, rfl⟩ (weakA [some 0, some 2, some 3, some 4])
        · try refine sA ?_
          refine Bs_if hq8 (fun hq8 hc10 => ?_) (fun hq8 hc10 => ?_)
          · try refine sA ?_
            obtain ⟨p57, hq11, hq8⟩ := bind_ok hq8
            refine Sq_cut (fun s2 => s2 = ⟨[(2, (.pb 0 0)), (3, (.pb 1 0)), (4, (.pb 2 0)), (53, (.lf false (.sc (.bool p57.t53))))], [(0, some (true, .box [(.lf false (.sc (.int .i64 c51.Status))), (.lf false (.sc (.int .i64 c51.Next))), (.lf false (.sc (.bool c51.Cancel))), (.lf false (.sc (.int .i64 c51.Done))), (.os 3 1 0 c51.Signals.length c51.Signals.length false), (.os 4 1 0 c51.Timers.length c51.Timers.length false)])), (1, some (true, .box [(.lf false (.sc (.int .i64 a1.Id))), (.lf false (.sc (.int .i64 a1.Version))), (.lf false (.sc (.int .i64 a1.Kind))), (.lf false (.sc (.string a1.Name)))])), (2, some (true, .box [(.lf false (.sc (.int .i64 0))), (.lf false (.sc (.int .i64 0))), (.lf false (.sc (.bool false))), (.lf false (.sc (.int .i64 0))), .nl, .nl])), (3, some (true, .arr false 1 (c51.Signals.map eS))), (4, some (true, .arr false 1 (c51.Timers.map eS)))], 5, 89⟩) ?_ ?_
            · try refine sA ?_
              obtain ⟨c56, hr12, hq11⟩ := bind_ok hq11
              refine Cl_sA (w_spec_l12At hr12) ?_
              try refine sA ?_
              refine Sp_if hq11 (fun hq11 hc13 => ?_) (fun hq11 hc13 => ?_)
              · try refine sA ?_
                cases hq11
                exact X_cut rfl (weakA [some 0, some 1, some 2, some 3, some 4])
              · try refine sA ?_
                cases hq11
                exact X_cut rfl (weakA [some 0, some 1, some 2, some 3, some 4])
            · intro s2 hJ; subst hJ
              try dsimp only at hq8
              try refine sA ?_
              refine Bs_if hq8 (fun hq8 hc14 => ?_) (fun hq8 hc14 => ?_)
              · try refine sA ?_
                cases hq8
                try dsimp only at h
                have he := Option.some.inj h
                subst he
                refine ends_frz 3 ?_
                refine ends_frz 4 ?_
                try refine sA ?_
                exact endsA ⟨[(4, (.pb 0 0)), (5, (.lf false (.sc (.bool false))))], [(0, some (true, .box [(.lf false (.sc (.int .i64 c51.Status))), (.lf false (.sc (.int .i64 c51.Next))), (.lf false (.sc (.bool c51.Cancel))), (.lf false (.sc (.int .i64 c51.Done))), (.lf true (.sl (c51.Signals.map eS))), (.lf true (.sl (c51.Timers.map eS)))]))], 1, 89⟩ [some 2]
              · try refine sA ?_
                obtain ⟨hp15, hq8⟩ := guard_some hq8
                try refine sA ?_
                try refine andA ?_
                cases hq8
                exact X_cut ⟨_, rfl, rfl⟩ (weakA [some 0, some 2, some 6, some 4])
          · try refine sA ?_
            refine Bs_if hq8 (fun hq8 hc16 => ?_) (fun hq8 hc16 => ?_)
            · try refine sA ?_
              cases hq8
              exact X_cut ⟨_, rfl, rfl⟩ (weakA [some 0, some 2, some 3, some 4])
            · try refine sA ?_
              refine Bs_if hq8 (fun hq8 hc17 => ?_) (fun hq8 hc17 => ?_)
              · try refine sA ?_
                obtain ⟨c63, hr18, hq8⟩ := bind_ok hq8
                refine Cl_sA (w_spec_l12Timer hr18) ?_
                try refine sA ?_
                cases hq8
                exact X_cut ⟨_, rfl, rfl⟩ (weakA [some 0, some 2, some 3, some 6])
              · try refine sA ?_
                refine Bs_if hq8 (fun hq8 hc19 => ?_) (fun hq8 hc19 => ?_)
                · try refine sA ?_
                  refine Bs_if hq8 (fun hq8 hc20 => ?_) (fun hq8 hc20 => ?_)
                  · try refine sA ?_
                    cases hq8
                    try dsimp only at h
                    have he := Option.some.inj h
                    subst he
                    refine ends_frz 3 ?_
                    refine ends_frz 4 ?_
                    try refine sA ?_
                    exact endsA ⟨[(4, (.pb 0 0)), (5, (.lf false (.sc (.bool false))))], [(0, some (true, .box [(.lf false (.sc (.int .i64 c51.Status))), (.lf false (.sc (.int .i64 c51.Next))), (.lf false (.sc (.bool c51.Cancel))), (.lf false (.sc (.int .i64 c51.Done))), (.lf true (.sl (c51.Signals.map eS))), (.lf true (.sl (c51.Timers.map eS)))]))], 1, 89⟩ [some 2]
                  · try refine sA ?_
                    cases hq8
                    exact X_cut ⟨_, rfl, rfl⟩ (weakA [some 0, some 2, some 3, some 4])
                · try refine sA ?_
                  cases hq8
                  exact X_cut ⟨_, rfl, rfl⟩ (weakA [some 0, some 2, some 3, none])
      · intro s2 hJ; obtain ⟨p64, e, rfl⟩ := hJ; subst e
        try dsimp only at h
        try refine sA ?_
        obtain ⟨c89, hr21, h⟩ := bind_ok h
        refine Cl_sA (w_spec_GoodState hr21) ?_
        try refine sA ?_
        have he := Option.some.inj h
        subst he
        refine ends_frz 2 ?_
        refine ends_frz 3 ?_
        try refine sA ?_
        exact endsA ⟨[(4, (.pb 0 0)), (5, (.lf false (.sc (.bool c89))))], [(0, some (true, .box [(.lf false (.sc (.int .i64 p64.b0_0))), (.lf false (.sc (.int .i64 (wI (c51.Next + 1))))), (.lf false (.sc (.bool p64.b0_2))), (.lf false (.sc (.int .i64 p64.b0_3))), (.lf true (.sl (p64.c2.map eS))), (.lf true (.sl (p64.c3.map eS)))]))], 1, 89⟩ [some 1]
theorem w_spec_l12Fold {a0 : (List EventT)} {r : (StateT × Int)} (h : spec_l12Fold a0 = some r) : Fn Tryd.prog 34 [(.lf true (.sl (a0.map eEvent)))] [] 0 (.tu [(.ag [(.lf false (.sc (.int .i64 r.1.Status))), (.lf false (.sc (.int .i64 r.1.Next))), (.lf false (.sc (.bool r.1.Cancel))), (.lf false (.sc (.int .i64 r.1.Done))), (.lf true (.sl (r.1.Signals.map eS))), (.lf true (.sl (r.1.Timers.map eS)))]), (.lf false (.sc (.int .i64 r.2)))]) [] 1 := by
  unfold spec_l12Fold at h
  refine fn_code tab_ok mixed [(1000, [(0, 0), (2, 0)]), (1001, [(0, 0), (2, 0), (4, 0)]), (1002, [(0, 0), (2, 0), (4, 0), (10, 0), (11, 0), (12, 0)]), (1003, [(0, 0), (2, 0), (4, 0), (10, 0), (11, 0), (12, 0), (13, 0)]), (1004, [(0, 0), (2, 0), (4, 0), (5, 0), (6, 0), (10, 0), (11, 0), (12, 0)]), (1005, [(0, 0), (2, 0), (4, 0), (5, 0), (7, 0), (8, 0), (10, 0), (11, 0), (12, 0)]), (1006, [(0, 0), (2, 0), (4, 0), (5, 0), (7, 0), (10, 0), (11, 0), (12, 0), (24, 0)]), (1007, [(2, 0), (3, 0)]), (1008, [(0, 0), (2, 0), (4, 0), (10, 0), (11, 0), (12, 0)]), (1009, [(0, 0), (2, 0), (4, 0), (10, 0), (11, 0), (12, 0)]), (1010, [(2, 0), (3, 0)])] Tryd.func34 rfl rfl (by simp [Tryd.f34]) (by kernel_rfl) ?_
  simp only [Tryd.f34]
  refine sA ?_
  obtain ⟨c37, hr1, h⟩ := bind_ok h
  refine Cl_sA (w_spec_NewState hr1) ?_
  try refine sA ?_
  obtain ⟨y92, hl2, h⟩ := bind_ok h
  refine W_loopP (fun g38 : spec_l12Fold_G1 => ⟨[(0, (.lf true (.sl (a0.map eEvent)))), (2, (.pb 0 0)), (4, (.pb 1 0)), (10, (.lf true (.sl (a0.map eEvent)))), (11, (.lf false (.sc (.int .i64 ((a0.length : Nat) : Int))))), (12, (.lf false (.sc (.int .i64 g38.t12))))], [(0, some (true, .box [(.lf false (.sc (.int .i64 0))), (.lf false (.sc (.int .i64 0))), (.lf false (.sc (.bool false))), (.lf false (.sc (.int .i64 0))), .nl, .nl])), (1, some (true, .box [(.lf false (.sc (.int .i64 g38.b1_0))), (.lf false (.sc (.int .i64 g38.b1_1))), (.lf false (.sc (.bool g38.b1_2))), (.lf false (.sc (.int .i64 g38.b1_3))), (.lf true (.sl (g38.b1_4.map eS))), (.lf true (.sl (g38.b1_5.map eS)))]))], 2, 32⟩) (spec_l12Fold_L1 a0) _ _ hl2 (weakA [some 0, some 2]) ?_
  · intro n1 g38 z1 hs1 hk1
    unfold spec_l12Fold_L1 at hs1
    try dsimp only at hs1
    refine sA ?_
    refine Bs_if hs1 (fun hs1 hc3 => ?_) (fun hs1 hc3 => ?_)
    · try refine sA ?_
      obtain ⟨hp4, hs1⟩ := guard_some hs1
      have hn4 : g38.t12.toNat < a0.length := by first | omega | (simp only [List.length_set, List.length_append, List.length_replicate, List.length_map]; omega)
      try refine sA ?_
      try refine andA ?_
      obtain ⟨c91, hr5, hs1⟩ := bind_ok hs1
      refine Cl_sA (w_spec_l12Apply hr5) ?_
      try refine sA ?_
      refine Bs_if hs1 (fun hs1 hc6 => ?_) (fun hs1 hc6 => ?_)
      · try refine sA ?_
        cases hs1
        cases hk1
        try dsimp only at h
        try refine sA ?_
        have he := Option.some.inj h
        subst he
        exact endsA ⟨[(2, (.pb 0 0)), (3, (.lf false (.sc (.int .i64 g38.t12))))], [(0, some (true, .box [(.lf false (.sc (.int .i64 g38.b1_0))), (.lf false (.sc (.int .i64 g38.b1_1))), (.lf false (.sc (.bool g38.b1_2))), (.lf false (.sc (.int .i64 g38.b1_3))), (.lf true (.sl (g38.b1_4.map eS))), (.lf true (.sl (g38.b1_5.map eS)))]))], 1, 32⟩ [some 0]
      · try refine sA ?_
        cases hs1
        exact X_backP hk1 (weakA [some 0, some 1])
    · try refine sA ?_
      cases hs1
      cases hk1
      try dsimp only at h
      try refine sA ?_
      have he := Option.some.inj h
      subst he
      exact endsA ⟨[(2, (.pb 0 0)), (3, (.lf false (.sc (.int .i64 ((a0.length : Nat) : Int)))))], [(0, some (true, .box [(.lf false (.sc (.int .i64 g38.b1_0))), (.lf false (.sc (.int .i64 g38.b1_1))), (.lf false (.sc (.bool g38.b1_2))), (.lf false (.sc (.int .i64 g38.b1_3))), (.lf true (.sl (g38.b1_4.map eS))), (.lf true (.sl (g38.b1_5.map eS)))]))], 1, 32⟩ [some 0]
theorem w_spec_IsHistory {a0 : (List EventT)} {r : Bool} (h : spec_IsHistory a0 = some r) : Fn Tryd.prog 26 [(.lf true (.sl (a0.map eEvent)))] [] 0 (.lf false (.sc (.bool r))) [] 0 := by
  unfold spec_IsHistory at h
  refine fn_code tab_ok mixed [(1000, [(0, 0)]), (1001, [(0, 0), (7, 0), (8, 0)]), (1002, [(0, 0), (7, 0), (8, 0), (9, 0)]), (1003, [(0, 0), (3, 0), (7, 0), (8, 0)]), (1004, [(0, 0), (7, 0), (8, 0), (26, 0)]), (1005, [(2, 0)]), (1006, [(0, 0), (7, 0), (8, 0)]), (1007, [(0, 0), (5, 0)]), (1008, [(2, 0)]), (4004, [])] Tryd.func26 rfl rfl (by simp [Tryd.f26]) (by kernel_rfl) ?_
  simp only [Tryd.f26]
  refine sA ?_
  obtain ⟨y34, hl1, h⟩ := bind_ok h
  refine W_loopP (fun g31 : spec_IsHistory_G1 => ⟨[(0, (.lf true (.sl (a0.map eEvent)))), (7, (.lf false (.sc (.int .i64 ((a0.length : Nat) : Int))))), (8, (.lf false (.sc (.int .i64 g31.t8))))], [], 0, 42⟩) (spec_IsHistory_L1 a0) _ _ hl1 (weakA []) ?_
  · intro n1 g31 z1 hs1 hk1
    unfold spec_IsHistory_L1 at hs1
    try dsimp only at hs1
    refine sA ?_
    refine Bs_if hs1 (fun hs1 hc2 => ?_) (fun hs1 hc2 => ?_)
    · try refine sA ?_
      obtain ⟨p33, hq3, hs1⟩ := bind_ok hs1
      refine Sq_cut (fun s2 => s2 = ⟨[(0, (.lf true (.sl (a0.map eEvent)))), (7, (.lf false (.sc (.int .i64 ((a0.length : Nat) : Int))))), (8, (.lf false (.sc (.int .i64 g31.t8)))), (26, (.lf false (.sc (.bool p33.t26))))], [], 0, 42⟩) ?_ ?_
      · try refine sA ?_
        refine Sp_if hq3 (fun hq3 hc4 => ?_) (fun hq3 hc4 => ?_)
        · try refine sA ?_
          obtain ⟨hp5, hq3⟩ := guard_some hq3
          have hn5 : (wI (g31.t8 - 1)).toNat < a0.length := by first | omega | (simp only [List.length_set, List.length_append, List.length_replicate, List.length_map]; omega)
          try refine sA ?_
          try refine andA ?_
          obtain ⟨hp6, hq3⟩ := guard_some hq3
          have hn6 : g31.t8.toNat < a0.length := by first | omega | (simp only [List.length_set, List.length_append, List.length_replicate, List.length_map]; omega)
          try refine sA ?_
          try refine andA ?_
          cases hq3
          exact X_cut rfl (weakA [])
        · try refine sA ?_
          cases hq3
          exact X_cut rfl (weakA [])
      · intro s2 hJ; subst hJ
        try dsimp only at hs1
        try refine sA ?_
        refine Bs_if hs1 (fun hs1 hc7 => ?_) (fun hs1 hc7 => ?_)
        · try refine sA ?_
          cases hs1
          cases hk1
          try dsimp only at h
          try refine sA ?_
          have he := Option.some.inj h
          subst he
          exact endsA ⟨[(2, (.lf false (.sc (.bool false))))], [], 0, 42⟩ []
        · try refine sA ?_
          cases hs1
          exact X_backP hk1 (weakA [])
    · try refine sA ?_
      cases hs1
      cases hk1
      try dsimp only at h
      try refine sA ?_
      obtain ⟨c96, hr8, h⟩ := bind_ok h
      refine Cl_sA (w_spec_l12Fold hr8) ?_
      try refine sA ?_
      refine Sp_if h (fun h hc9 => ?_) (fun h hc9 => ?_)
      · try refine sA ?_
        have he := Option.some.inj h
        subst he
        exact endsA ⟨[(2, (.lf false (.sc (.bool (decide (((a0.length : Nat) : Int) ≤ 60))))))], [], 0, 42⟩ []
      · try refine sA ?_
        have he := Option.some.inj h
        subst he
        exact endsA ⟨[(2, (.lf false (.sc (.bool false))))], [], 0, 42⟩ []
theorem w_spec_l15History {a0 : (List EventT)} {r : Bool} (h : spec_l15History a0 = some r) : Fn Tryd.prog 17 [(.lf true (.sl (a0.map eEvent)))] [] 0 (.lf false (.sc (.bool r))) [] 0 := by
  unfold spec_l15History at h
  refine fn_code tab_ok mixed [] Tryd.func17 rfl rfl (by simp [Tryd.f17]) (by kernel_rfl) ?_
  simp only [Tryd.f17]
  refine sA ?_
  refine Sp_if h (fun h hc1 => ?_) (fun h hc1 => ?_)
  · try refine sA ?_
    obtain ⟨c97, hr2, h⟩ := bind_ok h
    refine Cl_sA (w_spec_IsHistory hr2) ?_
    try refine sA ?_
    have he := Option.some.inj h
    subst he
    exact endsA ⟨[(2, (.lf false (.sc (.bool c97))))], [], 0, 10⟩ []
  · try refine sA ?_
    have he := Option.some.inj h
    subst he
    exact endsA ⟨[(2, (.lf false (.sc (.bool false))))], [], 0, 10⟩ []
theorem w_spec_l15Event {a0 : EventT} {a1 : EventT} {r : Int} (h : spec_l15Event a0 a1 = some r) : Fn Tryd.prog 19 [(.ag [(.lf false (.sc (.int .i64 a0.Id))), (.lf false (.sc (.int .i64 a0.Version))), (.lf false (.sc (.int .i64 a0.Kind))), (.lf false (.sc (.string a0.Name)))]), (.ag [(.lf false (.sc (.int .i64 a1.Id))), (.lf false (.sc (.int .i64 a1.Version))), (.lf false (.sc (.int .i64 a1.Kind))), (.lf false (.sc (.string a1.Name)))])] [] 0 (.lf false (.sc (.int .i64 r))) [] 0 := by
  unfold spec_l15Event at h
  refine fn_code tab_ok mixed [(1000, [(2, 0), (3, 0)]), (1001, [(2, 0), (3, 0), (5, 0)]), (1002, [(15, 0)]), (1003, [(4, 0)]), (1004, [(4, 0)]), (1005, [(2, 0), (3, 0), (16, 0)]), (1006, [(26, 0)]), (1007, [(4, 0)]), (1008, [(4, 0)]), (1009, [(2, 0), (3, 0), (27, 0)]), (1010, [(4, 0)]), (1011, [(33, 0)]), (1012, [(4, 0)]), (1013, [(4, 0)])] Tryd.func19 rfl rfl (by simp [Tryd.f19]) (by kernel_rfl) ?_
  simp only [Tryd.f19]
  refine sA ?_
  refine Bs_if h (fun h hc1 => ?_) (fun h hc1 => ?_)
  · try refine sA ?_
    refine Bs_if h (fun h hc2 => ?_) (fun h hc2 => ?_)
    · try refine sA ?_
      have he := Option.some.inj h
      subst he
      exact endsA ⟨[(4, (.lf false (.sc (.int .i64 (-1)))))], [], 0, 39⟩ []
    · try refine sA ?_
      have he := Option.some.inj h
      subst he
      exact endsA ⟨[(4, (.lf false (.sc (.int .i64 1))))], [], 0, 39⟩ []
  · try refine sA ?_
    refine Bs_if h (fun h hc3 => ?_) (fun h hc3 => ?_)
    · try refine sA ?_
      refine Bs_if h (fun h hc4 => ?_) (fun h hc4 => ?_)
      · try refine sA ?_
        have he := Option.some.inj h
        subst he
        exact endsA ⟨[(4, (.lf false (.sc (.int .i64 (-1)))))], [], 0, 39⟩ []
      · try refine sA ?_
        have he := Option.some.inj h
        subst he
        exact endsA ⟨[(4, (.lf false (.sc (.int .i64 1))))], [], 0, 39⟩ []
    · try refine sA ?_
      refine Bs_if h (fun h hc5 => ?_) (fun h hc5 => ?_)
      · try refine sA ?_
        have he := Option.some.inj h
        subst he
        exact endsA ⟨[(4, (.lf false (.sc (.int .i64 (-1)))))], [], 0, 39⟩ []
      · try refine sA ?_
        refine Bs_if h (fun h hc6 => ?_) (fun h hc6 => ?_)
        · try refine sA ?_
          have he := Option.some.inj h
          subst he
          exact endsA ⟨[(4, (.lf false (.sc (.int .i64 1))))], [], 0, 39⟩ []
        · try refine sA ?_
          have he := Option.some.inj h
          subst he
          exact endsA ⟨[(4, (.lf false (.sc (.int .i64 0))))], [], 0, 39⟩ []
theorem w_spec_l15Compare {a0 : (List EventT)} {a1 : (List EventT)} {r : (Int × Int)} (h : spec_l15Compare a0 a1 = some r) : Fn Tryd.prog 11 [(.lf true (.sl (a0.map eEvent))), (.lf true (.sl (a1.map eEvent)))] [] 0 (.tu [(.lf false (.sc (.int .i64 r.1))), (.lf false (.sc (.int .i64 r.2)))]) [] 0 := by
  unfold spec_l15Compare at h
  refine fn_code tab_ok mixed [(1000, [(0, 0), (1, 0)]), (1001, [(0, 0), (1, 0), (6, 0)]), (1002, [(0, 0), (1, 0), (6, 0), (17, 0)]), (1003, [(0, 0), (1, 0), (6, 0)]), (1004, [(0, 0), (1, 0), (6, 0), (7, 0)]), (1005, [(0, 0), (1, 0), (6, 0), (7, 0), (30, 0)]), (1006, [(4, 0), (5, 0)]), (1007, [(0, 0), (1, 0), (33, 0)]), (1008, [(4, 0), (5, 0)]), (1009, [(0, 0), (1, 0), (41, 0)]), (1010, [(4, 0), (5, 0)]), (1011, [(4, 0), (5, 0)])] Tryd.func11 rfl rfl (by simp [Tryd.f11]) (by kernel_rfl) ?_
  simp only [Tryd.f11]
  refine sA ?_
  obtain ⟨y103, hl1, h⟩ := bind_ok h
  refine W_loopP (fun g100 : spec_l15Compare_G1 => ⟨[(0, (.lf true (.sl (a0.map eEvent)))), (1, (.lf true (.sl (a1.map eEvent)))), (6, (.lf false (.sc (.int .i64 g100.t6))))], [], 0, 51⟩) (spec_l15Compare_L1 a0 a1) _ _ hl1 (weakA []) ?_
  · intro n1 g100 z1 hs1 hk1
    unfold spec_l15Compare_L1 at hs1
    try dsimp only at hs1
    refine sA ?_
    refine Sp_if hs1 (fun hs1 hc2 => ?_) (fun hs1 hc2 => ?_)
    · try refine sA ?_
      refine Bs_if hs1 (fun hs1 hc3 => ?_) (fun hs1 hc3 => ?_)
      · try refine sA ?_
        obtain ⟨hp4, hs1⟩ := guard_some hs1
        have hn4 : g100.t6.toNat < a0.length := by first | omega | (simp only [List.length_set, List.length_append, List.length_replicate, List.length_map]; omega)
        try refine sA ?_
        try refine andA ?_
        obtain ⟨hp5, hs1⟩ := guard_some hs1
        have hn5 : g100.t6.toNat < a1.length := by first | omega | (simp only [List.length_set, List.length_append, List.length_replicate, List.length_map]; omega)
        try refine sA ?_
        try refine andA ?_
        obtain ⟨c102, hr6, hs1⟩ := bind_ok hs1
        refine Cl_sA (w_spec_l15Event hr6) ?_
        try refine sA ?_
        refine Bs_if hs1 (fun hs1 hc7 => ?_) (fun hs1 hc7 => ?_)
        · try refine sA ?_
          cases hs1
          cases hk1
          try dsimp only at h
          try refine sA ?_
          have he := Option.some.inj h
          subst he
          exact endsA ⟨[(4, (.lf false (.sc (.int .i64 c102)))), (5, (.lf false (.sc (.int .i64 g100.t6))))], [], 0, 51⟩ []
        · try refine sA ?_
          cases hs1
          exact X_backP hk1 (weakA [])
      · try refine sA ?_
        cases hs1
        cases hk1
        try dsimp only at h
        try refine sA ?_
        refine Bs_if h (fun h hc8 => ?_) (fun h hc8 => ?_)
        · try refine sA ?_
          have he := Option.some.inj h
          subst he
          exact endsA ⟨[(4, (.lf false (.sc (.int .i64 (-1))))), (5, (.lf false (.sc (.int .i64 ((a0.length : Nat) : Int)))))], [], 0, 51⟩ []
        · try refine sA ?_
          refine Bs_if h (fun h hc9 => ?_) (fun h hc9 => ?_)
          · try refine sA ?_
            have he := Option.some.inj h
            subst he
            exact endsA ⟨[(4, (.lf false (.sc (.int .i64 1)))), (5, (.lf false (.sc (.int .i64 ((a1.length : Nat) : Int)))))], [], 0, 51⟩ []
          · try refine sA ?_
            have he := Option.some.inj h
            subst he
            exact endsA ⟨[(4, (.lf false (.sc (.int .i64 0)))), (5, (.lf false (.sc (.int .i64 ((a0.length : Nat) : Int)))))], [], 0, 51⟩ []
    · try refine sA ?_
      cases hs1
      cases hk1
      try dsimp only at h
      try refine sA ?_
      refine Bs_if h (fun h hc10 => ?_) (fun h hc10 => ?_)
      · try refine sA ?_
        have he := Option.some.inj h
        subst he
        exact endsA ⟨[(4, (.lf false (.sc (.int .i64 (-1))))), (5, (.lf false (.sc (.int .i64 ((a0.length : Nat) : Int)))))], [], 0, 51⟩ []
      · try refine sA ?_
        refine Bs_if h (fun h hc11 => ?_) (fun h hc11 => ?_)
        · try refine sA ?_
          have he := Option.some.inj h
          subst he
          exact endsA ⟨[(4, (.lf false (.sc (.int .i64 1)))), (5, (.lf false (.sc (.int .i64 ((a1.length : Nat) : Int)))))], [], 0, 51⟩ []
        · try refine sA ?_
          have he := Option.some.inj h
          subst he
          exact endsA ⟨[(4, (.lf false (.sc (.int .i64 0)))), (5, (.lf false (.sc (.int .i64 ((a0.length : Nat) : Int)))))], [], 0, 51⟩ []
theorem w_spec_l15Begins {a0 : (List EventT)} {a1 : (List EventT)} {r : Bool} (h : spec_l15Begins a0 a1 = some r) : Fn Tryd.prog 18 [(.lf true (.sl (a0.map eEvent))), (.lf true (.sl (a1.map eEvent)))] [] 0 (.lf false (.sc (.bool r))) [] 0 := by
  unfold spec_l15Begins at h
  refine fn_code tab_ok mixed [(1000, [(0, 0), (1, 0)]), (1001, [(1, 0), (6, 0)]), (1002, [(4, 0)])] Tryd.func18 rfl rfl (by simp [Tryd.f18]) (by kernel_rfl) ?_
  simp only [Tryd.f18]
  refine sA ?_
  obtain ⟨c107, hr1, h⟩ := bind_ok h
  refine Cl_sA (w_spec_l15Compare hr1) ?_
  try refine sA ?_
  have he := Option.some.inj h
  subst he
  exact endsA ⟨[(4, (.lf false (.sc (.bool (c107.2 == ((a1.length : Nat) : Int))))))], [], 0, 17⟩ []
theorem w_spec_GoodTellings {a0 : TellingsT} {r : Bool} (h : spec_GoodTellings a0 = some r) : Fn Tryd.prog 10 [(.ag [(.lf true (.sl (a0.Branches.map eBranch)))])] [] 0 (.lf false (.sc (.bool r))) [] 0 := by
  unfold spec_GoodTellings at h
  refine fn_code tab_ok mixed [(1000, [(1, 0)]), (1001, [(1, 0), (10, 0), (11, 0), (12, 0)]), (1002, [(1, 0), (10, 0), (11, 0), (12, 0), (13, 0)]), (1003, [(1, 0), (3, 0), (4, 0), (10, 0), (11, 0), (12, 0)]), (1004, [(1, 0), (3, 0), (4, 0), (10, 0), (11, 0), (12, 0), (20, 0)]), (1005, [(2, 0)]), (1006, [(1, 0), (3, 0), (4, 0), (10, 0), (11, 0), (12, 0), (24, 0), (25, 0), (26, 0)]), (1007, [(1, 0), (3, 0), (4, 0), (10, 0), (11, 0), (12, 0), (24, 0), (25, 0), (26, 0), (27, 0)]), (1008, [(1, 0), (3, 0), (4, 0), (5, 0), (6, 0), (10, 0), (11, 0), (12, 0), (24, 0), (25, 0), (26, 0)]), (1009, [(1, 0), (3, 0), (4, 0), (5, 0), (6, 0), (7, 0), (10, 0), (11, 0), (12, 0), (24, 0), (25, 0), (26, 0)]), (1010, [(1, 0), (3, 0), (4, 0), (10, 0), (11, 0), (12, 0), (24, 0), (25, 0), (26, 0), (52, 0)]), (1011, [(2, 0)]), (1012, [(1, 0), (3, 0), (4, 0), (10, 0), (11, 0), (12, 0), (24, 0), (25, 0), (26, 0)]), (1013, [(1, 0), (10, 0), (11, 0), (12, 0)]), (1014, [(2, 0)]), (4010, [])] Tryd.func10 rfl rfl (by simp [Tryd.f10]) (by kernel_rfl) ?_
  simp only [Tryd.f10]
  refine sA ?_
  obtain ⟨y127, hl1, h⟩ := bind_ok h
  refine W_loopP (fun g30 : spec_GoodTellings_G1 => ⟨[(1, (.pb 0 0)), (10, (.lf true (.sl (a0.Branches.map eBranch)))), (11, (.lf false (.sc (.int .i64 ((a0.Branches.length : Nat) : Int))))), (12, (.lf false (.sc (.int .i64 g30.t12))))], [(0, some (true, .box [(.lf true (.sl (a0.Branches.map eBranch)))]))], 1, 59⟩) (spec_GoodTellings_L1 a0) _ _ hl1 (weakA [some 0]) ?_
  · intro n1 g30 z1 hs1 hk1
    unfold spec_GoodTellings_L1 at hs1
    try dsimp only at hs1
    refine sA ?_
    refine Bs_if hs1 (fun hs1 hc2 => ?_) (fun hs1 hc2 => ?_)
    · try refine sA ?_
      obtain ⟨hp3, hs1⟩ := guard_some hs1
      have hn3 : g30.t12.toNat < a0.Branches.length := by first | omega | (simp only [List.length_set, List.length_append, List.length_replicate, List.length_map]; omega)
      try refine sA ?_
      try refine andA ?_
      obtain ⟨c116, hr4, hs1⟩ := bind_ok hs1
      refine Cl_sA (w_spec_l15History hr4) ?_
      try refine sA ?_
      refine Bs_if hs1 (fun hs1 hc5 => ?_) (fun hs1 hc5 => ?_)
      · try refine sA ?_
        cases hs1
        cases hk1
        try dsimp only at h
        try refine sA ?_
        have he := Option.some.inj h
        subst he
        exact endsA ⟨[(2, (.lf false (.sc (.bool false))))], [], 0, 59⟩ []
      · try refine sA ?_
        obtain ⟨hp6, hs1⟩ := guard_some hs1
        try refine sA ?_
        try refine andA ?_
        obtain ⟨y124, hl7, hs1⟩ := bind_ok hs1
        refine W_loopP (fun g117 : spec_GoodTellings_G2 => ⟨[(1, (.pb 0 0)), (3, (.lf false (.sc (.int .i64 g30.t12)))), (4, (.pb 1 0)), (10, (.lf true (.sl (a0.Branches.map eBranch)))), (11, (.lf false (.sc (.int .i64 ((a0.Branches.length : Nat) : Int))))), (12, (.lf false (.sc (.int .i64 g30.t12)))), (24, (.lf true (.sl ((a0.Branches.take g30.t12.toNat).map eBranch)))), (25, (.lf false (.sc (.int .i64 (((a0.Branches.take g30.t12.toNat).length : Nat) : Int))))), (26, (.lf false (.sc (.int .i64 g117.t26))))], [(0, some (true, .box [(.lf true (.sl (a0.Branches.map eBranch)))])), (1, some (true, .box [(.lf true (.sl (((nth a0.Branches g30.t12.toNat).Events).map eEvent)))]))], 2, 59⟩) (spec_GoodTellings_L2 a0 g30) _ _ hl7 (weakA [some 0, some 1]) ?_
        · intro n2 g117 z2 hs2 hk2
          unfold spec_GoodTellings_L2 at hs2
          try dsimp only at hs2
          refine sA ?_
          refine Bs_if hs2 (fun hs2 hc8 => ?_) (fun hs2 hc8 => ?_)
          · try refine sA ?_
            obtain ⟨hp9, hs2⟩ := guard_some hs2
            have hn9 : g117.t26.toNat < (a0.Branches.take g30.t12.toNat).length := by first | omega | (simp only [List.length_set, List.length_append, List.length_replicate, List.length_map]; omega)
            try refine sA ?_
            try refine andA ?_
            obtain ⟨c121, hr10, hs2⟩ := bind_ok hs2
            refine Cl_sA (w_spec_l15Compare hr10) ?_
            try refine sA ?_
            obtain ⟨p123, hq11, hs2⟩ := bind_ok hs2
            refine Sq_cut (fun s2 => s2 = ⟨[(1, (.pb 0 0)), (3, (.lf false (.sc (.int .i64 g30.t12)))), (4, (.pb 1 0)), (10, (.lf true (.sl (a0.Branches.map eBranch)))), (11, (.lf false (.sc (.int .i64 ((a0.Branches.length : Nat) : Int))))), (12, (.lf false (.sc (.int .i64 g30.t12)))), (24, (.lf true (.sl ((a0.Branches.take g30.t12.toNat).map eBranch)))), (25, (.lf false (.sc (.int .i64 (((a0.Branches.take g30.t12.toNat).length : Nat) : Int))))), (26, (.lf false (.sc (.int .i64 g117.t26)))), (52, (.lf false (.sc (.bool p123.t52))))], [(0, some (true, .box [(.lf true (.sl (a0.Branches.map eBranch)))])), (1, some (true, .box [(.lf true (.sl (((nth a0.Branches g30.t12.toNat).Events).map eEvent)))]))], 2, 59⟩) ?_ ?_
            · try refine sA ?_
              refine Sp_if hq11 (fun hq11 hc12 => ?_) (fun hq11 hc12 => ?_)
              · try refine sA ?_
                cases hq11
                exact X_cut rfl (weakA [some 0, some 1])
              · try refine sA ?_
                obtain ⟨c122, hr13, hq11⟩ := bind_ok hq11
                refine Cl_sA (w_spec_l15Begins hr13) ?_
                try refine sA ?_
                refine Sp_if hq11 (fun hq11 hc14 => ?_) (fun hq11 hc14 => ?_)
                · try refine sA ?_
                  cases hq11
                  exact X_cut rfl (weakA [some 0, some 1])
                · try refine sA ?_
                  cases hq11
                  exact X_cut rfl (weakA [some 0, some 1])
            · intro s2 hJ; subst hJ
              try dsimp only at hs2
              try refine sA ?_
              refine Bs_if hs2 (fun hs2 hc15 => ?_) (fun hs2 hc15 => ?_)
              · try refine sA ?_
                cases hs2
                cases hk2
                try dsimp only at hs1
                try refine sA ?_
                cases hs1
                cases hk1
                try dsimp only at h
                try refine sA ?_
                have he := Option.some.inj h
                subst he
                exact endsA ⟨[(2, (.lf false (.sc (.bool false))))], [], 0, 59⟩ []
              · try refine sA ?_
                cases hs2
                exact X_backP hk2 (weakA [some 0, some 1])
          · try refine sA ?_
            cases hs2
            cases hk2
            try dsimp only at hs1
            try refine sA ?_
            cases hs1
            exact X_backP hk1 (weakA [some 0])
    · try refine sA ?_
      cases hs1
      cases hk1
      try dsimp only at h
      try refine sA ?_
      have he := Option.some.inj h
      subst he
      exact endsA ⟨[(2, (.lf false (.sc (.bool (decide (((a0.Branches.length : Nat) : Int) ≤ 12))))))], [], 0, 59⟩ []
theorem w_spec_EventsIn {a0 : TellingsT} {r : (Int × Bool)} (h : spec_EventsIn a0 = some r) : Fn Tryd.prog 5 [(.ag [(.lf true (.sl (a0.Branches.map eBranch)))])] [] 0 (.tu [(.lf false (.sc (.int .i64 r.1))), (.lf false (.sc (.bool r.2)))]) [] 0 := by
  unfold spec_EventsIn at h
  refine fn_code tab_ok mixed [(1000, [(1, 0)]), (1001, [(1, 0), (14, 0)]), (1002, [(2, 0), (3, 0)]), (1003, [(1, 0), (4, 0)]), (1004, [(1, 0), (4, 0), (16, 0), (17, 0), (18, 0)]), (1005, [(1, 0), (4, 0), (16, 0), (17, 0), (18, 0), (19, 0)]), (1006, [(1, 0), (4, 0), (5, 0), (6, 0), (16, 0), (17, 0), (18, 0)]), (1007, [(1, 0), (4, 0), (5, 0), (6, 0), (7, 0), (16, 0), (17, 0), (18, 0)]), (1008, [(1, 0), (4, 0), (6, 0), (7, 0), (16, 0), (17, 0), (18, 0), (26, 0), (27, 0), (28, 0)]), (1009, [(1, 0), (4, 0), (6, 0), (7, 0), (16, 0), (17, 0), (18, 0), (26, 0), (27, 0), (28, 0), (29, 0)]), (1010, [(1, 0), (4, 0), (6, 0), (7, 0), (9, 0), (16, 0), (17, 0), (18, 0), (26, 0), (27, 0), (28, 0)]), (1011, [(1, 0), (4, 0), (6, 0), (7, 0), (11, 0), (16, 0), (17, 0), (18, 0), (26, 0), (27, 0), (28, 0)]), (1012, [(1, 0), (4, 0), (6, 0), (7, 0), (11, 0), (16, 0), (17, 0), (18, 0), (26, 0), (27, 0), (28, 0), (42, 0)]), (1013, [(1, 0), (4, 0), (6, 0), (7, 0), (16, 0), (17, 0), (18, 0), (26, 0), (27, 0), (28, 0)]), (1014, [(1, 0), (4, 0), (6, 0), (7, 0), (16, 0), (17, 0), (18, 0), (26, 0), (27, 0), (28, 0)]), (1015, [(1, 0), (4, 0), (16, 0), (17, 0), (18, 0)]), (1016, [(1, 0), (4, 0), (16, 0), (17, 0), (18, 0)]), (1017, [(2, 0), (3, 0)])] Tryd.func5 rfl rfl (by simp [Tryd.f5]) (by kernel_rfl) ?_
  simp only [Tryd.f5]
  refine sA ?_
  obtain ⟨c130, hr1, h⟩ := bind_ok h
  refine Cl_sA (w_spec_GoodTellings hr1) ?_
  try refine sA ?_
  refine Bs_if h (fun h hc2 => ?_) (fun h hc2 => ?_)
  · try refine sA ?_
    have he := Option.some.inj h
    subst he
    exact endsA ⟨[(2, (.lf false (.sc (.int .i64 0)))), (3, (.lf false (.sc (.bool false))))], [], 0, 54⟩ []
  · try refine sA ?_
    obtain ⟨y140, hl3, h⟩ := bind_ok h
    refine W_loopP (fun g131 : spec_EventsIn_G1 => ⟨[(1, (.pb 0 0)), (4, (.lf false (.sc (.int .i64 g131.t4)))), (16, (.lf true (.sl (a0.Branches.map eBranch)))), (17, (.lf false (.sc (.int .i64 ((a0.Branches.length : Nat) : Int))))), (18, (.lf false (.sc (.int .i64 g131.t18))))], [(0, some (true, .box [(.lf true (.sl (a0.Branches.map eBranch)))]))], 1, 54⟩) (spec_EventsIn_L1 a0) _ _ hl3 (weakA [some 0]) ?_
    · intro n1 g131 z1 hs1 hk1
      unfold spec_EventsIn_L1 at hs1
      try dsimp only at hs1
      refine sA ?_
      refine Bs_if hs1 (fun hs1 hc4 => ?_) (fun hs1 hc4 => ?_)
      · try refine sA ?_
        obtain ⟨hp5, hs1⟩ := guard_some hs1
        have hn5 : g131.t18.toNat < a0.Branches.length := by first | omega | (simp only [List.length_set, List.length_append, List.length_replicate, List.length_map]; omega)
        try refine sA ?_
        try refine andA ?_
        obtain ⟨hp6, hs1⟩ := guard_some hs1
        try refine sA ?_
        try refine andA ?_
        obtain ⟨y139, hl7, hs1⟩ := bind_ok hs1
        refine W_loopP (fun g136 : spec_EventsIn_G2 => ⟨[(1, (.pb 0 0)), (4, (.lf false (.sc (.int .i64 g131.t4)))), (6, (.pb 1 0)), (7, (.lf false (.sc (.int .i64 g136.t7)))), (16, (.lf true (.sl (a0.Branches.map eBranch)))), (17, (.lf false (.sc (.int .i64 ((a0.Branches.length : Nat) : Int))))), (18, (.lf false (.sc (.int .i64 g131.t18)))), (26, (.lf true (.sl ((a0.Branches.take g131.t18.toNat).map eBranch)))), (27, (.lf false (.sc (.int .i64 (((a0.Branches.take g131.t18.toNat).length : Nat) : Int))))), (28, (.lf false (.sc (.int .i64 g136.t28))))], [(0, some (true, .box [(.lf true (.sl (a0.Branches.map eBranch)))])), (1, some (true, .box [(.lf true (.sl (((nth a0.Branches g131.t18.toNat).Events).map eEvent)))]))], 2, 54⟩) (spec_EventsIn_L2 a0 g131) _ _ hl7 (weakA [some 0, some 1]) ?_
        · intro n2 g136 z2 hs2 hk2
          unfold spec_EventsIn_L2 at hs2
          try dsimp only at hs2
          refine sA ?_
          refine Bs_if hs2 (fun hs2 hc8 => ?_) (fun hs2 hc8 => ?_)
          · try refine sA ?_
            obtain ⟨hp9, hs2⟩ := guard_some hs2
            have hn9 : g136.t28.toNat < (a0.Branches.take g131.t18.toNat).length := by first | omega | (simp only [List.length_set, List.length_append, List.length_replicate, List.length_map]; omega)
            try refine sA ?_
            try refine andA ?_
            obtain ⟨c138, hr10, hs2⟩ := bind_ok hs2
            refine Cl_sA (w_spec_l15Compare hr10) ?_
            try refine sA ?_
            refine Bs_if hs2 (fun hs2 hc11 => ?_) (fun hs2 hc11 => ?_)
            · try refine sA ?_
              cases hs2
              exact X_backP hk2 (weakA [some 0, some 1])
            · try refine sA ?_
              cases hs2
              exact X_backP hk2 (weakA [some 0, some 1])
          · try refine sA ?_
            cases hs2
            cases hk2
            try dsimp only at hs1
            try refine sA ?_
            cases hs1
            exact X_backP hk1 (weakA [some 0])
      · try refine sA ?_
        cases hs1
        cases hk1
        try dsimp only at h
        try refine sA ?_
        have he := Option.some.inj h
        subst he
        exact endsA ⟨[(2, (.lf false (.sc (.int .i64 g131.t4)))), (3, (.lf false (.sc (.bool true))))], [], 0, 54⟩ []
theorem w_impl_NewState {r : StateT} (h : impl_NewState = some r) : Fn Tryd.prog 43 [] [] 0 (.ag [(.lf false (.sc (.int .i64 r.Status))), (.lf false (.sc (.int .i64 r.Next))), (.lf false (.sc (.bool r.Cancel))), (.lf false (.sc (.int .i64 r.Done))), .nl, .nl]) [] 1 := by
  unfold impl_NewState at h
  refine fn_code tab_ok mixed [] Tryd.func43 rfl rfl (by simp [Tryd.f43]) (by kernel_rfl) ?_
  simp only [Tryd.f43]
  refine sA ?_
  have he := Option.some.inj h
  subst he
  exact endsA ⟨[(0, (.pb 0 0))], [(0, some (true, .box [(.lf false (.sc (.int .i64 0))), (.lf false (.sc (.int .i64 1))), (.lf false (.sc (.bool false))), (.lf false (.sc (.int .i64 0))), .nl, .nl]))], 1, 2⟩ [some 0]
theorem w_impl_in {a0 : Int} {a1 : Int} {a2 : Int} {r : Bool} (h : impl_in a0 a1 a2 = some r) : Fn Tryd.prog 59 [(.lf false (.sc (.int .i64 a0))), (.lf false (.sc (.int .i64 a1))), (.lf false (.sc (.int .i64 a2)))] [] 0 (.lf false (.sc (.bool r))) [] 0 := by
  unfold impl_in at h
  refine fn_code tab_ok mixed [] Tryd.func59 rfl rfl (by simp [Tryd.f59]) (by kernel_rfl) ?_
  simp only [Tryd.f59]
  refine sA ?_
  refine Sp_if h (fun h hc1 => ?_) (fun h hc1 => ?_)
  · try refine sA ?_
    have he := Option.some.inj h
    subst he
    exact endsA ⟨[(6, (.lf false (.sc (.bool (decide (a0 ≤ a2))))))], [], 0, 15⟩ []
  · try refine sA ?_
    have he := Option.some.inj h
    subst he
    exact endsA ⟨[(6, (.lf false (.sc (.bool false))))], [], 0, 15⟩ []
theorem w_strings_Trim {a0 a1 : ByteArray} {r : ByteArray} (h : strings_Trim a0 a1 = some r) : Fn Tryd.prog 72 [.lf false (.sc (.string a0)), .lf false (.sc (.string a1))] [] 0 (.lf false (.sc (.string r))) [] 0 := by
  unfold strings_Trim at h
  obtain ⟨⟨hp1, hp2, hp3⟩, h⟩ := guard_some h
  have he := Option.some.inj h; subst he
  exact fn_str2 (Ent.of Tryd.func72 rfl (by simp [Tryd.f72])) fun w => Go.Proofs.Any.strings_Trim_laid Go.Proofs.Tryd.lays160 (by kernel_rfl) a0 a1 w hp1 hp2 (ascii_of_all hp3)
theorem w_impl_goodName {a0 : ByteArray} {r : Bool} (h : impl_goodName a0 = some r) : Fn Tryd.prog 65 [(.lf false (.sc (.string a0)))] [] 0 (.lf false (.sc (.bool r))) [] 0 := by
  unfold impl_goodName at h
  refine fn_code tab_ok mixed [] Tryd.func65 rfl rfl (by simp [Tryd.f65]) (by kernel_rfl) ?_
  simp only [Tryd.f65]
  refine sA ?_
  refine Sp_if h (fun h hc1 => ?_) (fun h hc1 => ?_)
  · try refine sA ?_
    obtain ⟨c157, hr2, h⟩ := bind_ok h
    refine Cl_sA (w_strings_Trim hr2) ?_
    try refine sA ?_
    have he := Option.some.inj h
    subst he
    exact endsA ⟨[(2, (.lf false (.sc (.bool (c157.toList == ByteArray.empty.toList)))))], [], 0, 11⟩ []
  · try refine sA ?_
    have he := Option.some.inj h
    subst he
    exact endsA ⟨[(2, (.lf false (.sc (.bool false))))], [], 0, 11⟩ []
theorem w_impl_namesOk_c1 {a0 : ByteArray} {r : Bool} (h : impl_namesOk_c1 a0 = some r) : Fn Tryd.prog 70 [(.lf false (.sc (.string a0)))] [] 0 (.lf false (.sc (.bool r))) [] 0 := by
  unfold impl_namesOk_c1 at h
  refine fn_code tab_ok mixed [] Tryd.func70 rfl rfl (by simp [Tryd.f70]) (by kernel_rfl) ?_
  simp only [Tryd.f70]
  refine sA ?_
  obtain ⟨c158, hr1, h⟩ := bind_ok h
  refine Cl_sA (w_impl_goodName hr1) ?_
  try refine sA ?_
  have he := Option.some.inj h
  subst he
  exact endsA ⟨[(2, (.lf false (.sc (.bool (!c158)))))], [], 0, 6⟩ []
theorem w_slices_IndexFunc_string_impl_namesOk_c1 {a0 : (List ByteArray)} {r : Int} (h : slices_IndexFunc_string_impl_namesOk_c1 a0 = some r) : Fn Tryd.prog 77 [(.lf true (.sl (a0.map eS))), (.fn 70 [])] [] 0 (.lf false (.sc (.int .i64 r))) [] 0 := by
  unfold slices_IndexFunc_string_impl_namesOk_c1 at h
  refine fn_code tab_ok mixed [(1000, [(0, 0), (1, 0)]), (1001, [(0, 0), (1, 0), (7, 0), (8, 0)]), (1002, [(0, 0), (1, 0), (7, 0), (8, 0), (9, 0)]), (1003, [(0, 0), (1, 0), (5, 0), (7, 0), (8, 0)]), (1004, [(0, 0), (1, 0), (5, 0), (7, 0), (8, 0), (16, 0)]), (1005, [(4, 0)]), (1006, [(0, 0), (1, 0), (7, 0), (8, 0)]), (1007, [(4, 0)])] Tryd.func77 rfl rfl (by simp [Tryd.f77]) (by kernel_rfl) ?_
  simp only [Tryd.f77]
  refine sA ?_
  obtain ⟨y161, hl1, h⟩ := bind_ok h
  refine W_loopP (fun g156 : slices_IndexFunc_string_impl_namesOk_c1_G1 => ⟨[(0, (.lf true (.sl (a0.map eS)))), (1, (.fn 70 [])), (7, (.lf false (.sc (.int .i64 ((a0.length : Nat) : Int))))), (8, (.lf false (.sc (.int .i64 g156.t8))))], [], 0, 19⟩) (slices_IndexFunc_string_impl_namesOk_c1_L1 a0) _ _ hl1 (weakA []) ?_
  · intro n1 g156 z1 hs1 hk1
    unfold slices_IndexFunc_string_impl_namesOk_c1_L1 at hs1
    try dsimp only at hs1
    refine sA ?_
    refine Bs_if hs1 (fun hs1 hc2 => ?_) (fun hs1 hc2 => ?_)
    · try refine sA ?_
      obtain ⟨hp3, hs1⟩ := guard_some hs1
      have hn3 : g156.t8.toNat < a0.length := by first | omega | (simp only [List.length_set, List.length_append, List.length_replicate, List.length_map]; omega)
      try refine sA ?_
      try refine andA ?_
      obtain ⟨c160, hr4, hs1⟩ := bind_ok hs1
      refine Cl_sA (w_impl_namesOk_c1 hr4) ?_
      try refine sA ?_
      refine Bs_if hs1 (fun hs1 hc5 => ?_) (fun hs1 hc5 => ?_)
      · try refine sA ?_
        cases hs1
        cases hk1
        try dsimp only at h
        try refine sA ?_
        have he := Option.some.inj h
        subst he
        exact endsA ⟨[(4, (.lf false (.sc (.int .i64 g156.t8))))], [], 0, 19⟩ []
      · try refine sA ?_
        cases hs1
        exact X_backP hk1 (weakA [])
    · try refine sA ?_
      cases hs1
      cases hk1
      try dsimp only at h
      try refine sA ?_
      have he := Option.some.inj h
      subst he
      exact endsA ⟨[(4, (.lf false (.sc (.int .i64 (-1)))))], [], 0, 19⟩ []
theorem w_slices_ContainsFunc_string_impl_namesOk_c1 {a0 : (List ByteArray)} {r : Bool} (h : slices_ContainsFunc_string_impl_namesOk_c1 a0 = some r) : Fn Tryd.prog 69 [(.lf true (.sl (a0.map eS))), (.fn 70 [])] [] 0 (.lf false (.sc (.bool r))) [] 0 := by
  unfold slices_ContainsFunc_string_impl_namesOk_c1 at h
  refine fn_code tab_ok mixed [] Tryd.func69 rfl rfl (by simp [Tryd.f69]) (by kernel_rfl) ?_
  simp only [Tryd.f69]
  refine sA ?_
  obtain ⟨c164, hr1, h⟩ := bind_ok h
  refine Cl_sA (w_slices_IndexFunc_string_impl_namesOk_c1 hr1) ?_
  try refine sA ?_
  have he := Option.some.inj h
  subst he
  exact endsA ⟨[(4, (.lf false (.sc (.bool (decide (c164 ≥ 0))))))], [], 0, 9⟩ []
theorem w_impl_namesOk {a0 : (List ByteArray)} {a1 : Int} {r : Bool} (h : impl_namesOk a0 a1 = some r) : Fn Tryd.prog 60 [(.lf true (.sl (a0.map eS))), (.lf false (.sc (.int .i64 a1)))] [] 0 (.lf false (.sc (.bool r))) [] 0 := by
  unfold impl_namesOk at h
  refine fn_code tab_ok mixed [] Tryd.func60 rfl rfl (by simp [Tryd.f60]) (by kernel_rfl) ?_
  simp only [Tryd.f60]
  refine sA ?_
  refine Sp_if h (fun h hc1 => ?_) (fun h hc1 => ?_)
  · try refine sA ?_
    obtain ⟨c165, hr2, h⟩ := bind_ok h
    refine Cl_sA (w_slices_ContainsFunc_string_impl_namesOk_c1 hr2) ?_
    try refine sA ?_
    have he := Option.some.inj h
    subst he
    exact endsA ⟨[(4, (.lf false (.sc (.bool (!c165)))))], [], 0, 14⟩ []
  · try refine sA ?_
    have he := Option.some.inj h
    subst he
    exact endsA ⟨[(4, (.lf false (.sc (.bool false))))], [], 0, 14⟩ []
theorem w_slices_Index_string {a0 : (List ByteArray)} {a1 : ByteArray} {r : Int} (h : slices_Index_string a0 a1 = some r) : Fn Tryd.prog 73 [(.lf true (.sl (a0.map eS))), (.lf false (.sc (.string a1)))] [] 0 (.lf false (.sc (.int .i64 r))) [] 0 := by
  unfold slices_Index_string at h
  refine fn_code tab_ok mixed [(1000, [(0, 0), (1, 0)]), (1001, [(0, 0), (1, 0), (7, 0), (8, 0)]), (1002, [(0, 0), (1, 0), (7, 0), (8, 0), (9, 0)]), (1003, [(0, 0), (1, 0), (5, 0), (7, 0), (8, 0)]), (1004, [(0, 0), (1, 0), (5, 0), (7, 0), (8, 0), (16, 0)]), (1005, [(4, 0)]), (1006, [(0, 0), (1, 0), (7, 0), (8, 0)]), (1007, [(4, 0)])] Tryd.func73 rfl rfl (by simp [Tryd.f73]) (by kernel_rfl) ?_
  simp only [Tryd.f73]
  refine sA ?_
  obtain ⟨y169, hl1, h⟩ := bind_ok h
  refine W_loopP (fun g168 : slices_Index_string_G1 => ⟨[(0, (.lf true (.sl (a0.map eS)))), (1, (.lf false (.sc (.string a1)))), (7, (.lf false (.sc (.int .i64 ((a0.length : Nat) : Int))))), (8, (.lf false (.sc (.int .i64 g168.t8))))], [], 0, 19⟩) (slices_Index_string_L1 a0 a1) _ _ hl1 (weakA []) ?_
  · intro n1 g168 z1 hs1 hk1
    unfold slices_Index_string_L1 at hs1
    try dsimp only at hs1
    refine sA ?_
    refine Bs_if hs1 (fun hs1 hc2 => ?_) (fun hs1 hc2 => ?_)
    · try refine sA ?_
      obtain ⟨hp3, hs1⟩ := guard_some hs1
      have hn3 : g168.t8.toNat < a0.length := by first | omega | (simp only [List.length_set, List.length_append, List.length_replicate, List.length_map]; omega)
      try refine sA ?_
      try refine andA ?_
      refine Bs_if hs1 (fun hs1 hc4 => ?_) (fun hs1 hc4 => ?_)
      · try refine sA ?_
        cases hs1
        cases hk1
        try dsimp only at h
        try refine sA ?_
        have he := Option.some.inj h
        subst he
        exact endsA ⟨[(4, (.lf false (.sc (.int .i64 g168.t8))))], [], 0, 19⟩ []
      · try refine sA ?_
        cases hs1
        exact X_backP hk1 (weakA [])
    · try refine sA ?_
      cases hs1
      cases hk1
      try dsimp only at h
      try refine sA ?_
      have he := Option.some.inj h
      subst he
      exact endsA ⟨[(4, (.lf false (.sc (.int .i64 (-1)))))], [], 0, 19⟩ []
theorem w_slices_Contains_string {a0 : (List ByteArray)} {a1 : ByteArray} {r : Bool} (h : slices_Contains_string a0 a1 = some r) : Fn Tryd.prog 67 [(.lf true (.sl (a0.map eS))), (.lf false (.sc (.string a1)))] [] 0 (.lf false (.sc (.bool r))) [] 0 := by
  unfold slices_Contains_string at h
  refine fn_code tab_ok mixed [] Tryd.func67 rfl rfl (by simp [Tryd.f67]) (by kernel_rfl) ?_
  simp only [Tryd.f67]
  refine sA ?_
  obtain ⟨c172, hr1, h⟩ := bind_ok h
  refine Cl_sA (w_slices_Index_string hr1) ?_
  try refine sA ?_
  have he := Option.some.inj h
  subst he
  exact endsA ⟨[(4, (.lf false (.sc (.bool (decide (c172 ≥ 0))))))], [], 0, 9⟩ []
theorem w_impl_distinct {a0 : (List ByteArray)} {r : Bool} (h : impl_distinct a0 = some r) : Fn Tryd.prog 61 [(.lf true (.sl (a0.map eS)))] [] 0 (.lf false (.sc (.bool r))) [] 0 := by
  unfold impl_distinct at h
  refine fn_code tab_ok mixed [(1000, [(0, 0)]), (1001, [(0, 0), (5, 0), (6, 0), (7, 0)]), (1002, [(0, 0), (5, 0), (6, 0), (7, 0), (8, 0)]), (1003, [(0, 0), (3, 0), (4, 0), (5, 0), (6, 0), (7, 0)]), (1004, [(0, 0), (5, 0), (6, 0), (7, 0), (16, 0)]), (1005, [(2, 0)]), (1006, [(0, 0), (5, 0), (6, 0), (7, 0)]), (1007, [(2, 0)])] Tryd.func61 rfl rfl (by simp [Tryd.f61]) (by kernel_rfl) ?_
  simp only [Tryd.f61]
  refine sA ?_
  obtain ⟨y175, hl1, h⟩ := bind_ok h
  refine W_loopP (fun g167 : impl_distinct_G1 => ⟨[(0, (.lf true (.sl (a0.map eS)))), (5, (.lf true (.sl (a0.map eS)))), (6, (.lf false (.sc (.int .i64 ((a0.length : Nat) : Int))))), (7, (.lf false (.sc (.int .i64 g167.t7))))], [], 0, 18⟩) (impl_distinct_L1 a0) _ _ hl1 (weakA []) ?_
  · intro n1 g167 z1 hs1 hk1
    unfold impl_distinct_L1 at hs1
    try dsimp only at hs1
    refine sA ?_
    refine Bs_if hs1 (fun hs1 hc2 => ?_) (fun hs1 hc2 => ?_)
    · try refine sA ?_
      obtain ⟨hp3, hs1⟩ := guard_some hs1
      have hn3 : g167.t7.toNat < a0.length := by first | omega | (simp only [List.length_set, List.length_append, List.length_replicate, List.length_map]; omega)
      try refine sA ?_
      try refine andA ?_
      obtain ⟨hp4, hs1⟩ := guard_some hs1
      try refine sA ?_
      try refine andA ?_
      obtain ⟨c174, hr5, hs1⟩ := bind_ok hs1
      refine Cl_sA (w_slices_Contains_string hr5) ?_
      try refine sA ?_
      refine Bs_if hs1 (fun hs1 hc6 => ?_) (fun hs1 hc6 => ?_)
      · try refine sA ?_
        cases hs1
        cases hk1
        try dsimp only at h
        try refine sA ?_
        have he := Option.some.inj h
        subst he
        exact endsA ⟨[(2, (.lf false (.sc (.bool false))))], [], 0, 18⟩ []
      · try refine sA ?_
        cases hs1
        exact X_backP hk1 (weakA [])
    · try refine sA ?_
      cases hs1
      cases hk1
      try dsimp only at h
      try refine sA ?_
      have he := Option.some.inj h
      subst he
      exact endsA ⟨[(2, (.lf false (.sc (.bool true))))], [], 0, 18⟩ []
theorem w_cmp_isNaN_string {a0 : ByteArray} {r : Bool} (h : cmp_isNaN_string a0 = some r) : Fn Tryd.prog 46 [(.lf false (.sc (.string a0)))] [] 0 (.lf false (.sc (.bool r))) [] 0 := by
  unfold cmp_isNaN_string at h
  refine fn_code tab_ok mixed [] Tryd.func46 rfl rfl (by simp [Tryd.f46]) (by kernel_rfl) ?_
  simp only [Tryd.f46]
  refine sA ?_
  have he := Option.some.inj h
  subst he
  exact endsA ⟨[(2, (.lf false (.sc (.bool (!(a0.toList == a0.toList))))))], [], 0, 6⟩ []
theorem w_cmp_Less_string {a0 : ByteArray} {a1 : ByteArray} {r : Bool} (h : cmp_Less_string a0 a1 = some r) : Fn Tryd.prog 71 [(.lf false (.sc (.string a0))), (.lf false (.sc (.string a1)))] [] 0 (.lf false (.sc (.bool r))) [] 0 := by
  unfold cmp_Less_string at h
  refine fn_code tab_ok mixed [] Tryd.func71 rfl rfl (by simp [Tryd.f71]) (by kernel_rfl) ?_
  simp only [Tryd.f71]
  refine sA ?_
  obtain ⟨c181, hr1, h⟩ := bind_ok h
  refine Cl_sA (w_cmp_isNaN_string hr1) ?_
  try refine sA ?_
  refine Sp_if h (fun h hc2 => ?_) (fun h hc2 => ?_)
  · try refine sA ?_
    obtain ⟨c182, hr3, h⟩ := bind_ok h
    refine Cl_sA (w_cmp_isNaN_string hr3) ?_
    try refine sA ?_
    refine Sp_if h (fun h hc4 => ?_) (fun h hc4 => ?_)
    · try refine sA ?_
      have he := Option.some.inj h
      subst he
      exact endsA ⟨[(4, (.lf false (.sc (.bool true))))], [], 0, 17⟩ []
    · try refine sA ?_
      have he := Option.some.inj h
      subst he
      exact endsA ⟨[(4, (.lf false (.sc (.bool (sLt a0 a1)))))], [], 0, 17⟩ []
  · try refine sA ?_
    have he := Option.some.inj h
    subst he
    exact endsA ⟨[(4, (.lf false (.sc (.bool (sLt a0 a1)))))], [], 0, 17⟩ []
theorem w_slices_IsSorted_string {a0 : (List ByteArray)} {r : Bool} (h : slices_IsSorted_string a0 = some r) : Fn Tryd.prog 62 [(.lf true (.sl (a0.map eS)))] [] 0 (.lf false (.sc (.bool r))) [] 0 := by
  unfold slices_IsSorted_string at h
  refine fn_code tab_ok mixed [(1000, [(0, 0)]), (1001, [(0, 0), (3, 0)]), (1002, [(0, 0), (3, 0), (8, 0)]), (1003, [(0, 0), (3, 0)]), (1004, [(0, 0), (3, 0), (20, 0)]), (1005, [(2, 0)]), (1006, [(2, 0)])] Tryd.func62 rfl rfl (by simp [Tryd.f62]) (by kernel_rfl) ?_
  simp only [Tryd.f62]
  refine sA ?_
  obtain ⟨y185, hl1, h⟩ := bind_ok h
  refine W_loopP (fun g180 : slices_IsSorted_string_G1 => ⟨[(0, (.lf true (.sl (a0.map eS)))), (3, (.lf false (.sc (.int .i64 g180.t3))))], [], 0, 21⟩) (slices_IsSorted_string_L1 a0) _ _ hl1 (weakA []) ?_
  · intro n1 g180 z1 hs1 hk1
    unfold slices_IsSorted_string_L1 at hs1
    try dsimp only at hs1
    refine sA ?_
    refine Bs_if hs1 (fun hs1 hc2 => ?_) (fun hs1 hc2 => ?_)
    · try refine sA ?_
      obtain ⟨hp3, hs1⟩ := guard_some hs1
      have hn3 : g180.t3.toNat < a0.length := by first | omega | (simp only [List.length_set, List.length_append, List.length_replicate, List.length_map]; omega)
      try refine sA ?_
      try refine andA ?_
      obtain ⟨hp4, hs1⟩ := guard_some hs1
      have hn4 : (wI (g180.t3 - 1)).toNat < a0.length := by first | omega | (simp only [List.length_set, List.length_append, List.length_replicate, List.length_map]; omega)
      try refine sA ?_
      try refine andA ?_
      obtain ⟨c184, hr5, hs1⟩ := bind_ok hs1
      refine Cl_sA (w_cmp_Less_string hr5) ?_
      try refine sA ?_
      refine Bs_if hs1 (fun hs1 hc6 => ?_) (fun hs1 hc6 => ?_)
      · try refine sA ?_
        cases hs1
        cases hk1
        try dsimp only at h
        try refine sA ?_
        have he := Option.some.inj h
        subst he
        exact endsA ⟨[(2, (.lf false (.sc (.bool false))))], [], 0, 21⟩ []
      · try refine sA ?_
        cases hs1
        exact X_backP hk1 (weakA [])
    · try refine sA ?_
      cases hs1
      cases hk1
      try dsimp only at h
      try refine sA ?_
      have he := Option.some.inj h
      subst he
      exact endsA ⟨[(2, (.lf false (.sc (.bool true))))], [], 0, 21⟩ []
theorem w_impl_GoodState {a0 : StateT} {r : Bool} (h : impl_GoodState a0 = some r) : Fn Tryd.prog 52 [(.ag [(.lf false (.sc (.int .i64 a0.Status))), (.lf false (.sc (.int .i64 a0.Next))), (.lf false (.sc (.bool a0.Cancel))), (.lf false (.sc (.int .i64 a0.Done))), (.lf true (.sl (a0.Signals.map eS))), (.lf true (.sl (a0.Timers.map eS)))])] [] 0 (.lf false (.sc (.bool r))) [] 0 := by
  unfold impl_GoodState at h
  refine fn_code tab_ok mixed [(1000, [(1, 0)]), (1001, [(1, 0), (18, 0)]), (1002, [(2, 0)]), (1003, [(1, 0), (46, 0)]), (1004, [(2, 0)]), (1005, [(1, 0), (49, 0)]), (1006, [(2, 0)]), (1007, [(2, 0)]), (4001, []), (4003, [])] Tryd.func52 rfl rfl (by simp [Tryd.f52]) (by kernel_rfl) ?_
  simp only [Tryd.f52]
  refine sA ?_
  obtain ⟨p155, hq1, h⟩ := bind_ok h
  refine Sq_cut (fun s2 => s2 = ⟨[(1, (.pb 0 0)), (18, (.lf false (.sc (.bool p155.t18))))], [(0, some (true, .box [(.lf false (.sc (.int .i64 a0.Status))), (.lf false (.sc (.int .i64 a0.Next))), (.lf false (.sc (.bool a0.Cancel))), (.lf false (.sc (.int .i64 a0.Done))), (.lf true (.sl (a0.Signals.map eS))), (.lf true (.sl (a0.Timers.map eS)))]))], 1, 78⟩) ?_ ?_
  · try refine sA ?_
    obtain ⟨c152, hr2, hq1⟩ := bind_ok hq1
    refine Cl_sA (w_impl_in hr2) ?_
    try refine sA ?_
    refine Sp_if hq1 (fun hq1 hc3 => ?_) (fun hq1 hc3 => ?_)
    · try refine sA ?_
      cases hq1
      exact X_cut rfl (weakA [some 0])
    · try refine sA ?_
      obtain ⟨c153, hr4, hq1⟩ := bind_ok hq1
      refine Cl_sA (w_impl_in hr4) ?_
      try refine sA ?_
      refine Sp_if hq1 (fun hq1 hc5 => ?_) (fun hq1 hc5 => ?_)
      · try refine sA ?_
        cases hq1
        exact X_cut rfl (weakA [some 0])
      · try refine sA ?_
        obtain ⟨c154, hr6, hq1⟩ := bind_ok hq1
        refine Cl_sA (w_impl_in hr6) ?_
        try refine sA ?_
        cases hq1
        exact X_cut rfl (weakA [some 0])
  · intro s2 hJ; subst hJ
    try dsimp only at h
    try refine sA ?_
    refine Bs_if h (fun h hc7 => ?_) (fun h hc7 => ?_)
    · try refine sA ?_
      have he := Option.some.inj h
      subst he
      exact endsA ⟨[(2, (.lf false (.sc (.bool false))))], [], 0, 78⟩ []
    · try refine sA ?_
      obtain ⟨p190, hq8, h⟩ := bind_ok h
      refine Sq_cut (fun s2 => s2 = ⟨[(1, (.pb 0 0)), (46, (.lf false (.sc (.bool p190.t46))))], [(0, some (true, .box [(.lf false (.sc (.int .i64 a0.Status))), (.lf false (.sc (.int .i64 a0.Next))), (.lf false (.sc (.bool a0.Cancel))), (.lf false (.sc (.int .i64 a0.Done))), (.lf true (.sl (a0.Signals.map eS))), (.lf true (.sl (a0.Timers.map eS)))]))], 1, 78⟩) ?_ ?_
      · try refine sA ?_
        obtain ⟨c166, hr9, hq8⟩ := bind_ok hq8
        refine Cl_sA (w_impl_namesOk hr9) ?_
        try refine sA ?_
        refine Sp_if hq8 (fun hq8 hc10 => ?_) (fun hq8 hc10 => ?_)
        · try refine sA ?_
          cases hq8
          exact X_cut rfl (weakA [some 0])
        · try refine sA ?_
          obtain ⟨c178, hr11, hq8⟩ := bind_ok hq8
          refine Cl_sA (w_impl_distinct hr11) ?_
          try refine sA ?_
          refine Sp_if hq8 (fun hq8 hc12 => ?_) (fun hq8 hc12 => ?_)
          · try refine sA ?_
            cases hq8
            exact X_cut rfl (weakA [some 0])
          · try refine sA ?_
            obtain ⟨c179, hr13, hq8⟩ := bind_ok hq8
            refine Cl_sA (w_impl_namesOk hr13) ?_
            try refine sA ?_
            refine Sp_if hq8 (fun hq8 hc14 => ?_) (fun hq8 hc14 => ?_)
            · try refine sA ?_
              cases hq8
              exact X_cut rfl (weakA [some 0])
            · try refine sA ?_
              obtain ⟨c188, hr15, hq8⟩ := bind_ok hq8
              refine Cl_sA (w_slices_IsSorted_string hr15) ?_
              try refine sA ?_
              refine Sp_if hq8 (fun hq8 hc16 => ?_) (fun hq8 hc16 => ?_)
              · try refine sA ?_
                cases hq8
                exact X_cut rfl (weakA [some 0])
              · try refine sA ?_
                obtain ⟨c189, hr17, hq8⟩ := bind_ok hq8
                refine Cl_sA (w_impl_distinct hr17) ?_
                try refine sA ?_
                cases hq8
                exact X_cut rfl (weakA [some 0])
      · intro s2 hJ; subst hJ
        try dsimp only at h
        try refine sA ?_
        refine Bs_if h (fun h hc18 => ?_) (fun h hc18 => ?_)
        · try refine sA ?_
          have he := Option.some.inj h
          subst he
          exact endsA ⟨[(2, (.lf false (.sc (.bool false))))], [], 0, 78⟩ []
        · try refine sA ?_
          refine Bs_if h (fun h hc19 => ?_) (fun h hc19 => ?_)
          · try refine sA ?_
            have he := Option.some.inj h
            subst he
            exact endsA ⟨[(2, (.lf false (.sc (.bool (decide (a0.Next > 1))))))], [], 0, 78⟩ []
          · try refine sA ?_
            refine Sp_if h (fun h hc20 => ?_) (fun h hc20 => ?_)
            · try refine sA ?_
              refine Sp_if h (fun h hc21 => ?_) (fun h hc21 => ?_)
              · try refine sA ?_
                refine Sp_if h (fun h hc22 => ?_) (fun h hc22 => ?_)
                · try refine sA ?_
                  refine Sp_if h (fun h hc23 => ?_) (fun h hc23 => ?_)
                  · try refine sA ?_
                    have he := Option.some.inj h
                    subst he
                    exact endsA ⟨[(2, (.lf false (.sc (.bool (((a0.Timers.length : Nat) : Int) == 0)))))], [], 0, 78⟩ []
                  · try refine sA ?_
                    have he := Option.some.inj h
                    subst he
                    exact endsA ⟨[(2, (.lf false (.sc (.bool false))))], [], 0, 78⟩ []
                · try refine sA ?_
                  have he := Option.some.inj h
                  subst he
                  exact endsA ⟨[(2, (.lf false (.sc (.bool false))))], [], 0, 78⟩ []
              · try refine sA ?_
                have he := Option.some.inj h
                subst he
                exact endsA ⟨[(2, (.lf false (.sc (.bool false))))], [], 0, 78⟩ []
            · try refine sA ?_
              have he := Option.some.inj h
              subst he
              exact endsA ⟨[(2, (.lf false (.sc (.bool false))))], [], 0, 78⟩ []
theorem w_impl_isVersion {a0 : Int} {r : Bool} (h : impl_isVersion a0 = some r) : Fn Tryd.prog 63 [(.lf false (.sc (.int .i64 a0)))] [] 0 (.lf false (.sc (.bool r))) [] 0 := by
  unfold impl_isVersion at h
  refine fn_code tab_ok mixed [] Tryd.func63 rfl rfl (by simp [Tryd.f63]) (by kernel_rfl) ?_
  simp only [Tryd.f63]
  refine sA ?_
  obtain ⟨c193, hr1, h⟩ := bind_ok h
  refine Cl_sA (w_impl_in hr1) ?_
  try refine sA ?_
  have he := Option.some.inj h
  subst he
  exact endsA ⟨[(2, (.lf false (.sc (.bool c193))))], [], 0, 5⟩ []
theorem w_impl_goodKind {a0 : Int} {r : Bool} (h : impl_goodKind a0 = some r) : Fn Tryd.prog 64 [(.lf false (.sc (.int .i64 a0)))] [] 0 (.lf false (.sc (.bool r))) [] 0 := by
  unfold impl_goodKind at h
  refine fn_code tab_ok mixed [] Tryd.func64 rfl rfl (by simp [Tryd.f64]) (by kernel_rfl) ?_
  simp only [Tryd.f64]
  refine sA ?_
  obtain ⟨c195, hr1, h⟩ := bind_ok h
  refine Cl_sA (w_impl_in hr1) ?_
  try refine sA ?_
  have he := Option.some.inj h
  subst he
  exact endsA ⟨[(2, (.lf false (.sc (.bool c195))))], [], 0, 5⟩ []
theorem w_impl_GoodEvent {a0 : EventT} {r : Bool} (h : impl_GoodEvent a0 = some r) : Fn Tryd.prog 53 [(.ag [(.lf false (.sc (.int .i64 a0.Id))), (.lf false (.sc (.int .i64 a0.Version))), (.lf false (.sc (.int .i64 a0.Kind))), (.lf false (.sc (.string a0.Name)))])] [] 0 (.lf false (.sc (.bool r))) [] 0 := by
  unfold impl_GoodEvent at h
  refine fn_code tab_ok mixed [] Tryd.func53 rfl rfl (by simp [Tryd.f53]) (by kernel_rfl) ?_
  simp only [Tryd.f53]
  refine sA ?_
  obtain ⟨c192, hr1, h⟩ := bind_ok h
  refine Cl_sA (w_impl_in hr1) ?_
  try refine sA ?_
  refine Sp_if h (fun h hc2 => ?_) (fun h hc2 => ?_)
  · try refine sA ?_
    obtain ⟨c194, hr3, h⟩ := bind_ok h
    refine Cl_sA (w_impl_isVersion hr3) ?_
    try refine sA ?_
    refine Sp_if h (fun h hc4 => ?_) (fun h hc4 => ?_)
    · try refine sA ?_
      obtain ⟨c196, hr5, h⟩ := bind_ok h
      refine Cl_sA (w_impl_goodKind hr5) ?_
      try refine sA ?_
      refine Sp_if h (fun h hc6 => ?_) (fun h hc6 => ?_)
      · try refine sA ?_
        obtain ⟨c197, hr7, h⟩ := bind_ok h
        refine Cl_sA (w_impl_goodName hr7) ?_
        try refine sA ?_
        have he := Option.some.inj h
        subst he
        exact endsA ⟨[(2, (.lf false (.sc (.bool c197))))], [], 0, 21⟩ []
      · try refine sA ?_
        have he := Option.some.inj h
        subst he
        exact endsA ⟨[(2, (.lf false (.sc (.bool false))))], [], 0, 21⟩ []
    · try refine sA ?_
      have he := Option.some.inj h
      subst he
      exact endsA ⟨[(2, (.lf false (.sc (.bool false))))], [], 0, 21⟩ []
  · try refine sA ?_
    have he := Option.some.inj h
    subst he
    exact endsA ⟨[(2, (.lf false (.sc (.bool false))))], [], 0, 21⟩ []
theorem w_slices_Clone_string {a0 : (List ByteArray)} {r : (List ByteArray)} (h : slices_Clone_string a0 = some r) : Fn Tryd.prog 66 [(.lf true (.sl (a0.map eS)))] [] 0 (.os 0 1 0 r.length r.length false) [(0, some (true, .arr false 1 (r.map eS)))] 1 := by
  unfold slices_Clone_string at h
  obtain ⟨hp, h⟩ := guard_some h
  have he := Option.some.inj h; subst he
  refine fn_code tab_ok mixed [] Tryd.func66 rfl rfl (by simp [Tryd.f66]) (by kernel_rfl) ?_
  simp only [Tryd.f66]
  simp (disch := assumption) only [go_sem, Nat.reduceAdd, Nat.reduceMul, Nat.reduceSub, Nat.reduceEqDiff, ↓reduceIte, Nat.reduceLT, reduceCtorEq, Nat.reduceLeDiff, Int.reduceToNat, Int.reduceEq, Int.reduceLE, Int.reduceLT, Nat.reduceBEq]
  intro b hb
  refine Bs_splitC (b = true) (by simp) (fun hc => ?_) (fun hc => ?_)
  · have h0 : a0 = [] := by simpa using hb (by simpa using hc)
    subst h0
    try simp (disch := assumption) only [go_sem, Nat.reduceAdd, Nat.reduceMul, Nat.reduceSub, Nat.reduceEqDiff, ↓reduceIte, Nat.reduceLT, reduceCtorEq, Nat.reduceLeDiff, Int.reduceToNat, Int.reduceEq, Int.reduceLE, Int.reduceLT, Nat.reduceBEq]
    refine ends_weak ⟨[(2, (.os 0 1 0 0 0 false))], [(0, some (true, .arr false 1 (([] : List ByteArray).map eS)))], 1, 8⟩ (weak_of (m := 0) [none] rfl rfl rfl (by rfl) ?_ ?_) ?_
    all_goals ((try simp (disch := assumption) only [go_sem, Nat.reduceAdd, Nat.reduceMul, Nat.reduceSub, Nat.reduceEqDiff, ↓reduceIte, Nat.reduceLT, reduceCtorEq, Nat.reduceLeDiff, Int.reduceToNat, Int.reduceEq, Int.reduceLE, Int.reduceLT, Nat.reduceBEq]); (repeat' first | done | rfl | omega | refine And.intro ?_ ?_ | (simp; done) | (simp; omega)))
  · try simp (disch := assumption) only [go_sem, Nat.reduceAdd, Nat.reduceMul, Nat.reduceSub, Nat.reduceEqDiff, ↓reduceIte, Nat.reduceLT, reduceCtorEq, Nat.reduceLeDiff, Int.reduceToNat, Int.reduceEq, Int.reduceLE, Int.reduceLT, Nat.reduceBEq]
    first | refine And.intro (by first | omega | exact ⟨by omega, fun _ => mapLen fun _ => rfl⟩ | (refine ⟨?_, by omega⟩; first | exact mapLen fun _ => rfl | simp)) ?_ | skip
    try simp (disch := assumption) only [go_sem, Nat.reduceAdd, Nat.reduceMul, Nat.reduceSub, Nat.reduceEqDiff, ↓reduceIte, Nat.reduceLT, reduceCtorEq, Nat.reduceLeDiff, Int.reduceToNat, Int.reduceEq, Int.reduceLE, Int.reduceLT, Nat.reduceBEq]
    refine ends_weak ⟨[(2, (.os 0 1 0 a0.length a0.length false))], [(0, some (true, .arr false 1 (a0.map eS)))], 1, 8⟩ (weak_of (m := 0) [some 1] rfl rfl rfl (by rfl) ?_ ?_) ?_
    all_goals ((try simp (disch := assumption) only [go_sem, Nat.reduceAdd, Nat.reduceMul, Nat.reduceSub, Nat.reduceEqDiff, ↓reduceIte, Nat.reduceLT, reduceCtorEq, Nat.reduceLeDiff, Int.reduceToNat, Int.reduceEq, Int.reduceLE, Int.reduceLT, Nat.reduceBEq]); (repeat' first | done | rfl | omega | refine And.intro ?_ ?_ | (simp; done) | (simp; omega)))
theorem w_impl_cloneState {a0 : StateT} {r : StateT} (h : impl_cloneState a0 = some r) : Fn Tryd.prog 54 [(.ag [(.lf false (.sc (.int .i64 a0.Status))), (.lf false (.sc (.int .i64 a0.Next))), (.lf false (.sc (.bool a0.Cancel))), (.lf false (.sc (.int .i64 a0.Done))), (.lf true (.sl (a0.Signals.map eS))), (.lf true (.sl (a0.Timers.map eS)))])] [] 0 (.ag [(.lf false (.sc (.int .i64 r.Status))), (.lf false (.sc (.int .i64 r.Next))), (.lf false (.sc (.bool r.Cancel))), (.lf false (.sc (.int .i64 r.Done))), (.os 0 1 0 r.Signals.length r.Signals.length false), (.os 1 1 0 r.Timers.length r.Timers.length false)]) [(0, some (true, .arr false 1 (r.Signals.map eS))), (1, some (true, .arr false 1 (r.Timers.map eS)))] 3 := by
  unfold impl_cloneState at h
  refine fn_code tab_ok mixed [(1, [(4, 2)]), (1000, [(1, 0), (2, 0)]), (1001, [(1, 0), (2, 0)]), (1002, [(2, 0)])] Tryd.func54 rfl rfl (by simp [Tryd.f54]) (by kernel_rfl) ?_
  simp only [Tryd.f54]
  refine sA ?_
  obtain ⟨c200, hr1, h⟩ := bind_ok h
  refine Cl_sA (w_slices_Clone_string hr1) ?_
  try refine sA ?_
  obtain ⟨c201, hr2, h⟩ := bind_ok h
  refine Cl_sA (w_slices_Clone_string hr2) ?_
  try refine sA ?_
  have he := Option.some.inj h
  subst he
  exact endsA ⟨[(2, (.pb 2 0))], [(0, some (true, .arr false 1 (c200.map eS))), (1, some (true, .arr false 1 (c201.map eS))), (2, some (true, .box [(.lf false (.sc (.int .i64 a0.Status))), (.lf false (.sc (.int .i64 a0.Next))), (.lf false (.sc (.bool a0.Cancel))), (.lf false (.sc (.int .i64 a0.Done))), (.os 0 1 0 c200.length c200.length false), (.os 1 1 0 c201.length c201.length false)]))], 3, 12⟩ [some 2, some 3, some 1]
theorem w_slices_isNaN_string {a0 : ByteArray} {r : Bool} (h : slices_isNaN_string a0 = some r) : Fn Tryd.prog 85 [(.lf false (.sc (.string a0)))] [] 0 (.lf false (.sc (.bool r))) [] 0 := by
  unfold slices_isNaN_string at h
  refine fn_code tab_ok mixed [] Tryd.func85 rfl rfl (by simp [Tryd.f85]) (by kernel_rfl) ?_
  simp only [Tryd.f85]
  refine sA ?_
  have he := Option.some.inj h
  subst he
  exact endsA ⟨[(2, (.lf false (.sc (.bool (!(a0.toList == a0.toList))))))], [], 0, 6⟩ []
theorem w_slices_BinarySearch_string {a0 : (List ByteArray)} {a1 : ByteArray} {r : (Int × Bool)} (h : slices_BinarySearch_string a0 a1 = some r) : Fn Tryd.prog 74 [(.lf true (.sl (a0.map eS))), (.lf false (.sc (.string a1)))] [] 0 (.tu [(.lf false (.sc (.int .i64 r.1))), (.lf false (.sc (.bool r.2)))]) [] 0 := by
  unfold slices_BinarySearch_string at h
  refine fn_code tab_ok mixed [(1000, [(0, 0), (1, 0)]), (1001, [(0, 0), (1, 0), (6, 0)]), (1002, [(0, 0), (1, 0), (6, 0), (7, 0), (8, 0)]), (1003, [(0, 0), (1, 0), (6, 0), (7, 0), (8, 0), (15, 0)]), (1004, [(0, 0), (1, 0), (6, 0), (7, 0), (8, 0), (9, 0)]), (1005, [(0, 0), (1, 0), (6, 0), (7, 0), (8, 0), (9, 0), (27, 0)]), (1006, [(0, 0), (1, 0), (6, 0), (7, 0), (8, 0)]), (1007, [(0, 0), (1, 0), (6, 0), (7, 0), (8, 0)]), (1008, [(4, 0), (5, 0)])] Tryd.func74 rfl rfl (by simp [Tryd.f74]) (by kernel_rfl) ?_
  simp only [Tryd.f74]
  refine sA ?_
  obtain ⟨y209, hl1, h⟩ := bind_ok h
  refine W_loopP (fun g206 : slices_BinarySearch_string_G1 => ⟨[(0, (.lf true (.sl (a0.map eS)))), (1, (.lf false (.sc (.string a1)))), (6, (.lf false (.sc (.int .i64 ((a0.length : Nat) : Int))))), (7, (.lf false (.sc (.int .i64 g206.t7)))), (8, (.lf false (.sc (.int .i64 g206.t8))))], [], 0, 54⟩) (slices_BinarySearch_string_L1 a0 a1) _ _ hl1 (weakA []) ?_
  · intro n1 g206 z1 hs1 hk1
    unfold slices_BinarySearch_string_L1 at hs1
    try dsimp only at hs1
    refine sA ?_
    refine Bs_if hs1 (fun hs1 hc2 => ?_) (fun hs1 hc2 => ?_)
    · try refine sA ?_
      obtain ⟨hp3, hs1⟩ := guard_some hs1
      have hn3 : (wI (shR 64 (wU (wI (g206.t7 + g206.t8))) 1)).toNat < a0.length := by first | omega | (simp only [List.length_set, List.length_append, List.length_replicate, List.length_map]; omega)
      try refine sA ?_
      try refine andA ?_
      obtain ⟨c208, hr4, hs1⟩ := bind_ok hs1
      refine Cl_sA (w_cmp_Less_string hr4) ?_
      try refine sA ?_
      refine Bs_if hs1 (fun hs1 hc5 => ?_) (fun hs1 hc5 => ?_)
      · try refine sA ?_
        cases hs1
        exact X_backP hk1 (weakA [])
      · try refine sA ?_
        cases hs1
        exact X_backP hk1 (weakA [])
    · try refine sA ?_
      cases hs1
      cases hk1
      try dsimp only at h
      try refine sA ?_
      refine Sp_if h (fun h hc6 => ?_) (fun h hc6 => ?_)
      · try refine sA ?_
        obtain ⟨hp7, h⟩ := guard_some h
        have hn7 : g206.t7.toNat < a0.length := by first | omega | (simp only [List.length_set, List.length_append, List.length_replicate, List.length_map]; omega)
        try refine sA ?_
        try refine andA ?_
        refine Sp_if h (fun h hc8 => ?_) (fun h hc8 => ?_)
        · try refine sA ?_
          have he := Option.some.inj h
          subst he
          exact endsA ⟨[(4, (.lf false (.sc (.int .i64 g206.t7)))), (5, (.lf false (.sc (.bool true))))], [], 0, 54⟩ []
        · try refine sA ?_
          obtain ⟨hp9, h⟩ := guard_some h
          have hn9 : g206.t7.toNat < a0.length := by first | omega | (simp only [List.length_set, List.length_append, List.length_replicate, List.length_map]; omega)
          try refine sA ?_
          try refine andA ?_
          obtain ⟨c212, hr10, h⟩ := bind_ok h
          refine Cl_sA (w_slices_isNaN_string hr10) ?_
          try refine sA ?_
          refine Sp_if h (fun h hc11 => ?_) (fun h hc11 => ?_)
          · try refine sA ?_
            obtain ⟨c213, hr12, h⟩ := bind_ok h
            refine Cl_sA (w_slices_isNaN_string hr12) ?_
            try refine sA ?_
            have he := Option.some.inj h
            subst he
            exact endsA ⟨[(4, (.lf false (.sc (.int .i64 g206.t7)))), (5, (.lf false (.sc (.bool c213))))], [], 0, 54⟩ []
          · try refine sA ?_
            have he := Option.some.inj h
            subst he
            exact endsA ⟨[(4, (.lf false (.sc (.int .i64 g206.t7)))), (5, (.lf false (.sc (.bool false))))], [], 0, 54⟩ []
      · try refine sA ?_
        have he := Option.some.inj h
        subst he
        exact endsA ⟨[(4, (.lf false (.sc (.int .i64 g206.t7)))), (5, (.lf false (.sc (.bool false))))], [], 0, 54⟩ []
theorem w_slices_Delete_string_w {a0 : List ByteArray} {a1 a2 : Int} {m0 : Nat} {x0 : Bool} {r : List ByteArray} (h : slices_Delete_string_w a0 a1 a2 = some r) : Fn Tryd.prog 75 [(.os 0 1 0 a0.length m0 x0), (.lf false (.sc (.int .i64 a1))), (.lf false (.sc (.int .i64 a2)))] [(0, some (false, .arr true 1 (a0.map eS)))] 1 (.os 1 1 0 r.length r.length false) [(0, none), (1, some (false, .arr false 1 (r.map eS)))] 2 := by
  unfold slices_Delete_string_w at h
  obtain ⟨⟨hp1, hp2, hp3, hp4⟩, h⟩ := guard_some h
  have he := Option.some.inj h; subst he
  refine fn_code tab_ok mixed [] Tryd.func75 rfl rfl (by simp [Tryd.f75]) (by kernel_rfl) ?_
  simp only [Tryd.f75]
  simp (disch := assumption) only [go_sem, Nat.reduceAdd, Nat.reduceMul, Nat.reduceSub, Nat.reduceEqDiff, ↓reduceIte, Nat.reduceLT, reduceCtorEq, Nat.reduceLeDiff, Int.reduceToNat, Int.reduceEq, Int.reduceLE, Int.reduceLT, Nat.reduceBEq]
  refine And.intro (by omega) ?_
  try simp (disch := assumption) only [go_sem, Nat.reduceAdd, Nat.reduceMul, Nat.reduceSub, Nat.reduceEqDiff, ↓reduceIte, Nat.reduceLT, reduceCtorEq, Nat.reduceLeDiff, Int.reduceToNat, Int.reduceEq, Int.reduceLE, Int.reduceLT, Nat.reduceBEq]
  refine Bs_splitC (a1 == a2) (by first | rfl | simp) (fun hc => ?_) (fun hc => ?_)
  · try simp (disch := assumption) only [go_sem, Nat.reduceAdd, Nat.reduceMul, Nat.reduceSub, Nat.reduceEqDiff, ↓reduceIte, Nat.reduceLT, reduceCtorEq, Nat.reduceLeDiff, Int.reduceToNat, Int.reduceEq, Int.reduceLE, Int.reduceLT, Nat.reduceBEq]
    have he : a1 = a2 := by simpa using hc
    have hr : a0.take a1.toNat ++ a0.drop a2.toNat = a0 := by rw [he]; exact List.take_append_drop _ _
    rw [hr]
    refine ends_weak ⟨[(6, (.os 1 1 0 a0.length a0.length false))], [(0, none), (1, some (false, .arr false 1 (a0.map eS)))], 2, 33⟩ (weak_of (m := 1) [some 0, some 0] rfl rfl rfl (by rfl) ?_ ?_) ?_
    all_goals ((try simp (disch := assumption) only [go_sem, Nat.reduceAdd, Nat.reduceMul, Nat.reduceSub, Nat.reduceEqDiff, ↓reduceIte, Nat.reduceLT, reduceCtorEq, Nat.reduceLeDiff, Int.reduceToNat, Int.reduceEq, Int.reduceLE, Int.reduceLT, Nat.reduceBEq]); (repeat' first | done | rfl | omega | refine And.intro ?_ ?_ | (simp; done) | (simp; omega)))
  · try simp (disch := assumption) only [go_sem, Nat.reduceAdd, Nat.reduceMul, Nat.reduceSub, Nat.reduceEqDiff, ↓reduceIte, Nat.reduceLT, reduceCtorEq, Nat.reduceLeDiff, Int.reduceToNat, Int.reduceEq, Int.reduceLE, Int.reduceLT, Nat.reduceBEq]
    refine And.intro (by omega) (And.intro (by omega) ?_)
    have hs : a2.toNat + (a0.length - a2.toNat) ≤ a0.length := by omega
    simp (disch := assumption) only [go_sem, Nat.reduceAdd, Nat.reduceMul, Nat.reduceSub, Nat.reduceEqDiff, ↓reduceIte, Nat.reduceLT, reduceCtorEq, Nat.reduceLeDiff, Int.reduceToNat, Int.reduceEq, Int.reduceLE, Int.reduceLT, Nat.reduceBEq, hs]
    have hd : (a0.drop a2.toNat).length = a0.length - a2.toNat := List.length_drop
    have ht : (a0.take a1.toNat).length = a1.toNat := by rw [List.length_take]; omega
    have hR : (a0.take a1.toNat ++ a0.drop a2.toNat).length = a1.toNat + (a0.drop a2.toNat).length := by rw [List.length_append, ht]
    refine And.intro ⟨by omega, (by first | exact mapLen fun _ => rfl | simp), by omega⟩ (And.intro ⟨by omega, by omega, by omega⟩ (And.intro (by omega) ?_))
    refine ends_weak ⟨[(6, (.os 1 1 0 (a0.take a1.toNat ++ a0.drop a2.toNat).length (a0.take a1.toNat ++ a0.drop a2.toNat).length false))], [(0, none), (1, some (false, .arr false 1 ((a0.take a1.toNat ++ a0.drop a2.toNat).map eS)))], 2, 33⟩ (weak_of (m := 1) [some 0, some 1] rfl rfl rfl (by rfl) ?_ ?_) ?_
    all_goals ((try simp (disch := assumption) only [go_sem, Nat.reduceAdd, Nat.reduceMul, Nat.reduceSub, Nat.reduceEqDiff, ↓reduceIte, Nat.reduceLT, reduceCtorEq, Nat.reduceLeDiff, Int.reduceToNat, Int.reduceEq, Int.reduceLE, Int.reduceLT, Nat.reduceBEq]); (repeat' first | done | rfl | omega | refine And.intro ?_ ?_ | (simp; done) | (simp; omega)))
theorem w_slices_Insert_string_w {a0 : List ByteArray} {a1 : Int} {a2 : List ByteArray} {m0 m2 : Nat} {x0 x2 : Bool} {r : List ByteArray} (h : slices_Insert_string_w a0 a1 a2 = some r) : Fn Tryd.prog 76 [(.os 0 1 0 a0.length m0 x0), (.lf false (.sc (.int .i64 a1))), (.os 1 1 0 a2.length m2 x2)] [(0, some (false, .arr true 1 (a0.map eS))), (1, some (false, .arr true 1 (a2.map eS)))] 2 (.os 2 1 0 r.length r.length false) [(0, none), (1, none), (2, some (false, .arr false 1 (r.map eS)))] 3 := by
  unfold slices_Insert_string_w at h
  obtain ⟨⟨hp1, hp2, hp3, hp4⟩, h⟩ := guard_some h
  have he := Option.some.inj h; subst he
  obtain ⟨x, rfl⟩ := List.length_eq_one_iff.1 hp1
  rw [List.append_assoc, List.singleton_append]
  exact fn_insert Go.Proofs.Tryd.lays22 (Ent.of Tryd.func76 rfl (by simp [Tryd.f76])) (fun _ => rfl) hp2 hp3 hp4
theorem w_impl_State_turnTimer_o {a0 : StateT} {a1 : ByteArray} {m1 : Nat} {x1 : Bool} {m2 : Nat} {x2 : Bool} {r : (Bool × StateT)} (h : impl_State_turnTimer_o a0 a1 = some r) : Fn Tryd.prog 68 [(.pb 0 0), (.lf false (.sc (.string a1)))] [(0, some (false, .box [(.lf false (.sc (.int .i64 a0.Status))), (.lf false (.sc (.int .i64 a0.Next))), (.lf false (.sc (.bool a0.Cancel))), (.lf false (.sc (.int .i64 a0.Done))), (.os 1 1 0 a0.Signals.length m1 x1), (.os 2 1 0 a0.Timers.length m2 x2)])), (1, some (false, .arr true 1 (a0.Signals.map eS))), (2, some (false, .arr true 1 (a0.Timers.map eS)))] 3 (.lf false (.sc (.bool r.1))) [(0, some (false, .box [(.lf false (.sc (.int .i64 r.2.Status))), (.lf false (.sc (.int .i64 r.2.Next))), (.lf false (.sc (.bool r.2.Cancel))), (.lf false (.sc (.int .i64 r.2.Done))), (.os 1 1 0 a0.Signals.length a0.Signals.length false), (.os 3 1 0 r.2.Timers.length r.2.Timers.length false)])), (1, some (false, .arr false 1 (a0.Signals.map eS))), (2, none), (3, some (false, .arr false 1 (r.2.Timers.map eS)))] 4 := by
  unfold impl_State_turnTimer_o at h
  refine fn_code tab_ok mixed [(1000, [(0, 0), (1, 0)]), (1001, [(0, 0), (1, 0), (5, 0), (6, 0)]), (1002, []), (1003, [(0, 0), (1, 0), (5, 0), (27, 0)]), (1004, []), (1005, [(0, 0), (1, 0), (5, 0), (40, 0)]), (1006, [(4, 0)]), (1007, [(4, 0)])] Tryd.func68 rfl rfl (by simp [Tryd.f68]) (by kernel_rfl) ?_
  simp only [Tryd.f68]
  refine sA ?_
  obtain ⟨c214, hr1, h⟩ := bind_ok h
  refine Cl_sA (w_slices_BinarySearch_string hr1) ?_
  try refine sA ?_
  refine Bs_if h (fun h hc2 => ?_) (fun h hc2 => ?_)
  · try refine sA ?_
    obtain ⟨c215, hr3, h⟩ := bind_ok h
    refine Cl_hA [2] (w_slices_Delete_string_w hr3) ?_
    try refine sA ?_
    have he := Option.some.inj h
    subst he
    exact endsA ⟨[(4, (.lf false (.sc (.bool true))))], [(0, some (false, .box [(.lf false (.sc (.int .i64 a0.Status))), (.lf false (.sc (.int .i64 a0.Next))), (.lf false (.sc (.bool a0.Cancel))), (.lf false (.sc (.int .i64 a0.Done))), (.os 1 1 0 a0.Signals.length a0.Signals.length false), (.os 3 1 0 c215.length c215.length false)])), (1, some (false, .arr false 1 (a0.Signals.map eS))), (2, none), (3, some (false, .arr false 1 (c215.map eS)))], 4, 47⟩ [some 0, some 1, some 2, some 3]
  · try refine sA ?_
    refine Bs_if h (fun h hc4 => ?_) (fun h hc4 => ?_)
    · try refine sA ?_
      have he := Option.some.inj h
      subst he
      exact endsA ⟨[(4, (.lf false (.sc (.bool false))))], [(0, some (false, .box [(.lf false (.sc (.int .i64 a0.Status))), (.lf false (.sc (.int .i64 a0.Next))), (.lf false (.sc (.bool a0.Cancel))), (.lf false (.sc (.int .i64 a0.Done))), (.os 1 1 0 a0.Signals.length a0.Signals.length false), (.os 3 1 0 a0.Timers.length a0.Timers.length false)])), (1, some (false, .arr false 1 (a0.Signals.map eS))), (2, none), (3, some (false, .arr false 1 (a0.Timers.map eS)))], 4, 47⟩ [some 0, some 1, some 2, some 2]
    · try refine sA ?_
      obtain ⟨c216, hr5, h⟩ := bind_ok h
      refine Cl_hA [2, 3] (w_slices_Insert_string_w hr5) ?_
      try refine sA ?_
      have he := Option.some.inj h
      subst he
      exact endsA ⟨[(4, (.lf false (.sc (.bool true))))], [(0, some (false, .box [(.lf false (.sc (.int .i64 a0.Status))), (.lf false (.sc (.int .i64 a0.Next))), (.lf false (.sc (.bool a0.Cancel))), (.lf false (.sc (.int .i64 a0.Done))), (.os 1 1 0 a0.Signals.length a0.Signals.length false), (.os 3 1 0 c216.length c216.length false)])), (1, some (false, .arr false 1 (a0.Signals.map eS))), (2, none), (3, some (false, .arr false 1 (c216.map eS)))], 4, 47⟩ [some 0, some 1, some 2, some 4]
theorem w_impl_State_apply_o {a0 : StateT} {a1 : Int} {a2 : ByteArray} {m1 : Nat} {x1 : Bool} {m2 : Nat} {x2 : Bool} {r : (Bool × StateT)} (h : impl_State_apply_o a0 a1 a2 = some r) : Fn Tryd.prog 55 [(.pb 0 0), (.lf false (.sc (.int .i64 a1))), (.lf false (.sc (.string a2)))] [(0, some (false, .box [(.lf false (.sc (.int .i64 a0.Status))), (.lf false (.sc (.int .i64 a0.Next))), (.lf false (.sc (.bool a0.Cancel))), (.lf false (.sc (.int .i64 a0.Done))), (.os 1 1 0 a0.Signals.length m1 x1), (.os 2 1 0 a0.Timers.length m2 x2)])), (1, some (false, .arr true 1 (a0.Signals.map eS))), (2, some (false, .arr true 1 (a0.Timers.map eS)))] 3 (.lf false (.sc (.bool r.1))) [(0, some (false, .box [(.lf false (.sc (.int .i64 r.2.Status))), (.lf false (.sc (.int .i64 r.2.Next))), (.lf false (.sc (.bool r.2.Cancel))), (.lf false (.sc (.int .i64 r.2.Done))), (.os 3 1 0 r.2.Signals.length r.2.Signals.length false), (.os 4 1 0 r.2.Timers.length r.2.Timers.length false)])), (1, none), (2, none), (3, some (false, .arr false 1 (r.2.Signals.map eS))), (4, some (false, .arr false 1 (r.2.Timers.map eS)))] 5 := by
  unfold impl_State_apply_o at h
  refine fn_code tab_ok mixed [(1000, [(0, 0), (1, 0), (2, 0)]), (1001, [(0, 0), (1, 0), (2, 0), (32, 0)]), (1002, [(6, 0)]), (1003, [(0, 0), (2, 0), (33, 0)]), (1004, [(0, 0), (2, 0), (33, 0), (34, 0)]), (1005, [(0, 0)]), (1006, [(0, 0), (2, 0), (33, 0), (39, 0)]), (1007, [(0, 0), (2, 0), (54, 0)]), (1008, [(6, 0)]), (1009, [(0, 0)]), (1010, [(0, 0), (2, 0), (33, 0), (65, 0)]), (1011, [(0, 0)]), (1012, [(0, 0), (2, 0), (33, 0), (74, 0)]), (1013, [(0, 0), (79, 0)]), (1014, [(6, 0)]), (1015, [(0, 0), (33, 0), (80, 0)]), (1016, [(0, 0), (85, 0)]), (1017, [(6, 0)]), (1018, [(0, 0)]), (1019, [(0, 0), (89, 0)]), (1020, [(0, 0)]), (1021, []), (1022, [(6, 0)]), (4001, []), (4007, [])] Tryd.func55 rfl rfl (by simp [Tryd.f55]) (by kernel_rfl) ?_
  simp only [Tryd.f55]
  refine sA ?_
  obtain ⟨p219, hq1, h⟩ := bind_ok h
  refine Sq_cut (fun s2 => s2 = ⟨[(0, (.pb 0 0)), (1, (.lf false (.sc (.int .i64 a1)))), (2, (.lf false (.sc (.string a2)))), (32, (.lf false (.sc (.bool p219.t32))))], [(0, some (false, .box [(.lf false (.sc (.int .i64 a0.Status))), (.lf false (.sc (.int .i64 a0.Next))), (.lf false (.sc (.bool a0.Cancel))), (.lf false (.sc (.int .i64 a0.Done))), (.os 1 1 0 a0.Signals.length m1 x1), (.os 2 1 0 a0.Timers.length m2 x2)])), (1, some (false, .arr true 1 (a0.Signals.map eS))), (2, some (false, .arr true 1 (a0.Timers.map eS)))], 3, 104⟩) ?_ ?_
  · try refine sA ?_
    refine Sp_if hq1 (fun hq1 hc2 => ?_) (fun hq1 hc2 => ?_)
    · try refine sA ?_
      cases hq1
      exact X_cut rfl (weakA [some 0, some 1, some 2])
    · try refine sA ?_
      refine Sp_if hq1 (fun hq1 hc3 => ?_) (fun hq1 hc3 => ?_)
      · try refine sA ?_
        cases hq1
        exact X_cut rfl (weakA [some 0, some 1, some 2])
      · try refine sA ?_
        refine Sp_if hq1 (fun hq1 hc4 => ?_) (fun hq1 hc4 => ?_)
        · try refine sA ?_
          cases hq1
          exact X_cut rfl (weakA [some 0, some 1, some 2])
        · try refine sA ?_
          cases hq1
          exact X_cut rfl (weakA [some 0, some 1, some 2])
  · intro s2 hJ; subst hJ
    try dsimp only at h
    try refine sA ?_
    refine Bs_if h (fun h hc5 => ?_) (fun h hc5 => ?_)
    · try refine sA ?_
      have he := Option.some.inj h
      subst he
      exact endsA ⟨[(6, (.lf false (.sc (.bool false))))], [(0, some (false, .box [(.lf false (.sc (.int .i64 a0.Status))), (.lf false (.sc (.int .i64 a0.Next))), (.lf false (.sc (.bool a0.Cancel))), (.lf false (.sc (.int .i64 a0.Done))), (.os 3 1 0 a0.Signals.length a0.Signals.length false), (.os 4 1 0 a0.Timers.length a0.Timers.length false)])), (1, none), (2, none), (3, some (false, .arr false 1 (a0.Signals.map eS))), (4, some (false, .arr false 1 (a0.Timers.map eS)))], 5, 104⟩ [some 0, some 1, some 2, some 1, some 2]
    · try refine sA ?_
      refine Bs_if h (fun h hc6 => ?_) (fun h hc6 => ?_)
      · try refine sA ?_
        have he := Option.some.inj h
        subst he
        exact endsA ⟨[(6, (.lf false (.sc (.bool true))))], [(0, some (false, .box [(.lf false (.sc (.int .i64 1))), (.lf false (.sc (.int .i64 (wI (a0.Next + 1))))), (.lf false (.sc (.bool a0.Cancel))), (.lf false (.sc (.int .i64 a0.Done))), (.os 3 1 0 a0.Signals.length a0.Signals.length false), (.os 4 1 0 a0.Timers.length a0.Timers.length false)])), (1, none), (2, none), (3, some (false, .arr false 1 (a0.Signals.map eS))), (4, some (false, .arr false 1 (a0.Timers.map eS)))], 5, 104⟩ [some 0, some 1, some 2, some 1, some 2]
      · try refine sA ?_
        refine Bs_if h (fun h hc7 => ?_) (fun h hc7 => ?_)
        · try refine sA ?_
          obtain ⟨p221, hq8, h⟩ := bind_ok h
          refine Sq_cut (fun s2 => s2 = ⟨[(0, (.pb 0 0)), (2, (.lf false (.sc (.string a2)))), (54, (.lf false (.sc (.bool p221.t54))))], [(0, some (false, .box [(.lf false (.sc (.int .i64 a0.Status))), (.lf false (.sc (.int .i64 a0.Next))), (.lf false (.sc (.bool a0.Cancel))), (.lf false (.sc (.int .i64 a0.Done))), (.os 1 1 0 a0.Signals.length m1 x1), (.os 2 1 0 a0.Timers.length m2 x2)])), (1, some (false, .arr true 1 (a0.Signals.map eS))), (2, some (false, .arr true 1 (a0.Timers.map eS)))], 3, 104⟩) ?_ ?_
          · try refine sA ?_
            obtain ⟨c220, hr9, hq8⟩ := bind_ok hq8
            refine Cl_sA (w_slices_Contains_string hr9) ?_
            try refine sA ?_
            refine Sp_if hq8 (fun hq8 hc10 => ?_) (fun hq8 hc10 => ?_)
            · try refine sA ?_
              cases hq8
              exact X_cut rfl (weakA [some 0, some 1, some 2])
            · try refine sA ?_
              cases hq8
              exact X_cut rfl (weakA [some 0, some 1, some 2])
          · intro s2 hJ; subst hJ
            try dsimp only at h
            try refine sA ?_
            refine Bs_if h (fun h hc11 => ?_) (fun h hc11 => ?_)
            · try refine sA ?_
              have he := Option.some.inj h
              subst he
              exact endsA ⟨[(6, (.lf false (.sc (.bool false))))], [(0, some (false, .box [(.lf false (.sc (.int .i64 a0.Status))), (.lf false (.sc (.int .i64 a0.Next))), (.lf false (.sc (.bool a0.Cancel))), (.lf false (.sc (.int .i64 a0.Done))), (.os 3 1 0 a0.Signals.length a0.Signals.length false), (.os 4 1 0 a0.Timers.length a0.Timers.length false)])), (1, none), (2, none), (3, some (false, .arr false 1 (a0.Signals.map eS))), (4, some (false, .arr false 1 (a0.Timers.map eS)))], 5, 104⟩ [some 0, some 1, some 2, some 1, some 2]
            · try refine sA ?_
              obtain ⟨hp12, h⟩ := guard_some h
              try refine sA ?_
              try refine andA ?_
              have he := Option.some.inj h
              subst he
              exact endsA ⟨[(6, (.lf false (.sc (.bool true))))], [(0, some (false, .box [(.lf false (.sc (.int .i64 a0.Status))), (.lf false (.sc (.int .i64 (wI (a0.Next + 1))))), (.lf false (.sc (.bool a0.Cancel))), (.lf false (.sc (.int .i64 a0.Done))), (.os 3 1 0 ((a0.Signals ++ ([a2])).length) ((a0.Signals ++ ([a2])).length) false), (.os 4 1 0 a0.Timers.length a0.Timers.length false)])), (1, none), (2, none), (3, some (false, .arr false 1 ((a0.Signals ++ ([a2])).map eS))), (4, some (false, .arr false 1 (a0.Timers.map eS)))], 5, 104⟩ [some 0, some 1, some 2, some 4, some 2]
        · try refine sA ?_
          refine Bs_if h (fun h hc13 => ?_) (fun h hc13 => ?_)
          · try refine sA ?_
            have he := Option.some.inj h
            subst he
            exact endsA ⟨[(6, (.lf false (.sc (.bool true))))], [(0, some (false, .box [(.lf false (.sc (.int .i64 a0.Status))), (.lf false (.sc (.int .i64 (wI (a0.Next + 1))))), (.lf false (.sc (.bool a0.Cancel))), (.lf false (.sc (.int .i64 (wI (a0.Done + 1))))), (.os 3 1 0 a0.Signals.length a0.Signals.length false), (.os 4 1 0 a0.Timers.length a0.Timers.length false)])), (1, none), (2, none), (3, some (false, .arr false 1 (a0.Signals.map eS))), (4, some (false, .arr false 1 (a0.Timers.map eS)))], 5, 104⟩ [some 0, some 1, some 2, some 1, some 2]
          · try refine sA ?_
            refine Bs_if h (fun h hc14 => ?_) (fun h hc14 => ?_)
            · try refine sA ?_
              obtain ⟨c222, hr15, h⟩ := bind_ok h
              refine Cl_hA [0, 1, 2] (w_impl_State_turnTimer_o hr15) ?_
              try refine sA ?_
              refine Bs_if h (fun h hc16 => ?_) (fun h hc16 => ?_)
              · try refine sA ?_
                have he := Option.some.inj h
                subst he
                exact endsA ⟨[(6, (.lf false (.sc (.bool false))))], [(0, some (false, .box [(.lf false (.sc (.int .i64 c222.2.Status))), (.lf false (.sc (.int .i64 c222.2.Next))), (.lf false (.sc (.bool c222.2.Cancel))), (.lf false (.sc (.int .i64 c222.2.Done))), (.os 3 1 0 a0.Signals.length a0.Signals.length false), (.os 4 1 0 c222.2.Timers.length c222.2.Timers.length false)])), (1, none), (2, none), (3, some (false, .arr false 1 (a0.Signals.map eS))), (4, some (false, .arr false 1 (c222.2.Timers.map eS)))], 5, 104⟩ [some 0, some 1, some 2, some 1, some 3]
              · try refine sA ?_
                have he := Option.some.inj h
                subst he
                exact endsA ⟨[(6, (.lf false (.sc (.bool true))))], [(0, some (false, .box [(.lf false (.sc (.int .i64 c222.2.Status))), (.lf false (.sc (.int .i64 (wI (c222.2.Next + 1))))), (.lf false (.sc (.bool c222.2.Cancel))), (.lf false (.sc (.int .i64 c222.2.Done))), (.os 3 1 0 a0.Signals.length a0.Signals.length false), (.os 4 1 0 c222.2.Timers.length c222.2.Timers.length false)])), (1, none), (2, none), (3, some (false, .arr false 1 (a0.Signals.map eS))), (4, some (false, .arr false 1 (c222.2.Timers.map eS)))], 5, 104⟩ [some 0, some 1, some 2, some 1, some 3]
            · try refine sA ?_
              refine Bs_if h (fun h hc17 => ?_) (fun h hc17 => ?_)
              · try refine sA ?_
                refine Bs_if h (fun h hc18 => ?_) (fun h hc18 => ?_)
                · try refine sA ?_
                  have he := Option.some.inj h
                  subst he
                  exact endsA ⟨[(6, (.lf false (.sc (.bool false))))], [(0, some (false, .box [(.lf false (.sc (.int .i64 a0.Status))), (.lf false (.sc (.int .i64 a0.Next))), (.lf false (.sc (.bool a0.Cancel))), (.lf false (.sc (.int .i64 a0.Done))), (.os 3 1 0 a0.Signals.length a0.Signals.length false), (.os 4 1 0 a0.Timers.length a0.Timers.length false)])), (1, none), (2, none), (3, some (false, .arr false 1 (a0.Signals.map eS))), (4, some (false, .arr false 1 (a0.Timers.map eS)))], 5, 104⟩ [some 0, some 1, some 2, some 1, some 2]
                · try refine sA ?_
                  have he := Option.some.inj h
                  subst he
                  exact endsA ⟨[(6, (.lf false (.sc (.bool true))))], [(0, some (false, .box [(.lf false (.sc (.int .i64 a0.Status))), (.lf false (.sc (.int .i64 (wI (a0.Next + 1))))), (.lf false (.sc (.bool true))), (.lf false (.sc (.int .i64 a0.Done))), (.os 3 1 0 a0.Signals.length a0.Signals.length false), (.os 4 1 0 a0.Timers.length a0.Timers.length false)])), (1, none), (2, none), (3, some (false, .arr false 1 (a0.Signals.map eS))), (4, some (false, .arr false 1 (a0.Timers.map eS)))], 5, 104⟩ [some 0, some 1, some 2, some 1, some 2]
              · try refine sA ?_
                refine Bs_if h (fun h hc19 => ?_) (fun h hc19 => ?_)
                · try refine sA ?_
                  have he := Option.some.inj h
                  subst he
                  exact endsA ⟨[(6, (.lf false (.sc (.bool true))))], [(0, some (false, .box [(.lf false (.sc (.int .i64 2))), (.lf false (.sc (.int .i64 (wI (a0.Next + 1))))), (.lf false (.sc (.bool a0.Cancel))), (.lf false (.sc (.int .i64 a0.Done))), (.os 3 1 0 a0.Signals.length a0.Signals.length false), (.os 4 1 0 (([] : List ByteArray).length) (([] : List ByteArray).length) false)])), (1, none), (2, none), (3, some (false, .arr false 1 (a0.Signals.map eS))), (4, some (false, .arr false 1 (([] : List ByteArray).map eS)))], 5, 104⟩ [some 0, some 1, some 2, some 1, none]
                · try refine sA ?_
                  have he := Option.some.inj h
                  subst he
                  exact endsA ⟨[(6, (.lf false (.sc (.bool true))))], [(0, some (false, .box [(.lf false (.sc (.int .i64 a0.Status))), (.lf false (.sc (.int .i64 (wI (a0.Next + 1))))), (.lf false (.sc (.bool a0.Cancel))), (.lf false (.sc (.int .i64 a0.Done))), (.os 3 1 0 a0.Signals.length a0.Signals.length false), (.os 4 1 0 a0.Timers.length a0.Timers.length false)])), (1, none), (2, none), (3, some (false, .arr false 1 (a0.Signals.map eS))), (4, some (false, .arr false 1 (a0.Timers.map eS)))], 5, 104⟩ [some 0, some 1, some 2, some 1, some 2]
theorem w_impl_ApplyEvent {a0 : StateT} {a1 : EventT} {r : (StateT × Bool)} (h : impl_ApplyEvent a0 a1 = some r) : Fn Tryd.prog 44 [(.ag [(.lf false (.sc (.int .i64 a0.Status))), (.lf false (.sc (.int .i64 a0.Next))), (.lf false (.sc (.bool a0.Cancel))), (.lf false (.sc (.int .i64 a0.Done))), (.lf true (.sl (a0.Signals.map eS))), (.lf true (.sl (a0.Timers.map eS)))]), (.ag [(.lf false (.sc (.int .i64 a1.Id))), (.lf false (.sc (.int .i64 a1.Version))), (.lf false (.sc (.int .i64 a1.Kind))), (.lf false (.sc (.string a1.Name)))])] [] 0 (.tu [(.ag [(.lf false (.sc (.int .i64 r.1.Status))), (.lf false (.sc (.int .i64 r.1.Next))), (.lf false (.sc (.bool r.1.Cancel))), (.lf false (.sc (.int .i64 r.1.Done))), (.os 0 1 0 r.1.Signals.length r.1.Signals.length false), (.os 1 1 0 r.1.Timers.length r.1.Timers.length false)]), (.lf false (.sc (.bool r.2)))]) [(0, some (false, .arr false 1 (r.1.Signals.map eS))), (1, some (false, .arr false 1 (r.1.Timers.map eS)))] 3 := by
  unfold impl_ApplyEvent at h
  refine fn_code tab_ok mixed [(1000, [(2, 0), (3, 0), (4, 0)]), (1001, [(2, 0), (3, 0), (4, 0), (21, 0)]), (1002, [(4, 0), (5, 0)]), (1003, [(3, 0), (4, 0), (6, 0)]), (1004, [(4, 0), (6, 0), (35, 0)]), (1005, [(4, 0), (5, 0)]), (1006, [(4, 0), (5, 0)]), (4001, []), (4004, [])] Tryd.func44 rfl rfl (by simp [Tryd.f44]) (by kernel_rfl) ?_
  simp only [Tryd.f44]
  refine sA ?_
  obtain ⟨p199, hq1, h⟩ := bind_ok h
  refine Sq_cut (fun s2 => s2 = ⟨[(2, (.pb 0 0)), (3, (.pb 1 0)), (4, (.pb 2 0)), (21, (.lf false (.sc (.bool p199.t21))))], [(0, some (true, .box [(.lf false (.sc (.int .i64 a0.Status))), (.lf false (.sc (.int .i64 a0.Next))), (.lf false (.sc (.bool a0.Cancel))), (.lf false (.sc (.int .i64 a0.Done))), (.lf true (.sl (a0.Signals.map eS))), (.lf true (.sl (a0.Timers.map eS)))])), (1, some (true, .box [(.lf false (.sc (.int .i64 a1.Id))), (.lf false (.sc (.int .i64 a1.Version))), (.lf false (.sc (.int .i64 a1.Kind))), (.lf false (.sc (.string a1.Name)))])), (2, some (true, .box [(.lf false (.sc (.int .i64 0))), (.lf false (.sc (.int .i64 0))), (.lf false (.sc (.bool false))), (.lf false (.sc (.int .i64 0))), .nl, .nl]))], 3, 38⟩) ?_ ?_
  · try refine sA ?_
    obtain ⟨c191, hr2, hq1⟩ := bind_ok hq1
    refine Cl_sA (w_impl_GoodState hr2) ?_
    try refine sA ?_
    refine Sp_if hq1 (fun hq1 hc3 => ?_) (fun hq1 hc3 => ?_)
    · try refine sA ?_
      cases hq1
      exact X_cut rfl (weakA [some 0, some 1, some 2])
    · try refine sA ?_
      obtain ⟨c198, hr4, hq1⟩ := bind_ok hq1
      refine Cl_sA (w_impl_GoodEvent hr4) ?_
      try refine sA ?_
      refine Sp_if hq1 (fun hq1 hc5 => ?_) (fun hq1 hc5 => ?_)
      · try refine sA ?_
        cases hq1
        exact X_cut rfl (weakA [some 0, some 1, some 2])
      · try refine sA ?_
        cases hq1
        exact X_cut rfl (weakA [some 0, some 1, some 2])
  · intro s2 hJ; subst hJ
    try dsimp only at h
    try refine sA ?_
    refine Bs_if h (fun h hc6 => ?_) (fun h hc6 => ?_)
    · try refine sA ?_
      have he := Option.some.inj h
      subst he
      exact endsA ⟨[(4, (.pb 2 0)), (5, (.lf false (.sc (.bool false))))], [(0, some (false, .arr false 1 (([] : List ByteArray).map eS))), (1, some (false, .arr false 1 (([] : List ByteArray).map eS))), (2, some (true, .box [(.lf false (.sc (.int .i64 0))), (.lf false (.sc (.int .i64 0))), (.lf false (.sc (.bool false))), (.lf false (.sc (.int .i64 0))), (.os 0 1 0 (([] : List ByteArray).length) (([] : List ByteArray).length) false), (.os 1 1 0 (([] : List ByteArray).length) (([] : List ByteArray).length) false)]))], 3, 38⟩ [none, none, some 2]
    · try refine sA ?_
      obtain ⟨c202, hr7, h⟩ := bind_ok h
      refine Cl_sA (w_impl_cloneState hr7) ?_
      try refine sA ?_
      obtain ⟨p225, hq8, h⟩ := bind_ok h
      refine Sq_cut (fun s2 => s2 = ⟨[(4, (.pb 0 0)), (6, (.pb 1 0)), (35, (.lf false (.sc (.bool p225.t35))))], [(0, some (true, .box [(.lf false (.sc (.int .i64 0))), (.lf false (.sc (.int .i64 0))), (.lf false (.sc (.bool false))), (.lf false (.sc (.int .i64 0))), .nl, .nl])), (1, some (true, .box [(.lf false (.sc (.int .i64 p225.b1_0))), (.lf false (.sc (.int .i64 p225.b1_1))), (.lf false (.sc (.bool p225.b1_2))), (.lf false (.sc (.int .i64 p225.b1_3))), (.os 2 1 0 p225.c2.length p225.c2.length false), (.os 3 1 0 p225.c3.length p225.c3.length false)])), (2, some (false, .arr false 1 (p225.c2.map eS))), (3, some (false, .arr false 1 (p225.c3.map eS)))], 4, 38⟩) ?_ ?_
      · try refine sA ?_
        obtain ⟨c223, hr9, hq8⟩ := bind_ok hq8
        refine Cl_hA [6, 3, 4] (w_impl_State_apply_o hr9) ?_
        try refine sA ?_
        refine Sp_if hq8 (fun hq8 hc10 => ?_) (fun hq8 hc10 => ?_)
        · try refine sA ?_
          cases hq8
          exact X_cut rfl (weakA [some 2, some 6, some 7, some 8])
        · try refine sA ?_
          obtain ⟨c224, hr11, hq8⟩ := bind_ok hq8
          refine Cl_sA (w_impl_GoodState hr11) ?_
          try refine sA ?_
          cases hq8
          exact X_cut rfl (weakA [some 2, some 6, some 7, some 8])
      · intro s2 hJ; subst hJ
        try dsimp only at h
        try refine sA ?_
        refine Bs_if h (fun h hc12 => ?_) (fun h hc12 => ?_)
        · try refine sA ?_
          have he := Option.some.inj h
          subst he
          exact endsA ⟨[(4, (.pb 2 0)), (5, (.lf false (.sc (.bool false))))], [(0, some (false, .arr false 1 (([] : List ByteArray).map eS))), (1, some (false, .arr false 1 (([] : List ByteArray).map eS))), (2, some (true, .box [(.lf false (.sc (.int .i64 0))), (.lf false (.sc (.int .i64 0))), (.lf false (.sc (.bool false))), (.lf false (.sc (.int .i64 0))), (.os 0 1 0 (([] : List ByteArray).length) (([] : List ByteArray).length) false), (.os 1 1 0 (([] : List ByteArray).length) (([] : List ByteArray).length) false)]))], 3, 38⟩ [none, none, some 0]
        · try refine sA ?_
          have he := Option.some.inj h
          subst he
          exact endsA ⟨[(4, (.pb 2 0)), (5, (.lf false (.sc (.bool true))))], [(0, some (false, .arr false 1 (p225.c2.map eS))), (1, some (false, .arr false 1 (p225.c3.map eS))), (2, some (true, .box [(.lf false (.sc (.int .i64 p225.b1_0))), (.lf false (.sc (.int .i64 p225.b1_1))), (.lf false (.sc (.bool p225.b1_2))), (.lf false (.sc (.int .i64 p225.b1_3))), (.os 0 1 0 p225.c2.length p225.c2.length false), (.os 1 1 0 p225.c3.length p225.c3.length false)]))], 3, 38⟩ [some 2, some 3, some 0]
theorem w_impl_FoldEvents {a0 : (List EventT)} {r : (StateT × Int)} (h : impl_FoldEvents a0 = some r) : Fn Tryd.prog 36 [(.lf true (.sl (a0.map eEvent)))] [] 0 (.tu [(.ag [(.lf false (.sc (.int .i64 r.1.Status))), (.lf false (.sc (.int .i64 r.1.Next))), (.lf false (.sc (.bool r.1.Cancel))), (.lf false (.sc (.int .i64 r.1.Done))), (.os 0 1 0 r.1.Signals.length r.1.Signals.length false), (.os 1 1 0 r.1.Timers.length r.1.Timers.length false)]), (.lf false (.sc (.int .i64 r.2)))]) [(0, some (false, .arr false 1 (r.1.Signals.map eS))), (1, some (false, .arr false 1 (r.1.Timers.map eS)))] 3 := by
  unfold impl_FoldEvents at h
  refine fn_code tab_ok mixed [(1000, [(0, 0), (2, 0)]), (1001, [(0, 0), (2, 0), (4, 0)]), (1002, [(0, 0), (2, 0), (4, 0), (10, 0), (11, 0), (12, 0)]), (1003, [(0, 0), (2, 0), (4, 0), (10, 0), (11, 0), (12, 0), (13, 0)]), (1004, [(0, 0), (2, 0), (4, 0), (5, 0), (6, 0), (10, 0), (11, 0), (12, 0)]), (1005, [(0, 0), (2, 0), (4, 0), (5, 0), (7, 0), (8, 0), (10, 0), (11, 0), (12, 0)]), (1006, [(0, 0), (2, 0), (4, 0), (5, 0), (7, 0), (10, 0), (11, 0), (12, 0), (24, 0)]), (1007, [(2, 0), (3, 0)]), (1008, [(0, 0), (2, 0), (4, 0), (10, 0), (11, 0), (12, 0)]), (1009, [(0, 0), (2, 0), (4, 0), (10, 0), (11, 0), (12, 0)]), (1010, [(2, 0), (3, 0)])] Tryd.func36 rfl rfl (by simp [Tryd.f36]) (by kernel_rfl) ?_
  simp only [Tryd.f36]
  refine sA ?_
  obtain ⟨c150, hr1, h⟩ := bind_ok h
  refine Cl_sA (w_impl_NewState hr1) ?_
  try refine sA ?_
  obtain ⟨y228, hl2, h⟩ := bind_ok h
  refine W_loopP (fun g151 : impl_FoldEvents_G1 => ⟨[(0, (.lf true (.sl (a0.map eEvent)))), (2, (.pb 0 0)), (4, (.pb 1 0)), (10, (.lf true (.sl (a0.map eEvent)))), (11, (.lf false (.sc (.int .i64 ((a0.length : Nat) : Int))))), (12, (.lf false (.sc (.int .i64 g151.t12))))], [(0, some (true, .box [(.lf false (.sc (.int .i64 0))), (.lf false (.sc (.int .i64 0))), (.lf false (.sc (.bool false))), (.lf false (.sc (.int .i64 0))), .nl, .nl])), (1, some (true, .box [(.lf false (.sc (.int .i64 g151.b1_0))), (.lf false (.sc (.int .i64 g151.b1_1))), (.lf false (.sc (.bool g151.b1_2))), (.lf false (.sc (.int .i64 g151.b1_3))), (.os 2 1 0 g151.c2.length g151.c2.length false), (.os 3 1 0 g151.c3.length g151.c3.length false)])), (2, some (false, .arr false 1 (g151.c2.map eS))), (3, some (false, .arr false 1 (g151.c3.map eS)))], 4, 32⟩) (impl_FoldEvents_L1 a0) _ _ hl2 (weakA [some 0, some 2, none, none]) ?_
  · intro n1 g151 z1 hs1 hk1
    unfold impl_FoldEvents_L1 at hs1
    try dsimp only at hs1
    refine sA ?_
    refine Bs_if hs1 (fun hs1 hc3 => ?_) (fun hs1 hc3 => ?_)
    · try refine sA ?_
      obtain ⟨hp4, hs1⟩ := guard_some hs1
      have hn4 : g151.t12.toNat < a0.length := by first | omega | (simp only [List.length_set, List.length_append, List.length_replicate, List.length_map]; omega)
      try refine sA ?_
      try refine andA ?_
      obtain ⟨c227, hr5, hs1⟩ := bind_ok hs1
      refine Cl_sA (w_impl_ApplyEvent hr5) ?_
      try refine sA ?_
      refine Bs_if hs1 (fun hs1 hc6 => ?_) (fun hs1 hc6 => ?_)
      · try refine sA ?_
        cases hs1
        cases hk1
        try dsimp only at h
        try refine sA ?_
        have he := Option.some.inj h
        subst he
        exact endsA ⟨[(2, (.pb 2 0)), (3, (.lf false (.sc (.int .i64 g151.t12))))], [(0, some (false, .arr false 1 (g151.c2.map eS))), (1, some (false, .arr false 1 (g151.c3.map eS))), (2, some (true, .box [(.lf false (.sc (.int .i64 g151.b1_0))), (.lf false (.sc (.int .i64 g151.b1_1))), (.lf false (.sc (.bool g151.b1_2))), (.lf false (.sc (.int .i64 g151.b1_3))), (.os 0 1 0 g151.c2.length g151.c2.length false), (.os 1 1 0 g151.c3.length g151.c3.length false)]))], 3, 32⟩ [some 2, some 3, some 0]
      · try refine sA ?_
        cases hs1
        exact X_backP hk1 (weakA [some 0, some 1, some 5, some 6])
    · try refine sA ?_
      cases hs1
      cases hk1
      try dsimp only at h
      try refine sA ?_
      have he := Option.some.inj h
      subst he
      exact endsA ⟨[(2, (.pb 2 0)), (3, (.lf false (.sc (.int .i64 ((a0.length : Nat) : Int)))))], [(0, some (false, .arr false 1 (g151.c2.map eS))), (1, some (false, .arr false 1 (g151.c3.map eS))), (2, some (true, .box [(.lf false (.sc (.int .i64 g151.b1_0))), (.lf false (.sc (.int .i64 g151.b1_1))), (.lf false (.sc (.bool g151.b1_2))), (.lf false (.sc (.int .i64 g151.b1_3))), (.os 0 1 0 g151.c2.length g151.c2.length false), (.os 1 1 0 g151.c3.length g151.c3.length false)]))], 3, 32⟩ [some 2, some 3, some 0]
theorem w_impl_IsHistory {a0 : (List EventT)} {r : Bool} (h : impl_IsHistory a0 = some r) : Fn Tryd.prog 28 [(.lf true (.sl (a0.map eEvent)))] [] 0 (.lf false (.sc (.bool r))) [] 0 := by
  unfold impl_IsHistory at h
  refine fn_code tab_ok mixed [(1000, [(0, 0)]), (1001, [(0, 0), (9, 0)]), (1002, [(2, 0)]), (1003, [(0, 0), (10, 0), (11, 0), (12, 0)]), (1004, [(0, 0), (10, 0), (11, 0), (12, 0), (13, 0)]), (1005, [(0, 0), (3, 0), (4, 0), (10, 0), (11, 0), (12, 0)]), (1006, [(0, 0), (10, 0), (11, 0), (12, 0), (29, 0)]), (1007, [(2, 0)]), (1008, [(0, 0), (10, 0), (11, 0), (12, 0)]), (1009, [(0, 0), (6, 0)]), (1010, [(2, 0)]), (4006, [])] Tryd.func28 rfl rfl (by simp [Tryd.f28]) (by kernel_rfl) ?_
  simp only [Tryd.f28]
  refine sA ?_
  refine Bs_if h (fun h hc1 => ?_) (fun h hc1 => ?_)
  · try refine sA ?_
    have he := Option.some.inj h
    subst he
    exact endsA ⟨[(2, (.lf false (.sc (.bool false))))], [], 0, 40⟩ []
  · try refine sA ?_
    obtain ⟨y147, hl2, h⟩ := bind_ok h
    refine W_loopP (fun g144 : impl_IsHistory_G1 => ⟨[(0, (.lf true (.sl (a0.map eEvent)))), (10, (.lf true (.sl (a0.map eEvent)))), (11, (.lf false (.sc (.int .i64 ((a0.length : Nat) : Int))))), (12, (.lf false (.sc (.int .i64 g144.t12))))], [], 0, 40⟩) (impl_IsHistory_L1 a0) _ _ hl2 (weakA []) ?_
    · intro n1 g144 z1 hs1 hk1
      unfold impl_IsHistory_L1 at hs1
      try dsimp only at hs1
      refine sA ?_
      refine Bs_if hs1 (fun hs1 hc3 => ?_) (fun hs1 hc3 => ?_)
      · try refine sA ?_
        obtain ⟨hp4, hs1⟩ := guard_some hs1
        have hn4 : g144.t12.toNat < a0.length := by first | omega | (simp only [List.length_set, List.length_append, List.length_replicate, List.length_map]; omega)
        try refine sA ?_
        try refine andA ?_
        obtain ⟨p146, hq5, hs1⟩ := bind_ok hs1
        refine Sq_cut (fun s2 => s2 = ⟨[(0, (.lf true (.sl (a0.map eEvent)))), (10, (.lf true (.sl (a0.map eEvent)))), (11, (.lf false (.sc (.int .i64 ((a0.length : Nat) : Int))))), (12, (.lf false (.sc (.int .i64 g144.t12)))), (29, (.lf false (.sc (.bool p146.t29))))], [], 0, 40⟩) ?_ ?_
        · try refine sA ?_
          refine Sp_if hq5 (fun hq5 hc6 => ?_) (fun hq5 hc6 => ?_)
          · try refine sA ?_
            obtain ⟨hp7, hq5⟩ := guard_some hq5
            have hn7 : (wI (g144.t12 - 1)).toNat < a0.length := by first | omega | (simp only [List.length_set, List.length_append, List.length_replicate, List.length_map]; omega)
            try refine sA ?_
            try refine andA ?_
            cases hq5
            exact X_cut rfl (weakA [])
          · try refine sA ?_
            cases hq5
            exact X_cut rfl (weakA [])
        · intro s2 hJ; subst hJ
          try dsimp only at hs1
          try refine sA ?_
          refine Bs_if hs1 (fun hs1 hc8 => ?_) (fun hs1 hc8 => ?_)
          · try refine sA ?_
            cases hs1
            cases hk1
            try dsimp only at h
            try refine sA ?_
            have he := Option.some.inj h
            subst he
            exact endsA ⟨[(2, (.lf false (.sc (.bool false))))], [], 0, 40⟩ []
          · try refine sA ?_
            cases hs1
            exact X_backP hk1 (weakA [])
      · try refine sA ?_
        cases hs1
        cases hk1
        try dsimp only at h
        try refine sA ?_
        obtain ⟨c232, hr9, h⟩ := bind_ok h
        refine Cl_sA (w_impl_FoldEvents hr9) ?_
        try refine sA ?_
        have he := Option.some.inj h
        subst he
        exact endsA ⟨[(2, (.lf false (.sc (.bool (c232.2 == ((a0.length : Nat) : Int))))))], [], 0, 40⟩ []
theorem w_impl_isTelling {a0 : (List EventT)} {r : Bool} (h : impl_isTelling a0 = some r) : Fn Tryd.prog 21 [(.lf true (.sl (a0.map eEvent)))] [] 0 (.lf false (.sc (.bool r))) [] 0 := by
  unfold impl_isTelling at h
  refine fn_code tab_ok mixed [] Tryd.func21 rfl rfl (by simp [Tryd.f21]) (by kernel_rfl) ?_
  simp only [Tryd.f21]
  refine sA ?_
  refine Sp_if h (fun h hc1 => ?_) (fun h hc1 => ?_)
  · try refine sA ?_
    obtain ⟨c233, hr2, h⟩ := bind_ok h
    refine Cl_sA (w_impl_IsHistory hr2) ?_
    try refine sA ?_
    have he := Option.some.inj h
    subst he
    exact endsA ⟨[(2, (.lf false (.sc (.bool c233))))], [], 0, 10⟩ []
  · try refine sA ?_
    have he := Option.some.inj h
    subst he
    exact endsA ⟨[(2, (.lf false (.sc (.bool false))))], [], 0, 10⟩ []
theorem w_cmp_isNaN_int {a0 : Int} {r : Bool} (h : cmp_isNaN_int a0 = some r) : Fn Tryd.prog 45 [(.lf false (.sc (.int .i64 a0)))] [] 0 (.lf false (.sc (.bool r))) [] 0 := by
  unfold cmp_isNaN_int at h
  refine fn_code tab_ok mixed [] Tryd.func45 rfl rfl (by simp [Tryd.f45]) (by kernel_rfl) ?_
  simp only [Tryd.f45]
  refine sA ?_
  have he := Option.some.inj h
  subst he
  exact endsA ⟨[(2, (.lf false (.sc (.bool (a0 != a0)))))], [], 0, 6⟩ []
theorem w_cmp_Compare_int {a0 : Int} {a1 : Int} {r : Int} (h : cmp_Compare_int a0 a1 = some r) : Fn Tryd.prog 38 [(.lf false (.sc (.int .i64 a0))), (.lf false (.sc (.int .i64 a1)))] [] 0 (.lf false (.sc (.int .i64 r))) [] 0 := by
  unfold cmp_Compare_int at h
  refine fn_code tab_ok mixed [(1000, [(0, 0), (1, 0)]), (1001, [(0, 0), (1, 0), (5, 0)]), (1002, [(0, 0), (1, 0), (5, 0), (6, 0)]), (1003, [(0, 0), (1, 0), (6, 0), (11, 0)]), (1004, [(12, 0)]), (1005, [(4, 0)]), (1006, [(4, 0)]), (1007, [(0, 0), (1, 0), (13, 0)]), (1008, [(4, 0)]), (1009, [(0, 0), (1, 0), (16, 0)]), (1010, [(4, 0)]), (1011, [(19, 0)]), (1012, [(4, 0)]), (1013, [(4, 0)])] Tryd.func38 rfl rfl (by simp [Tryd.f38]) (by kernel_rfl) ?_
  simp only [Tryd.f38]
  refine sA ?_
  obtain ⟨c237, hr1, h⟩ := bind_ok h
  refine Cl_sA (w_cmp_isNaN_int hr1) ?_
  try refine sA ?_
  obtain ⟨c238, hr2, h⟩ := bind_ok h
  refine Cl_sA (w_cmp_isNaN_int hr2) ?_
  try refine sA ?_
  refine Bs_if h (fun h hc3 => ?_) (fun h hc3 => ?_)
  · try refine sA ?_
    refine Bs_if h (fun h hc4 => ?_) (fun h hc4 => ?_)
    · try refine sA ?_
      have he := Option.some.inj h
      subst he
      exact endsA ⟨[(4, (.lf false (.sc (.int .i64 0))))], [], 0, 20⟩ []
    · try refine sA ?_
      have he := Option.some.inj h
      subst he
      exact endsA ⟨[(4, (.lf false (.sc (.int .i64 (-1)))))], [], 0, 20⟩ []
  · try refine sA ?_
    refine Bs_if h (fun h hc5 => ?_) (fun h hc5 => ?_)
    · try refine sA ?_
      have he := Option.some.inj h
      subst he
      exact endsA ⟨[(4, (.lf false (.sc (.int .i64 1))))], [], 0, 20⟩ []
    · try refine sA ?_
      refine Bs_if h (fun h hc6 => ?_) (fun h hc6 => ?_)
      · try refine sA ?_
        have he := Option.some.inj h
        subst he
        exact endsA ⟨[(4, (.lf false (.sc (.int .i64 (-1)))))], [], 0, 20⟩ []
      · try refine sA ?_
        refine Bs_if h (fun h hc7 => ?_) (fun h hc7 => ?_)
        · try refine sA ?_
          have he := Option.some.inj h
          subst he
          exact endsA ⟨[(4, (.lf false (.sc (.int .i64 1))))], [], 0, 20⟩ []
        · try refine sA ?_
          have he := Option.some.inj h
          subst he
          exact endsA ⟨[(4, (.lf false (.sc (.int .i64 0))))], [], 0, 20⟩ []
theorem w_cmp_Compare_string {a0 : ByteArray} {a1 : ByteArray} {r : Int} (h : cmp_Compare_string a0 a1 = some r) : Fn Tryd.prog 39 [(.lf false (.sc (.string a0))), (.lf false (.sc (.string a1)))] [] 0 (.lf false (.sc (.int .i64 r))) [] 0 := by
  unfold cmp_Compare_string at h
  refine fn_code tab_ok mixed [(1000, [(0, 0), (1, 0)]), (1001, [(0, 0), (1, 0), (5, 0)]), (1002, [(0, 0), (1, 0), (5, 0), (6, 0)]), (1003, [(0, 0), (1, 0), (6, 0), (11, 0)]), (1004, [(12, 0)]), (1005, [(4, 0)]), (1006, [(4, 0)]), (1007, [(0, 0), (1, 0), (13, 0)]), (1008, [(4, 0)]), (1009, [(0, 0), (1, 0), (16, 0)]), (1010, [(4, 0)]), (1011, [(19, 0)]), (1012, [(4, 0)]), (1013, [(4, 0)])] Tryd.func39 rfl rfl (by simp [Tryd.f39]) (by kernel_rfl) ?_
  simp only [Tryd.f39]
  refine sA ?_
  obtain ⟨c241, hr1, h⟩ := bind_ok h
  refine Cl_sA (w_cmp_isNaN_string hr1) ?_
  try refine sA ?_
  obtain ⟨c242, hr2, h⟩ := bind_ok h
  refine Cl_sA (w_cmp_isNaN_string hr2) ?_
  try refine sA ?_
  refine Bs_if h (fun h hc3 => ?_) (fun h hc3 => ?_)
  · try refine sA ?_
    refine Bs_if h (fun h hc4 => ?_) (fun h hc4 => ?_)
    · try refine sA ?_
      have he := Option.some.inj h
      subst he
      exact endsA ⟨[(4, (.lf false (.sc (.int .i64 0))))], [], 0, 20⟩ []
    · try refine sA ?_
      have he := Option.some.inj h
      subst he
      exact endsA ⟨[(4, (.lf false (.sc (.int .i64 (-1)))))], [], 0, 20⟩ []
  · try refine sA ?_
    refine Bs_if h (fun h hc5 => ?_) (fun h hc5 => ?_)
    · try refine sA ?_
      have he := Option.some.inj h
      subst he
      exact endsA ⟨[(4, (.lf false (.sc (.int .i64 1))))], [], 0, 20⟩ []
    · try refine sA ?_
      refine Bs_if h (fun h hc6 => ?_) (fun h hc6 => ?_)
      · try refine sA ?_
        have he := Option.some.inj h
        subst he
        exact endsA ⟨[(4, (.lf false (.sc (.int .i64 (-1)))))], [], 0, 20⟩ []
      · try refine sA ?_
        refine Bs_if h (fun h hc7 => ?_) (fun h hc7 => ?_)
        · try refine sA ?_
          have he := Option.some.inj h
          subst he
          exact endsA ⟨[(4, (.lf false (.sc (.int .i64 1))))], [], 0, 20⟩ []
        · try refine sA ?_
          have he := Option.some.inj h
          subst he
          exact endsA ⟨[(4, (.lf false (.sc (.int .i64 0))))], [], 0, 20⟩ []
theorem w_cmp_Or_int {a0 : (List Int)} {r : Int} (h : cmp_Or_int a0 = some r) : Fn Tryd.prog 37 [(.lf true (.sl (a0.map eI)))] [] 0 (.lf false (.sc (.int .i64 r))) [] 0 := by
  unfold cmp_Or_int at h
  refine fn_code tab_ok mixed [(1000, [(0, 0)]), (1001, [(0, 0), (3, 0)]), (1002, [(3, 0), (6, 0), (7, 0), (8, 0)]), (1003, [(3, 0), (6, 0), (7, 0), (8, 0), (9, 0)]), (1004, [(3, 0), (5, 0), (6, 0), (7, 0), (8, 0)]), (1005, [(3, 0), (5, 0), (6, 0), (7, 0), (8, 0), (14, 0)]), (1006, [(2, 0)]), (1007, [(3, 0), (6, 0), (7, 0), (8, 0)]), (1008, [(2, 0)])] Tryd.func37 rfl rfl (by simp [Tryd.f37]) (by kernel_rfl) ?_
  simp only [Tryd.f37]
  refine sA ?_
  obtain ⟨y245, hl1, h⟩ := bind_ok h
  refine W_loopP (fun g244 : cmp_Or_int_G1 => ⟨[(3, (.lf false (.sc (.int .i64 0)))), (6, (.lf true (.sl (a0.map eI)))), (7, (.lf false (.sc (.int .i64 ((a0.length : Nat) : Int))))), (8, (.lf false (.sc (.int .i64 g244.t8))))], [], 0, 18⟩) (cmp_Or_int_L1 a0) _ _ hl1 (weakA []) ?_
  · intro n1 g244 z1 hs1 hk1
    unfold cmp_Or_int_L1 at hs1
    try dsimp only at hs1
    refine sA ?_
    refine Bs_if hs1 (fun hs1 hc2 => ?_) (fun hs1 hc2 => ?_)
    · try refine sA ?_
      obtain ⟨hp3, hs1⟩ := guard_some hs1
      have hn3 : g244.t8.toNat < a0.length := by first | omega | (simp only [List.length_set, List.length_append, List.length_replicate, List.length_map]; omega)
      try refine sA ?_
      try refine andA ?_
      refine Bs_if hs1 (fun hs1 hc4 => ?_) (fun hs1 hc4 => ?_)
      · try refine sA ?_
        cases hs1
        cases hk1
        try dsimp only at h
        try refine sA ?_
        have he := Option.some.inj h
        subst he
        exact endsA ⟨[(2, (.lf false (.sc (.int .i64 (nth a0 g244.t8.toNat)))))], [], 0, 18⟩ []
      · try refine sA ?_
        cases hs1
        exact X_backP hk1 (weakA [])
    · try refine sA ?_
      cases hs1
      cases hk1
      try dsimp only at h
      try refine sA ?_
      have he := Option.some.inj h
      subst he
      exact endsA ⟨[(2, (.lf false (.sc (.int .i64 0))))], [], 0, 18⟩ []
theorem w_impl_eventOrder {a0 : EventT} {a1 : EventT} {r : Int} (h : impl_eventOrder a0 a1 = some r) : Fn Tryd.prog 30 [(.ag [(.lf false (.sc (.int .i64 a0.Id))), (.lf false (.sc (.int .i64 a0.Version))), (.lf false (.sc (.int .i64 a0.Kind))), (.lf false (.sc (.string a0.Name)))]), (.ag [(.lf false (.sc (.int .i64 a1.Id))), (.lf false (.sc (.int .i64 a1.Version))), (.lf false (.sc (.int .i64 a1.Kind))), (.lf false (.sc (.string a1.Name)))])] [] 0 (.lf false (.sc (.int .i64 r))) [] 0 := by
  unfold impl_eventOrder at h
  refine fn_code tab_ok mixed [(1, [(6, 4), (8, 4), (11, 4), (11, 9), (13, 4), (13, 9)])] Tryd.func30 rfl rfl (by simp [Tryd.f30]) (by kernel_rfl) ?_
  simp only [Tryd.f30]
  refine sA ?_
  obtain ⟨c239, hr1, h⟩ := bind_ok h
  refine Cl_sA (w_cmp_Compare_int hr1) ?_
  try refine sA ?_
  obtain ⟨c240, hr2, h⟩ := bind_ok h
  refine Cl_sA (w_cmp_Compare_int hr2) ?_
  try refine sA ?_
  obtain ⟨c243, hr3, h⟩ := bind_ok h
  refine Cl_sA (w_cmp_Compare_string hr3) ?_
  try refine sA ?_
  obtain ⟨c248, hr4, h⟩ := bind_ok h
  refine Cl_sA (w_cmp_Or_int hr4) ?_
  try refine sA ?_
  have he := Option.some.inj h
  subst he
  exact endsA ⟨[(4, (.lf false (.sc (.int .i64 c248))))], [], 0, 22⟩ []
theorem w_slices_CompareFunc_impl_Event_impl_eventOrder {a0 : (List EventT)} {a1 : (List EventT)} {r : Int} (h : slices_CompareFunc_impl_Event_impl_eventOrder a0 a1 = some r) : Fn Tryd.prog 29 [(.lf true (.sl (a0.map eEvent))), (.lf true (.sl (a1.map eEvent))), (.fn 30 [])] [] 0 (.lf false (.sc (.int .i64 r))) [] 0 := by
  unfold slices_CompareFunc_impl_Event_impl_eventOrder at h
  refine fn_code tab_ok mixed [(1000, [(0, 0), (1, 0), (2, 0)]), (1001, [(0, 0), (1, 0), (2, 0), (11, 0), (12, 0), (13, 0)]), (1002, [(0, 0), (1, 0), (2, 0), (11, 0), (12, 0), (13, 0), (14, 0)]), (1003, [(0, 0), (1, 0), (2, 0), (7, 0), (8, 0), (11, 0), (12, 0), (13, 0)]), (1004, [(0, 0), (1, 0), (2, 0), (7, 0), (8, 0), (11, 0), (12, 0), (13, 0), (21, 0)]), (1005, [(6, 0)]), (1006, [(0, 0), (1, 0), (2, 0), (8, 0), (9, 0), (11, 0), (12, 0), (13, 0)]), (1007, [(0, 0), (1, 0), (2, 0), (10, 0), (11, 0), (12, 0), (13, 0)]), (1008, [(0, 0), (1, 0), (2, 0), (10, 0), (11, 0), (12, 0), (13, 0), (31, 0)]), (1009, [(6, 0)]), (1010, [(0, 0), (1, 0), (2, 0), (11, 0), (12, 0), (13, 0)]), (1011, [(38, 0)]), (1012, [(6, 0)]), (1013, [(6, 0)])] Tryd.func29 rfl rfl (by simp [Tryd.f29]) (by kernel_rfl) ?_
  simp only [Tryd.f29]
  refine sA ?_
  obtain ⟨y251, hl1, h⟩ := bind_ok h
  refine W_loopP (fun g236 : slices_CompareFunc_impl_Event_impl_eventOrder_G1 => ⟨[(0, (.lf true (.sl (a0.map eEvent)))), (1, (.lf true (.sl (a1.map eEvent)))), (2, (.fn 30 [])), (11, (.lf true (.sl (a0.map eEvent)))), (12, (.lf false (.sc (.int .i64 ((a0.length : Nat) : Int))))), (13, (.lf false (.sc (.int .i64 g236.t13))))], [], 0, 39⟩) (slices_CompareFunc_impl_Event_impl_eventOrder_L1 a0 a1) _ _ hl1 (weakA []) ?_
  · intro n1 g236 z1 hs1 hk1
    unfold slices_CompareFunc_impl_Event_impl_eventOrder_L1 at hs1
    try dsimp only at hs1
    refine sA ?_
    refine Bs_if hs1 (fun hs1 hc2 => ?_) (fun hs1 hc2 => ?_)
    · try refine sA ?_
      obtain ⟨hp3, hs1⟩ := guard_some hs1
      have hn3 : g236.t13.toNat < a0.length := by first | omega | (simp only [List.length_set, List.length_append, List.length_replicate, List.length_map]; omega)
      try refine sA ?_
      try refine andA ?_
      refine Bs_if hs1 (fun hs1 hc4 => ?_) (fun hs1 hc4 => ?_)
      · try refine sA ?_
        cases hs1
        cases hk1
        try dsimp only at h
        try refine sA ?_
        have he := Option.some.inj h
        subst he
        exact endsA ⟨[(6, (.lf false (.sc (.int .i64 1))))], [], 0, 39⟩ []
      · try refine sA ?_
        obtain ⟨hp5, hs1⟩ := guard_some hs1
        have hn5 : g236.t13.toNat < a1.length := by first | omega | (simp only [List.length_set, List.length_append, List.length_replicate, List.length_map]; omega)
        try refine sA ?_
        try refine andA ?_
        obtain ⟨c250, hr6, hs1⟩ := bind_ok hs1
        refine Cl_sA (w_impl_eventOrder hr6) ?_
        try refine sA ?_
        refine Bs_if hs1 (fun hs1 hc7 => ?_) (fun hs1 hc7 => ?_)
        · try refine sA ?_
          cases hs1
          cases hk1
          try dsimp only at h
          try refine sA ?_
          have he := Option.some.inj h
          subst he
          exact endsA ⟨[(6, (.lf false (.sc (.int .i64 c250))))], [], 0, 39⟩ []
        · try refine sA ?_
          cases hs1
          exact X_backP hk1 (weakA [])
    · try refine sA ?_
      cases hs1
      cases hk1
      try dsimp only at h
      try refine sA ?_
      refine Bs_if h (fun h hc8 => ?_) (fun h hc8 => ?_)
      · try refine sA ?_
        have he := Option.some.inj h
        subst he
        exact endsA ⟨[(6, (.lf false (.sc (.int .i64 (-1)))))], [], 0, 39⟩ []
      · try refine sA ?_
        have he := Option.some.inj h
        subst he
        exact endsA ⟨[(6, (.lf false (.sc (.int .i64 0))))], [], 0, 39⟩ []
theorem w_impl_branchOrder {a0 : (List EventT)} {a1 : (List EventT)} {r : Int} (h : impl_branchOrder a0 a1 = some r) : Fn Tryd.prog 22 [(.lf true (.sl (a0.map eEvent))), (.lf true (.sl (a1.map eEvent)))] [] 0 (.lf false (.sc (.int .i64 r))) [] 0 := by
  unfold impl_branchOrder at h
  refine fn_code tab_ok mixed [] Tryd.func22 rfl rfl (by simp [Tryd.f22]) (by kernel_rfl) ?_
  simp only [Tryd.f22]
  refine sA ?_
  obtain ⟨c254, hr1, h⟩ := bind_ok h
  refine Cl_sA (w_slices_CompareFunc_impl_Event_impl_eventOrder hr1) ?_
  try refine sA ?_
  have he := Option.some.inj h
  subst he
  exact endsA ⟨[(4, (.lf false (.sc (.int .i64 c254))))], [], 0, 8⟩ []
theorem w_slices_Equal_impl_Event {a0 : (List EventT)} {a1 : (List EventT)} {r : Bool} (h : slices_Equal_impl_Event a0 a1 = some r) : Fn Tryd.prog 31 [(.lf true (.sl (a0.map eEvent))), (.lf true (.sl (a1.map eEvent)))] [] 0 (.lf false (.sc (.bool r))) [] 0 := by
  unfold slices_Equal_impl_Event at h
  refine fn_code tab_ok mixed [(1000, [(0, 0), (1, 0)]), (1001, [(0, 0), (1, 0), (10, 0)]), (1002, [(4, 0)]), (1003, [(0, 0), (1, 0), (12, 0), (13, 0)]), (1004, [(0, 0), (1, 0), (12, 0), (13, 0), (14, 0)]), (1005, [(0, 0), (1, 0), (5, 0), (12, 0), (13, 0)]), (1006, [(0, 0), (1, 0), (12, 0), (13, 0), (24, 0)]), (1007, [(4, 0)]), (1008, [(0, 0), (1, 0), (12, 0), (13, 0)]), (1009, [(4, 0)])] Tryd.func31 rfl rfl (by simp [Tryd.f31]) (by kernel_rfl) ?_
  simp only [Tryd.f31]
  refine sA ?_
  refine Bs_if h (fun h hc1 => ?_) (fun h hc1 => ?_)
  · try refine sA ?_
    have he := Option.some.inj h
    subst he
    exact endsA ⟨[(4, (.lf false (.sc (.bool false))))], [], 0, 26⟩ []
  · try refine sA ?_
    obtain ⟨y257, hl2, h⟩ := bind_ok h
    refine W_loopP (fun g256 : slices_Equal_impl_Event_G1 => ⟨[(0, (.lf true (.sl (a0.map eEvent)))), (1, (.lf true (.sl (a1.map eEvent)))), (12, (.lf false (.sc (.int .i64 ((a0.length : Nat) : Int))))), (13, (.lf false (.sc (.int .i64 g256.t13))))], [], 0, 26⟩) (slices_Equal_impl_Event_L1 a0 a1) _ _ hl2 (weakA []) ?_
    · intro n1 g256 z1 hs1 hk1
      unfold slices_Equal_impl_Event_L1 at hs1
      try dsimp only at hs1
      refine sA ?_
      refine Bs_if hs1 (fun hs1 hc3 => ?_) (fun hs1 hc3 => ?_)
      · try refine sA ?_
        obtain ⟨hp4, hs1⟩ := guard_some hs1
        have hn4 : g256.t13.toNat < a0.length := by first | omega | (simp only [List.length_set, List.length_append, List.length_replicate, List.length_map]; omega)
        try refine sA ?_
        try refine andA ?_
        obtain ⟨hp5, hs1⟩ := guard_some hs1
        have hn5 : g256.t13.toNat < a1.length := by first | omega | (simp only [List.length_set, List.length_append, List.length_replicate, List.length_map]; omega)
        try refine sA ?_
        try refine andA ?_
        first | refine And.intro ⟨by kernel_rfl, by kernel_rfl, by kernel_rfl⟩ ?_ | skip
        try refine sA ?_
        refine Bs_if hs1 (fun hs1 hc7 => ?_) (fun hs1 hc7 => ?_)
        · try refine sA ?_
          cases hs1
          cases hk1
          try dsimp only at h
          try refine sA ?_
          have he := Option.some.inj h
          subst he
          exact endsA ⟨[(4, (.lf false (.sc (.bool false))))], [], 0, 26⟩ []
        · try refine sA ?_
          cases hs1
          exact X_backP hk1 (weakA [])
      · try refine sA ?_
        cases hs1
        cases hk1
        try dsimp only at h
        try refine sA ?_
        have he := Option.some.inj h
        subst he
        exact endsA ⟨[(4, (.lf false (.sc (.bool true))))], [], 0, 26⟩ []
theorem w_impl_begins {a0 : (List EventT)} {a1 : (List EventT)} {r : Bool} (h : impl_begins a0 a1 = some r) : Fn Tryd.prog 23 [(.lf true (.sl (a0.map eEvent))), (.lf true (.sl (a1.map eEvent)))] [] 0 (.lf false (.sc (.bool r))) [] 0 := by
  unfold impl_begins at h
  refine fn_code tab_ok mixed [] Tryd.func23 rfl rfl (by simp [Tryd.f23]) (by kernel_rfl) ?_
  simp only [Tryd.f23]
  refine sA ?_
  refine Sp_if h (fun h hc1 => ?_) (fun h hc1 => ?_)
  · try refine sA ?_
    obtain ⟨hp2, h⟩ := guard_some h
    try refine sA ?_
    try refine andA ?_
    obtain ⟨c260, hr3, h⟩ := bind_ok h
    refine Cl_sA (w_slices_Equal_impl_Event hr3) ?_
    try refine sA ?_
    have he := Option.some.inj h
    subst he
    exact endsA ⟨[(4, (.lf false (.sc (.bool c260))))], [], 0, 18⟩ []
  · try refine sA ?_
    have he := Option.some.inj h
    subst he
    exact endsA ⟨[(4, (.lf false (.sc (.bool false))))], [], 0, 18⟩ []
theorem w_impl_GoodTellings {a0 : TellingsT} {r : Bool} (h : impl_GoodTellings a0 = some r) : Fn Tryd.prog 13 [(.ag [(.lf true (.sl (a0.Branches.map eBranch)))])] [] 0 (.lf false (.sc (.bool r))) [] 0 := by
  unfold impl_GoodTellings at h
  refine fn_code tab_ok mixed [(1000, [(1, 0)]), (1001, [(1, 0), (10, 0)]), (1002, [(2, 0)]), (1003, [(1, 0), (12, 0), (13, 0), (14, 0)]), (1004, [(1, 0), (12, 0), (13, 0), (14, 0), (15, 0)]), (1005, [(1, 0), (3, 0), (4, 0), (12, 0), (13, 0), (14, 0)]), (1006, [(1, 0), (3, 0), (4, 0), (12, 0), (13, 0), (14, 0), (22, 0)]), (1007, [(2, 0)]), (1008, [(1, 0), (4, 0), (12, 0), (13, 0), (14, 0), (26, 0), (27, 0), (28, 0)]), (1009, [(1, 0), (4, 0), (12, 0), (13, 0), (14, 0), (26, 0), (27, 0), (28, 0), (29, 0)]), (1010, [(1, 0), (4, 0), (6, 0), (12, 0), (13, 0), (14, 0), (26, 0), (27, 0), (28, 0)]), (1011, [(1, 0), (4, 0), (12, 0), (13, 0), (14, 0), (26, 0), (27, 0), (28, 0), (44, 0)]), (1012, [(2, 0)]), (1013, [(1, 0), (4, 0), (12, 0), (13, 0), (14, 0), (26, 0), (27, 0), (28, 0)]), (1014, [(1, 0), (12, 0), (13, 0), (14, 0)]), (1015, [(2, 0)]), (4011, [])] Tryd.func13 rfl rfl (by simp [Tryd.f13]) (by kernel_rfl) ?_
  simp only [Tryd.f13]
  refine sA ?_
  refine Bs_if h (fun h hc1 => ?_) (fun h hc1 => ?_)
  · try refine sA ?_
    have he := Option.some.inj h
    subst he
    exact endsA ⟨[(2, (.lf false (.sc (.bool false))))], [], 0, 47⟩ []
  · try refine sA ?_
    obtain ⟨y280, hl2, h⟩ := bind_ok h
    refine W_loopP (fun g143 : impl_GoodTellings_G1 => ⟨[(1, (.pb 0 0)), (12, (.lf true (.sl (a0.Branches.map eBranch)))), (13, (.lf false (.sc (.int .i64 ((a0.Branches.length : Nat) : Int))))), (14, (.lf false (.sc (.int .i64 g143.t14))))], [(0, some (true, .box [(.lf true (.sl (a0.Branches.map eBranch)))]))], 1, 47⟩) (impl_GoodTellings_L1 a0) _ _ hl2 (weakA [some 0]) ?_
    · intro n1 g143 z1 hs1 hk1
      unfold impl_GoodTellings_L1 at hs1
      try dsimp only at hs1
      refine sA ?_
      refine Bs_if hs1 (fun hs1 hc3 => ?_) (fun hs1 hc3 => ?_)
      · try refine sA ?_
        obtain ⟨hp4, hs1⟩ := guard_some hs1
        have hn4 : g143.t14.toNat < a0.Branches.length := by first | omega | (simp only [List.length_set, List.length_append, List.length_replicate, List.length_map]; omega)
        try refine sA ?_
        try refine andA ?_
        obtain ⟨c269, hr5, hs1⟩ := bind_ok hs1
        refine Cl_sA (w_impl_isTelling hr5) ?_
        try refine sA ?_
        refine Bs_if hs1 (fun hs1 hc6 => ?_) (fun hs1 hc6 => ?_)
        · try refine sA ?_
          cases hs1
          cases hk1
          try dsimp only at h
          try refine sA ?_
          have he := Option.some.inj h
          subst he
          exact endsA ⟨[(2, (.lf false (.sc (.bool false))))], [], 0, 47⟩ []
        · try refine sA ?_
          obtain ⟨hp7, hs1⟩ := guard_some hs1
          try refine sA ?_
          try refine andA ?_
          obtain ⟨y277, hl8, hs1⟩ := bind_ok hs1
          refine W_loopP (fun g270 : impl_GoodTellings_G2 => ⟨[(1, (.pb 0 0)), (4, (.pb 1 0)), (12, (.lf true (.sl (a0.Branches.map eBranch)))), (13, (.lf false (.sc (.int .i64 ((a0.Branches.length : Nat) : Int))))), (14, (.lf false (.sc (.int .i64 g143.t14)))), (26, (.lf true (.sl ((a0.Branches.take g143.t14.toNat).map eBranch)))), (27, (.lf false (.sc (.int .i64 (((a0.Branches.take g143.t14.toNat).length : Nat) : Int))))), (28, (.lf false (.sc (.int .i64 g270.t28))))], [(0, some (true, .box [(.lf true (.sl (a0.Branches.map eBranch)))])), (1, some (true, .box [(.lf true (.sl (((nth a0.Branches g143.t14.toNat).Events).map eEvent)))]))], 2, 47⟩) (impl_GoodTellings_L2 a0 g143) _ _ hl8 (weakA [some 0, some 1]) ?_
          · intro n2 g270 z2 hs2 hk2
            unfold impl_GoodTellings_L2 at hs2
            try dsimp only at hs2
            refine sA ?_
            refine Bs_if hs2 (fun hs2 hc9 => ?_) (fun hs2 hc9 => ?_)
            · try refine sA ?_
              obtain ⟨hp10, hs2⟩ := guard_some hs2
              have hn10 : g270.t28.toNat < (a0.Branches.take g143.t14.toNat).length := by first | omega | (simp only [List.length_set, List.length_append, List.length_replicate, List.length_map]; omega)
              try refine sA ?_
              try refine andA ?_
              obtain ⟨p276, hq11, hs2⟩ := bind_ok hs2
              refine Sq_cut (fun s2 => s2 = ⟨[(1, (.pb 0 0)), (4, (.pb 1 0)), (12, (.lf true (.sl (a0.Branches.map eBranch)))), (13, (.lf false (.sc (.int .i64 ((a0.Branches.length : Nat) : Int))))), (14, (.lf false (.sc (.int .i64 g143.t14)))), (26, (.lf true (.sl ((a0.Branches.take g143.t14.toNat).map eBranch)))), (27, (.lf false (.sc (.int .i64 (((a0.Branches.take g143.t14.toNat).length : Nat) : Int))))), (28, (.lf false (.sc (.int .i64 g270.t28)))), (44, (.lf false (.sc (.bool p276.t44))))], [(0, some (true, .box [(.lf true (.sl (a0.Branches.map eBranch)))])), (1, some (true, .box [(.lf true (.sl (((nth a0.Branches g143.t14.toNat).Events).map eEvent)))]))], 2, 47⟩) ?_ ?_
              · try refine sA ?_
                obtain ⟨c274, hr12, hq11⟩ := bind_ok hq11
                refine Cl_sA (w_impl_branchOrder hr12) ?_
                try refine sA ?_
                refine Sp_if hq11 (fun hq11 hc13 => ?_) (fun hq11 hc13 => ?_)
                · try refine sA ?_
                  cases hq11
                  exact X_cut rfl (weakA [some 0, some 1])
                · try refine sA ?_
                  obtain ⟨c275, hr14, hq11⟩ := bind_ok hq11
                  refine Cl_sA (w_impl_begins hr14) ?_
                  try refine sA ?_
                  cases hq11
                  exact X_cut rfl (weakA [some 0, some 1])
              · intro s2 hJ; subst hJ
                try dsimp only at hs2
                try refine sA ?_
                refine Bs_if hs2 (fun hs2 hc15 => ?_) (fun hs2 hc15 => ?_)
                · try refine sA ?_
                  cases hs2
                  cases hk2
                  try dsimp only at hs1
                  try refine sA ?_
                  cases hs1
                  cases hk1
                  try dsimp only at h
                  try refine sA ?_
                  have he := Option.some.inj h
                  subst he
                  exact endsA ⟨[(2, (.lf false (.sc (.bool false))))], [], 0, 47⟩ []
                · try refine sA ?_
                  cases hs2
                  exact X_backP hk2 (weakA [some 0, some 1])
            · try refine sA ?_
              cases hs2
              cases hk2
              try dsimp only at hs1
              try refine sA ?_
              cases hs1
              exact X_backP hk1 (weakA [some 0])
      · try refine sA ?_
        cases hs1
        cases hk1
        try dsimp only at h
        try refine sA ?_
        have he := Option.some.inj h
        subst he
        exact endsA ⟨[(2, (.lf false (.sc (.bool true))))], [], 0, 47⟩ []
theorem w_impl_shared {a0 : (List EventT)} {a1 : (List EventT)} {r : Int} (h : impl_shared a0 a1 = some r) : Fn Tryd.prog 14 [(.lf true (.sl (a0.map eEvent))), (.lf true (.sl (a1.map eEvent)))] [] 0 (.lf false (.sc (.int .i64 r))) [] 0 := by
  unfold impl_shared at h
  refine fn_code tab_ok mixed [(1000, [(0, 0), (1, 0)]), (1001, [(0, 0), (1, 0), (5, 0)]), (1002, [(0, 0), (1, 0), (5, 0), (23, 0)]), (1003, [(0, 0), (1, 0), (5, 0)]), (1004, [(4, 0)])] Tryd.func14 rfl rfl (by simp [Tryd.f14]) (by kernel_rfl) ?_
  simp only [Tryd.f14]
  refine sA ?_
  obtain ⟨y287, hl1, h⟩ := bind_ok h
  refine W_loopP (fun g286 : impl_shared_G1 => ⟨[(0, (.lf true (.sl (a0.map eEvent)))), (1, (.lf true (.sl (a1.map eEvent)))), (5, (.lf false (.sc (.int .i64 g286.t5))))], [], 0, 27⟩) (impl_shared_L1 a0 a1) _ _ hl1 (weakA []) ?_
  · intro n1 g286 z1 hs1 hk1
    unfold impl_shared_L1 at hs1
    try dsimp only at hs1
    refine sA ?_
    refine Sp_if hs1 (fun hs1 hc2 => ?_) (fun hs1 hc2 => ?_)
    · try refine sA ?_
      obtain ⟨hp3, hs1⟩ := guard_some hs1
      have hn3 : g286.t5.toNat < a0.length := by first | omega | (simp only [List.length_set, List.length_append, List.length_replicate, List.length_map]; omega)
      try refine sA ?_
      try refine andA ?_
      obtain ⟨hp4, hs1⟩ := guard_some hs1
      have hn4 : g286.t5.toNat < a1.length := by first | omega | (simp only [List.length_set, List.length_append, List.length_replicate, List.length_map]; omega)
      try refine sA ?_
      try refine andA ?_
      first | refine And.intro ⟨by kernel_rfl, by kernel_rfl, by kernel_rfl⟩ ?_ | skip
      try refine sA ?_
      refine Bs_if hs1 (fun hs1 hc6 => ?_) (fun hs1 hc6 => ?_)
      · try refine sA ?_
        cases hs1
        exact X_backP hk1 (weakA [])
      · try refine sA ?_
        cases hs1
        cases hk1
        try dsimp only at h
        try refine sA ?_
        have he := Option.some.inj h
        subst he
        exact endsA ⟨[(4, (.lf false (.sc (.int .i64 g286.t5))))], [], 0, 27⟩ []
    · try refine sA ?_
      cases hs1
      cases hk1
      try dsimp only at h
      try refine sA ?_
      have he := Option.some.inj h
      subst he
      exact endsA ⟨[(4, (.lf false (.sc (.int .i64 g286.t5))))], [], 0, 27⟩ []
theorem w_impl_EventsIn {a0 : TellingsT} {r : (Int × Bool)} (h : impl_EventsIn a0 = some r) : Fn Tryd.prog 7 [(.ag [(.lf true (.sl (a0.Branches.map eBranch)))])] [] 0 (.tu [(.lf false (.sc (.int .i64 r.1))), (.lf false (.sc (.bool r.2)))]) [] 0 := by
  unfold impl_EventsIn at h
  refine fn_code tab_ok mixed [(1000, [(1, 0)]), (1001, [(1, 0), (12, 0)]), (1002, [(2, 0), (3, 0)]), (1003, [(1, 0), (4, 0)]), (1004, [(1, 0), (4, 0), (14, 0), (15, 0), (16, 0)]), (1005, [(1, 0), (4, 0), (14, 0), (15, 0), (16, 0), (17, 0)]), (1006, [(1, 0), (4, 0), (5, 0), (6, 0), (14, 0), (15, 0), (16, 0)]), (1007, [(1, 0), (4, 0), (5, 0), (6, 0), (7, 0), (14, 0), (15, 0), (16, 0)]), (1008, [(1, 0), (4, 0), (6, 0), (7, 0), (14, 0), (15, 0), (16, 0), (24, 0), (25, 0), (26, 0)]), (1009, [(1, 0), (4, 0), (6, 0), (7, 0), (14, 0), (15, 0), (16, 0), (24, 0), (25, 0), (26, 0), (27, 0)]), (1010, [(1, 0), (4, 0), (6, 0), (7, 0), (9, 0), (14, 0), (15, 0), (16, 0), (24, 0), (25, 0), (26, 0)]), (1011, [(1, 0), (4, 0), (6, 0), (7, 0), (14, 0), (15, 0), (16, 0), (24, 0), (25, 0), (26, 0)]), (1012, [(1, 0), (4, 0), (6, 0), (7, 0), (14, 0), (15, 0), (16, 0), (24, 0), (25, 0), (26, 0)]), (1013, [(1, 0), (4, 0), (14, 0), (15, 0), (16, 0)]), (1014, [(1, 0), (4, 0), (14, 0), (15, 0), (16, 0)]), (1015, [(2, 0), (3, 0)])] Tryd.func7 rfl rfl (by simp [Tryd.f7]) (by kernel_rfl) ?_
  simp only [Tryd.f7]
  refine sA ?_
  obtain ⟨c283, hr1, h⟩ := bind_ok h
  refine Cl_sA (w_impl_GoodTellings hr1) ?_
  try refine sA ?_
  refine Bs_if h (fun h hc2 => ?_) (fun h hc2 => ?_)
  · try refine sA ?_
    have he := Option.some.inj h
    subst he
    exact endsA ⟨[(2, (.lf false (.sc (.int .i64 0)))), (3, (.lf false (.sc (.bool false))))], [], 0, 47⟩ []
  · try refine sA ?_
    obtain ⟨y295, hl3, h⟩ := bind_ok h
    refine W_loopP (fun g284 : impl_EventsIn_G1 => ⟨[(1, (.pb 0 0)), (4, (.lf false (.sc (.int .i64 g284.t4)))), (14, (.lf true (.sl (a0.Branches.map eBranch)))), (15, (.lf false (.sc (.int .i64 ((a0.Branches.length : Nat) : Int))))), (16, (.lf false (.sc (.int .i64 g284.t16))))], [(0, some (true, .box [(.lf true (.sl (a0.Branches.map eBranch)))]))], 1, 47⟩) (impl_EventsIn_L1 a0) _ _ hl3 (weakA [some 0]) ?_
    · intro n1 g284 z1 hs1 hk1
      unfold impl_EventsIn_L1 at hs1
      try dsimp only at hs1
      refine sA ?_
      refine Bs_if hs1 (fun hs1 hc4 => ?_) (fun hs1 hc4 => ?_)
      · try refine sA ?_
        obtain ⟨hp5, hs1⟩ := guard_some hs1
        have hn5 : g284.t16.toNat < a0.Branches.length := by first | omega | (simp only [List.length_set, List.length_append, List.length_replicate, List.length_map]; omega)
        try refine sA ?_
        try refine andA ?_
        obtain ⟨hp6, hs1⟩ := guard_some hs1
        try refine sA ?_
        try refine andA ?_
        obtain ⟨y294, hl7, hs1⟩ := bind_ok hs1
        refine W_loopP (fun g291 : impl_EventsIn_G2 => ⟨[(1, (.pb 0 0)), (4, (.lf false (.sc (.int .i64 g284.t4)))), (6, (.pb 1 0)), (7, (.lf false (.sc (.int .i64 g291.t7)))), (14, (.lf true (.sl (a0.Branches.map eBranch)))), (15, (.lf false (.sc (.int .i64 ((a0.Branches.length : Nat) : Int))))), (16, (.lf false (.sc (.int .i64 g284.t16)))), (24, (.lf true (.sl ((a0.Branches.take g284.t16.toNat).map eBranch)))), (25, (.lf false (.sc (.int .i64 (((a0.Branches.take g284.t16.toNat).length : Nat) : Int))))), (26, (.lf false (.sc (.int .i64 g291.t26))))], [(0, some (true, .box [(.lf true (.sl (a0.Branches.map eBranch)))])), (1, some (true, .box [(.lf true (.sl (((nth a0.Branches g284.t16.toNat).Events).map eEvent)))]))], 2, 47⟩) (impl_EventsIn_L2 a0 g284) _ _ hl7 (weakA [some 0, some 1]) ?_
        · intro n2 g291 z2 hs2 hk2
          unfold impl_EventsIn_L2 at hs2
          try dsimp only at hs2
          refine sA ?_
          refine Bs_if hs2 (fun hs2 hc8 => ?_) (fun hs2 hc8 => ?_)
          · try refine sA ?_
            obtain ⟨hp9, hs2⟩ := guard_some hs2
            have hn9 : g291.t26.toNat < (a0.Branches.take g284.t16.toNat).length := by first | omega | (simp only [List.length_set, List.length_append, List.length_replicate, List.length_map]; omega)
            try refine sA ?_
            try refine andA ?_
            obtain ⟨c293, hr10, hs2⟩ := bind_ok hs2
            refine Cl_sA (w_impl_shared hr10) ?_
            try refine sA ?_
            cases hs2
            exact X_backP hk2 (weakA [some 0, some 1])
          · try refine sA ?_
            cases hs2
            cases hk2
            try dsimp only at hs1
            try refine sA ?_
            cases hs1
            exact X_backP hk1 (weakA [some 0])
      · try refine sA ?_
        cases hs1
        cases hk1
        try dsimp only at h
        try refine sA ?_
        have he := Option.some.inj h
        subst he
        exact endsA ⟨[(2, (.lf false (.sc (.int .i64 g284.t4)))), (3, (.lf false (.sc (.bool true))))], [], 0, 47⟩ []
theorem w_laws_eqEvent {a0 : EventT} {a1 : EventT} {r : Bool} (h : laws_eqEvent a0 a1 = some r) : Fn Tryd.prog 40 [(.ag [(.lf false (.sc (.int .i64 a0.Id))), (.lf false (.sc (.int .i64 a0.Version))), (.lf false (.sc (.int .i64 a0.Kind))), (.lf false (.sc (.string a0.Name)))]), (.ag [(.lf false (.sc (.int .i64 a1.Id))), (.lf false (.sc (.int .i64 a1.Version))), (.lf false (.sc (.int .i64 a1.Kind))), (.lf false (.sc (.string a1.Name)))])] [] 0 (.lf false (.sc (.bool r))) [] 0 := by
  unfold laws_eqEvent at h
  refine fn_code tab_ok mixed [(1000, [(2, 0), (3, 0)]), (1001, [(2, 0), (3, 0), (9, 0)]), (1002, [(4, 0)]), (1003, [(2, 0), (3, 0), (14, 0)]), (1004, [(4, 0)]), (1005, [(2, 0), (3, 0), (19, 0)]), (1006, [(4, 0)]), (1007, [(24, 0)]), (1008, [(4, 0)]), (1009, [(4, 0)])] Tryd.func40 rfl rfl (by simp [Tryd.f40]) (by kernel_rfl) ?_
  simp only [Tryd.f40]
  refine sA ?_
  refine Bs_if h (fun h hc1 => ?_) (fun h hc1 => ?_)
  · try refine sA ?_
    have he := Option.some.inj h
    subst he
    exact endsA ⟨[(4, (.lf false (.sc (.bool false))))], [], 0, 25⟩ []
  · try refine sA ?_
    refine Bs_if h (fun h hc2 => ?_) (fun h hc2 => ?_)
    · try refine sA ?_
      have he := Option.some.inj h
      subst he
      exact endsA ⟨[(4, (.lf false (.sc (.bool false))))], [], 0, 25⟩ []
    · try refine sA ?_
      refine Bs_if h (fun h hc3 => ?_) (fun h hc3 => ?_)
      · try refine sA ?_
        have he := Option.some.inj h
        subst he
        exact endsA ⟨[(4, (.lf false (.sc (.bool false))))], [], 0, 25⟩ []
      · try refine sA ?_
        refine Bs_if h (fun h hc4 => ?_) (fun h hc4 => ?_)
        · try refine sA ?_
          have he := Option.some.inj h
          subst he
          exact endsA ⟨[(4, (.lf false (.sc (.bool false))))], [], 0, 25⟩ []
        · try refine sA ?_
          have he := Option.some.inj h
          subst he
          exact endsA ⟨[(4, (.lf false (.sc (.bool true))))], [], 0, 25⟩ []
theorem w_laws_eqEventS {a0 : (List EventT)} {a1 : (List EventT)} {r : Bool} (h : laws_eqEventS a0 a1 = some r) : Fn Tryd.prog 32 [(.lf true (.sl (a0.map eEvent))), (.lf true (.sl (a1.map eEvent)))] [] 0 (.lf false (.sc (.bool r))) [] 0 := by
  unfold laws_eqEventS at h
  refine fn_code tab_ok mixed [(1000, [(0, 0), (1, 0)]), (1001, [(0, 0), (1, 0), (10, 0)]), (1002, [(4, 0)]), (1003, [(0, 0), (1, 0), (5, 0)]), (1004, [(0, 0), (1, 0), (5, 0), (14, 0)]), (1005, [(0, 0), (1, 0), (5, 0)]), (1006, [(0, 0), (1, 0), (5, 0), (26, 0)]), (1007, [(4, 0)]), (1008, [(4, 0)])] Tryd.func32 rfl rfl (by simp [Tryd.f32]) (by kernel_rfl) ?_
  simp only [Tryd.f32]
  refine sA ?_
  refine Bs_if h (fun h hc1 => ?_) (fun h hc1 => ?_)
  · try refine sA ?_
    have he := Option.some.inj h
    subst he
    exact endsA ⟨[(4, (.lf false (.sc (.bool false))))], [], 0, 27⟩ []
  · try refine sA ?_
    obtain ⟨y303, hl2, h⟩ := bind_ok h
    refine W_loopP (fun g300 : laws_eqEventS_G1 => ⟨[(0, (.lf true (.sl (a0.map eEvent)))), (1, (.lf true (.sl (a1.map eEvent)))), (5, (.lf false (.sc (.int .i64 g300.t5))))], [], 0, 27⟩) (laws_eqEventS_L1 a0 a1) _ _ hl2 (weakA []) ?_
    · intro n1 g300 z1 hs1 hk1
      unfold laws_eqEventS_L1 at hs1
      try dsimp only at hs1
      refine sA ?_
      refine Bs_if hs1 (fun hs1 hc3 => ?_) (fun hs1 hc3 => ?_)
      · try refine sA ?_
        obtain ⟨hp4, hs1⟩ := guard_some hs1
        have hn4 : g300.t5.toNat < a0.length := by first | omega | (simp only [List.length_set, List.length_append, List.length_replicate, List.length_map]; omega)
        try refine sA ?_
        try refine andA ?_
        obtain ⟨hp5, hs1⟩ := guard_some hs1
        have hn5 : g300.t5.toNat < a1.length := by first | omega | (simp only [List.length_set, List.length_append, List.length_replicate, List.length_map]; omega)
        try refine sA ?_
        try refine andA ?_
        obtain ⟨c302, hr6, hs1⟩ := bind_ok hs1
        refine Cl_sA (w_laws_eqEvent hr6) ?_
        try refine sA ?_
        refine Bs_if hs1 (fun hs1 hc7 => ?_) (fun hs1 hc7 => ?_)
        · try refine sA ?_
          cases hs1
          cases hk1
          try dsimp only at h
          try refine sA ?_
          have he := Option.some.inj h
          subst he
          exact endsA ⟨[(4, (.lf false (.sc (.bool false))))], [], 0, 27⟩ []
        · try refine sA ?_
          cases hs1
          exact X_backP hk1 (weakA [])
      · try refine sA ?_
        cases hs1
        cases hk1
        try dsimp only at h
        try refine sA ?_
        have he := Option.some.inj h
        subst he
        exact endsA ⟨[(4, (.lf false (.sc (.bool true))))], [], 0, 27⟩ []
theorem w_laws_eqBranch {a0 : BranchT} {a1 : BranchT} {r : Bool} (h : laws_eqBranch a0 a1 = some r) : Fn Tryd.prog 24 [(.ag [(.lf true (.sl (a0.Events.map eEvent)))]), (.ag [(.lf true (.sl (a1.Events.map eEvent)))])] [] 0 (.lf false (.sc (.bool r))) [] 0 := by
  unfold laws_eqBranch at h
  refine fn_code tab_ok mixed [(1000, [(2, 0), (3, 0)]), (1001, [(10, 0)]), (1002, [(4, 0)]), (1003, [(4, 0)])] Tryd.func24 rfl rfl (by simp [Tryd.f24]) (by kernel_rfl) ?_
  simp only [Tryd.f24]
  refine sA ?_
  obtain ⟨c306, hr1, h⟩ := bind_ok h
  refine Cl_sA (w_laws_eqEventS hr1) ?_
  try refine sA ?_
  refine Bs_if h (fun h hc2 => ?_) (fun h hc2 => ?_)
  · try refine sA ?_
    have he := Option.some.inj h
    subst he
    exact endsA ⟨[(4, (.lf false (.sc (.bool false))))], [], 0, 11⟩ []
  · try refine sA ?_
    have he := Option.some.inj h
    subst he
    exact endsA ⟨[(4, (.lf false (.sc (.bool true))))], [], 0, 11⟩ []
theorem w_laws_eqBranchS {a0 : (List BranchT)} {a1 : (List BranchT)} {r : Bool} (h : laws_eqBranchS a0 a1 = some r) : Fn Tryd.prog 15 [(.lf true (.sl (a0.map eBranch))), (.lf true (.sl (a1.map eBranch)))] [] 0 (.lf false (.sc (.bool r))) [] 0 := by
  unfold laws_eqBranchS at h
  refine fn_code tab_ok mixed [(1000, [(0, 0), (1, 0)]), (1001, [(0, 0), (1, 0), (10, 0)]), (1002, [(4, 0)]), (1003, [(0, 0), (1, 0), (5, 0)]), (1004, [(0, 0), (1, 0), (5, 0), (14, 0)]), (1005, [(0, 0), (1, 0), (5, 0)]), (1006, [(0, 0), (1, 0), (5, 0), (26, 0)]), (1007, [(4, 0)]), (1008, [(4, 0)])] Tryd.func15 rfl rfl (by simp [Tryd.f15]) (by kernel_rfl) ?_
  simp only [Tryd.f15]
  refine sA ?_
  refine Bs_if h (fun h hc1 => ?_) (fun h hc1 => ?_)
  · try refine sA ?_
    have he := Option.some.inj h
    subst he
    exact endsA ⟨[(4, (.lf false (.sc (.bool false))))], [], 0, 27⟩ []
  · try refine sA ?_
    obtain ⟨y309, hl2, h⟩ := bind_ok h
    refine W_loopP (fun g299 : laws_eqBranchS_G1 => ⟨[(0, (.lf true (.sl (a0.map eBranch)))), (1, (.lf true (.sl (a1.map eBranch)))), (5, (.lf false (.sc (.int .i64 g299.t5))))], [], 0, 27⟩) (laws_eqBranchS_L1 a0 a1) _ _ hl2 (weakA []) ?_
    · intro n1 g299 z1 hs1 hk1
      unfold laws_eqBranchS_L1 at hs1
      try dsimp only at hs1
      refine sA ?_
      refine Bs_if hs1 (fun hs1 hc3 => ?_) (fun hs1 hc3 => ?_)
      · try refine sA ?_
        obtain ⟨hp4, hs1⟩ := guard_some hs1
        have hn4 : g299.t5.toNat < a0.length := by first | omega | (simp only [List.length_set, List.length_append, List.length_replicate, List.length_map]; omega)
        try refine sA ?_
        try refine andA ?_
        obtain ⟨hp5, hs1⟩ := guard_some hs1
        have hn5 : g299.t5.toNat < a1.length := by first | omega | (simp only [List.length_set, List.length_append, List.length_replicate, List.length_map]; omega)
        try refine sA ?_
        try refine andA ?_
        obtain ⟨c308, hr6, hs1⟩ := bind_ok hs1
        refine Cl_sA (w_laws_eqBranch hr6) ?_
        try refine sA ?_
        refine Bs_if hs1 (fun hs1 hc7 => ?_) (fun hs1 hc7 => ?_)
        · try refine sA ?_
          cases hs1
          cases hk1
          try dsimp only at h
          try refine sA ?_
          have he := Option.some.inj h
          subst he
          exact endsA ⟨[(4, (.lf false (.sc (.bool false))))], [], 0, 27⟩ []
        · try refine sA ?_
          cases hs1
          exact X_backP hk1 (weakA [])
      · try refine sA ?_
        cases hs1
        cases hk1
        try dsimp only at h
        try refine sA ?_
        have he := Option.some.inj h
        subst he
        exact endsA ⟨[(4, (.lf false (.sc (.bool true))))], [], 0, 27⟩ []
theorem w_laws_eqTellings {a0 : TellingsT} {a1 : TellingsT} {r : Bool} (h : laws_eqTellings a0 a1 = some r) : Fn Tryd.prog 8 [(.ag [(.lf true (.sl (a0.Branches.map eBranch)))]), (.ag [(.lf true (.sl (a1.Branches.map eBranch)))])] [] 0 (.lf false (.sc (.bool r))) [] 0 := by
  unfold laws_eqTellings at h
  refine fn_code tab_ok mixed [(1000, [(2, 0), (3, 0)]), (1001, [(10, 0)]), (1002, [(4, 0)]), (1003, [(4, 0)])] Tryd.func8 rfl rfl (by simp [Tryd.f8]) (by kernel_rfl) ?_
  simp only [Tryd.f8]
  refine sA ?_
  obtain ⟨c312, hr1, h⟩ := bind_ok h
  refine Cl_sA (w_laws_eqBranchS hr1) ?_
  try refine sA ?_
  refine Bs_if h (fun h hc2 => ?_) (fun h hc2 => ?_)
  · try refine sA ?_
    have he := Option.some.inj h
    subst he
    exact endsA ⟨[(4, (.lf false (.sc (.bool false))))], [], 0, 11⟩ []
  · try refine sA ?_
    have he := Option.some.inj h
    subst he
    exact endsA ⟨[(4, (.lf false (.sc (.bool true))))], [], 0, 11⟩ []
theorem w_laws_FnExactEventsIn {a0 : TellingsT} {r : Bool} (h : laws_FnExactEventsIn a0 = some r) : Fn Tryd.prog 3 [(.ag [(.lf true (.sl (a0.Branches.map eBranch)))])] [] 0 (.lf false (.sc (.bool r))) [] 0 := by
  unfold laws_FnExactEventsIn at h
  refine fn_code tab_ok mixed [(10, [(0, 2)]), (1000, [(1, 0)]), (1001, [(1, 0), (3, 0)]), (1002, [(1, 0), (3, 0)]), (1003, [(1, 0), (13, 0)]), (1004, [(2, 0)]), (1005, [(1, 0), (4, 0), (5, 0)]), (1006, [(1, 0), (4, 0), (5, 0), (6, 0)]), (1007, [(1, 0), (4, 0), (5, 0), (6, 0), (7, 0), (8, 0)]), (1008, [(1, 0), (6, 0), (34, 0)]), (1009, [(2, 0)]), (1010, [(39, 0)]), (1011, [(2, 0)]), (1012, [(2, 0)]), (4008, [])] Tryd.func3 rfl rfl (by simp [Tryd.f3]) (by kernel_rfl) ?_
  simp only [Tryd.f3]
  refine sA ?_
  obtain ⟨c15, hr1, h⟩ := bind_ok h
  refine Cl_sA (w_laws_szTellings hr1) ?_
  try refine sA ?_
  refine Bs_if h (fun h hc2 => ?_) (fun h hc2 => ?_)
  · try refine sA ?_
    have he := Option.some.inj h
    subst he
    exact endsA ⟨[(2, (.lf false (.sc (.bool true))))], [], 0, 40⟩ []
  · try refine sA ?_
    obtain ⟨c29, hr3, h⟩ := bind_ok h
    refine Cl_sA (w_laws_toTellings hr3) ?_
    try refine sA ?_
    obtain ⟨c141, hr4, h⟩ := bind_ok h
    refine Cl_sA (w_spec_EventsIn hr4) ?_
    try refine sA ?_
    obtain ⟨c142, hr5, h⟩ := bind_ok h
    refine Cl_sA (w_laws_toTellings hr5) ?_
    try refine sA ?_
    obtain ⟨c296, hr6, h⟩ := bind_ok h
    refine Cl_sA (w_impl_EventsIn hr6) ?_
    try refine sA ?_
    obtain ⟨p297, hq7, h⟩ := bind_ok h
    refine Sq_cut (fun s2 => s2 = ⟨[(1, (.pb 0 0)), (6, (.pb 1 0)), (34, (.lf false (.sc (.bool p297.t34))))], [(0, some (true, .box [(.lf true (.sl (a0.Branches.map eBranch)))])), (1, some (true, .box [(.os 2 1 0 c142.Branches.length c142.Branches.length false)])), (2, some (true, .arr false 1 (c142.Branches.map eBranch)))], 3, 40⟩) ?_ ?_
    · try refine sA ?_
      refine Sp_if hq7 (fun hq7 hc8 => ?_) (fun hq7 hc8 => ?_)
      · try refine sA ?_
        cases hq7
        exact X_cut rfl (weakA [some 0, some 5, some 3])
      · try refine sA ?_
        cases hq7
        exact X_cut rfl (weakA [some 0, some 5, some 3])
    · intro s2 hJ; subst hJ
      try dsimp only at h
      try refine sA ?_
      refine Bs_if h (fun h hc9 => ?_) (fun h hc9 => ?_)
      · try refine sA ?_
        have he := Option.some.inj h
        subst he
        exact endsA ⟨[(2, (.lf false (.sc (.bool false))))], [], 0, 40⟩ []
      · try refine sA ?_
        obtain ⟨c298, hr10, h⟩ := bind_ok h
        refine Cl_sA (w_laws_toTellings hr10) ?_
        try refine sA ?_
        obtain ⟨c313, hr11, h⟩ := bind_ok h
        refine Cl_sA (w_laws_eqTellings hr11) ?_
        try refine sA ?_
        refine Bs_if h (fun h hc12 => ?_) (fun h hc12 => ?_)
        · try refine sA ?_
          have he := Option.some.inj h
          subst he
          exact endsA ⟨[(2, (.lf false (.sc (.bool false))))], [], 0, 40⟩ []
        · try refine sA ?_
          have he := Option.some.inj h
          subst he
          exact endsA ⟨[(2, (.lf false (.sc (.bool true))))], [], 0, 40⟩ []
end Go.TL.YtmooampfjclmiaaDoor

import Derived.Test.YtjhcfmcdllfmpaaTlTabr3b
import Derived.Test.YtjhcfmcdllfmpaaEnRSG
import Derived.Test.YtjhcfmcdllfmpaaTlAuto
import Derived.Test.YtjhcfmcdllfmpaaTlUseW
import Derived.Test.YtjhcfmcdllfmpaaTlGs
set_option linter.unusedSimpArgs false
set_option linter.unusedVariables false
set_option linter.unusedVariables false
set_option linter.unusedSimpArgs false
set_option maxRecDepth 8000
set_option maxHeartbeats 0
namespace Go.TL.Ytjhcfmcdllfmpaa
open Go Go.Proofs Go.TL
theorem w_laws_szIntS {a0 : (List Int)} {a1 : Int} {r : Int} (h : laws_szIntS a0 a1 = some r) : Fn Try.prog 49 [(.lf true (.sl (a0.map eI))), (.lf false (.sc (.int .i64 a1)))] [] 0 (.lf false (.sc (.int .i64 r))) [] 0 := by
  unfold laws_szIntS at h
  refine fn_code tab_ok mixed [(1000, [(0, 0), (1, 0)]), (1001, [(1, 0)]), (1002, [(1, 0), (10, 0)]), (1003, [(4, 0)]), (1004, [(4, 0)])] Try.func49 rfl rfl (by simp [Try.f49]) (by kernel_rfl) ?_
  simp only [Try.f49]
  refine sA ?_
  refine Bs_if h (fun h hc1 => ?_) (fun h hc1 => ?_)
  · try refine sA ?_
    have he := Option.some.inj h
    subst he
    exact endsA ⟨[(4, (.lf false (.sc (.int .i64 (-1)))))], [], 0, 12⟩ []
  · try refine sA ?_
    have he := Option.some.inj h
    subst he
    exact endsA ⟨[(4, (.lf false (.sc (.int .i64 (wI (a1 - ((a0.length : Nat) : Int)))))))], [], 0, 12⟩ []
theorem w_laws_szMoveS {a0 : (List MoveT)} {a1 : Int} {r : Int} (h : laws_szMoveS a0 a1 = some r) : Fn Try.prog 50 [(.lf true (.sl (a0.map eMove))), (.lf false (.sc (.int .i64 a1)))] [] 0 (.lf false (.sc (.int .i64 r))) [] 0 := by
  unfold laws_szMoveS at h
  refine fn_code tab_ok mixed [(1000, [(0, 0), (1, 0)]), (1001, [(1, 0)]), (1002, [(1, 0), (10, 0)]), (1003, [(4, 0)]), (1004, [(4, 0)])] Try.func50 rfl rfl (by simp [Try.f50]) (by kernel_rfl) ?_
  simp only [Try.f50]
  refine sA ?_
  refine Bs_if h (fun h hc1 => ?_) (fun h hc1 => ?_)
  · try refine sA ?_
    have he := Option.some.inj h
    subst he
    exact endsA ⟨[(4, (.lf false (.sc (.int .i64 (-1)))))], [], 0, 12⟩ []
  · try refine sA ?_
    have he := Option.some.inj h
    subst he
    exact endsA ⟨[(4, (.lf false (.sc (.int .i64 (wI (a1 - ((a0.length : Nat) : Int)))))))], [], 0, 12⟩ []
theorem w_laws_szSaga {a0 : SagaT} {a1 : Int} {r : Int} (h : laws_szSaga a0 a1 = some r) : Fn Try.prog 20 [(.ag [(.lf true (.sl (a0.Accounts.map eI))), (.lf true (.sl (a0.Moves.map eMove))), (.lf false (.sc (.int .i64 a0.Done))), (.lf false (.sc (.bool a0.Undoing)))]), (.lf false (.sc (.int .i64 a1)))] [] 0 (.lf false (.sc (.int .i64 r))) [] 0 := by
  unfold laws_szSaga at h
  refine fn_code tab_ok mixed [(1000, [(1, 0), (2, 0)]), (1001, [(1, 0), (2, 0)]), (1002, [(1, 0), (2, 0), (10, 0)]), (1003, [(4, 0)]), (1004, [(1, 0)]), (1005, [(1, 0), (16, 0)]), (1006, [(4, 0)]), (1007, [(4, 0)])] Try.func20 rfl rfl (by simp [Try.f20]) (by kernel_rfl) ?_
  simp only [Try.f20]
  refine sA ?_
  obtain ⟨c1, hr1, h⟩ := bind_ok h
  refine Cl_sA (w_laws_szIntS hr1) ?_
  try refine sA ?_
  refine Bs_if h (fun h hc2 => ?_) (fun h hc2 => ?_)
  · try refine sA ?_
    have he := Option.some.inj h
    subst he
    exact endsA ⟨[(4, (.lf false (.sc (.int .i64 (-1)))))], [], 0, 18⟩ []
  · try refine sA ?_
    obtain ⟨c2, hr3, h⟩ := bind_ok h
    refine Cl_sA (w_laws_szMoveS hr3) ?_
    try refine sA ?_
    refine Bs_if h (fun h hc4 => ?_) (fun h hc4 => ?_)
    · try refine sA ?_
      have he := Option.some.inj h
      subst he
      exact endsA ⟨[(4, (.lf false (.sc (.int .i64 (-1)))))], [], 0, 18⟩ []
    · try refine sA ?_
      have he := Option.some.inj h
      subst he
      exact endsA ⟨[(4, (.lf false (.sc (.int .i64 c2))))], [], 0, 18⟩ []
theorem w_laws_toIntS {a0 : (List Int)} {r : (List Int)} (h : laws_toIntS a0 = some r) : Fn Try.prog 51 [(.lf true (.sl (a0.map eI)))] [] 0 (.os 0 1 0 r.length r.length false) [(0, some (true, .arr false 1 (r.map eI)))] 1 := by
  unfold laws_toIntS at h
  refine fn_code tab_ok mixed [(1000, [(0, 0)]), (1001, [(0, 0), (3, 0)]), (1002, [(0, 0), (3, 0), (4, 0)]), (1003, [(0, 0), (3, 0), (4, 0), (11, 0)]), (1004, [(0, 0), (3, 0), (4, 0)]), (1005, [(0, 0), (3, 0), (4, 0)]), (1006, [(2, 0)])] Try.func51 rfl rfl (by simp [Try.f51]) (by kernel_rfl) ?_
  simp only [Try.f51]
  simp (disch := first | assumption | (simp only [List.length_set]; assumption)) only [go_sem, Nat.reduceAdd, Nat.reduceMul, Nat.reduceSub, Nat.reduceEqDiff, ↓reduceIte, Nat.reduceLT, reduceCtorEq, Nat.reduceLeDiff, Int.reduceToNat, Int.reduceEq, Int.reduceLE, Int.reduceLT, Nat.reduceBEq, fold_eI_rep]
  obtain ⟨hp1, h⟩ := guard_some h
  try simp (disch := first | assumption | (simp only [List.length_set]; assumption)) only [go_sem, Nat.reduceAdd, Nat.reduceMul, Nat.reduceSub, Nat.reduceEqDiff, ↓reduceIte, Nat.reduceLT, reduceCtorEq, Nat.reduceLeDiff, Int.reduceToNat, Int.reduceEq, Int.reduceLE, Int.reduceLT, Nat.reduceBEq, fold_eI_rep]
  try refine andA ?_
  obtain ⟨y5, hl2, h⟩ := bind_ok h
  refine W_loopP (fun g4 : laws_toIntS_G1 => ⟨[(0, (.lf true (.sl (a0.map eI)))), (3, (.os 0 1 0 g4.c0.length g4.c0.length false)), (4, (.lf false (.sc (.int .i64 g4.t4))))], [(0, some (true, .arr false 1 (g4.c0.map eI)))], 1, 22⟩) (laws_toIntS_L1 a0) _ _ hl2 (weak_of (m := 0) [some 0] rfl rfl rfl (by rfl) (by ((try simp (disch := first | assumption | (simp only [List.length_set]; assumption)) only [go_sem, Nat.reduceAdd, Nat.reduceMul, Nat.reduceSub, Nat.reduceEqDiff, ↓reduceIte, Nat.reduceLT, reduceCtorEq, Nat.reduceLeDiff, Int.reduceToNat, Int.reduceEq, Int.reduceLE, Int.reduceLT, Nat.reduceBEq, fold_eI_rep]); (repeat' first | done | rfl | omega | refine And.intro ?_ ?_ | (simp; done) | (simp; omega)))) (by ((try simp (disch := first | assumption | (simp only [List.length_set]; assumption)) only [go_sem, Nat.reduceAdd, Nat.reduceMul, Nat.reduceSub, Nat.reduceEqDiff, ↓reduceIte, Nat.reduceLT, reduceCtorEq, Nat.reduceLeDiff, Int.reduceToNat, Int.reduceEq, Int.reduceLE, Int.reduceLT, Nat.reduceBEq, fold_eI_rep]); (repeat' first | done | rfl | omega | refine And.intro ?_ ?_ | (simp; done) | (simp; omega))))) ?_
  · intro n1 g4 z1 hs1 hk1
    unfold laws_toIntS_L1 at hs1
    try dsimp only at hs1
    simp (disch := first | assumption | (simp only [List.length_set]; assumption)) only [go_sem, Nat.reduceAdd, Nat.reduceMul, Nat.reduceSub, Nat.reduceEqDiff, ↓reduceIte, Nat.reduceLT, reduceCtorEq, Nat.reduceLeDiff, Int.reduceToNat, Int.reduceEq, Int.reduceLE, Int.reduceLT, Nat.reduceBEq, fold_eI_rep]
    refine Bs_if hs1 (fun hs1 hc3 => ?_) (fun hs1 hc3 => ?_)
    · try simp (disch := first | assumption | (simp only [List.length_set]; assumption)) only [go_sem, Nat.reduceAdd, Nat.reduceMul, Nat.reduceSub, Nat.reduceEqDiff, ↓reduceIte, Nat.reduceLT, reduceCtorEq, Nat.reduceLeDiff, Int.reduceToNat, Int.reduceEq, Int.reduceLE, Int.reduceLT, Nat.reduceBEq, fold_eI_rep]
      obtain ⟨hp4, hs1⟩ := guard_some hs1
      have hn4 : g4.t4.toNat < a0.length := by first | omega | (simp only [List.length_set, List.length_append, List.length_replicate, List.length_map]; omega)
      try simp (disch := first | assumption | (simp only [List.length_set]; assumption)) only [go_sem, Nat.reduceAdd, Nat.reduceMul, Nat.reduceSub, Nat.reduceEqDiff, ↓reduceIte, Nat.reduceLT, reduceCtorEq, Nat.reduceLeDiff, Int.reduceToNat, Int.reduceEq, Int.reduceLE, Int.reduceLT, Nat.reduceBEq, fold_eI_rep]
      try refine andA ?_
      obtain ⟨hp5, hs1⟩ := guard_some hs1
      have hn5 : g4.t4.toNat < g4.c0.length := by first | omega | (simp only [List.length_set, List.length_append, List.length_replicate, List.length_map]; omega)
      try simp (disch := first | assumption | (simp only [List.length_set]; assumption)) only [go_sem, Nat.reduceAdd, Nat.reduceMul, Nat.reduceSub, Nat.reduceEqDiff, ↓reduceIte, Nat.reduceLT, reduceCtorEq, Nat.reduceLeDiff, Int.reduceToNat, Int.reduceEq, Int.reduceLE, Int.reduceLT, Nat.reduceBEq, fold_eI_rep]
      try refine andA ?_
      try refine andB ?_
      try simp (disch := first | assumption | (simp only [List.length_set]; assumption)) only [go_sem, Nat.reduceAdd, Nat.reduceMul, Nat.reduceSub, Nat.reduceEqDiff, ↓reduceIte, Nat.reduceLT, reduceCtorEq, Nat.reduceLeDiff, Int.reduceToNat, Int.reduceEq, Int.reduceLE, Int.reduceLT, Nat.reduceBEq, fold_eI_rep]
      cases hs1
      refine X_backP hk1 ?_
      refine weak_of (m := 0) [some 0] rfl rfl rfl (by rfl) ?_ ?_
      all_goals ((try simp (disch := first | assumption | (simp only [List.length_set]; assumption)) only [go_sem, Nat.reduceAdd, Nat.reduceMul, Nat.reduceSub, Nat.reduceEqDiff, ↓reduceIte, Nat.reduceLT, reduceCtorEq, Nat.reduceLeDiff, Int.reduceToNat, Int.reduceEq, Int.reduceLE, Int.reduceLT, Nat.reduceBEq, fold_eI_rep]); (repeat' first | done | rfl | omega | refine And.intro ?_ ?_ | (simp; done) | (simp; omega)))
    · try simp (disch := first | assumption | (simp only [List.length_set]; assumption)) only [go_sem, Nat.reduceAdd, Nat.reduceMul, Nat.reduceSub, Nat.reduceEqDiff, ↓reduceIte, Nat.reduceLT, reduceCtorEq, Nat.reduceLeDiff, Int.reduceToNat, Int.reduceEq, Int.reduceLE, Int.reduceLT, Nat.reduceBEq, fold_eI_rep]
      cases hs1
      cases hk1
      try dsimp only at h
      try simp (disch := first | assumption | (simp only [List.length_set]; assumption)) only [go_sem, Nat.reduceAdd, Nat.reduceMul, Nat.reduceSub, Nat.reduceEqDiff, ↓reduceIte, Nat.reduceLT, reduceCtorEq, Nat.reduceLeDiff, Int.reduceToNat, Int.reduceEq, Int.reduceLE, Int.reduceLT, Nat.reduceBEq, fold_eI_rep]
      have he := Option.some.inj h
      subst he
      refine ends_weak ⟨[(2, (.os 0 1 0 g4.c0.length g4.c0.length false))], [(0, some (true, .arr false 1 (g4.c0.map eI)))], 1, 22⟩ (weak_of (m := 0) [some 0] rfl rfl rfl (by rfl) ?_ ?_) ?_
      all_goals ((try simp (disch := first | assumption | (simp only [List.length_set]; assumption)) only [go_sem, Nat.reduceAdd, Nat.reduceMul, Nat.reduceSub, Nat.reduceEqDiff, ↓reduceIte, Nat.reduceLT, reduceCtorEq, Nat.reduceLeDiff, Int.reduceToNat, Int.reduceEq, Int.reduceLE, Int.reduceLT, Nat.reduceBEq, fold_eI_rep]); (repeat' first | done | rfl | omega | refine And.intro ?_ ?_ | (simp; done) | (simp; omega)))
theorem w_laws_toMove {a0 : MoveT} {r : MoveT} (h : laws_toMove a0 = some r) : Fn Try.prog 69 [(.ag [(.lf false (.sc (.int .i64 a0.From))), (.lf false (.sc (.int .i64 a0.To))), (.lf false (.sc (.int .i64 a0.Many)))])] [] 0 (.ag [(.lf false (.sc (.int .i64 r.From))), (.lf false (.sc (.int .i64 r.To))), (.lf false (.sc (.int .i64 r.Many)))]) [] 1 := by
  unfold laws_toMove at h
  refine fn_code tab_ok mixed [(1000, [(1, 0), (2, 0)]), (1001, [(1, 0), (2, 0), (3, 0)]), (1002, [(1, 0), (2, 0), (3, 0)]), (1003, [(1, 0), (2, 0), (3, 0)]), (1004, [(2, 0), (3, 0)]), (1005, [(2, 0)])] Try.func69 rfl rfl (by simp [Try.f69]) (by kernel_rfl) ?_
  simp only [Try.f69]
  refine sA ?_
  have he := Option.some.inj h
  subst he
  exact endsA ⟨[(2, (.pb 0 0))], [(0, some (true, .box [(.lf false (.sc (.int .i64 a0.From))), (.lf false (.sc (.int .i64 a0.To))), (.lf false (.sc (.int .i64 a0.Many)))]))], 1, 14⟩ [some 1]
theorem w_laws_toMoveS {a0 : (List MoveT)} {r : (List MoveT)} (h : laws_toMoveS a0 = some r) : Fn Try.prog 52 [(.lf true (.sl (a0.map eMove)))] [] 0 (.os 0 3 0 r.length r.length false) [(0, some (true, .arr false 3 (r.map eMove)))] 1 := by
  unfold laws_toMoveS at h
  refine fn_code tab_ok mixed [(1000, [(0, 0)]), (1001, [(0, 0), (3, 0)]), (1002, [(0, 0), (3, 0), (4, 0)]), (1003, [(0, 0), (3, 0), (4, 0), (11, 0)]), (1004, [(0, 0), (3, 0), (4, 0)]), (1005, [(0, 0), (3, 0), (4, 0)]), (1006, [(2, 0)])] Try.func52 rfl rfl (by simp [Try.f52]) (by kernel_rfl) ?_
  simp only [Try.f52]
  simp (disch := first | assumption | (simp only [List.length_set]; assumption)) only [go_sem, Nat.reduceAdd, Nat.reduceMul, Nat.reduceSub, Nat.reduceEqDiff, ↓reduceIte, Nat.reduceLT, reduceCtorEq, Nat.reduceLeDiff, Int.reduceToNat, Int.reduceEq, Int.reduceLE, Int.reduceLT, Nat.reduceBEq, fold_eMove_rep]
  obtain ⟨hp1, h⟩ := guard_some h
  try simp (disch := first | assumption | (simp only [List.length_set]; assumption)) only [go_sem, Nat.reduceAdd, Nat.reduceMul, Nat.reduceSub, Nat.reduceEqDiff, ↓reduceIte, Nat.reduceLT, reduceCtorEq, Nat.reduceLeDiff, Int.reduceToNat, Int.reduceEq, Int.reduceLE, Int.reduceLT, Nat.reduceBEq, fold_eMove_rep]
  try refine andA ?_
  obtain ⟨y10, hl2, h⟩ := bind_ok h
  refine W_loopP (fun g7 : laws_toMoveS_G1 => ⟨[(0, (.lf true (.sl (a0.map eMove)))), (3, (.os 0 3 0 g7.c0.length g7.c0.length false)), (4, (.lf false (.sc (.int .i64 g7.t4))))], [(0, some (true, .arr false 3 (g7.c0.map eMove)))], 1, 23⟩) (laws_toMoveS_L1 a0) _ _ hl2 (weak_of (m := 0) [some 0] rfl rfl rfl (by rfl) (by ((try simp (disch := first | assumption | (simp only [List.length_set]; assumption)) only [go_sem, Nat.reduceAdd, Nat.reduceMul, Nat.reduceSub, Nat.reduceEqDiff, ↓reduceIte, Nat.reduceLT, reduceCtorEq, Nat.reduceLeDiff, Int.reduceToNat, Int.reduceEq, Int.reduceLE, Int.reduceLT, Nat.reduceBEq, fold_eMove_rep]); (repeat' first | done | rfl | omega | refine And.intro ?_ ?_ | (simp; done) | (simp; omega)))) (by ((try simp (disch := first | assumption | (simp only [List.length_set]; assumption)) only [go_sem, Nat.reduceAdd, Nat.reduceMul, Nat.reduceSub, Nat.reduceEqDiff, ↓reduceIte, Nat.reduceLT, reduceCtorEq, Nat.reduceLeDiff, Int.reduceToNat, Int.reduceEq, Int.reduceLE, Int.reduceLT, Nat.reduceBEq, fold_eMove_rep]); (repeat' first | done | rfl | omega | refine And.intro ?_ ?_ | (simp; done) | (simp; omega))))) ?_
  · intro n1 g7 z1 hs1 hk1
    unfold laws_toMoveS_L1 at hs1
    try dsimp only at hs1
    simp (disch := first | assumption | (simp only [List.length_set]; assumption)) only [go_sem, Nat.reduceAdd, Nat.reduceMul, Nat.reduceSub, Nat.reduceEqDiff, ↓reduceIte, Nat.reduceLT, reduceCtorEq, Nat.reduceLeDiff, Int.reduceToNat, Int.reduceEq, Int.reduceLE, Int.reduceLT, Nat.reduceBEq, fold_eMove_rep]
    refine Bs_if hs1 (fun hs1 hc3 => ?_) (fun hs1 hc3 => ?_)
    · try simp (disch := first | assumption | (simp only [List.length_set]; assumption)) only [go_sem, Nat.reduceAdd, Nat.reduceMul, Nat.reduceSub, Nat.reduceEqDiff, ↓reduceIte, Nat.reduceLT, reduceCtorEq, Nat.reduceLeDiff, Int.reduceToNat, Int.reduceEq, Int.reduceLE, Int.reduceLT, Nat.reduceBEq, fold_eMove_rep]
      obtain ⟨hp4, hs1⟩ := guard_some hs1
      have hn4 : g7.t4.toNat < a0.length := by first | omega | (simp only [List.length_set, List.length_append, List.length_replicate, List.length_map]; omega)
      try simp (disch := first | assumption | (simp only [List.length_set]; assumption)) only [go_sem, Nat.reduceAdd, Nat.reduceMul, Nat.reduceSub, Nat.reduceEqDiff, ↓reduceIte, Nat.reduceLT, reduceCtorEq, Nat.reduceLeDiff, Int.reduceToNat, Int.reduceEq, Int.reduceLE, Int.reduceLT, Nat.reduceBEq, fold_eMove_rep]
      try refine andA ?_
      obtain ⟨c9, hr5, hs1⟩ := bind_ok hs1
      refine Cl_shown (w_laws_toMove hr5) (by first | rfl | (simp (disch := first | assumption | (simp only [List.length_set]; assumption)) only [go_sem, Nat.reduceAdd, Nat.reduceMul, Nat.reduceSub, Nat.reduceEqDiff, ↓reduceIte, Nat.reduceLT, reduceCtorEq, Nat.reduceLeDiff, Int.reduceToNat, Int.reduceEq, Int.reduceLE, Int.reduceLT, Nat.reduceBEq, fold_eMove_rep]; first | done | rfl) | (simp only [List.length_append, List.length_cons, List.length_nil, List.length_map, List.length_set, List.length_replicate, Nat.zero_add, Nat.reduceAdd]; rfl) | (simp (disch := first | assumption | (simp only [List.length_set]; assumption)) only [go_sem, Nat.reduceAdd, Nat.reduceMul, Nat.reduceSub, Nat.reduceEqDiff, ↓reduceIte, Nat.reduceLT, reduceCtorEq, Nat.reduceLeDiff, Int.reduceToNat, Int.reduceEq, Int.reduceLE, Int.reduceLT, Nat.reduceBEq, fold_eMove_rep]; simp only [List.length_append, List.length_cons, List.length_nil, List.length_map, List.length_set, List.length_replicate, Nat.zero_add, Nat.reduceAdd]; rfl)) (FitAll.refl _) (.inl (by first | rfl | (simp (disch := first | assumption | (simp only [List.length_set]; assumption)) only [go_sem, Nat.reduceAdd, Nat.reduceMul, Nat.reduceSub, Nat.reduceEqDiff, ↓reduceIte, Nat.reduceLT, reduceCtorEq, Nat.reduceLeDiff, Int.reduceToNat, Int.reduceEq, Int.reduceLE, Int.reduceLT, Nat.reduceBEq, fold_eMove_rep]; done))) ?_
      try simp (disch := first | assumption | (simp only [List.length_set]; assumption)) only [go_sem, Nat.reduceAdd, Nat.reduceMul, Nat.reduceSub, Nat.reduceEqDiff, ↓reduceIte, Nat.reduceLT, reduceCtorEq, Nat.reduceLeDiff, Int.reduceToNat, Int.reduceEq, Int.reduceLE, Int.reduceLT, Nat.reduceBEq, fold_eMove_rep]
      obtain ⟨hp6, hs1⟩ := guard_some hs1
      have hn6 : g7.t4.toNat < g7.c0.length := by first | omega | (simp only [List.length_set, List.length_append, List.length_replicate, List.length_map]; omega)
      try simp (disch := first | assumption | (simp only [List.length_set]; assumption)) only [go_sem, Nat.reduceAdd, Nat.reduceMul, Nat.reduceSub, Nat.reduceEqDiff, ↓reduceIte, Nat.reduceLT, reduceCtorEq, Nat.reduceLeDiff, Int.reduceToNat, Int.reduceEq, Int.reduceLE, Int.reduceLT, Nat.reduceBEq, fold_eMove_rep]
      try refine andA ?_
      try refine andB ?_
      try simp (disch := first | assumption | (simp only [List.length_set]; assumption)) only [go_sem, Nat.reduceAdd, Nat.reduceMul, Nat.reduceSub, Nat.reduceEqDiff, ↓reduceIte, Nat.reduceLT, reduceCtorEq, Nat.reduceLeDiff, Int.reduceToNat, Int.reduceEq, Int.reduceLE, Int.reduceLT, Nat.reduceBEq, fold_eMove_rep]
      cases hs1
      refine X_backP hk1 ?_
      refine weak_of (m := 0) [some 0] rfl rfl rfl (by rfl) ?_ ?_
      all_goals ((try simp (disch := first | assumption | (simp only [List.length_set]; assumption)) only [go_sem, Nat.reduceAdd, Nat.reduceMul, Nat.reduceSub, Nat.reduceEqDiff, ↓reduceIte, Nat.reduceLT, reduceCtorEq, Nat.reduceLeDiff, Int.reduceToNat, Int.reduceEq, Int.reduceLE, Int.reduceLT, Nat.reduceBEq, fold_eMove_rep]); (repeat' first | done | rfl | omega | refine And.intro ?_ ?_ | (simp; done) | (simp; omega)))
    · try simp (disch := first | assumption | (simp only [List.length_set]; assumption)) only [go_sem, Nat.reduceAdd, Nat.reduceMul, Nat.reduceSub, Nat.reduceEqDiff, ↓reduceIte, Nat.reduceLT, reduceCtorEq, Nat.reduceLeDiff, Int.reduceToNat, Int.reduceEq, Int.reduceLE, Int.reduceLT, Nat.reduceBEq, fold_eMove_rep]
      cases hs1
      cases hk1
      try dsimp only at h
      try simp (disch := first | assumption | (simp only [List.length_set]; assumption)) only [go_sem, Nat.reduceAdd, Nat.reduceMul, Nat.reduceSub, Nat.reduceEqDiff, ↓reduceIte, Nat.reduceLT, reduceCtorEq, Nat.reduceLeDiff, Int.reduceToNat, Int.reduceEq, Int.reduceLE, Int.reduceLT, Nat.reduceBEq, fold_eMove_rep]
      have he := Option.some.inj h
      subst he
      refine ends_weak ⟨[(2, (.os 0 3 0 g7.c0.length g7.c0.length false))], [(0, some (true, .arr false 3 (g7.c0.map eMove)))], 1, 23⟩ (weak_of (m := 0) [some 0] rfl rfl rfl (by rfl) ?_ ?_) ?_
      all_goals ((try simp (disch := first | assumption | (simp only [List.length_set]; assumption)) only [go_sem, Nat.reduceAdd, Nat.reduceMul, Nat.reduceSub, Nat.reduceEqDiff, ↓reduceIte, Nat.reduceLT, reduceCtorEq, Nat.reduceLeDiff, Int.reduceToNat, Int.reduceEq, Int.reduceLE, Int.reduceLT, Nat.reduceBEq, fold_eMove_rep]); (repeat' first | done | rfl | omega | refine And.intro ?_ ?_ | (simp; done) | (simp; omega)))
theorem w_laws_toSaga {a0 : SagaT} {r : SagaT} (h : laws_toSaga a0 = some r) : Fn Try.prog 21 [(.ag [(.lf true (.sl (a0.Accounts.map eI))), (.lf true (.sl (a0.Moves.map eMove))), (.lf false (.sc (.int .i64 a0.Done))), (.lf false (.sc (.bool a0.Undoing)))])] [] 0 (.ag [(.os 0 1 0 r.Accounts.length r.Accounts.length false), (.os 1 3 0 r.Moves.length r.Moves.length false), (.lf false (.sc (.int .i64 r.Done))), (.lf false (.sc (.bool r.Undoing)))]) [(0, some (true, .arr false 1 (r.Accounts.map eI))), (1, some (true, .arr false 3 (r.Moves.map eMove)))] 3 := by
  unfold laws_toSaga at h
  refine fn_code tab_ok mixed [(1000, [(1, 0), (2, 0)]), (1001, [(1, 0), (2, 0), (3, 0)]), (1002, [(1, 0), (2, 0), (3, 0)]), (1003, [(1, 0), (2, 0), (3, 0)]), (1004, [(1, 0), (2, 0), (3, 0)]), (1005, [(2, 0), (3, 0)]), (1006, [(2, 0)])] Try.func21 rfl rfl (by simp [Try.f21]) (by kernel_rfl) ?_
  simp only [Try.f21]
  refine sA ?_
  obtain ⟨c6, hr1, h⟩ := bind_ok h
  refine Cl_sA (w_laws_toIntS hr1) ?_
  try refine sA ?_
  obtain ⟨c11, hr2, h⟩ := bind_ok h
  refine Cl_sA (w_laws_toMoveS hr2) ?_
  try refine sA ?_
  have he := Option.some.inj h
  subst he
  exact endsA ⟨[(2, (.pb 2 0))], [(0, some (true, .arr false 1 (c6.map eI))), (1, some (true, .arr false 3 (c11.map eMove))), (2, some (true, .box [(.os 0 1 0 c6.length c6.length false), (.os 1 3 0 c11.length c11.length false), (.lf false (.sc (.int .i64 a0.Done))), (.lf false (.sc (.bool a0.Undoing)))]))], 3, 19⟩ [some 3, some 4, some 1]
theorem w_spec_l1In {a0 : Int} {a1 : Int} {a2 : Int} {r : Bool} (h : spec_l1In a0 a1 a2 = some r) : Fn Try.prog 45 [(.lf false (.sc (.int .i64 a0))), (.lf false (.sc (.int .i64 a1))), (.lf false (.sc (.int .i64 a2)))] [] 0 (.lf false (.sc (.bool r))) [] 0 := by
  unfold spec_l1In at h
  refine fn_code tab_ok mixed [] Try.func45 rfl rfl (by simp [Try.f45]) (by kernel_rfl) ?_
  simp only [Try.f45]
  refine sA ?_
  refine Sp_if h (fun h hc1 => ?_) (fun h hc1 => ?_)
  · try refine sA ?_
    have he := Option.some.inj h
    subst he
    exact endsA ⟨[(6, (.lf false (.sc (.bool (decide (a0 ≤ a2))))))], [], 0, 15⟩ []
  · try refine sA ?_
    have he := Option.some.inj h
    subst he
    exact endsA ⟨[(6, (.lf false (.sc (.bool false))))], [], 0, 15⟩ []
theorem w_spec_l9Accounts {a0 : (List Int)} {r : Bool} (h : spec_l9Accounts a0 = some r) : Fn Try.prog 44 [(.lf true (.sl (a0.map eI)))] [] 0 (.lf false (.sc (.bool r))) [] 0 := by
  unfold spec_l9Accounts at h
  refine fn_code tab_ok mixed [(1000, [(0, 0)]), (1001, [(0, 0), (5, 0), (6, 0), (7, 0)]), (1002, [(0, 0), (5, 0), (6, 0), (7, 0), (8, 0)]), (1003, [(0, 0), (4, 0), (5, 0), (6, 0), (7, 0)]), (1004, [(0, 0), (5, 0), (6, 0), (7, 0), (13, 0)]), (1005, [(2, 0)]), (1006, [(0, 0), (5, 0), (6, 0), (7, 0)]), (1007, [(2, 0)])] Try.func44 rfl rfl (by simp [Try.f44]) (by kernel_rfl) ?_
  simp only [Try.f44]
  refine sA ?_
  obtain ⟨y16, hl1, h⟩ := bind_ok h
  refine W_loopP (fun g13 : spec_l9Accounts_G1 => ⟨[(0, (.lf true (.sl (a0.map eI)))), (5, (.lf true (.sl (a0.map eI)))), (6, (.lf false (.sc (.int .i64 ((a0.length : Nat) : Int))))), (7, (.lf false (.sc (.int .i64 g13.t7))))], [], 0, 18⟩) (spec_l9Accounts_L1 a0) _ _ hl1 (weakA []) ?_
  · intro n1 g13 z1 hs1 hk1
    unfold spec_l9Accounts_L1 at hs1
    try dsimp only at hs1
    refine sA ?_
    refine Bs_if hs1 (fun hs1 hc2 => ?_) (fun hs1 hc2 => ?_)
    · try refine sA ?_
      obtain ⟨hp3, hs1⟩ := guard_some hs1
      have hn3 : g13.t7.toNat < a0.length := by first | omega | (simp only [List.length_set, List.length_append, List.length_replicate, List.length_map]; omega)
      try refine sA ?_
      try refine andA ?_
      obtain ⟨c15, hr4, hs1⟩ := bind_ok hs1
      refine Cl_sA (w_spec_l1In hr4) ?_
      try refine sA ?_
      refine Bs_if hs1 (fun hs1 hc5 => ?_) (fun hs1 hc5 => ?_)
      · try refine sA ?_
        cases hs1
        cases hk1
        try dsimp only at h
        try refine sA ?_
        have he := Option.some.inj h
        subst he
        exact endsA ⟨[(2, (.lf false (.sc (.bool false))))], [], 0, 18⟩ []
      · try refine sA ?_
        cases hs1
        exact X_backP hk1 (weakA [])
    · try refine sA ?_
      cases hs1
      cases hk1
      try dsimp only at h
      try refine sA ?_
      obtain ⟨c20, hr6, h⟩ := bind_ok h
      refine Cl_sA (w_spec_l1In hr6) ?_
      try refine sA ?_
      have he := Option.some.inj h
      subst he
      exact endsA ⟨[(2, (.lf false (.sc (.bool c20))))], [], 0, 18⟩ []
theorem w_spec_l9Move {a0 : MoveT} {a1 : Int} {r : Bool} (h : spec_l9Move a0 a1 = some r) : Fn Try.prog 46 [(.ag [(.lf false (.sc (.int .i64 a0.From))), (.lf false (.sc (.int .i64 a0.To))), (.lf false (.sc (.int .i64 a0.Many)))]), (.lf false (.sc (.int .i64 a1)))] [] 0 (.lf false (.sc (.bool r))) [] 0 := by
  unfold spec_l9Move at h
  refine fn_code tab_ok mixed [] Try.func46 rfl rfl (by simp [Try.f46]) (by kernel_rfl) ?_
  simp only [Try.f46]
  refine sA ?_
  obtain ⟨c25, hr1, h⟩ := bind_ok h
  refine Cl_sA (w_spec_l1In hr1) ?_
  try refine sA ?_
  refine Sp_if h (fun h hc2 => ?_) (fun h hc2 => ?_)
  · try refine sA ?_
    obtain ⟨c26, hr3, h⟩ := bind_ok h
    refine Cl_sA (w_spec_l1In hr3) ?_
    try refine sA ?_
    refine Sp_if h (fun h hc4 => ?_) (fun h hc4 => ?_)
    · try refine sA ?_
      refine Sp_if h (fun h hc5 => ?_) (fun h hc5 => ?_)
      · try refine sA ?_
        obtain ⟨c27, hr6, h⟩ := bind_ok h
        refine Cl_sA (w_spec_l1In hr6) ?_
        try refine sA ?_
        have he := Option.some.inj h
        subst he
        exact endsA ⟨[(4, (.lf false (.sc (.bool c27))))], [], 0, 29⟩ []
      · try refine sA ?_
        have he := Option.some.inj h
        subst he
        exact endsA ⟨[(4, (.lf false (.sc (.bool false))))], [], 0, 29⟩ []
    · try refine sA ?_
      have he := Option.some.inj h
      subst he
      exact endsA ⟨[(4, (.lf false (.sc (.bool false))))], [], 0, 29⟩ []
  · try refine sA ?_
    have he := Option.some.inj h
    subst he
    exact endsA ⟨[(4, (.lf false (.sc (.bool false))))], [], 0, 29⟩ []
theorem w_spec_l9Back {a0 : MoveT} {r : MoveT} (h : spec_l9Back a0 = some r) : Fn Try.prog 48 [(.ag [(.lf false (.sc (.int .i64 a0.From))), (.lf false (.sc (.int .i64 a0.To))), (.lf false (.sc (.int .i64 a0.Many)))])] [] 0 (.ag [(.lf false (.sc (.int .i64 r.From))), (.lf false (.sc (.int .i64 r.To))), (.lf false (.sc (.int .i64 r.Many)))]) [] 1 := by
  unfold spec_l9Back at h
  refine fn_code tab_ok mixed [] Try.func48 rfl rfl (by simp [Try.f48]) (by kernel_rfl) ?_
  simp only [Try.f48]
  refine sA ?_
  have he := Option.some.inj h
  subst he
  exact endsA ⟨[(2, (.pb 0 0))], [(0, some (true, .box [(.lf false (.sc (.int .i64 a0.To))), (.lf false (.sc (.int .i64 a0.From))), (.lf false (.sc (.int .i64 a0.Many)))]))], 1, 10⟩ [some 1]
theorem w_spec_l9Do {a0 : (List Int)} {a1 : MoveT} {r : ((List Int) × Bool)} (h : spec_l9Do a0 a1 = some r) : Fn Try.prog 47 [(.lf true (.sl (a0.map eI))), (.ag [(.lf false (.sc (.int .i64 a1.From))), (.lf false (.sc (.int .i64 a1.To))), (.lf false (.sc (.int .i64 a1.Many)))])] [] 0 (.tu [(.os 0 1 0 r.1.length r.1.length false), (.lf false (.sc (.bool r.2)))]) [(0, some (true, .arr false 1 (r.1.map eI)))] 1 := by
  unfold spec_l9Do at h
  refine fn_code tab_ok mixed [(1000, [(0, 0), (3, 0)]), (1001, [(3, 0), (6, 0)]), (1002, [(3, 0), (6, 0)]), (1003, [(3, 0), (6, 0)]), (1004, [(4, 0), (5, 0)])] Try.func47 rfl rfl (by simp [Try.f47]) (by kernel_rfl) ?_
  simp only [Try.f47]
  refine sA ?_
  obtain ⟨hp1, h⟩ := guard_some h
  try refine sA ?_
  try refine andA ?_
  obtain ⟨hp2, h⟩ := guard_some h
  have hn2 : a1.From.toNat < a0.length := by first | omega | (simp only [List.length_set, List.length_append, List.length_replicate, List.length_map]; omega)
  try refine sA ?_
  try refine andA ?_
  try refine andB ?_
  try refine sA ?_
  obtain ⟨hp4, h⟩ := guard_some h
  have hn4 : a1.From.toNat < a0.length := by first | omega | (simp only [List.length_set, List.length_append, List.length_replicate, List.length_map]; omega)
  try refine sA ?_
  try refine andA ?_
  try refine andB ?_
  try refine sA ?_
  obtain ⟨hp6, h⟩ := guard_some h
  have hn6 : a1.To.toNat < a0.length := by first | omega | (simp only [List.length_set, List.length_append, List.length_replicate, List.length_map]; omega)
  try refine sA ?_
  try refine andA ?_
  try refine andB ?_
  try refine sA ?_
  obtain ⟨hp8, h⟩ := guard_some h
  have hn8 : a1.To.toNat < a0.length := by first | omega | (simp only [List.length_set, List.length_append, List.length_replicate, List.length_map]; omega)
  try refine sA ?_
  try refine andA ?_
  try refine andB ?_
  try refine sA ?_
  obtain ⟨hp10, h⟩ := guard_some h
  have hn10 : a1.From.toNat < a0.length := by first | omega | (simp only [List.length_set, List.length_append, List.length_replicate, List.length_map]; omega)
  try refine sA ?_
  try refine andA ?_
  try refine andB ?_
  try refine sA ?_
  refine Sp_if h (fun h hc12 => ?_) (fun h hc12 => ?_)
  · try refine sA ?_
    obtain ⟨hp13, h⟩ := guard_some h
    have hn13 : a1.To.toNat < a0.length := by first | omega | (simp only [List.length_set, List.length_append, List.length_replicate, List.length_map]; omega)
    try refine sA ?_
    try refine andA ?_
    try refine andB ?_
    try refine sA ?_
    have he := Option.some.inj h
    subst he
    exact endsA ⟨[(4, (.os 0 1 0 ((((([]) ++ a0).set a1.From.toNat (wI ((nth (([]) ++ a0) a1.From.toNat) - a1.Many))).set a1.To.toNat (wI ((nth ((([]) ++ a0).set a1.From.toNat (wI ((nth (([]) ++ a0) a1.From.toNat) - a1.Many))) a1.To.toNat) + a1.Many))).length) ((((([]) ++ a0).set a1.From.toNat (wI ((nth (([]) ++ a0) a1.From.toNat) - a1.Many))).set a1.To.toNat (wI ((nth ((([]) ++ a0).set a1.From.toNat (wI ((nth (([]) ++ a0) a1.From.toNat) - a1.Many))) a1.To.toNat) + a1.Many))).length) false)), (5, (.lf false (.sc (.bool (decide ((nth (((([]) ++ a0).set a1.From.toNat (wI ((nth (([]) ++ a0) a1.From.toNat) - a1.Many))).set a1.To.toNat (wI ((nth ((([]) ++ a0).set a1.From.toNat (wI ((nth (([]) ++ a0) a1.From.toNat) - a1.Many))) a1.To.toNat) + a1.Many))) a1.To.toNat) ≤ 1000000))))))], [(0, some (true, .arr false 1 ((((([]) ++ a0).set a1.From.toNat (wI ((nth (([]) ++ a0) a1.From.toNat) - a1.Many))).set a1.To.toNat (wI ((nth ((([]) ++ a0).set a1.From.toNat (wI ((nth (([]) ++ a0) a1.From.toNat) - a1.Many))) a1.To.toNat) + a1.Many))).map eI)))], 1, 43⟩ [some 2]
  · try refine sA ?_
    have he := Option.some.inj h
    subst he
    exact endsA ⟨[(4, (.os 0 1 0 ((((([]) ++ a0).set a1.From.toNat (wI ((nth (([]) ++ a0) a1.From.toNat) - a1.Many))).set a1.To.toNat (wI ((nth ((([]) ++ a0).set a1.From.toNat (wI ((nth (([]) ++ a0) a1.From.toNat) - a1.Many))) a1.To.toNat) + a1.Many))).length) ((((([]) ++ a0).set a1.From.toNat (wI ((nth (([]) ++ a0) a1.From.toNat) - a1.Many))).set a1.To.toNat (wI ((nth ((([]) ++ a0).set a1.From.toNat (wI ((nth (([]) ++ a0) a1.From.toNat) - a1.Many))) a1.To.toNat) + a1.Many))).length) false)), (5, (.lf false (.sc (.bool false))))], [(0, some (true, .arr false 1 ((((([]) ++ a0).set a1.From.toNat (wI ((nth (([]) ++ a0) a1.From.toNat) - a1.Many))).set a1.To.toNat (wI ((nth ((([]) ++ a0).set a1.From.toNat (wI ((nth (([]) ++ a0) a1.From.toNat) - a1.Many))) a1.To.toNat) + a1.Many))).map eI)))], 1, 43⟩ [some 2]
theorem w_spec_l9Do_F {a0 : (List Int)} {a1 : MoveT} {r : ((List Int) × Bool)} (h : spec_l9Do_F a0 a1 = some r) : Fn Try.prog 47 [(.lf true (.sl (a0.map eI))), (.ag [(.lf false (.sc (.int .i64 a1.From))), (.lf false (.sc (.int .i64 a1.To))), (.lf false (.sc (.int .i64 a1.Many)))])] [] 0 (.tu [(.lf true (.sl (r.1.map eI))), (.lf false (.sc (.bool r.2)))]) [] 0 := by
  unfold spec_l9Do_F at h
  refine fn_code tab_ok mixed [(1000, [(0, 0), (3, 0)]), (1001, [(3, 0), (6, 0)]), (1002, [(3, 0), (6, 0)]), (1003, [(3, 0), (6, 0)]), (1004, [(4, 0), (5, 0)])] Try.func47 rfl rfl (by simp [Try.f47]) (by kernel_rfl) ?_
  simp only [Try.f47]
  refine sA ?_
  obtain ⟨hp1, h⟩ := guard_some h
  try refine sA ?_
  try refine andA ?_
  obtain ⟨hp2, h⟩ := guard_some h
  have hn2 : a1.From.toNat < a0.length := by first | omega | (simp only [List.length_set, List.length_append, List.length_replicate, List.length_map]; omega)
  try refine sA ?_
  try refine andA ?_
  try refine andB ?_
  try refine sA ?_
  obtain ⟨hp4, h⟩ := guard_some h
  have hn4 : a1.From.toNat < a0.length := by first | omega | (simp only [List.length_set, List.length_append, List.length_replicate, List.length_map]; omega)
  try refine sA ?_
  try refine andA ?_
  try refine andB ?_
  try refine sA ?_
  obtain ⟨hp6, h⟩ := guard_some h
  have hn6 : a1.To.toNat < a0.length := by first | omega | (simp only [List.length_set, List.length_append, List.length_replicate, List.length_map]; omega)
  try refine sA ?_
  try refine andA ?_
  try refine andB ?_
  try refine sA ?_
  obtain ⟨hp8, h⟩ := guard_some h
  have hn8 : a1.To.toNat < a0.length := by first | omega | (simp only [List.length_set, List.length_append, List.length_replicate, List.length_map]; omega)
  try refine sA ?_
  try refine andA ?_
  try refine andB ?_
  try refine sA ?_
  obtain ⟨hp10, h⟩ := guard_some h
  have hn10 : a1.From.toNat < a0.length := by first | omega | (simp only [List.length_set, List.length_append, List.length_replicate, List.length_map]; omega)
  try refine sA ?_
  try refine andA ?_
  try refine andB ?_
  try refine sA ?_
  refine Sp_if h (fun h hc12 => ?_) (fun h hc12 => ?_)
  · try refine sA ?_
    obtain ⟨hp13, h⟩ := guard_some h
    have hn13 : a1.To.toNat < a0.length := by first | omega | (simp only [List.length_set, List.length_append, List.length_replicate, List.length_map]; omega)
    try refine sA ?_
    try refine andA ?_
    try refine andB ?_
    try refine sA ?_
    have he := Option.some.inj h
    subst he
    refine ends_frz 2 ?_
    try refine sA ?_
    exact endsA ⟨[(4, (.lf true (.sl ((((([]) ++ a0).set a1.From.toNat (wI ((nth (([]) ++ a0) a1.From.toNat) - a1.Many))).set a1.To.toNat (wI ((nth ((([]) ++ a0).set a1.From.toNat (wI ((nth (([]) ++ a0) a1.From.toNat) - a1.Many))) a1.To.toNat) + a1.Many))).map eI)))), (5, (.lf false (.sc (.bool (decide ((nth (((([]) ++ a0).set a1.From.toNat (wI ((nth (([]) ++ a0) a1.From.toNat) - a1.Many))).set a1.To.toNat (wI ((nth ((([]) ++ a0).set a1.From.toNat (wI ((nth (([]) ++ a0) a1.From.toNat) - a1.Many))) a1.To.toNat) + a1.Many))) a1.To.toNat) ≤ 1000000))))))], [], 0, 43⟩ []
  · try refine sA ?_
    have he := Option.some.inj h
    subst he
    refine ends_frz 2 ?_
    try refine sA ?_
    exact endsA ⟨[(4, (.lf true (.sl ((((([]) ++ a0).set a1.From.toNat (wI ((nth (([]) ++ a0) a1.From.toNat) - a1.Many))).set a1.To.toNat (wI ((nth ((([]) ++ a0).set a1.From.toNat (wI ((nth (([]) ++ a0) a1.From.toNat) - a1.Many))) a1.To.toNat) + a1.Many))).map eI)))), (5, (.lf false (.sc (.bool false))))], [], 0, 43⟩ []
theorem w_spec_GoodSaga {a0 : SagaT} {r : Bool} (h : spec_GoodSaga a0 = some r) : Fn Try.prog 19 [(.ag [(.lf true (.sl (a0.Accounts.map eI))), (.lf true (.sl (a0.Moves.map eMove))), (.lf false (.sc (.int .i64 a0.Done))), (.lf false (.sc (.bool a0.Undoing)))])] [] 0 (.lf false (.sc (.bool r))) [] 0 := by
  unfold spec_GoodSaga at h
  refine fn_code tab_ok mixed [(1000, [(1, 0)]), (1001, [(1, 0), (27, 0)]), (1002, [(2, 0)]), (1003, [(1, 0), (29, 0), (30, 0), (31, 0)]), (1004, [(1, 0), (29, 0), (30, 0), (31, 0), (32, 0)]), (1005, [(1, 0), (4, 0), (29, 0), (30, 0), (31, 0)]), (1006, [(1, 0), (29, 0), (30, 0), (31, 0), (40, 0)]), (1007, [(2, 0)]), (1008, [(1, 0), (29, 0), (30, 0), (31, 0)]), (1009, [(1, 0), (5, 0)]), (1010, [(1, 0), (5, 0), (6, 0)]), (1011, [(1, 0), (5, 0), (6, 0), (48, 0)]), (1012, [(1, 0), (5, 0), (6, 0)]), (1013, [(1, 0), (6, 0), (7, 0), (8, 0)]), (1014, [(1, 0), (6, 0), (7, 0), (63, 0)]), (1015, [(2, 0)]), (1016, [(1, 0), (5, 0), (6, 0)]), (1017, [(2, 0)]), (4001, [])] Try.func19 rfl rfl (by simp [Try.f19]) (by kernel_rfl) ?_
  simp only [Try.f19]
  refine sA ?_
  obtain ⟨p38, hq1, h⟩ := bind_ok h
  refine Sq_cut (fun s2 => s2 = ⟨[(1, (.pb 0 0)), (27, (.lf false (.sc (.bool p38.t27))))], [(0, some (true, .box [(.lf true (.sl (a0.Accounts.map eI))), (.lf true (.sl (a0.Moves.map eMove))), (.lf false (.sc (.int .i64 a0.Done))), (.lf false (.sc (.bool a0.Undoing)))]))], 1, 65⟩) ?_ ?_
  · try refine sA ?_
    obtain ⟨c36, hr2, hq1⟩ := bind_ok hq1
    refine Cl_sA (w_spec_l9Accounts hr2) ?_
    try refine sA ?_
    refine Sp_if hq1 (fun hq1 hc3 => ?_) (fun hq1 hc3 => ?_)
    · try refine sA ?_
      cases hq1
      exact X_cut rfl (weakA [some 0])
    · try refine sA ?_
      refine Sp_if hq1 (fun hq1 hc4 => ?_) (fun hq1 hc4 => ?_)
      · try refine sA ?_
        cases hq1
        exact X_cut rfl (weakA [some 0])
      · try refine sA ?_
        obtain ⟨c37, hr5, hq1⟩ := bind_ok hq1
        refine Cl_sA (w_spec_l1In hr5) ?_
        try refine sA ?_
        cases hq1
        exact X_cut rfl (weakA [some 0])
  · intro s2 hJ; subst hJ
    try dsimp only at h
    try refine sA ?_
    refine Bs_if h (fun h hc6 => ?_) (fun h hc6 => ?_)
    · try refine sA ?_
      have he := Option.some.inj h
      subst he
      exact endsA ⟨[(2, (.lf false (.sc (.bool false))))], [], 0, 65⟩ []
    · try refine sA ?_
      obtain ⟨y42, hl7, h⟩ := bind_ok h
      refine W_loopP (fun g39 : spec_GoodSaga_G1 => ⟨[(1, (.pb 0 0)), (29, (.lf true (.sl (a0.Moves.map eMove)))), (30, (.lf false (.sc (.int .i64 ((a0.Moves.length : Nat) : Int))))), (31, (.lf false (.sc (.int .i64 g39.t31))))], [(0, some (true, .box [(.lf true (.sl (a0.Accounts.map eI))), (.lf true (.sl (a0.Moves.map eMove))), (.lf false (.sc (.int .i64 a0.Done))), (.lf false (.sc (.bool a0.Undoing)))]))], 1, 65⟩) (spec_GoodSaga_L1 a0) _ _ hl7 (weakA [some 0]) ?_
      · intro n1 g39 z1 hs1 hk1
        unfold spec_GoodSaga_L1 at hs1
        try dsimp only at hs1
        refine sA ?_
        refine Bs_if hs1 (fun hs1 hc8 => ?_) (fun hs1 hc8 => ?_)
        · try refine sA ?_
          obtain ⟨hp9, hs1⟩ := guard_some hs1
          have hn9 : g39.t31.toNat < a0.Moves.length := by first | omega | (simp only [List.length_set, List.length_append, List.length_replicate, List.length_map]; omega)
          try refine sA ?_
          try refine andA ?_
          obtain ⟨c41, hr10, hs1⟩ := bind_ok hs1
          refine Cl_sA (w_spec_l9Move hr10) ?_
          try refine sA ?_
          refine Bs_if hs1 (fun hs1 hc11 => ?_) (fun hs1 hc11 => ?_)
          · try refine sA ?_
            cases hs1
            cases hk1
            try dsimp only at h
            try refine sA ?_
            have he := Option.some.inj h
            subst he
            exact endsA ⟨[(2, (.lf false (.sc (.bool false))))], [], 0, 65⟩ []
          · try refine sA ?_
            cases hs1
            exact X_backP hk1 (weakA [some 0])
        · try refine sA ?_
          cases hs1
          cases hk1
          try dsimp only at h
          try refine sA ?_
          obtain ⟨y58, hl12, h⟩ := bind_ok h
          refine W_loopP (fun g53 : spec_GoodSaga_G2 => ⟨[(1, (.pb 0 0)), (5, (.lf true (.sl (g53.t5.map eI)))), (6, (.lf false (.sc (.int .i64 g53.t6))))], [(0, some (true, .box [(.lf true (.sl (a0.Accounts.map eI))), (.lf true (.sl (a0.Moves.map eMove))), (.lf false (.sc (.int .i64 a0.Done))), (.lf false (.sc (.bool a0.Undoing)))]))], 1, 65⟩) (_) _ _ hl12 (weakA [some 0]) ?_
          · intro n3 g53 z3 hs3 hk3
            unfold spec_GoodSaga_L2 at hs3
            try dsimp only at hs3
            refine sA ?_
            refine Bs_if hs3 (fun hs3 hc13 => ?_) (fun hs3 hc13 => ?_)
            · try refine sA ?_
              obtain ⟨hp14, hs3⟩ := guard_some hs3
              have hn14 : g53.t6.toNat < a0.Moves.length := by first | omega | (simp only [List.length_set, List.length_append, List.length_replicate, List.length_map]; omega)
              try refine sA ?_
              try refine andA ?_
              obtain ⟨c56, hr15, hs3⟩ := bind_ok hs3
              refine Cl_sA (w_spec_l9Back hr15) ?_
              try refine sA ?_
              obtain ⟨c57, hr16, hs3⟩ := bind_ok hs3
              refine Cl_sA (w_spec_l9Do_F hr16) ?_
              try refine sA ?_
              refine Bs_if hs3 (fun hs3 hc17 => ?_) (fun hs3 hc17 => ?_)
              · try refine sA ?_
                cases hs3
                cases hk3
                try dsimp only at h
                try refine sA ?_
                have he := Option.some.inj h
                subst he
                exact endsA ⟨[(2, (.lf false (.sc (.bool false))))], [], 0, 65⟩ []
              · try refine sA ?_
                cases hs3
                exact X_backP hk3 (weakA [some 0])
            · try refine sA ?_
              cases hs3
              cases hk3
              try dsimp only at h
              try refine sA ?_
              have he := Option.some.inj h
              subst he
              exact endsA ⟨[(2, (.lf false (.sc (.bool true))))], [], 0, 65⟩ []
theorem w_spec_l9Own {a0 : SagaT} {r : SagaT} (h : spec_l9Own a0 = some r) : Fn Try.prog 29 [(.ag [(.lf true (.sl (a0.Accounts.map eI))), (.lf true (.sl (a0.Moves.map eMove))), (.lf false (.sc (.int .i64 a0.Done))), (.lf false (.sc (.bool a0.Undoing)))])] [] 0 (.ag [(.os 0 1 0 r.Accounts.length r.Accounts.length false), (.os 1 3 0 r.Moves.length r.Moves.length false), (.lf false (.sc (.int .i64 r.Done))), (.lf false (.sc (.bool r.Undoing)))]) [(0, some (true, .arr false 1 (r.Accounts.map eI))), (1, some (true, .arr false 3 (r.Moves.map eMove)))] 3 := by
  unfold spec_l9Own at h
  refine fn_code tab_ok mixed [(1000, [(1, 0), (2, 0)]), (1001, [(1, 0), (2, 0)]), (1002, [(1, 0), (2, 0)]), (1003, [(2, 0)])] Try.func29 rfl rfl (by simp [Try.f29]) (by kernel_rfl) ?_
  simp only [Try.f29]
  refine sA ?_
  obtain ⟨hp1, h⟩ := guard_some h
  try refine sA ?_
  try refine andA ?_
  obtain ⟨hp2, h⟩ := guard_some h
  try refine sA ?_
  try refine andA ?_
  have he := Option.some.inj h
  subst he
  exact endsA ⟨[(2, (.pb 2 0))], [(0, some (true, .arr false 1 ((([]) ++ a0.Accounts).map eI))), (1, some (true, .arr false 3 ((([]) ++ a0.Moves).map eMove))), (2, some (true, .box [(.os 0 1 0 ((([]) ++ a0.Accounts).length) ((([]) ++ a0.Accounts).length) false), (.os 1 3 0 ((([]) ++ a0.Moves).length) ((([]) ++ a0.Moves).length) false), (.lf false (.sc (.int .i64 a0.Done))), (.lf false (.sc (.bool a0.Undoing)))]))], 3, 14⟩ [some 3, some 5, some 1]
theorem w_spec_FailSaga {a0 : SagaT} {r : (SagaT × Bool)} (h : spec_FailSaga a0 = some r) : Fn Try.prog 59 [(.ag [(.lf true (.sl (a0.Accounts.map eI))), (.lf true (.sl (a0.Moves.map eMove))), (.lf false (.sc (.int .i64 a0.Done))), (.lf false (.sc (.bool a0.Undoing)))])] [] 0 (.tu [(.ag [(.os 0 1 0 r.1.Accounts.length r.1.Accounts.length false), (.os 1 3 0 r.1.Moves.length r.1.Moves.length false), (.lf false (.sc (.int .i64 r.1.Done))), (.lf false (.sc (.bool r.1.Undoing)))]), (.lf false (.sc (.bool r.2)))]) [(0, some (true, .arr false 1 (r.1.Accounts.map eI))), (1, some (true, .arr false 3 (r.1.Moves.map eMove)))] 3 := by
  unfold spec_FailSaga at h
  refine fn_code tab_ok mixed [(1000, [(1, 0), (2, 0)]), (1001, [(1, 0), (2, 0), (18, 0)]), (1002, [(2, 0), (3, 0)]), (1003, [(1, 0), (2, 0)]), (1004, [(1, 0), (2, 0)]), (1005, [(2, 0), (3, 0)]), (4001, [])] Try.func59 rfl rfl (by simp [Try.f59]) (by kernel_rfl) ?_
  simp only [Try.f59]
  refine sA ?_
  obtain ⟨p65, hq1, h⟩ := bind_ok h
  refine Sq_cut (fun s2 => s2 = ⟨[(1, (.pb 0 0)), (2, (.pb 1 0)), (18, (.lf false (.sc (.bool p65.t18))))], [(0, some (true, .box [(.lf true (.sl (a0.Accounts.map eI))), (.lf true (.sl (a0.Moves.map eMove))), (.lf false (.sc (.int .i64 a0.Done))), (.lf false (.sc (.bool a0.Undoing)))])), (1, some (true, .box [.nl, .nl, (.lf false (.sc (.int .i64 0))), (.lf false (.sc (.bool false)))]))], 2, 24⟩) ?_ ?_
  · try refine sA ?_
    obtain ⟨c64, hr2, hq1⟩ := bind_ok hq1
    refine Cl_sA (w_spec_GoodSaga hr2) ?_
    try refine sA ?_
    refine Sp_if hq1 (fun hq1 hc3 => ?_) (fun hq1 hc3 => ?_)
    · try refine sA ?_
      cases hq1
      exact X_cut rfl (weakA [some 0, some 1])
    · try refine sA ?_
      refine Sp_if hq1 (fun hq1 hc4 => ?_) (fun hq1 hc4 => ?_)
      · try refine sA ?_
        cases hq1
        exact X_cut rfl (weakA [some 0, some 1])
      · try refine sA ?_
        cases hq1
        exact X_cut rfl (weakA [some 0, some 1])
  · intro s2 hJ; subst hJ
    try dsimp only at h
    try refine sA ?_
    refine Bs_if h (fun h hc5 => ?_) (fun h hc5 => ?_)
    · try refine sA ?_
      have he := Option.some.inj h
      subst he
      exact endsA ⟨[(2, (.pb 2 0)), (3, (.lf false (.sc (.bool false))))], [(0, some (true, .arr false 1 (([] : List Int).map eI))), (1, some (true, .arr false 3 (([] : List MoveT).map eMove))), (2, some (true, .box [(.os 0 1 0 (([] : List Int).length) (([] : List Int).length) false), (.os 1 3 0 (([] : List MoveT).length) (([] : List MoveT).length) false), (.lf false (.sc (.int .i64 0))), (.lf false (.sc (.bool false)))]))], 3, 24⟩ [none, none, some 1]
    · try refine sA ?_
      obtain ⟨c66, hr6, h⟩ := bind_ok h
      refine Cl_sA (w_spec_l9Own hr6) ?_
      try refine sA ?_
      have he := Option.some.inj h
      subst he
      exact endsA ⟨[(2, (.pb 2 0)), (3, (.lf false (.sc (.bool true))))], [(0, some (true, .arr false 1 (c66.Accounts.map eI))), (1, some (true, .arr false 3 (c66.Moves.map eMove))), (2, some (true, .box [(.os 0 1 0 c66.Accounts.length c66.Accounts.length false), (.os 1 3 0 c66.Moves.length c66.Moves.length false), (.lf false (.sc (.int .i64 c66.Done))), (.lf false (.sc (.bool true)))]))], 3, 24⟩ [some 2, some 3, some 1]
theorem w_spec_l9Step_ww {a0 : SagaT} {m0 : Nat} {x0 : Bool} {m1 : Nat} {x1 : Bool} {r : (SagaT × Bool)} (h : spec_l9Step_ww a0 = some r) : Fn Try.prog 35 [(.ag [(.os 0 1 0 a0.Accounts.length m0 x0), (.os 1 3 0 a0.Moves.length m1 x1), (.lf false (.sc (.int .i64 a0.Done))), (.lf false (.sc (.bool a0.Undoing)))])] [(0, some (false, .arr true 1 (a0.Accounts.map eI))), (1, some (false, .arr true 3 (a0.Moves.map eMove)))] 2 (.tu [(.ag [(.os 2 1 0 r.1.Accounts.length r.1.Accounts.length false), (.os 1 3 0 a0.Moves.length a0.Moves.length false), (.lf false (.sc (.int .i64 r.1.Done))), (.lf false (.sc (.bool r.1.Undoing)))]), (.lf false (.sc (.bool r.2)))]) [(0, none), (1, some (false, .arr false 3 (a0.Moves.map eMove))), (2, some (false, .arr false 1 (r.1.Accounts.map eI)))] 4 := by
  unfold spec_l9Step_ww at h
  refine fn_code tab_ok mixed [(5, [(1, 8)]), (1000, [(1, 0), (2, 0)]), (1001, [(1, 0), (2, 0), (7, 0)]), (1002, [(1, 0), (2, 0), (10, 0)]), (1003, [(2, 0), (3, 0)]), (1004, [(1, 0), (2, 0)]), (1005, [(1, 0), (2, 0)]), (1006, [(2, 0), (3, 0)]), (1007, [(1, 0), (2, 0), (36, 0)]), (1008, [(2, 0), (3, 0)]), (1009, [(1, 0), (2, 0), (4, 0), (5, 0)]), (1010, [(1, 0), (2, 0), (4, 0), (51, 0)]), (1011, [(1, 0), (2, 0)]), (1012, [(2, 0), (3, 0)]), (1013, [(1, 0), (2, 0)]), (1014, [(1, 0), (2, 0)]), (1015, [(2, 0), (3, 0)])] Try.func35 rfl rfl (by simp [Try.f35]) (by kernel_rfl) ?_
  simp only [Try.f35]
  refine sA ?_
  refine Bs_if h (fun h hc1 => ?_) (fun h hc1 => ?_)
  · try refine sA ?_
    refine Bs_if h (fun h hc2 => ?_) (fun h hc2 => ?_)
    · try refine sA ?_
      have he := Option.some.inj h
      subst he
      exact endsA ⟨[(2, (.pb 3 0)), (3, (.lf false (.sc (.bool false))))], [(0, none), (1, some (false, .arr false 3 (a0.Moves.map eMove))), (2, some (false, .arr false 1 (a0.Accounts.map eI))), (3, some (true, .box [(.os 2 1 0 a0.Accounts.length a0.Accounts.length false), (.os 1 3 0 a0.Moves.length a0.Moves.length false), (.lf false (.sc (.int .i64 a0.Done))), (.lf false (.sc (.bool a0.Undoing)))]))], 4, 61⟩ [some 0, some 1, some 0, some 3]
    · try refine sA ?_
      obtain ⟨hp3, h⟩ := guard_some h
      have hn3 : (wI (a0.Done - 1)).toNat < a0.Moves.length := by first | omega | (simp only [List.length_set, List.length_append, List.length_replicate, List.length_map]; omega)
      try refine sA ?_
      try refine andA ?_
      try refine andB ?_
      try refine sA ?_
      obtain ⟨c78, hr5, h⟩ := bind_ok h
      refine Cl_sA (w_spec_l9Back hr5) ?_
      try refine sA ?_
      obtain ⟨c79, hr6, h⟩ := bind_ok h
      refine Cl_sA (w_spec_l9Do hr6) ?_
      try refine sA ?_
      have he := Option.some.inj h
      subst he
      exact endsA ⟨[(2, (.pb 3 0)), (3, (.lf false (.sc (.bool true))))], [(0, none), (1, some (false, .arr false 3 (a0.Moves.map eMove))), (2, some (false, .arr false 1 (c79.1.map eI))), (3, some (true, .box [(.os 2 1 0 c79.1.length c79.1.length false), (.os 1 3 0 a0.Moves.length a0.Moves.length false), (.lf false (.sc (.int .i64 (wI (a0.Done - 1))))), (.lf false (.sc (.bool a0.Undoing)))]))], 4, 61⟩ [some 0, some 1, some 5, some 3]
  · try refine sA ?_
    refine Bs_if h (fun h hc7 => ?_) (fun h hc7 => ?_)
    · try refine sA ?_
      have he := Option.some.inj h
      subst he
      exact endsA ⟨[(2, (.pb 3 0)), (3, (.lf false (.sc (.bool false))))], [(0, none), (1, some (false, .arr false 3 (a0.Moves.map eMove))), (2, some (false, .arr false 1 (a0.Accounts.map eI))), (3, some (true, .box [(.os 2 1 0 a0.Accounts.length a0.Accounts.length false), (.os 1 3 0 a0.Moves.length a0.Moves.length false), (.lf false (.sc (.int .i64 a0.Done))), (.lf false (.sc (.bool a0.Undoing)))]))], 4, 61⟩ [some 0, some 1, some 0, some 3]
    · try refine sA ?_
      obtain ⟨hp8, h⟩ := guard_some h
      have hn8 : a0.Done.toNat < a0.Moves.length := by first | omega | (simp only [List.length_set, List.length_append, List.length_replicate, List.length_map]; omega)
      try refine sA ?_
      try refine andA ?_
      try refine andB ?_
      try refine sA ?_
      obtain ⟨c80, hr10, h⟩ := bind_ok h
      refine Cl_sA (w_spec_l9Do hr10) ?_
      try refine sA ?_
      refine Bs_if h (fun h hc11 => ?_) (fun h hc11 => ?_)
      · try refine sA ?_
        have he := Option.some.inj h
        subst he
        exact endsA ⟨[(2, (.pb 3 0)), (3, (.lf false (.sc (.bool true))))], [(0, none), (1, some (false, .arr false 3 (a0.Moves.map eMove))), (2, some (false, .arr false 1 (a0.Accounts.map eI))), (3, some (true, .box [(.os 2 1 0 a0.Accounts.length a0.Accounts.length false), (.os 1 3 0 a0.Moves.length a0.Moves.length false), (.lf false (.sc (.int .i64 a0.Done))), (.lf false (.sc (.bool true)))]))], 4, 61⟩ [some 0, some 1, some 0, some 3]
      · try refine sA ?_
        have he := Option.some.inj h
        subst he
        exact endsA ⟨[(2, (.pb 3 0)), (3, (.lf false (.sc (.bool true))))], [(0, none), (1, some (false, .arr false 3 (a0.Moves.map eMove))), (2, some (false, .arr false 1 (c80.1.map eI))), (3, some (true, .box [(.os 2 1 0 c80.1.length c80.1.length false), (.os 1 3 0 a0.Moves.length a0.Moves.length false), (.lf false (.sc (.int .i64 (wI (a0.Done + 1))))), (.lf false (.sc (.bool a0.Undoing)))]))], 4, 61⟩ [some 0, some 1, some 4, some 3]
theorem w_spec_StepSaga {a0 : SagaT} {r : (SagaT × Bool)} (h : spec_StepSaga a0 = some r) : Fn Try.prog 17 [(.ag [(.lf true (.sl (a0.Accounts.map eI))), (.lf true (.sl (a0.Moves.map eMove))), (.lf false (.sc (.int .i64 a0.Done))), (.lf false (.sc (.bool a0.Undoing)))])] [] 0 (.tu [(.ag [(.os 0 1 0 r.1.Accounts.length r.1.Accounts.length false), (.os 1 3 0 r.1.Moves.length r.1.Moves.length false), (.lf false (.sc (.int .i64 r.1.Done))), (.lf false (.sc (.bool r.1.Undoing)))]), (.lf false (.sc (.bool r.2)))]) [(0, some (false, .arr false 1 (r.1.Accounts.map eI))), (1, some (true, .arr false 3 (r.1.Moves.map eMove)))] 3 := by
  unfold spec_StepSaga at h
  refine fn_code tab_ok mixed [(1000, [(1, 0), (2, 0)]), (1001, [(1, 0), (2, 0), (8, 0)]), (1002, [(2, 0), (3, 0)]), (1003, [(2, 0), (4, 0), (5, 0)]), (1004, [(2, 0), (4, 0), (22, 0)]), (1005, [(2, 0), (3, 0)]), (1006, [(2, 0), (3, 0)]), (4004, [])] Try.func17 rfl rfl (by simp [Try.f17]) (by kernel_rfl) ?_
  simp only [Try.f17]
  refine sA ?_
  obtain ⟨c73, hr1, h⟩ := bind_ok h
  refine Cl_sA (w_spec_GoodSaga hr1) ?_
  try refine sA ?_
  refine Bs_if h (fun h hc2 => ?_) (fun h hc2 => ?_)
  · try refine sA ?_
    have he := Option.some.inj h
    subst he
    exact endsA ⟨[(2, (.pb 2 0)), (3, (.lf false (.sc (.bool false))))], [(0, some (false, .arr false 1 (([] : List Int).map eI))), (1, some (true, .arr false 3 (([] : List MoveT).map eMove))), (2, some (true, .box [(.os 0 1 0 (([] : List Int).length) (([] : List Int).length) false), (.os 1 3 0 (([] : List MoveT).length) (([] : List MoveT).length) false), (.lf false (.sc (.int .i64 0))), (.lf false (.sc (.bool false)))]))], 3, 25⟩ [none, none, some 1]
  · try refine sA ?_
    obtain ⟨c74, hr3, h⟩ := bind_ok h
    refine Cl_sA (w_spec_l9Own hr3) ?_
    try refine sA ?_
    obtain ⟨c81, hr4, h⟩ := bind_ok h
    refine Cl_hA [2, 3] (w_spec_l9Step_ww hr4) ?_
    try refine sA ?_
    obtain ⟨p83, hq5, h⟩ := bind_ok h
    refine Sq_cut (fun s2 => s2 = ⟨[(2, (.pb 0 0)), (4, (.pb 1 0)), (22, (.lf false (.sc (.bool p83.t22))))], [(0, some (true, .box [.nl, .nl, (.lf false (.sc (.int .i64 0))), (.lf false (.sc (.bool false)))])), (1, some (true, .box [(.os 2 1 0 c81.1.Accounts.length c81.1.Accounts.length false), (.os 3 3 0 c74.Moves.length c74.Moves.length false), (.lf false (.sc (.int .i64 c81.1.Done))), (.lf false (.sc (.bool c81.1.Undoing)))])), (2, some (false, .arr false 1 (c81.1.Accounts.map eI))), (3, some (true, .arr false 3 (c74.Moves.map eMove)))], 4, 25⟩) ?_ ?_
    · try refine sA ?_
      refine Sp_if hq5 (fun hq5 hc6 => ?_) (fun hq5 hc6 => ?_)
      · try refine sA ?_
        cases hq5
        exact X_cut rfl (weakA [some 1, some 7, some 5, some 3])
      · try refine sA ?_
        obtain ⟨c82, hr7, hq5⟩ := bind_ok hq5
        refine Cl_sA (w_spec_GoodSaga hr7) ?_
        try refine sA ?_
        cases hq5
        exact X_cut rfl (weakA [some 1, some 7, some 5, some 3])
    · intro s2 hJ; subst hJ
      try dsimp only at h
      try refine sA ?_
      refine Bs_if h (fun h hc8 => ?_) (fun h hc8 => ?_)
      · try refine sA ?_
        have he := Option.some.inj h
        subst he
        exact endsA ⟨[(2, (.pb 2 0)), (3, (.lf false (.sc (.bool false))))], [(0, some (false, .arr false 1 (([] : List Int).map eI))), (1, some (true, .arr false 3 (([] : List MoveT).map eMove))), (2, some (true, .box [(.os 0 1 0 (([] : List Int).length) (([] : List Int).length) false), (.os 1 3 0 (([] : List MoveT).length) (([] : List MoveT).length) false), (.lf false (.sc (.int .i64 0))), (.lf false (.sc (.bool false)))]))], 3, 25⟩ [none, none, some 0]
      · try refine sA ?_
        have he := Option.some.inj h
        subst he
        exact endsA ⟨[(2, (.pb 2 0)), (3, (.lf false (.sc (.bool true))))], [(0, some (false, .arr false 1 (c81.1.Accounts.map eI))), (1, some (true, .arr false 3 (c74.Moves.map eMove))), (2, some (true, .box [(.os 0 1 0 c81.1.Accounts.length c81.1.Accounts.length false), (.os 1 3 0 c74.Moves.length c74.Moves.length false), (.lf false (.sc (.int .i64 c81.1.Done))), (.lf false (.sc (.bool c81.1.Undoing)))]))], 3, 25⟩ [some 2, some 3, some 0]
theorem w_spec_RunSaga {a0 : SagaT} {a1 : Int} {r : (SagaT × Int × Bool)} (h : spec_RunSaga a0 a1 = some r) : Fn Try.prog 25 [(.ag [(.lf true (.sl (a0.Accounts.map eI))), (.lf true (.sl (a0.Moves.map eMove))), (.lf false (.sc (.int .i64 a0.Done))), (.lf false (.sc (.bool a0.Undoing)))]), (.lf false (.sc (.int .i64 a1)))] [] 0 (.tu [(.ag [(.os 0 1 0 r.1.Accounts.length r.1.Accounts.length false), (.os 1 3 0 r.1.Moves.length r.1.Moves.length false), (.lf false (.sc (.int .i64 r.1.Done))), (.lf false (.sc (.bool r.1.Undoing)))]), (.lf false (.sc (.int .i64 r.2.1))), (.lf false (.sc (.bool r.2.2)))]) [(0, some (false, .arr false 1 (r.1.Accounts.map eI))), (1, some (true, .arr false 3 (r.1.Moves.map eMove)))] 3 := by
  unfold spec_RunSaga at h
  refine fn_code tab_ok mixed [(1000, [(1, 0), (2, 0), (4, 0)]), (1001, [(1, 0), (2, 0), (4, 0), (12, 0)]), (1002, [(4, 0), (5, 0), (6, 0)]), (1003, [(1, 0), (2, 0), (4, 0)]), (1004, [(1, 0), (2, 0), (4, 0), (7, 0)]), (1005, [(1, 0), (2, 0), (4, 0), (7, 0), (8, 0), (9, 0)]), (1006, [(1, 0), (2, 0), (4, 0), (7, 0), (8, 0), (9, 0), (19, 0)]), (1007, [(1, 0), (2, 0), (4, 0), (7, 0), (8, 0), (9, 0)]), (1008, [(1, 0), (2, 0), (4, 0), (7, 0), (8, 0), (9, 0), (26, 0)]), (1009, [(1, 0), (2, 0), (4, 0), (7, 0), (8, 0), (9, 0)]), (1010, [(1, 0), (2, 0), (4, 0), (7, 0), (8, 0), (33, 0)]), (1011, [(4, 0), (5, 0), (6, 0)]), (1012, [(1, 0), (2, 0), (4, 0), (7, 0)]), (1013, [(1, 0), (2, 0), (4, 0), (7, 0)]), (2026, [])] Try.func25 rfl rfl (by simp [Try.f25]) (by kernel_rfl) ?_
  simp only [Try.f25]
  refine sA ?_
  obtain ⟨c69, hr1, h⟩ := bind_ok h
  refine Cl_sA (w_spec_GoodSaga hr1) ?_
  try refine sA ?_
  refine Bs_if h (fun h hc2 => ?_) (fun h hc2 => ?_)
  · try refine sA ?_
    have he := Option.some.inj h
    subst he
    exact endsA ⟨[(4, (.pb 2 0)), (5, (.lf false (.sc (.int .i64 0)))), (6, (.lf false (.sc (.bool false))))], [(0, some (false, .arr false 1 (([] : List Int).map eI))), (1, some (true, .arr false 3 (([] : List MoveT).map eMove))), (2, some (true, .box [(.os 0 1 0 (([] : List Int).length) (([] : List Int).length) false), (.os 1 3 0 (([] : List MoveT).length) (([] : List MoveT).length) false), (.lf false (.sc (.int .i64 0))), (.lf false (.sc (.bool false)))]))], 3, 39⟩ [none, none, some 1]
  · try refine sA ?_
    obtain ⟨c70, hr3, h⟩ := bind_ok h
    refine Cl_sA (w_spec_l9Own hr3) ?_
    try refine sA ?_
    obtain ⟨y93, hl4, h⟩ := bind_ok h
    refine W_loopP (fun g71 : spec_RunSaga_G1 => ⟨[(1, (.lf false (.sc (.int .i64 a1)))), (2, (.pb 0 0)), (4, (.pb 1 0)), (7, (.lf false (.sc (.int .i64 g71.t7))))], [(0, some (true, .box [(.os 2 1 0 g71.c2.length g71.c2.length false), (.os 3 3 0 g71.c3.length g71.c3.length false), (.lf false (.sc (.int .i64 g71.b0_2))), (.lf false (.sc (.bool g71.b0_3)))])), (1, some (true, .box [.nl, .nl, (.lf false (.sc (.int .i64 0))), (.lf false (.sc (.bool false)))])), (2, some (false, .arr false 1 (g71.c2.map eI))), (3, some (true, .arr false 3 (g71.c3.map eMove)))], 4, 39⟩) (spec_RunSaga_L1 a1) _ _ hl4 (weakA [some 0, some 1, some 2, some 3]) ?_
    · intro n1 g71 z1 hs1 hk1
      unfold spec_RunSaga_L1 at hs1
      try dsimp only at hs1
      refine sA ?_
      refine Bs_if hs1 (fun hs1 hc5 => ?_) (fun hs1 hc5 => ?_)
      · try refine sA ?_
        obtain ⟨c88, hr6, hs1⟩ := bind_ok hs1
        refine Cl_sA (w_spec_FailSaga hr6) ?_
        try refine sA ?_
        obtain ⟨p90, hq7, hs1⟩ := bind_ok hs1
        refine Sq_cut (fun s2 => s2 = ⟨[(1, (.lf false (.sc (.int .i64 a1)))), (2, (.pb 0 0)), (4, (.pb 1 0)), (7, (.lf false (.sc (.int .i64 g71.t7)))), (8, (.pb 2 0)), (9, (.lf false (.sc (.bool p90.t9))))], [(0, some (true, .box [(.os 3 1 0 g71.c2.length g71.c2.length false), (.os 4 3 0 g71.c3.length g71.c3.length false), (.lf false (.sc (.int .i64 g71.b0_2))), (.lf false (.sc (.bool g71.b0_3)))])), (1, some (true, .box [.nl, .nl, (.lf false (.sc (.int .i64 0))), (.lf false (.sc (.bool false)))])), (2, some (true, .box [(.os 5 1 0 p90.c5.length p90.c5.length false), (.os 6 3 0 p90.c6.length p90.c6.length false), (.lf false (.sc (.int .i64 p90.b2_2))), (.lf false (.sc (.bool p90.b2_3)))])), (3, some (false, .arr false 1 (g71.c2.map eI))), (4, some (true, .arr false 3 (g71.c3.map eMove))), (5, some (false, .arr false 1 (p90.c5.map eI))), (6, some (true, .arr false 3 (p90.c6.map eMove)))], 7, 39⟩) ?_ ?_
        · try refine sA ?_
          refine Bs_if hq7 (fun hq7 hc8 => ?_) (fun hq7 hc8 => ?_)
          · try refine sA ?_
            obtain ⟨c89, hr9, hq7⟩ := bind_ok hq7
            refine Cl_sA (w_spec_StepSaga hr9) ?_
            try refine sA ?_
            cases hq7
            exact X_cut rfl (weakA [some 0, some 1, some 4, some 2, some 3, some 8, some 9])
          · try refine sA ?_
            cases hq7
            exact X_cut rfl (weakA [some 0, some 1, some 4, some 2, some 3, some 5, some 6])
        · intro s2 hJ; subst hJ
          try dsimp only at hs1
          try refine sA ?_
          refine Bs_if hs1 (fun hs1 hc10 => ?_) (fun hs1 hc10 => ?_)
          · try refine sA ?_
            cases hs1
            cases hk1
            try dsimp only at h
            try refine sA ?_
            have he := Option.some.inj h
            subst he
            exact endsA ⟨[(4, (.pb 2 0)), (5, (.lf false (.sc (.int .i64 g71.t7)))), (6, (.lf false (.sc (.bool true))))], [(0, some (false, .arr false 1 (g71.c2.map eI))), (1, some (true, .arr false 3 (g71.c3.map eMove))), (2, some (true, .box [(.os 0 1 0 g71.c2.length g71.c2.length false), (.os 1 3 0 g71.c3.length g71.c3.length false), (.lf false (.sc (.int .i64 g71.b0_2))), (.lf false (.sc (.bool g71.b0_3)))]))], 3, 39⟩ [some 3, some 4, some 1]
          · try refine sA ?_
            cases hs1
            exact X_backP hk1 (weakA [some 0, some 1, some 5, some 6])
      · try refine sA ?_
        obtain ⟨p92, hq11, hs1⟩ := bind_ok hs1
        refine Sq_cut (fun s2 => s2 = ⟨[(1, (.lf false (.sc (.int .i64 a1)))), (2, (.pb 0 0)), (4, (.pb 1 0)), (7, (.lf false (.sc (.int .i64 g71.t7)))), (8, (.pb 2 0)), (9, (.lf false (.sc (.bool p92.t9))))], [(0, some (true, .box [(.os 3 1 0 g71.c2.length g71.c2.length false), (.os 4 3 0 g71.c3.length g71.c3.length false), (.lf false (.sc (.int .i64 g71.b0_2))), (.lf false (.sc (.bool g71.b0_3)))])), (1, some (true, .box [.nl, .nl, (.lf false (.sc (.int .i64 0))), (.lf false (.sc (.bool false)))])), (2, some (true, .box [(.os 5 1 0 p92.c5.length p92.c5.length false), (.os 6 3 0 p92.c6.length p92.c6.length false), (.lf false (.sc (.int .i64 p92.b2_2))), (.lf false (.sc (.bool p92.b2_3)))])), (3, some (false, .arr false 1 (g71.c2.map eI))), (4, some (true, .arr false 3 (g71.c3.map eMove))), (5, some (false, .arr false 1 (p92.c5.map eI))), (6, some (true, .arr false 3 (p92.c6.map eMove)))], 7, 39⟩) ?_ ?_
        · try refine sA ?_
          obtain ⟨c91, hr12, hq11⟩ := bind_ok hq11
          refine Cl_sA (w_spec_StepSaga hr12) ?_
          try refine sA ?_
          cases hq11
          exact X_cut rfl (weakA [some 0, some 1, some 4, some 2, some 3, some 5, some 6])
        · intro s2 hJ; subst hJ
          try dsimp only at hs1
          try refine sA ?_
          refine Bs_if hs1 (fun hs1 hc13 => ?_) (fun hs1 hc13 => ?_)
          · try refine sA ?_
            cases hs1
            cases hk1
            try dsimp only at h
            try refine sA ?_
            have he := Option.some.inj h
            subst he
            exact endsA ⟨[(4, (.pb 2 0)), (5, (.lf false (.sc (.int .i64 g71.t7)))), (6, (.lf false (.sc (.bool true))))], [(0, some (false, .arr false 1 (g71.c2.map eI))), (1, some (true, .arr false 3 (g71.c3.map eMove))), (2, some (true, .box [(.os 0 1 0 g71.c2.length g71.c2.length false), (.os 1 3 0 g71.c3.length g71.c3.length false), (.lf false (.sc (.int .i64 g71.b0_2))), (.lf false (.sc (.bool g71.b0_3)))]))], 3, 39⟩ [some 3, some 4, some 1]
          · try refine sA ?_
            cases hs1
            exact X_backP hk1 (weakA [some 0, some 1, some 5, some 6])
theorem w_slices_Clone_int {a0 : (List Int)} {r : (List Int)} (h : slices_Clone_int a0 = some r) : Fn Try.prog 62 [(.lf true (.sl (a0.map eI)))] [] 0 (.os 0 1 0 r.length r.length false) [(0, some (true, .arr false 1 (r.map eI)))] 1 := by
  unfold slices_Clone_int at h
  obtain ⟨hp, h⟩ := guard_some h
  have he := Option.some.inj h; subst he
  refine fn_code tab_ok mixed [] Try.func62 rfl rfl (by simp [Try.f62]) (by kernel_rfl) ?_
  simp only [Try.f62]
  simp (disch := assumption) only [go_sem, Nat.reduceAdd, Nat.reduceMul, Nat.reduceSub, Nat.reduceEqDiff, ↓reduceIte, Nat.reduceLT, reduceCtorEq, Nat.reduceLeDiff, Int.reduceToNat, Int.reduceEq, Int.reduceLE, Int.reduceLT, Nat.reduceBEq]
  intro b hb
  refine Bs_splitC (b = true) (by simp) (fun hc => ?_) (fun hc => ?_)
  · have h0 : a0 = [] := by simpa using hb (by simpa using hc)
    subst h0
    try simp (disch := assumption) only [go_sem, Nat.reduceAdd, Nat.reduceMul, Nat.reduceSub, Nat.reduceEqDiff, ↓reduceIte, Nat.reduceLT, reduceCtorEq, Nat.reduceLeDiff, Int.reduceToNat, Int.reduceEq, Int.reduceLE, Int.reduceLT, Nat.reduceBEq]
    refine ends_weak ⟨[(2, (.os 0 1 0 0 0 false))], [(0, some (true, .arr false 1 (([] : List Int).map eI)))], 1, 8⟩ (weak_of (m := 0) [none] rfl rfl rfl (by rfl) ?_ ?_) ?_
    all_goals ((try simp (disch := assumption) only [go_sem, Nat.reduceAdd, Nat.reduceMul, Nat.reduceSub, Nat.reduceEqDiff, ↓reduceIte, Nat.reduceLT, reduceCtorEq, Nat.reduceLeDiff, Int.reduceToNat, Int.reduceEq, Int.reduceLE, Int.reduceLT, Nat.reduceBEq]); (repeat' first | done | rfl | omega | refine And.intro ?_ ?_ | (simp; done) | (simp; omega)))
  · try simp (disch := assumption) only [go_sem, Nat.reduceAdd, Nat.reduceMul, Nat.reduceSub, Nat.reduceEqDiff, ↓reduceIte, Nat.reduceLT, reduceCtorEq, Nat.reduceLeDiff, Int.reduceToNat, Int.reduceEq, Int.reduceLE, Int.reduceLT, Nat.reduceBEq]
    first | refine And.intro (by first | omega | exact ⟨by omega, fun _ => mapLen fun _ => rfl⟩ | (refine ⟨?_, by omega⟩; first | exact mapLen fun _ => rfl | simp)) ?_ | skip
    try simp (disch := assumption) only [go_sem, Nat.reduceAdd, Nat.reduceMul, Nat.reduceSub, Nat.reduceEqDiff, ↓reduceIte, Nat.reduceLT, reduceCtorEq, Nat.reduceLeDiff, Int.reduceToNat, Int.reduceEq, Int.reduceLE, Int.reduceLT, Nat.reduceBEq]
    refine ends_weak ⟨[(2, (.os 0 1 0 a0.length a0.length false))], [(0, some (true, .arr false 1 (a0.map eI)))], 1, 8⟩ (weak_of (m := 0) [some 1] rfl rfl rfl (by rfl) ?_ ?_) ?_
    all_goals ((try simp (disch := assumption) only [go_sem, Nat.reduceAdd, Nat.reduceMul, Nat.reduceSub, Nat.reduceEqDiff, ↓reduceIte, Nat.reduceLT, reduceCtorEq, Nat.reduceLeDiff, Int.reduceToNat, Int.reduceEq, Int.reduceLE, Int.reduceLT, Nat.reduceBEq]); (repeat' first | done | rfl | omega | refine And.intro ?_ ?_ | (simp; done) | (simp; omega)))
theorem w_impl_in {a0 : Int} {a1 : Int} {a2 : Int} {r : Bool} (h : impl_in a0 a1 a2 = some r) : Fn Try.prog 40 [(.lf false (.sc (.int .i64 a0))), (.lf false (.sc (.int .i64 a1))), (.lf false (.sc (.int .i64 a2)))] [] 0 (.lf false (.sc (.bool r))) [] 0 := by
  unfold impl_in at h
  refine fn_code tab_ok mixed [] Try.func40 rfl rfl (by simp [Try.f40]) (by kernel_rfl) ?_
  simp only [Try.f40]
  refine sA ?_
  refine Sp_if h (fun h hc1 => ?_) (fun h hc1 => ?_)
  · try refine sA ?_
    have he := Option.some.inj h
    subst he
    exact endsA ⟨[(6, (.lf false (.sc (.bool (decide (a0 ≤ a2))))))], [], 0, 15⟩ []
  · try refine sA ?_
    have he := Option.some.inj h
    subst he
    exact endsA ⟨[(6, (.lf false (.sc (.bool false))))], [], 0, 15⟩ []
theorem w_impl_accountOk {a0 : Int} {r : Bool} (h : impl_accountOk a0 = some r) : Fn Try.prog 67 [(.lf false (.sc (.int .i64 a0)))] [] 0 (.lf false (.sc (.bool r))) [] 0 := by
  unfold impl_accountOk at h
  refine fn_code tab_ok mixed [] Try.func67 rfl rfl (by simp [Try.f67]) (by kernel_rfl) ?_
  simp only [Try.f67]
  refine sA ?_
  obtain ⟨c97, hr1, h⟩ := bind_ok h
  refine Cl_sA (w_impl_in hr1) ?_
  try refine sA ?_
  have he := Option.some.inj h
  subst he
  exact endsA ⟨[(2, (.lf false (.sc (.bool c97))))], [], 0, 5⟩ []
theorem w_impl_moved_F {a0 : (List Int)} {a1 : MoveT} {r : ((List Int) × Bool)} (h : impl_moved_F a0 a1 = some r) : Fn Try.prog 42 [(.lf true (.sl (a0.map eI))), (.ag [(.lf false (.sc (.int .i64 a1.From))), (.lf false (.sc (.int .i64 a1.To))), (.lf false (.sc (.int .i64 a1.Many)))])] [] 0 (.tu [(.lf false (.sl (r.1.map eI))), (.lf false (.sc (.bool r.2)))]) [] 0 := by
  unfold impl_moved_F at h
  refine fn_code tab_ok mixed [(1000, [(0, 0), (3, 0)]), (1001, [(3, 0), (6, 0)]), (1002, [(3, 0), (6, 0)]), (1003, [(3, 0), (6, 0)]), (1004, [(4, 0), (5, 0)])] Try.func42 rfl rfl (by simp [Try.f42]) (by kernel_rfl) ?_
  simp only [Try.f42]
  refine sA ?_
  obtain ⟨c96, hr1, h⟩ := bind_ok h
  refine Cl_sA (w_slices_Clone_int hr1) ?_
  try refine sA ?_
  obtain ⟨hp2, h⟩ := guard_some h
  have hn2 : a1.From.toNat < c96.length := by first | omega | (simp only [List.length_set, List.length_append, List.length_replicate, List.length_map]; omega)
  try refine sA ?_
  try refine andA ?_
  try refine andB ?_
  try refine sA ?_
  obtain ⟨hp4, h⟩ := guard_some h
  have hn4 : a1.From.toNat < c96.length := by first | omega | (simp only [List.length_set, List.length_append, List.length_replicate, List.length_map]; omega)
  try refine sA ?_
  try refine andA ?_
  try refine andB ?_
  try refine sA ?_
  obtain ⟨hp6, h⟩ := guard_some h
  have hn6 : a1.To.toNat < c96.length := by first | omega | (simp only [List.length_set, List.length_append, List.length_replicate, List.length_map]; omega)
  try refine sA ?_
  try refine andA ?_
  try refine andB ?_
  try refine sA ?_
  obtain ⟨hp8, h⟩ := guard_some h
  have hn8 : a1.To.toNat < c96.length := by first | omega | (simp only [List.length_set, List.length_append, List.length_replicate, List.length_map]; omega)
  try refine sA ?_
  try refine andA ?_
  try refine andB ?_
  try refine sA ?_
  obtain ⟨hp10, h⟩ := guard_some h
  have hn10 : a1.From.toNat < c96.length := by first | omega | (simp only [List.length_set, List.length_append, List.length_replicate, List.length_map]; omega)
  try refine sA ?_
  try refine andA ?_
  try refine andB ?_
  try refine sA ?_
  obtain ⟨c98, hr12, h⟩ := bind_ok h
  refine Cl_sA (w_impl_accountOk hr12) ?_
  try refine sA ?_
  refine Sp_if h (fun h hc13 => ?_) (fun h hc13 => ?_)
  · try refine sA ?_
    obtain ⟨hp14, h⟩ := guard_some h
    have hn14 : a1.To.toNat < c96.length := by first | omega | (simp only [List.length_set, List.length_append, List.length_replicate, List.length_map]; omega)
    try refine sA ?_
    try refine andA ?_
    try refine andB ?_
    try refine sA ?_
    obtain ⟨c99, hr16, h⟩ := bind_ok h
    refine Cl_sA (w_impl_accountOk hr16) ?_
    try refine sA ?_
    have he := Option.some.inj h
    subst he
    refine ends_frz 1 ?_
    try refine sA ?_
    exact endsA ⟨[(4, (.lf false (.sl (((c96.set a1.From.toNat (wI ((nth c96 a1.From.toNat) - a1.Many))).set a1.To.toNat (wI ((nth (c96.set a1.From.toNat (wI ((nth c96 a1.From.toNat) - a1.Many))) a1.To.toNat) + a1.Many))).map eI)))), (5, (.lf false (.sc (.bool c99))))], [], 0, 42⟩ []
  · try refine sA ?_
    have he := Option.some.inj h
    subst he
    refine ends_frz 1 ?_
    try refine sA ?_
    exact endsA ⟨[(4, (.lf false (.sl (((c96.set a1.From.toNat (wI ((nth c96 a1.From.toNat) - a1.Many))).set a1.To.toNat (wI ((nth (c96.set a1.From.toNat (wI ((nth c96 a1.From.toNat) - a1.Many))) a1.To.toNat) + a1.Many))).map eI)))), (5, (.lf false (.sc (.bool false))))], [], 0, 42⟩ []
theorem w_impl_back {a0 : MoveT} {r : MoveT} (h : impl_back a0 = some r) : Fn Try.prog 43 [(.ag [(.lf false (.sc (.int .i64 a0.From))), (.lf false (.sc (.int .i64 a0.To))), (.lf false (.sc (.int .i64 a0.Many)))])] [] 0 (.ag [(.lf false (.sc (.int .i64 r.From))), (.lf false (.sc (.int .i64 r.To))), (.lf false (.sc (.int .i64 r.Many)))]) [] 1 := by
  unfold impl_back at h
  refine fn_code tab_ok mixed [] Try.func43 rfl rfl (by simp [Try.f43]) (by kernel_rfl) ?_
  simp only [Try.f43]
  refine sA ?_
  have he := Option.some.inj h
  subst he
  exact endsA ⟨[(2, (.pb 0 0))], [(0, some (true, .box [(.lf false (.sc (.int .i64 a0.To))), (.lf false (.sc (.int .i64 a0.From))), (.lf false (.sc (.int .i64 a0.Many)))]))], 1, 10⟩ [some 1]
theorem w_impl_accountsOk_c1 {a0 : Int} {r : Bool} (h : impl_accountsOk_c1 a0 = some r) : Fn Try.prog 66 [(.lf false (.sc (.int .i64 a0)))] [] 0 (.lf false (.sc (.bool r))) [] 0 := by
  unfold impl_accountsOk_c1 at h
  refine fn_code tab_ok mixed [] Try.func66 rfl rfl (by simp [Try.f66]) (by kernel_rfl) ?_
  simp only [Try.f66]
  refine sA ?_
  obtain ⟨c102, hr1, h⟩ := bind_ok h
  refine Cl_sA (w_impl_accountOk hr1) ?_
  try refine sA ?_
  have he := Option.some.inj h
  subst he
  exact endsA ⟨[(2, (.lf false (.sc (.bool (!c102)))))], [], 0, 6⟩ []
theorem w_slices_IndexFunc_int_impl_accountsOk_c1 {a0 : (List Int)} {r : Int} (h : slices_IndexFunc_int_impl_accountsOk_c1 a0 = some r) : Fn Try.prog 72 [(.lf true (.sl (a0.map eI))), (.fn 66 [])] [] 0 (.lf false (.sc (.int .i64 r))) [] 0 := by
  unfold slices_IndexFunc_int_impl_accountsOk_c1 at h
  refine fn_code tab_ok mixed [(1000, [(0, 0), (1, 0)]), (1001, [(0, 0), (1, 0), (7, 0), (8, 0)]), (1002, [(0, 0), (1, 0), (7, 0), (8, 0), (9, 0)]), (1003, [(0, 0), (1, 0), (5, 0), (7, 0), (8, 0)]), (1004, [(0, 0), (1, 0), (5, 0), (7, 0), (8, 0), (16, 0)]), (1005, [(4, 0)]), (1006, [(0, 0), (1, 0), (7, 0), (8, 0)]), (1007, [(4, 0)])] Try.func72 rfl rfl (by simp [Try.f72]) (by kernel_rfl) ?_
  simp only [Try.f72]
  refine sA ?_
  obtain ⟨y105, hl1, h⟩ := bind_ok h
  refine W_loopP (fun g101 : slices_IndexFunc_int_impl_accountsOk_c1_G1 => ⟨[(0, (.lf true (.sl (a0.map eI)))), (1, (.fn 66 [])), (7, (.lf false (.sc (.int .i64 ((a0.length : Nat) : Int))))), (8, (.lf false (.sc (.int .i64 g101.t8))))], [], 0, 19⟩) (slices_IndexFunc_int_impl_accountsOk_c1_L1 a0) _ _ hl1 (weakA []) ?_
  · intro n1 g101 z1 hs1 hk1
    unfold slices_IndexFunc_int_impl_accountsOk_c1_L1 at hs1
    try dsimp only at hs1
    refine sA ?_
    refine Bs_if hs1 (fun hs1 hc2 => ?_) (fun hs1 hc2 => ?_)
    · try refine sA ?_
      obtain ⟨hp3, hs1⟩ := guard_some hs1
      have hn3 : g101.t8.toNat < a0.length := by first | omega | (simp only [List.length_set, List.length_append, List.length_replicate, List.length_map]; omega)
      try refine sA ?_
      try refine andA ?_
      obtain ⟨c104, hr4, hs1⟩ := bind_ok hs1
      refine Cl_sA (w_impl_accountsOk_c1 hr4) ?_
      try refine sA ?_
      refine Bs_if hs1 (fun hs1 hc5 => ?_) (fun hs1 hc5 => ?_)
      · try refine sA ?_
        cases hs1
        cases hk1
        try dsimp only at h
        try refine sA ?_
        have he := Option.some.inj h
        subst he
        exact endsA ⟨[(4, (.lf false (.sc (.int .i64 g101.t8))))], [], 0, 19⟩ []
      · try refine sA ?_
        cases hs1
        exact X_backP hk1 (weakA [])
    · try refine sA ?_
      cases hs1
      cases hk1
      try dsimp only at h
      try refine sA ?_
      have he := Option.some.inj h
      subst he
      exact endsA ⟨[(4, (.lf false (.sc (.int .i64 (-1)))))], [], 0, 19⟩ []
theorem w_slices_ContainsFunc_int_impl_accountsOk_c1 {a0 : (List Int)} {r : Bool} (h : slices_ContainsFunc_int_impl_accountsOk_c1 a0 = some r) : Fn Try.prog 65 [(.lf true (.sl (a0.map eI))), (.fn 66 [])] [] 0 (.lf false (.sc (.bool r))) [] 0 := by
  unfold slices_ContainsFunc_int_impl_accountsOk_c1 at h
  refine fn_code tab_ok mixed [] Try.func65 rfl rfl (by simp [Try.f65]) (by kernel_rfl) ?_
  simp only [Try.f65]
  refine sA ?_
  obtain ⟨c108, hr1, h⟩ := bind_ok h
  refine Cl_sA (w_slices_IndexFunc_int_impl_accountsOk_c1 hr1) ?_
  try refine sA ?_
  have he := Option.some.inj h
  subst he
  exact endsA ⟨[(4, (.lf false (.sc (.bool (decide (c108 ≥ 0))))))], [], 0, 9⟩ []
theorem w_impl_accountsOk {a0 : (List Int)} {r : Bool} (h : impl_accountsOk a0 = some r) : Fn Try.prog 39 [(.lf true (.sl (a0.map eI)))] [] 0 (.lf false (.sc (.bool r))) [] 0 := by
  unfold impl_accountsOk at h
  refine fn_code tab_ok mixed [] Try.func39 rfl rfl (by simp [Try.f39]) (by kernel_rfl) ?_
  simp only [Try.f39]
  refine sA ?_
  obtain ⟨c100, hr1, h⟩ := bind_ok h
  refine Cl_sA (w_impl_in hr1) ?_
  try refine sA ?_
  refine Sp_if h (fun h hc2 => ?_) (fun h hc2 => ?_)
  · try refine sA ?_
    obtain ⟨c109, hr3, h⟩ := bind_ok h
    refine Cl_sA (w_slices_ContainsFunc_int_impl_accountsOk_c1 hr3) ?_
    try refine sA ?_
    have he := Option.some.inj h
    subst he
    exact endsA ⟨[(2, (.lf false (.sc (.bool (!c109)))))], [], 0, 11⟩ []
  · try refine sA ?_
    have he := Option.some.inj h
    subst he
    exact endsA ⟨[(2, (.lf false (.sc (.bool false))))], [], 0, 11⟩ []
theorem w_impl_moveOk {a0 : MoveT} {a1 : Int} {r : Bool} (h : impl_moveOk a0 a1 = some r) : Fn Try.prog 38 [(.ag [(.lf false (.sc (.int .i64 a0.From))), (.lf false (.sc (.int .i64 a0.To))), (.lf false (.sc (.int .i64 a0.Many)))]), (.lf false (.sc (.int .i64 a1)))] [] 0 (.lf false (.sc (.bool r))) [] 0 := by
  unfold impl_moveOk at h
  refine fn_code tab_ok mixed [] Try.func38 rfl rfl (by simp [Try.f38]) (by kernel_rfl) ?_
  simp only [Try.f38]
  refine sA ?_
  obtain ⟨c111, hr1, h⟩ := bind_ok h
  refine Cl_sA (w_impl_in hr1) ?_
  try refine sA ?_
  refine Sp_if h (fun h hc2 => ?_) (fun h hc2 => ?_)
  · try refine sA ?_
    obtain ⟨c112, hr3, h⟩ := bind_ok h
    refine Cl_sA (w_impl_in hr3) ?_
    try refine sA ?_
    refine Sp_if h (fun h hc4 => ?_) (fun h hc4 => ?_)
    · try refine sA ?_
      refine Sp_if h (fun h hc5 => ?_) (fun h hc5 => ?_)
      · try refine sA ?_
        obtain ⟨c113, hr6, h⟩ := bind_ok h
        refine Cl_sA (w_impl_in hr6) ?_
        try refine sA ?_
        have he := Option.some.inj h
        subst he
        exact endsA ⟨[(4, (.lf false (.sc (.bool c113))))], [], 0, 29⟩ []
      · try refine sA ?_
        have he := Option.some.inj h
        subst he
        exact endsA ⟨[(4, (.lf false (.sc (.bool false))))], [], 0, 29⟩ []
    · try refine sA ?_
      have he := Option.some.inj h
      subst he
      exact endsA ⟨[(4, (.lf false (.sc (.bool false))))], [], 0, 29⟩ []
  · try refine sA ?_
    have he := Option.some.inj h
    subst he
    exact endsA ⟨[(4, (.lf false (.sc (.bool false))))], [], 0, 29⟩ []
theorem w_impl_GoodSaga_c1_r {a0 : MoveT} {a1 : SagaT} {r : Bool} (h : impl_GoodSaga_c1_r a0 a1 = some r) : Fn Try.prog 37 [(.ag [(.lf false (.sc (.int .i64 a0.From))), (.lf false (.sc (.int .i64 a0.To))), (.lf false (.sc (.int .i64 a0.Many)))]), (.ra true [.sl (a1.Accounts.map eI), .sl (a1.Moves.map eMove), .sc (.int .i64 a1.Done), .sc (.bool a1.Undoing)])] [] 0 (.lf false (.sc (.bool r))) [] 0 := by
  unfold impl_GoodSaga_c1_r at h
  refine fn_code tab_ok mixed [] Try.func37 rfl rfl (by simp [Try.f37]) (by kernel_rfl) ?_
  simp only [Try.f37]
  refine sA ?_
  obtain ⟨c114, hr1, h⟩ := bind_ok h
  refine Cl_sA (w_impl_moveOk hr1) ?_
  try refine sA ?_
  have he := Option.some.inj h
  subst he
  exact endsA ⟨[(3, (.lf false (.sc (.bool (!c114)))))], [], 0, 10⟩ []
theorem w_slices_IndexFunc_impl_Move_impl_GoodSaga_c1r {a0 : (List MoveT)} {a1 : SagaT} {r : Int} (h : slices_IndexFunc_impl_Move_impl_GoodSaga_c1r a0 a1 = some r) : Fn Try.prog 64 [(.lf true (.sl (a0.map eMove))), (.fn 37 [(.ra true [.sl (a1.Accounts.map eI), .sl (a1.Moves.map eMove), .sc (.int .i64 a1.Done), .sc (.bool a1.Undoing)])])] [] 0 (.lf false (.sc (.int .i64 r))) [] 0 := by
  unfold slices_IndexFunc_impl_Move_impl_GoodSaga_c1r at h
  refine fn_code tab_ok mixed [(1000, [(0, 0), (1, 0)]), (1001, [(0, 0), (1, 0), (7, 0), (8, 0)]), (1002, [(0, 0), (1, 0), (7, 0), (8, 0), (9, 0)]), (1003, [(0, 0), (1, 0), (5, 0), (7, 0), (8, 0)]), (1004, [(0, 0), (1, 0), (5, 0), (7, 0), (8, 0), (16, 0)]), (1005, [(4, 0)]), (1006, [(0, 0), (1, 0), (7, 0), (8, 0)]), (1007, [(4, 0)])] Try.func64 rfl rfl (by simp [Try.f64]) (by kernel_rfl) ?_
  simp only [Try.f64]
  refine sA ?_
  obtain ⟨y117, hl1, h⟩ := bind_ok h
  refine W_loopP (fun g110 : slices_IndexFunc_impl_Move_impl_GoodSaga_c1r_G1 => ⟨[(0, (.lf true (.sl (a0.map eMove)))), (1, (.fn 37 [(.ra true [.sl (a1.Accounts.map eI), .sl (a1.Moves.map eMove), .sc (.int .i64 a1.Done), .sc (.bool a1.Undoing)])])), (7, (.lf false (.sc (.int .i64 ((a0.length : Nat) : Int))))), (8, (.lf false (.sc (.int .i64 g110.t8))))], [], 0, 19⟩) (slices_IndexFunc_impl_Move_impl_GoodSaga_c1r_L1 a0 a1) _ _ hl1 (weakA []) ?_
  · intro n1 g110 z1 hs1 hk1
    unfold slices_IndexFunc_impl_Move_impl_GoodSaga_c1r_L1 at hs1
    try dsimp only at hs1
    refine sA ?_
    refine Bs_if hs1 (fun hs1 hc2 => ?_) (fun hs1 hc2 => ?_)
    · try refine sA ?_
      obtain ⟨hp3, hs1⟩ := guard_some hs1
      have hn3 : g110.t8.toNat < a0.length := by first | omega | (simp only [List.length_set, List.length_append, List.length_replicate, List.length_map]; omega)
      try refine sA ?_
      try refine andA ?_
      obtain ⟨c116, hr4, hs1⟩ := bind_ok hs1
      refine Cl_sA (w_impl_GoodSaga_c1_r hr4) ?_
      try refine sA ?_
      refine Bs_if hs1 (fun hs1 hc5 => ?_) (fun hs1 hc5 => ?_)
      · try refine sA ?_
        cases hs1
        cases hk1
        try dsimp only at h
        try refine sA ?_
        have he := Option.some.inj h
        subst he
        exact endsA ⟨[(4, (.lf false (.sc (.int .i64 g110.t8))))], [], 0, 19⟩ []
      · try refine sA ?_
        cases hs1
        exact X_backP hk1 (weakA [])
    · try refine sA ?_
      cases hs1
      cases hk1
      try dsimp only at h
      try refine sA ?_
      have he := Option.some.inj h
      subst he
      exact endsA ⟨[(4, (.lf false (.sc (.int .i64 (-1)))))], [], 0, 19⟩ []
theorem w_slices_ContainsFunc_impl_Move_impl_GoodSaga_c1r {a0 : (List MoveT)} {a1 : SagaT} {r : Bool} (h : slices_ContainsFunc_impl_Move_impl_GoodSaga_c1r a0 a1 = some r) : Fn Try.prog 36 [(.lf true (.sl (a0.map eMove))), (.fn 37 [(.ra true [.sl (a1.Accounts.map eI), .sl (a1.Moves.map eMove), .sc (.int .i64 a1.Done), .sc (.bool a1.Undoing)])])] [] 0 (.lf false (.sc (.bool r))) [] 0 := by
  unfold slices_ContainsFunc_impl_Move_impl_GoodSaga_c1r at h
  refine fn_code tab_ok mixed [] Try.func36 rfl rfl (by simp [Try.f36]) (by kernel_rfl) ?_
  simp only [Try.f36]
  refine sA ?_
  obtain ⟨c120, hr1, h⟩ := bind_ok h
  refine Cl_sA (w_slices_IndexFunc_impl_Move_impl_GoodSaga_c1r hr1) ?_
  try refine sA ?_
  have he := Option.some.inj h
  subst he
  exact endsA ⟨[(4, (.lf false (.sc (.bool (decide (c120 ≥ 0))))))], [], 0, 9⟩ []
theorem w_impl_GoodSaga {a0 : SagaT} {r : Bool} (h : impl_GoodSaga a0 = some r) : Fn Try.prog 18 [(.ag [(.lf true (.sl (a0.Accounts.map eI))), (.lf true (.sl (a0.Moves.map eMove))), (.lf false (.sc (.int .i64 a0.Done))), (.lf false (.sc (.bool a0.Undoing)))])] [] 0 (.lf false (.sc (.bool r))) [] 0 := by
  refine ⟨Ent.of Try.func18 rfl (by simp [Try.f18]), fun w F loc vs hsit hvs hv => ?_⟩
  obtain ⟨v0, e0, hc0⟩ := hv 0 (by simp)
  obtain ⟨av, cs, rfl, n0, g0, g1⟩ := cv_ag_inv hc0
  have k0 := cv_lf_inv (g1 0 (by simp))
  have k1 := cv_lf_inv (g1 1 (by simp))
  have k2 := cv_sc (g1 2 (by simp))
  have k3 := cv_sc (g1 3 (by simp))
  have g0' := g0
  have has := arr4 n0 (g0 0 (by simp)) (g0 1 (by simp)) (g0 2 (by simp)) (g0 3 (by simp))
  have hvs' := arr1 hvs e0
  subst has
  subst hvs'
  rw [k2, k3]
  have hFF : ∀ b k, (ctx0 F loc 0).fs true b k → F b k := fun b k x => x.elim (fun h => h.elim) (·.2)
  have hFs : ∀ b k, F b k → b < w.heap.size := fun b k x => (hsit.old b k x).1
  have k0' : RepL w F (cs 0) (.sl (a0.Accounts.map eI)) := k0.mono hFF fun _ _ _ => rfl
  have k1' : RepL w F (cs 1) (.sl (a0.Moves.map eMove)) := k1.mono hFF fun _ _ _ => rfl
  obtain ⟨aa, ac, hsa⟩ := rep_slice k0'
  obtain ⟨ma, mc, hsm⟩ := rep_slice k1'
  rw [List.length_map] at hsa hsm
  rw [hsa] at k0' ⊢
  rw [hsm] at k1' ⊢
  clear k0 k1 k2 k3 g0 g1 g0' hc0 hv hsa hsm
  have hLM : LM (a0.Moves.map fun m => (m.From, m.To, m.Many)) = .sl (a0.Moves.map eMove) := by unfold LM; rw [List.map_map]; rfl
  have hML : (a0.Moves.map fun m => (m.From, m.To, m.Many)).length = a0.Moves.length := List.length_map ..
  unfold impl_GoodSaga at h
  obtain ⟨c1, hc1, h⟩ := Option.bind_eq_some_iff.1 h
  obtain ⟨c2, hc2, h⟩ := Option.bind_eq_some_iff.1 h
  obtain ⟨ins, hin⟩ : ∃ ins : Bool, (c2 = true → a0.Moves.length ≤ 20 → c1 = false → impl_in a0.Done 0 ((a0.Moves.length : Nat) : Int) = some ins ∧ (ins = false → r = false) ∧ (ins = true → (0 ≤ a0.Done ∧ a0.Done ≤ ((a0.Moves.length : Nat) : Int)) ∧ impl_GoodSaga_back (a0.Moves.take a0.Done.toNat).reverse a0.Accounts = some r)) ∧ (c2 = false → r = false) ∧ (a0.Moves.length > 20 → r = false) ∧ (c1 = true → r = false) := by
    cases c2
    · have h : r = false := by simpa using h.symm
      exact ⟨false, (fun h => by cases h), fun _ => h, fun _ => h, fun _ => h⟩
    · by_cases hl : a0.Moves.length > 20
      · rw [if_neg (by simp), if_pos hl] at h
        have h := (Option.some.inj h).symm
        exact ⟨false, (fun _ h2 => absurd hl (by omega)), (fun h => by cases h), fun _ => h, fun _ => h⟩
      · cases c1
        · rw [if_neg (by simp), if_neg hl, if_neg (by simp)] at h
          obtain ⟨c3, hc3, h⟩ := Option.bind_eq_some_iff.1 h
          refine ⟨c3, fun _ _ _ => ⟨hc3, fun h3 => ?_, fun h3 => ?_⟩, (fun h => by cases h), fun h => absurd h hl, (fun h => by cases h)⟩
          · subst h3; simpa using h.symm
          · subst h3
            rw [if_neg (by simp)] at h
            exact guard_some h
        · rw [if_neg (by simp), if_neg hl, if_pos rfl] at h
          have h := (Option.some.inj h).symm
          exact ⟨false, fun _ _ h => by (cases h), (fun h => by cases h), fun h => absurd h hl, fun _ => h⟩
  obtain ⟨hin, q1, q2, q3⟩ := hin
  have key := Go.Proofs.Try.goodSaga_w w F hFs a0.Accounts (a0.Moves.map fun m => (m.From, m.To, m.Many)) a0.Done a0.Undoing aa ac ma mc k0' (by rw [hLM, hML]; exact k1') c1 c2 ins ?hCF ?hAO ?hIN ?hdn
    (fun l now => impl_GoodSaga_back (l.map fun x => (⟨x.1, x.2.1, x.2.2⟩ : MoveT)) now) r (fun now e => by simpa [impl_GoodSaga_back] using e.symm) ?hG0 ?hG ?hBK q1 (by rw [hML]; exact q2) q3 ?h4
  · rw [hML] at key
    refine key.mono fun e w' ⟨he, hb⟩ => ?_
    exact ⟨_, _, he, .refl _, rfl, (sit_keep hsit (keep_below hb)).1, .lf (.sc rfl)⟩
  case hCF =>
    intro W gs
    rw [hML] at gs ⊢
    have hb := gs.below
    have hz := gs.sz
    refine fn_useS (w_slices_ContainsFunc_impl_Move_impl_GoodSaga_c1r hc1) (fun b k => F b k ∨ (b = w.heap.size ∧ k < 4)) (fun b k hf => ?_) rfl fun j hj => ?_
    · rcases hf with hf | ⟨rfl, _⟩
      · have := hFs b k hf; omega
      · omega
    · have : j = 0 ∨ j = 1 := by simp at hj; omega
      rcases this with rfl | rfl
      · exact ⟨_, rfl, cv_show (rep_below k1' hFs hb) fun b k x => .inl x⟩
      · refine ⟨_, rfl, .fn (fun _ => .pointer (some ⟨w.heap.size, 0, none⟩)) rfl (fun j hj => ?_) fun j hj => ?_⟩
        · have : j = 0 := by simp at hj; omega
          subst this; rfl
        · have : j = 0 := by simp at hj; omega
          subst this
          refine .ra (fun j => [Value.slice aa a0.Accounts.length ac, .slice ma a0.Moves.length mc, .int .i64 a0.Done, .bool a0.Undoing].getD j (.bool false)) (fun j hj => ?_) fun j hj => ?_
          · have : j = 0 ∨ j = 1 ∨ j = 2 ∨ j = 3 := by simp at hj; omega
            refine ⟨.inr ⟨rfl, .inr ⟨rfl, by omega⟩⟩, ?_⟩
            rcases this with rfl | rfl | rfl | rfl
            · exact gs.s0
            · exact gs.s1
            · exact gs.s2
            · exact gs.s3
          · have : j = 0 ∨ j = 1 ∨ j = 2 ∨ j = 3 := by simp at hj; omega
            rcases this with rfl | rfl | rfl | rfl
            · exact cv_lf_inv (cv_show (rep_below k0' hFs hb) fun b k x => .inl x)
            · exact cv_lf_inv (cv_show (rep_below k1' hFs hb) fun b k x => .inl x)
            · exact .sc rfl
            · exact .sc rfl
  case hAO =>
    intro W hb
    refine fn_useS (w_impl_accountsOk hc2) F (fun b k hf => Nat.lt_of_lt_of_le (hFs b k hf) hb.size) rfl fun j hj => ?_
    have : j = 0 := by simp at hj; omega
    subst this
    exact ⟨_, rfl, cv_show (rep_below k0' hFs hb) fun b k x => x⟩
  case hIN =>
    intro a b c W
    rw [hML] at b ⊢
    refine fn_useS (w_impl_in (hin a b c).1) (fun _ _ => False) (fun b k hf => hf.elim) rfl fun j hj => ?_
    have : j = 0 ∨ j = 1 ∨ j = 2 := by simp at hj; omega
    rcases this with rfl | rfl | rfl <;> exact ⟨_, rfl, .lf (.sc rfl)⟩
  case hdn =>
    intro a b c d
    rw [hML] at b ⊢
    exact ((hin a b c).2.2 d).1
  case hG0 =>
    intro a b c d
    rw [hML] at b
    have := ((hin a b c).2.2 d).2
    rw [← List.map_take, ← List.map_reverse]
    simp only [List.map_map]
    rw [show ((fun x : Int × Int × Int => (⟨x.1, x.2.1, x.2.2⟩ : MoveT)) ∘ fun m : MoveT => (m.From, m.To, m.Many)) = id from rfl, List.map_id]
    exact this
  case hG =>
    intro m rest now hm
    simp only [List.map_cons, impl_GoodSaga_back, impl_back, Option.bind_some] at hm
    obtain ⟨c, hc, hm⟩ := Option.bind_eq_some_iff.1 hm
    refine ⟨c, fun W F v hF hr => ?_, fun h => ?_, fun h => ?_⟩
    · refine (fn_use (w_impl_moved_F hc) F hF (vs := #[v, Mv3 (m.2.1, m.1, m.2.2)]) rfl fun j hj => ?_).mono ?_
      · have : j = 0 ∨ j = 1 := by simp at hj; omega
        rcases this with rfl | rfl
        · exact ⟨_, rfl, cv_show hr fun b k x => x⟩
        · exact ⟨_, rfl, cv_ag3 rfl rfl rfl⟩
      · rintro e w' ⟨v', c', he, hF', hb, hG', hcv⟩
        obtain ⟨us, cs', rfl, m0, m1, m2⟩ := cv_tu_inv hcv
        have := arr2 m0 (m1 0 (by simp)) (m1 1 (by simp))
        subst this
        have z0 := cv_lf_inv (m2 0 (by simp))
        have z1 := cv_sc (m2 1 (by simp))
        rw [z1] at he
        exact ⟨_, c'.G, he, hb, hG', z0.mono (fun b k x => x.elim id (fun h => by cases h.1)) fun _ _ _ => rfl⟩
    · rw [if_pos h] at hm; exact hm
    · rw [if_neg (by simp [h])] at hm; exact (Option.some.inj hm).symm
  case hBK =>
    intro x W
    refine (fn_use (w_impl_back (a0 := ⟨x.1, x.2.1, x.2.2⟩) rfl) (fun _ _ => False) (fun b k hf => hf.elim) (vs := #[Mv3 x]) rfl fun j hj => ?_).mono ?_
    · have : j = 0 := by simp at hj; omega
      subst this
      exact ⟨_, rfl, cv_ag3 rfl rfl rfl⟩
    · rintro e w' ⟨v', c', he, hF', hb, hG', hcv⟩
      obtain ⟨us, cs', rfl, m0, m1, m2⟩ := cv_ag_inv hcv
      have := arr3 m0 (m1 0 (by simp)) (m1 1 (by simp)) (m1 2 (by simp))
      subst this
      rw [cv_sc (m2 0 (by simp)), cv_sc (m2 1 (by simp)), cv_sc (m2 2 (by simp))] at he
      exact ⟨he, hb⟩
  case h4 =>
    intro a b c d
    rw [hML] at b
    exact (hin a b c).2.1 d

theorem w_slices_Clone_impl_Move {a0 : (List MoveT)} {r : (List MoveT)} (h : slices_Clone_impl_Move a0 = some r) : Fn Try.prog 63 [(.lf true (.sl (a0.map eMove)))] [] 0 (.os 0 3 0 r.length r.length false) [(0, some (true, .arr false 3 (r.map eMove)))] 1 := by
  unfold slices_Clone_impl_Move at h
  obtain ⟨hp, h⟩ := guard_some h
  have he := Option.some.inj h; subst he
  refine fn_code tab_ok mixed [] Try.func63 rfl rfl (by simp [Try.f63]) (by kernel_rfl) ?_
  simp only [Try.f63]
  simp (disch := assumption) only [go_sem, Nat.reduceAdd, Nat.reduceMul, Nat.reduceSub, Nat.reduceEqDiff, ↓reduceIte, Nat.reduceLT, reduceCtorEq, Nat.reduceLeDiff, Int.reduceToNat, Int.reduceEq, Int.reduceLE, Int.reduceLT, Nat.reduceBEq]
  intro b hb
  refine Bs_splitC (b = true) (by simp) (fun hc => ?_) (fun hc => ?_)
  · have h0 : a0 = [] := by simpa using hb (by simpa using hc)
    subst h0
    try simp (disch := assumption) only [go_sem, Nat.reduceAdd, Nat.reduceMul, Nat.reduceSub, Nat.reduceEqDiff, ↓reduceIte, Nat.reduceLT, reduceCtorEq, Nat.reduceLeDiff, Int.reduceToNat, Int.reduceEq, Int.reduceLE, Int.reduceLT, Nat.reduceBEq]
    refine ends_weak ⟨[(2, (.os 0 3 0 0 0 false))], [(0, some (true, .arr false 3 (([] : List MoveT).map eMove)))], 1, 8⟩ (weak_of (m := 0) [none] rfl rfl rfl (by rfl) ?_ ?_) ?_
    all_goals ((try simp (disch := assumption) only [go_sem, Nat.reduceAdd, Nat.reduceMul, Nat.reduceSub, Nat.reduceEqDiff, ↓reduceIte, Nat.reduceLT, reduceCtorEq, Nat.reduceLeDiff, Int.reduceToNat, Int.reduceEq, Int.reduceLE, Int.reduceLT, Nat.reduceBEq]); (repeat' first | done | rfl | omega | refine And.intro ?_ ?_ | (simp; done) | (simp; omega)))
  · try simp (disch := assumption) only [go_sem, Nat.reduceAdd, Nat.reduceMul, Nat.reduceSub, Nat.reduceEqDiff, ↓reduceIte, Nat.reduceLT, reduceCtorEq, Nat.reduceLeDiff, Int.reduceToNat, Int.reduceEq, Int.reduceLE, Int.reduceLT, Nat.reduceBEq]
    first | refine And.intro (by first | omega | exact ⟨by omega, fun _ => mapLen fun _ => rfl⟩ | (refine ⟨?_, by omega⟩; first | exact mapLen fun _ => rfl | simp)) ?_ | skip
    try simp (disch := assumption) only [go_sem, Nat.reduceAdd, Nat.reduceMul, Nat.reduceSub, Nat.reduceEqDiff, ↓reduceIte, Nat.reduceLT, reduceCtorEq, Nat.reduceLeDiff, Int.reduceToNat, Int.reduceEq, Int.reduceLE, Int.reduceLT, Nat.reduceBEq]
    refine ends_weak ⟨[(2, (.os 0 3 0 a0.length a0.length false))], [(0, some (true, .arr false 3 (a0.map eMove)))], 1, 8⟩ (weak_of (m := 0) [some 1] rfl rfl rfl (by rfl) ?_ ?_) ?_
    all_goals ((try simp (disch := assumption) only [go_sem, Nat.reduceAdd, Nat.reduceMul, Nat.reduceSub, Nat.reduceEqDiff, ↓reduceIte, Nat.reduceLT, reduceCtorEq, Nat.reduceLeDiff, Int.reduceToNat, Int.reduceEq, Int.reduceLE, Int.reduceLT, Nat.reduceBEq]); (repeat' first | done | rfl | omega | refine And.intro ?_ ?_ | (simp; done) | (simp; omega)))
theorem w_impl_cloneSaga {a0 : SagaT} {r : SagaT} (h : impl_cloneSaga a0 = some r) : Fn Try.prog 28 [(.ag [(.lf true (.sl (a0.Accounts.map eI))), (.lf true (.sl (a0.Moves.map eMove))), (.lf false (.sc (.int .i64 a0.Done))), (.lf false (.sc (.bool a0.Undoing)))])] [] 0 (.ag [(.os 0 1 0 r.Accounts.length r.Accounts.length false), (.os 1 3 0 r.Moves.length r.Moves.length false), (.lf false (.sc (.int .i64 r.Done))), (.lf false (.sc (.bool r.Undoing)))]) [(0, some (true, .arr false 1 (r.Accounts.map eI))), (1, some (true, .arr false 3 (r.Moves.map eMove)))] 3 := by
  unfold impl_cloneSaga at h
  refine fn_code tab_ok mixed [(1, [(4, 2)]), (1000, [(1, 0), (2, 0)]), (1001, [(1, 0), (2, 0)]), (1002, [(2, 0)])] Try.func28 rfl rfl (by simp [Try.f28]) (by kernel_rfl) ?_
  simp only [Try.f28]
  refine sA ?_
  obtain ⟨c122, hr1, h⟩ := bind_ok h
  refine Cl_sA (w_slices_Clone_int hr1) ?_
  try refine sA ?_
  obtain ⟨c123, hr2, h⟩ := bind_ok h
  refine Cl_sA (w_slices_Clone_impl_Move hr2) ?_
  try refine sA ?_
  have he := Option.some.inj h
  subst he
  exact endsA ⟨[(2, (.pb 2 0))], [(0, some (true, .arr false 1 (c122.map eI))), (1, some (true, .arr false 3 (c123.map eMove))), (2, some (true, .box [(.os 0 1 0 c122.length c122.length false), (.os 1 3 0 c123.length c123.length false), (.lf false (.sc (.int .i64 a0.Done))), (.lf false (.sc (.bool a0.Undoing)))]))], 3, 12⟩ [some 2, some 3, some 1]
theorem w_impl_Saga_fail_o {a0 : SagaT} {m1 : Nat} {x1 : Bool} {m2 : Nat} {x2 : Bool} {r : (Bool × SagaT)} (h : impl_Saga_fail_o a0 = some r) : Fn Try.prog 32 [(.pb 0 0)] [(0, some (false, .box [(.os 1 1 0 a0.Accounts.length m1 x1), (.os 2 3 0 a0.Moves.length m2 x2), (.lf false (.sc (.int .i64 a0.Done))), (.lf false (.sc (.bool a0.Undoing)))])), (1, some (false, .arr true 1 (a0.Accounts.map eI))), (2, some (false, .arr true 3 (a0.Moves.map eMove)))] 3 (.lf false (.sc (.bool r.1))) [(0, some (false, .box [(.os 1 1 0 a0.Accounts.length a0.Accounts.length false), (.os 2 3 0 a0.Moves.length a0.Moves.length false), (.lf false (.sc (.int .i64 r.2.Done))), (.lf false (.sc (.bool r.2.Undoing)))])), (1, some (false, .arr false 1 (a0.Accounts.map eI))), (2, some (false, .arr false 3 (a0.Moves.map eMove)))] 3 := by
  unfold impl_Saga_fail_o at h
  refine fn_code tab_ok mixed [(1000, [(0, 0)]), (1001, [(0, 0), (18, 0)]), (1002, [(2, 0)]), (1003, []), (1004, [(2, 0)]), (4001, [])] Try.func32 rfl rfl (by simp [Try.f32]) (by kernel_rfl) ?_
  simp only [Try.f32]
  refine sA ?_
  obtain ⟨p126, hq1, h⟩ := bind_ok h
  refine Sq_cut (fun s2 => s2 = ⟨[(0, (.pb 0 0)), (18, (.lf false (.sc (.bool p126.t18))))], [(0, some (false, .box [(.os 1 1 0 a0.Accounts.length m1 x1), (.os 2 3 0 a0.Moves.length m2 x2), (.lf false (.sc (.int .i64 a0.Done))), (.lf false (.sc (.bool a0.Undoing)))])), (1, some (false, .arr true 1 (a0.Accounts.map eI))), (2, some (false, .arr true 3 (a0.Moves.map eMove)))], 3, 22⟩) ?_ ?_
  · try refine sA ?_
    refine Sp_if hq1 (fun hq1 hc2 => ?_) (fun hq1 hc2 => ?_)
    · try refine sA ?_
      cases hq1
      exact X_cut rfl (weakA [some 0, some 1, some 2])
    · try refine sA ?_
      cases hq1
      exact X_cut rfl (weakA [some 0, some 1, some 2])
  · intro s2 hJ; subst hJ
    try dsimp only at h
    try refine sA ?_
    refine Bs_if h (fun h hc3 => ?_) (fun h hc3 => ?_)
    · try refine sA ?_
      have he := Option.some.inj h
      subst he
      exact endsA ⟨[(2, (.lf false (.sc (.bool false))))], [(0, some (false, .box [(.os 1 1 0 a0.Accounts.length a0.Accounts.length false), (.os 2 3 0 a0.Moves.length a0.Moves.length false), (.lf false (.sc (.int .i64 a0.Done))), (.lf false (.sc (.bool a0.Undoing)))])), (1, some (false, .arr false 1 (a0.Accounts.map eI))), (2, some (false, .arr false 3 (a0.Moves.map eMove)))], 3, 22⟩ [some 0, some 1, some 2]
    · try refine sA ?_
      have he := Option.some.inj h
      subst he
      exact endsA ⟨[(2, (.lf false (.sc (.bool true))))], [(0, some (false, .box [(.os 1 1 0 a0.Accounts.length a0.Accounts.length false), (.os 2 3 0 a0.Moves.length a0.Moves.length false), (.lf false (.sc (.int .i64 a0.Done))), (.lf false (.sc (.bool true)))])), (1, some (false, .arr false 1 (a0.Accounts.map eI))), (2, some (false, .arr false 3 (a0.Moves.map eMove)))], 3, 22⟩ [some 0, some 1, some 2]
theorem w_impl_moved {a0 : (List Int)} {a1 : MoveT} {r : ((List Int) × Bool)} (h : impl_moved a0 a1 = some r) : Fn Try.prog 42 [(.lf true (.sl (a0.map eI))), (.ag [(.lf false (.sc (.int .i64 a1.From))), (.lf false (.sc (.int .i64 a1.To))), (.lf false (.sc (.int .i64 a1.Many)))])] [] 0 (.tu [(.os 0 1 0 r.1.length r.1.length false), (.lf false (.sc (.bool r.2)))]) [(0, some (true, .arr false 1 (r.1.map eI)))] 1 := by
  unfold impl_moved at h
  refine fn_code tab_ok mixed [(1000, [(0, 0), (3, 0)]), (1001, [(3, 0), (6, 0)]), (1002, [(3, 0), (6, 0)]), (1003, [(3, 0), (6, 0)]), (1004, [(4, 0), (5, 0)])] Try.func42 rfl rfl (by simp [Try.f42]) (by kernel_rfl) ?_
  simp only [Try.f42]
  refine sA ?_
  obtain ⟨c134, hr1, h⟩ := bind_ok h
  refine Cl_sA (w_slices_Clone_int hr1) ?_
  try refine sA ?_
  obtain ⟨hp2, h⟩ := guard_some h
  have hn2 : a1.From.toNat < c134.length := by first | omega | (simp only [List.length_set, List.length_append, List.length_replicate, List.length_map]; omega)
  try refine sA ?_
  try refine andA ?_
  try refine andB ?_
  try refine sA ?_
  obtain ⟨hp4, h⟩ := guard_some h
  have hn4 : a1.From.toNat < c134.length := by first | omega | (simp only [List.length_set, List.length_append, List.length_replicate, List.length_map]; omega)
  try refine sA ?_
  try refine andA ?_
  try refine andB ?_
  try refine sA ?_
  obtain ⟨hp6, h⟩ := guard_some h
  have hn6 : a1.To.toNat < c134.length := by first | omega | (simp only [List.length_set, List.length_append, List.length_replicate, List.length_map]; omega)
  try refine sA ?_
  try refine andA ?_
  try refine andB ?_
  try refine sA ?_
  obtain ⟨hp8, h⟩ := guard_some h
  have hn8 : a1.To.toNat < c134.length := by first | omega | (simp only [List.length_set, List.length_append, List.length_replicate, List.length_map]; omega)
  try refine sA ?_
  try refine andA ?_
  try refine andB ?_
  try refine sA ?_
  obtain ⟨hp10, h⟩ := guard_some h
  have hn10 : a1.From.toNat < c134.length := by first | omega | (simp only [List.length_set, List.length_append, List.length_replicate, List.length_map]; omega)
  try refine sA ?_
  try refine andA ?_
  try refine andB ?_
  try refine sA ?_
  obtain ⟨c135, hr12, h⟩ := bind_ok h
  refine Cl_sA (w_impl_accountOk hr12) ?_
  try refine sA ?_
  refine Sp_if h (fun h hc13 => ?_) (fun h hc13 => ?_)
  · try refine sA ?_
    obtain ⟨hp14, h⟩ := guard_some h
    have hn14 : a1.To.toNat < c134.length := by first | omega | (simp only [List.length_set, List.length_append, List.length_replicate, List.length_map]; omega)
    try refine sA ?_
    try refine andA ?_
    try refine andB ?_
    try refine sA ?_
    obtain ⟨c136, hr16, h⟩ := bind_ok h
    refine Cl_sA (w_impl_accountOk hr16) ?_
    try refine sA ?_
    have he := Option.some.inj h
    subst he
    exact endsA ⟨[(4, (.os 0 1 0 (((c134.set a1.From.toNat (wI ((nth c134 a1.From.toNat) - a1.Many))).set a1.To.toNat (wI ((nth (c134.set a1.From.toNat (wI ((nth c134 a1.From.toNat) - a1.Many))) a1.To.toNat) + a1.Many))).length) (((c134.set a1.From.toNat (wI ((nth c134 a1.From.toNat) - a1.Many))).set a1.To.toNat (wI ((nth (c134.set a1.From.toNat (wI ((nth c134 a1.From.toNat) - a1.Many))) a1.To.toNat) + a1.Many))).length) false)), (5, (.lf false (.sc (.bool c136))))], [(0, some (true, .arr false 1 (((c134.set a1.From.toNat (wI ((nth c134 a1.From.toNat) - a1.Many))).set a1.To.toNat (wI ((nth (c134.set a1.From.toNat (wI ((nth c134 a1.From.toNat) - a1.Many))) a1.To.toNat) + a1.Many))).map eI)))], 1, 42⟩ [some 1]
  · try refine sA ?_
    have he := Option.some.inj h
    subst he
    exact endsA ⟨[(4, (.os 0 1 0 (((c134.set a1.From.toNat (wI ((nth c134 a1.From.toNat) - a1.Many))).set a1.To.toNat (wI ((nth (c134.set a1.From.toNat (wI ((nth c134 a1.From.toNat) - a1.Many))) a1.To.toNat) + a1.Many))).length) (((c134.set a1.From.toNat (wI ((nth c134 a1.From.toNat) - a1.Many))).set a1.To.toNat (wI ((nth (c134.set a1.From.toNat (wI ((nth c134 a1.From.toNat) - a1.Many))) a1.To.toNat) + a1.Many))).length) false)), (5, (.lf false (.sc (.bool false))))], [(0, some (true, .arr false 1 (((c134.set a1.From.toNat (wI ((nth c134 a1.From.toNat) - a1.Many))).set a1.To.toNat (wI ((nth (c134.set a1.From.toNat (wI ((nth c134 a1.From.toNat) - a1.Many))) a1.To.toNat) + a1.Many))).map eI)))], 1, 42⟩ [some 1]
theorem w_impl_Saga_step_o {a0 : SagaT} {m1 : Nat} {x1 : Bool} {m2 : Nat} {x2 : Bool} {r : (Bool × SagaT)} (h : impl_Saga_step_o a0 = some r) : Fn Try.prog 33 [(.pb 0 0)] [(0, some (false, .box [(.os 1 1 0 a0.Accounts.length m1 x1), (.os 2 3 0 a0.Moves.length m2 x2), (.lf false (.sc (.int .i64 a0.Done))), (.lf false (.sc (.bool a0.Undoing)))])), (1, some (false, .arr true 1 (a0.Accounts.map eI))), (2, some (false, .arr true 3 (a0.Moves.map eMove)))] 3 (.lf false (.sc (.bool r.1))) [(0, some (false, .box [(.os 3 1 0 r.2.Accounts.length r.2.Accounts.length false), (.os 2 3 0 a0.Moves.length a0.Moves.length false), (.lf false (.sc (.int .i64 r.2.Done))), (.lf false (.sc (.bool r.2.Undoing)))])), (1, none), (2, some (false, .arr false 3 (a0.Moves.map eMove))), (3, some (false, .arr false 1 (r.2.Accounts.map eI)))] 4 := by
  unfold impl_Saga_step_o at h
  refine fn_code tab_ok mixed [(5, [(4, 15)]), (1000, [(0, 0)]), (1001, [(0, 0), (5, 0)]), (1002, [(2, 0)]), (1003, [(0, 0), (36, 0)]), (1004, [(0, 0)]), (1005, []), (1006, [(2, 0)]), (1007, [(0, 0), (3, 0), (4, 0)]), (1008, [(0, 0), (3, 0), (89, 0)]), (1009, []), (1010, [(2, 0)]), (1011, [(0, 0)]), (1012, []), (1013, [(2, 0)]), (4001, [])] Try.func33 rfl rfl (by simp [Try.f33]) (by kernel_rfl) ?_
  simp only [Try.f33]
  refine sA ?_
  obtain ⟨p132, hq1, h⟩ := bind_ok h
  refine Sq_cut (fun s2 => s2 = ⟨[(0, (.pb 0 0)), (5, (.lf false (.sc (.bool p132.t5))))], [(0, some (false, .box [(.os 1 1 0 a0.Accounts.length m1 x1), (.os 2 3 0 a0.Moves.length m2 x2), (.lf false (.sc (.int .i64 a0.Done))), (.lf false (.sc (.bool a0.Undoing)))])), (1, some (false, .arr true 1 (a0.Accounts.map eI))), (2, some (false, .arr true 3 (a0.Moves.map eMove)))], 3, 104⟩) ?_ ?_
  · try refine sA ?_
    refine Sp_if hq1 (fun hq1 hc2 => ?_) (fun hq1 hc2 => ?_)
    · try refine sA ?_
      refine Sp_if hq1 (fun hq1 hc3 => ?_) (fun hq1 hc3 => ?_)
      · try refine sA ?_
        cases hq1
        exact X_cut rfl (weakA [some 0, some 1, some 2])
      · try refine sA ?_
        refine Sp_if hq1 (fun hq1 hc4 => ?_) (fun hq1 hc4 => ?_)
        · try refine sA ?_
          cases hq1
          exact X_cut rfl (weakA [some 0, some 1, some 2])
        · try refine sA ?_
          cases hq1
          exact X_cut rfl (weakA [some 0, some 1, some 2])
    · try refine sA ?_
      refine Sp_if hq1 (fun hq1 hc5 => ?_) (fun hq1 hc5 => ?_)
      · try refine sA ?_
        cases hq1
        exact X_cut rfl (weakA [some 0, some 1, some 2])
      · try refine sA ?_
        cases hq1
        exact X_cut rfl (weakA [some 0, some 1, some 2])
  · intro s2 hJ; subst hJ
    try dsimp only at h
    try refine sA ?_
    refine Bs_if h (fun h hc6 => ?_) (fun h hc6 => ?_)
    · try refine sA ?_
      have he := Option.some.inj h
      subst he
      exact endsA ⟨[(2, (.lf false (.sc (.bool false))))], [(0, some (false, .box [(.os 3 1 0 a0.Accounts.length a0.Accounts.length false), (.os 2 3 0 a0.Moves.length a0.Moves.length false), (.lf false (.sc (.int .i64 a0.Done))), (.lf false (.sc (.bool a0.Undoing)))])), (1, none), (2, some (false, .arr false 3 (a0.Moves.map eMove))), (3, some (false, .arr false 1 (a0.Accounts.map eI)))], 4, 104⟩ [some 0, some 1, some 2, some 1]
    · try refine sA ?_
      refine Bs_if h (fun h hc7 => ?_) (fun h hc7 => ?_)
      · try refine sA ?_
        obtain ⟨hp8, h⟩ := guard_some h
        have hn8 : (wI (a0.Done - 1)).toNat < a0.Moves.length := by first | omega | (simp only [List.length_set, List.length_append, List.length_replicate, List.length_map]; omega)
        try refine sA ?_
        try refine andA ?_
        try refine andB ?_
        try refine sA ?_
        obtain ⟨c133, hr10, h⟩ := bind_ok h
        refine Cl_sA (w_impl_back hr10) ?_
        try refine sA ?_
        obtain ⟨c137, hr11, h⟩ := bind_ok h
        refine Cl_sA (w_impl_moved hr11) ?_
        try refine sA ?_
        have he := Option.some.inj h
        subst he
        exact endsA ⟨[(2, (.lf false (.sc (.bool true))))], [(0, some (false, .box [(.os 3 1 0 c137.1.length c137.1.length false), (.os 2 3 0 a0.Moves.length a0.Moves.length false), (.lf false (.sc (.int .i64 (wI (a0.Done - 1))))), (.lf false (.sc (.bool a0.Undoing)))])), (1, none), (2, some (false, .arr false 3 (a0.Moves.map eMove))), (3, some (false, .arr false 1 (c137.1.map eI)))], 4, 104⟩ [some 0, some 1, some 2, some 4]
      · try refine sA ?_
        obtain ⟨hp12, h⟩ := guard_some h
        have hn12 : a0.Done.toNat < a0.Moves.length := by first | omega | (simp only [List.length_set, List.length_append, List.length_replicate, List.length_map]; omega)
        try refine sA ?_
        try refine andA ?_
        try refine andB ?_
        try refine sA ?_
        obtain ⟨c138, hr14, h⟩ := bind_ok h
        refine Cl_sA (w_impl_moved hr14) ?_
        try refine sA ?_
        refine Bs_if h (fun h hc15 => ?_) (fun h hc15 => ?_)
        · try refine sA ?_
          have he := Option.some.inj h
          subst he
          exact endsA ⟨[(2, (.lf false (.sc (.bool true))))], [(0, some (false, .box [(.os 3 1 0 a0.Accounts.length a0.Accounts.length false), (.os 2 3 0 a0.Moves.length a0.Moves.length false), (.lf false (.sc (.int .i64 a0.Done))), (.lf false (.sc (.bool true)))])), (1, none), (2, some (false, .arr false 3 (a0.Moves.map eMove))), (3, some (false, .arr false 1 (a0.Accounts.map eI)))], 4, 104⟩ [some 0, some 1, some 2, some 1]
        · try refine sA ?_
          have he := Option.some.inj h
          subst he
          exact endsA ⟨[(2, (.lf false (.sc (.bool true))))], [(0, some (false, .box [(.os 3 1 0 c138.1.length c138.1.length false), (.os 2 3 0 a0.Moves.length a0.Moves.length false), (.lf false (.sc (.int .i64 (wI (a0.Done + 1))))), (.lf false (.sc (.bool a0.Undoing)))])), (1, none), (2, some (false, .arr false 3 (a0.Moves.map eMove))), (3, some (false, .arr false 1 (c138.1.map eI)))], 4, 104⟩ [some 0, some 1, some 2, some 3]
theorem w_impl_RunSaga_c1_ooo {a0 : SagaT} {a1 : Int} {a2 : Int} {m1 : Nat} {x1 : Bool} {m2 : Nat} {x2 : Bool} {r : (Bool × SagaT × Int)} (h : impl_RunSaga_c1_ooo a0 a1 a2 = some r) : Fn Try.prog 31 [(.pb 0 0), (.pb 3 0), (.pb 4 0)] [(0, some (false, .box [(.os 1 1 0 a0.Accounts.length m1 x1), (.os 2 3 0 a0.Moves.length m2 x2), (.lf false (.sc (.int .i64 a0.Done))), (.lf false (.sc (.bool a0.Undoing)))])), (1, some (false, .arr true 1 (a0.Accounts.map eI))), (2, some (false, .arr true 3 (a0.Moves.map eMove))), (3, some (false, .box [(.lf false (.sc (.int .i64 a1)))])), (4, some (false, .box [(.lf false (.sc (.int .i64 a2)))]))] 5 (.lf false (.sc (.bool r.1))) [(0, some (false, .box [(.os 5 1 0 r.2.1.Accounts.length r.2.1.Accounts.length false), (.os 2 3 0 a0.Moves.length a0.Moves.length false), (.lf false (.sc (.int .i64 r.2.1.Done))), (.lf false (.sc (.bool r.2.1.Undoing)))])), (1, none), (2, some (false, .arr false 3 (a0.Moves.map eMove))), (3, some (false, .box [(.lf false (.sc (.int .i64 r.2.2)))])), (4, some (false, .box [(.lf false (.sc (.int .i64 a2)))])), (5, some (false, .arr false 1 (r.2.1.Accounts.map eI)))] 6 := by
  unfold impl_RunSaga_c1_ooo at h
  refine fn_code tab_ok mixed [(1000, [(0, 0), (1, 0), (2, 0)]), (1001, [(0, 0), (1, 0), (2, 0), (15, 0)]), (1002, [(0, 0), (1, 0), (2, 0)]), (1003, [(4, 0)])] Try.func31 rfl rfl (by simp [Try.f31]) (by kernel_rfl) ?_
  simp only [Try.f31]
  refine sA ?_
  obtain ⟨y144, hl1, h⟩ := bind_ok h
  refine W_loopP (fun g130 : impl_RunSaga_c1_ooo_G1 => ⟨[(0, (.pb 0 0)), (1, (.pb 3 0)), (2, (.pb 4 0))], [(0, some (false, .box [(.os 5 1 0 g130.c5.length g130.c5.length false), (.os 2 3 0 a0.Moves.length a0.Moves.length false), (.lf false (.sc (.int .i64 g130.b0_2))), (.lf false (.sc (.bool g130.b0_3)))])), (1, none), (2, some (false, .arr true 3 (a0.Moves.map eMove))), (3, some (false, .box [(.lf false (.sc (.int .i64 g130.b3_0)))])), (4, some (false, .box [(.lf false (.sc (.int .i64 a2)))])), (5, some (false, .arr true 1 (g130.c5.map eI)))], 6, 18⟩) (impl_RunSaga_c1_ooo_L1 a2 a0) _ _ hl1 (weakA [some 0, some 1, some 2, some 3, some 4, some 1]) ?_
  · intro n1 g130 z1 hs1 hk1
    unfold impl_RunSaga_c1_ooo_L1 at hs1
    try dsimp only at hs1
    refine sA ?_
    refine Sp_if hs1 (fun hs1 hc2 => ?_) (fun hs1 hc2 => ?_)
    · try refine sA ?_
      obtain ⟨c141, hr3, hs1⟩ := bind_ok hs1
      refine Cl_hA [0, 5, 2] (w_impl_Saga_fail_o hr3) ?_
      try refine sA ?_
      refine Sp_if hs1 (fun hs1 hc4 => ?_) (fun hs1 hc4 => ?_)
      · try refine sA ?_
        cases hs1
        exact X_backP hk1 (weakA [some 0, some 1, some 2, some 3, some 4, some 5])
      · try refine sA ?_
        obtain ⟨c142, hr5, hs1⟩ := bind_ok hs1
        refine Cl_hA [0, 5, 2] (w_impl_Saga_step_o hr5) ?_
        try refine sA ?_
        refine Bs_if hs1 (fun hs1 hc6 => ?_) (fun hs1 hc6 => ?_)
        · try refine sA ?_
          cases hs1
          exact X_backP hk1 (weakA [some 0, some 1, some 2, some 3, some 4, some 6])
        · try refine sA ?_
          cases hs1
          cases hk1
          try dsimp only at h
          try refine sA ?_
          have he := Option.some.inj h
          subst he
          exact endsA ⟨[(4, (.lf false (.sc (.bool true))))], [(0, some (false, .box [(.os 5 1 0 c142.2.Accounts.length c142.2.Accounts.length false), (.os 2 3 0 a0.Moves.length a0.Moves.length false), (.lf false (.sc (.int .i64 c142.2.Done))), (.lf false (.sc (.bool c142.2.Undoing)))])), (1, none), (2, some (false, .arr false 3 (a0.Moves.map eMove))), (3, some (false, .box [(.lf false (.sc (.int .i64 g130.b3_0)))])), (4, some (false, .box [(.lf false (.sc (.int .i64 a2)))])), (5, some (false, .arr false 1 (c142.2.Accounts.map eI)))], 6, 18⟩ [some 0, some 1, some 2, some 3, some 4, some 6]
    · try refine sA ?_
      obtain ⟨c143, hr7, hs1⟩ := bind_ok hs1
      refine Cl_hA [0, 5, 2] (w_impl_Saga_step_o hr7) ?_
      try refine sA ?_
      refine Bs_if hs1 (fun hs1 hc8 => ?_) (fun hs1 hc8 => ?_)
      · try refine sA ?_
        cases hs1
        exact X_backP hk1 (weakA [some 0, some 1, some 2, some 3, some 4, some 6])
      · try refine sA ?_
        cases hs1
        cases hk1
        try dsimp only at h
        try refine sA ?_
        have he := Option.some.inj h
        subst he
        exact endsA ⟨[(4, (.lf false (.sc (.bool true))))], [(0, some (false, .box [(.os 5 1 0 c143.2.Accounts.length c143.2.Accounts.length false), (.os 2 3 0 a0.Moves.length a0.Moves.length false), (.lf false (.sc (.int .i64 c143.2.Done))), (.lf false (.sc (.bool c143.2.Undoing)))])), (1, none), (2, some (false, .arr false 3 (a0.Moves.map eMove))), (3, some (false, .box [(.lf false (.sc (.int .i64 g130.b3_0)))])), (4, some (false, .box [(.lf false (.sc (.int .i64 a2)))])), (5, some (false, .arr false 1 (c143.2.Accounts.map eI)))], 6, 18⟩ [some 0, some 1, some 2, some 3, some 4, some 6]
theorem w_impl_changedSaga_impl_RunSaga_c1oo {a0 : SagaT} {a1 : Int} {a2 : Int} {r : (SagaT × Bool × Int)} (h : impl_changedSaga_impl_RunSaga_c1oo a0 a1 a2 = some r) : Fn Try.prog 30 [(.ag [(.lf true (.sl (a0.Accounts.map eI))), (.lf true (.sl (a0.Moves.map eMove))), (.lf false (.sc (.int .i64 a0.Done))), (.lf false (.sc (.bool a0.Undoing)))]), (.fn 31 [(.pb 0 0), (.pb 1 0)])] [(0, some (false, .box [(.lf false (.sc (.int .i64 a1)))])), (1, some (false, .box [(.lf false (.sc (.int .i64 a2)))]))] 2 (.tu [(.ag [(.os 2 1 0 r.1.Accounts.length r.1.Accounts.length false), (.os 3 3 0 r.1.Moves.length r.1.Moves.length false), (.lf false (.sc (.int .i64 r.1.Done))), (.lf false (.sc (.bool r.1.Undoing)))]), (.lf false (.sc (.bool r.2.1)))]) [(0, some (false, .box [(.lf false (.sc (.int .i64 r.2.2)))])), (1, some (false, .box [(.lf false (.sc (.int .i64 a2)))])), (2, some (false, .arr false 1 (r.1.Accounts.map eI))), (3, some (true, .arr false 3 (r.1.Moves.map eMove)))] 5 := by
  unfold impl_changedSaga_impl_RunSaga_c1oo at h
  refine fn_code tab_ok mixed [(1000, [(1, 0), (2, 0), (4, 0)]), (1001, [(1, 0), (2, 0), (4, 0), (9, 0)]), (1002, [(4, 0), (5, 0)]), (1003, [(1, 0), (4, 0), (6, 0)]), (1004, [(4, 0), (6, 0), (15, 0)]), (1005, [(4, 0), (5, 0)]), (1006, [(4, 0), (5, 0)])] Try.func30 rfl rfl (by simp [Try.f30]) (by kernel_rfl) ?_
  simp only [Try.f30]
  refine sA ?_
  obtain ⟨c128, hr1, h⟩ := bind_ok h
  refine Cl_sA (w_impl_GoodSaga hr1) ?_
  try refine sA ?_
  refine Bs_if h (fun h hc2 => ?_) (fun h hc2 => ?_)
  · try refine sA ?_
    have he := Option.some.inj h
    subst he
    exact endsA ⟨[(4, (.pb 4 0)), (5, (.lf false (.sc (.bool false))))], [(0, some (false, .box [(.lf false (.sc (.int .i64 a1)))])), (1, some (false, .box [(.lf false (.sc (.int .i64 a2)))])), (2, some (false, .arr false 1 (([] : List Int).map eI))), (3, some (true, .arr false 3 (([] : List MoveT).map eMove))), (4, some (true, .box [(.os 2 1 0 (([] : List Int).length) (([] : List Int).length) false), (.os 3 3 0 (([] : List MoveT).length) (([] : List MoveT).length) false), (.lf false (.sc (.int .i64 0))), (.lf false (.sc (.bool false)))]))], 5, 18⟩ [some 0, some 1, none, none, some 3]
  · try refine sA ?_
    obtain ⟨c129, hr3, h⟩ := bind_ok h
    refine Cl_sA (w_impl_cloneSaga hr3) ?_
    try refine sA ?_
    obtain ⟨c145, hr4, h⟩ := bind_ok h
    refine Cl_hA [7, 4, 5, 0, 1] (w_impl_RunSaga_c1_ooo hr4) ?_
    try refine sA ?_
    refine Bs_if h (fun h hc5 => ?_) (fun h hc5 => ?_)
    · try refine sA ?_
      have he := Option.some.inj h
      subst he
      exact endsA ⟨[(4, (.pb 4 0)), (5, (.lf false (.sc (.bool false))))], [(0, some (false, .box [(.lf false (.sc (.int .i64 c145.2.2)))])), (1, some (false, .box [(.lf false (.sc (.int .i64 a2)))])), (2, some (false, .arr false 1 (([] : List Int).map eI))), (3, some (true, .arr false 3 (([] : List MoveT).map eMove))), (4, some (true, .box [(.os 2 1 0 (([] : List Int).length) (([] : List Int).length) false), (.os 3 3 0 (([] : List MoveT).length) (([] : List MoveT).length) false), (.lf false (.sc (.int .i64 0))), (.lf false (.sc (.bool false)))]))], 5, 18⟩ [some 0, some 1, none, none, some 3]
    · try refine sA ?_
      have he := Option.some.inj h
      subst he
      exact endsA ⟨[(4, (.pb 4 0)), (5, (.lf false (.sc (.bool true))))], [(0, some (false, .box [(.lf false (.sc (.int .i64 c145.2.2)))])), (1, some (false, .box [(.lf false (.sc (.int .i64 a2)))])), (2, some (false, .arr false 1 (c145.2.1.Accounts.map eI))), (3, some (true, .arr false 3 (c129.Moves.map eMove))), (4, some (true, .box [(.os 2 1 0 c145.2.1.Accounts.length c145.2.1.Accounts.length false), (.os 3 3 0 c129.Moves.length c129.Moves.length false), (.lf false (.sc (.int .i64 c145.2.1.Done))), (.lf false (.sc (.bool c145.2.1.Undoing)))]))], 5, 18⟩ [some 0, some 1, some 8, some 5, some 3]
theorem w_impl_RunSaga {a0 : SagaT} {a1 : Int} {r : (SagaT × Int × Bool)} (h : impl_RunSaga a0 a1 = some r) : Fn Try.prog 10 [(.ag [(.lf true (.sl (a0.Accounts.map eI))), (.lf true (.sl (a0.Moves.map eMove))), (.lf false (.sc (.int .i64 a0.Done))), (.lf false (.sc (.bool a0.Undoing)))]), (.lf false (.sc (.int .i64 a1)))] [] 0 (.tu [(.ag [(.os 0 1 0 r.1.Accounts.length r.1.Accounts.length false), (.os 1 3 0 r.1.Moves.length r.1.Moves.length false), (.lf false (.sc (.int .i64 r.1.Done))), (.lf false (.sc (.bool r.1.Undoing)))]), (.lf false (.sc (.int .i64 r.2.1))), (.lf false (.sc (.bool r.2.2)))]) [(0, some (false, .arr false 1 (r.1.Accounts.map eI))), (1, some (true, .arr false 3 (r.1.Moves.map eMove)))] 3 := by
  unfold impl_RunSaga at h
  refine fn_code tab_ok mixed [(5, [(1, 2)]), (1000, [(2, 0), (3, 0), (4, 0)]), (1001, [(2, 0), (3, 0), (4, 0), (7, 0)]), (1002, [(4, 0), (7, 0), (8, 0), (9, 0)]), (1003, [(4, 0), (7, 0), (8, 0), (17, 0)]), (1004, [(4, 0), (5, 0), (6, 0)]), (1005, [(4, 0), (5, 0), (6, 0)])] Try.func10 rfl rfl (by simp [Try.f10]) (by kernel_rfl) ?_
  simp only [Try.f10]
  refine sA ?_
  obtain ⟨c146, hr1, h⟩ := bind_ok h
  refine Cl_hA [3, 1] (w_impl_changedSaga_impl_RunSaga_c1oo hr1) ?_
  try refine sA ?_
  refine Bs_if h (fun h hc2 => ?_) (fun h hc2 => ?_)
  · try refine sA ?_
    have he := Option.some.inj h
    subst he
    exact endsA ⟨[(4, (.pb 2 0)), (5, (.lf false (.sc (.int .i64 0)))), (6, (.lf false (.sc (.bool false))))], [(0, some (false, .arr false 1 (([] : List Int).map eI))), (1, some (true, .arr false 3 (([] : List MoveT).map eMove))), (2, some (true, .box [(.os 0 1 0 (([] : List Int).length) (([] : List Int).length) false), (.os 1 3 0 (([] : List MoveT).length) (([] : List MoveT).length) false), (.lf false (.sc (.int .i64 0))), (.lf false (.sc (.bool false)))]))], 3, 21⟩ [none, none, some 2]
  · try refine sA ?_
    have he := Option.some.inj h
    subst he
    exact endsA ⟨[(4, (.pb 2 0)), (5, (.lf false (.sc (.int .i64 c146.2.2)))), (6, (.lf false (.sc (.bool true))))], [(0, some (false, .arr false 1 (c146.1.Accounts.map eI))), (1, some (true, .arr false 3 (c146.1.Moves.map eMove))), (2, some (true, .box [(.os 0 1 0 c146.1.Accounts.length c146.1.Accounts.length false), (.os 1 3 0 c146.1.Moves.length c146.1.Moves.length false), (.lf false (.sc (.int .i64 c146.1.Done))), (.lf false (.sc (.bool c146.1.Undoing)))]))], 3, 21⟩ [some 4, some 5, some 2]
theorem w_laws_eqIntS {a0 : (List Int)} {a1 : (List Int)} {r : Bool} (h : laws_eqIntS a0 a1 = some r) : Fn Try.prog 53 [(.lf true (.sl (a0.map eI))), (.lf true (.sl (a1.map eI)))] [] 0 (.lf false (.sc (.bool r))) [] 0 := by
  unfold laws_eqIntS at h
  refine fn_code tab_ok mixed [(1000, [(0, 0), (1, 0)]), (1001, [(0, 0), (1, 0), (10, 0)]), (1002, [(4, 0)]), (1003, [(0, 0), (1, 0), (5, 0)]), (1004, [(0, 0), (1, 0), (5, 0), (14, 0)]), (1005, [(0, 0), (1, 0), (5, 0)]), (1006, [(0, 0), (1, 0), (5, 0), (25, 0)]), (1007, [(4, 0)]), (1008, [(4, 0)])] Try.func53 rfl rfl (by simp [Try.f53]) (by kernel_rfl) ?_
  simp only [Try.f53]
  refine sA ?_
  refine Bs_if h (fun h hc1 => ?_) (fun h hc1 => ?_)
  · try refine sA ?_
    have he := Option.some.inj h
    subst he
    exact endsA ⟨[(4, (.lf false (.sc (.bool false))))], [], 0, 26⟩ []
  · try refine sA ?_
    obtain ⟨y149, hl2, h⟩ := bind_ok h
    refine W_loopP (fun g148 : laws_eqIntS_G1 => ⟨[(0, (.lf true (.sl (a0.map eI)))), (1, (.lf true (.sl (a1.map eI)))), (5, (.lf false (.sc (.int .i64 g148.t5))))], [], 0, 26⟩) (laws_eqIntS_L1 a0 a1) _ _ hl2 (weakA []) ?_
    · intro n1 g148 z1 hs1 hk1
      unfold laws_eqIntS_L1 at hs1
      try dsimp only at hs1
      refine sA ?_
      refine Bs_if hs1 (fun hs1 hc3 => ?_) (fun hs1 hc3 => ?_)
      · try refine sA ?_
        obtain ⟨hp4, hs1⟩ := guard_some hs1
        have hn4 : g148.t5.toNat < a0.length := by first | omega | (simp only [List.length_set, List.length_append, List.length_replicate, List.length_map]; omega)
        try refine sA ?_
        try refine andA ?_
        obtain ⟨hp5, hs1⟩ := guard_some hs1
        have hn5 : g148.t5.toNat < a1.length := by first | omega | (simp only [List.length_set, List.length_append, List.length_replicate, List.length_map]; omega)
        try refine sA ?_
        try refine andA ?_
        refine Bs_if hs1 (fun hs1 hc6 => ?_) (fun hs1 hc6 => ?_)
        · try refine sA ?_
          cases hs1
          cases hk1
          try dsimp only at h
          try refine sA ?_
          have he := Option.some.inj h
          subst he
          exact endsA ⟨[(4, (.lf false (.sc (.bool false))))], [], 0, 26⟩ []
        · try refine sA ?_
          cases hs1
          exact X_backP hk1 (weakA [])
      · try refine sA ?_
        cases hs1
        cases hk1
        try dsimp only at h
        try refine sA ?_
        have he := Option.some.inj h
        subst he
        exact endsA ⟨[(4, (.lf false (.sc (.bool true))))], [], 0, 26⟩ []
theorem w_laws_eqMove {a0 : MoveT} {a1 : MoveT} {r : Bool} (h : laws_eqMove a0 a1 = some r) : Fn Try.prog 70 [(.ag [(.lf false (.sc (.int .i64 a0.From))), (.lf false (.sc (.int .i64 a0.To))), (.lf false (.sc (.int .i64 a0.Many)))]), (.ag [(.lf false (.sc (.int .i64 a1.From))), (.lf false (.sc (.int .i64 a1.To))), (.lf false (.sc (.int .i64 a1.Many)))])] [] 0 (.lf false (.sc (.bool r))) [] 0 := by
  unfold laws_eqMove at h
  refine fn_code tab_ok mixed [(1000, [(2, 0), (3, 0)]), (1001, [(2, 0), (3, 0), (9, 0)]), (1002, [(4, 0)]), (1003, [(2, 0), (3, 0), (14, 0)]), (1004, [(4, 0)]), (1005, [(19, 0)]), (1006, [(4, 0)]), (1007, [(4, 0)])] Try.func70 rfl rfl (by simp [Try.f70]) (by kernel_rfl) ?_
  simp only [Try.f70]
  refine sA ?_
  refine Bs_if h (fun h hc1 => ?_) (fun h hc1 => ?_)
  · try refine sA ?_
    have he := Option.some.inj h
    subst he
    exact endsA ⟨[(4, (.lf false (.sc (.bool false))))], [], 0, 20⟩ []
  · try refine sA ?_
    refine Bs_if h (fun h hc2 => ?_) (fun h hc2 => ?_)
    · try refine sA ?_
      have he := Option.some.inj h
      subst he
      exact endsA ⟨[(4, (.lf false (.sc (.bool false))))], [], 0, 20⟩ []
    · try refine sA ?_
      refine Bs_if h (fun h hc3 => ?_) (fun h hc3 => ?_)
      · try refine sA ?_
        have he := Option.some.inj h
        subst he
        exact endsA ⟨[(4, (.lf false (.sc (.bool false))))], [], 0, 20⟩ []
      · try refine sA ?_
        have he := Option.some.inj h
        subst he
        exact endsA ⟨[(4, (.lf false (.sc (.bool true))))], [], 0, 20⟩ []
theorem w_laws_eqMoveS {a0 : (List MoveT)} {a1 : (List MoveT)} {r : Bool} (h : laws_eqMoveS a0 a1 = some r) : Fn Try.prog 54 [(.lf true (.sl (a0.map eMove))), (.lf true (.sl (a1.map eMove)))] [] 0 (.lf false (.sc (.bool r))) [] 0 := by
  unfold laws_eqMoveS at h
  refine fn_code tab_ok mixed [(1000, [(0, 0), (1, 0)]), (1001, [(0, 0), (1, 0), (10, 0)]), (1002, [(4, 0)]), (1003, [(0, 0), (1, 0), (5, 0)]), (1004, [(0, 0), (1, 0), (5, 0), (14, 0)]), (1005, [(0, 0), (1, 0), (5, 0)]), (1006, [(0, 0), (1, 0), (5, 0), (26, 0)]), (1007, [(4, 0)]), (1008, [(4, 0)])] Try.func54 rfl rfl (by simp [Try.f54]) (by kernel_rfl) ?_
  simp only [Try.f54]
  refine sA ?_
  refine Bs_if h (fun h hc1 => ?_) (fun h hc1 => ?_)
  · try refine sA ?_
    have he := Option.some.inj h
    subst he
    exact endsA ⟨[(4, (.lf false (.sc (.bool false))))], [], 0, 27⟩ []
  · try refine sA ?_
    obtain ⟨y156, hl2, h⟩ := bind_ok h
    refine W_loopP (fun g153 : laws_eqMoveS_G1 => ⟨[(0, (.lf true (.sl (a0.map eMove)))), (1, (.lf true (.sl (a1.map eMove)))), (5, (.lf false (.sc (.int .i64 g153.t5))))], [], 0, 27⟩) (laws_eqMoveS_L1 a0 a1) _ _ hl2 (weakA []) ?_
    · intro n1 g153 z1 hs1 hk1
      unfold laws_eqMoveS_L1 at hs1
      try dsimp only at hs1
      refine sA ?_
      refine Bs_if hs1 (fun hs1 hc3 => ?_) (fun hs1 hc3 => ?_)
      · try refine sA ?_
        obtain ⟨hp4, hs1⟩ := guard_some hs1
        have hn4 : g153.t5.toNat < a0.length := by first | omega | (simp only [List.length_set, List.length_append, List.length_replicate, List.length_map]; omega)
        try refine sA ?_
        try refine andA ?_
        obtain ⟨hp5, hs1⟩ := guard_some hs1
        have hn5 : g153.t5.toNat < a1.length := by first | omega | (simp only [List.length_set, List.length_append, List.length_replicate, List.length_map]; omega)
        try refine sA ?_
        try refine andA ?_
        obtain ⟨c155, hr6, hs1⟩ := bind_ok hs1
        refine Cl_sA (w_laws_eqMove hr6) ?_
        try refine sA ?_
        refine Bs_if hs1 (fun hs1 hc7 => ?_) (fun hs1 hc7 => ?_)
        · try refine sA ?_
          cases hs1
          cases hk1
          try dsimp only at h
          try refine sA ?_
          have he := Option.some.inj h
          subst he
          exact endsA ⟨[(4, (.lf false (.sc (.bool false))))], [], 0, 27⟩ []
        · try refine sA ?_
          cases hs1
          exact X_backP hk1 (weakA [])
      · try refine sA ?_
        cases hs1
        cases hk1
        try dsimp only at h
        try refine sA ?_
        have he := Option.some.inj h
        subst he
        exact endsA ⟨[(4, (.lf false (.sc (.bool true))))], [], 0, 27⟩ []
theorem w_laws_eqSaga {a0 : SagaT} {a1 : SagaT} {r : Bool} (h : laws_eqSaga a0 a1 = some r) : Fn Try.prog 22 [(.ag [(.lf true (.sl (a0.Accounts.map eI))), (.lf true (.sl (a0.Moves.map eMove))), (.lf false (.sc (.int .i64 a0.Done))), (.lf false (.sc (.bool a0.Undoing)))]), (.ag [(.lf true (.sl (a1.Accounts.map eI))), (.lf true (.sl (a1.Moves.map eMove))), (.lf false (.sc (.int .i64 a1.Done))), (.lf false (.sc (.bool a1.Undoing)))])] [] 0 (.lf false (.sc (.bool r))) [] 0 := by
  unfold laws_eqSaga at h
  refine fn_code tab_ok mixed [(1000, [(2, 0), (3, 0)]), (1001, [(2, 0), (3, 0), (10, 0)]), (1002, [(4, 0)]), (1003, [(2, 0), (3, 0), (16, 0)]), (1004, [(4, 0)]), (1005, [(2, 0), (3, 0), (21, 0)]), (1006, [(4, 0)]), (1007, [(26, 0)]), (1008, [(4, 0)]), (1009, [(4, 0)])] Try.func22 rfl rfl (by simp [Try.f22]) (by kernel_rfl) ?_
  simp only [Try.f22]
  refine sA ?_
  obtain ⟨c152, hr1, h⟩ := bind_ok h
  refine Cl_sA (w_laws_eqIntS hr1) ?_
  try refine sA ?_
  refine Bs_if h (fun h hc2 => ?_) (fun h hc2 => ?_)
  · try refine sA ?_
    have he := Option.some.inj h
    subst he
    exact endsA ⟨[(4, (.lf false (.sc (.bool false))))], [], 0, 27⟩ []
  · try refine sA ?_
    obtain ⟨c159, hr3, h⟩ := bind_ok h
    refine Cl_sA (w_laws_eqMoveS hr3) ?_
    try refine sA ?_
    refine Bs_if h (fun h hc4 => ?_) (fun h hc4 => ?_)
    · try refine sA ?_
      have he := Option.some.inj h
      subst he
      exact endsA ⟨[(4, (.lf false (.sc (.bool false))))], [], 0, 27⟩ []
    · try refine sA ?_
      refine Bs_if h (fun h hc5 => ?_) (fun h hc5 => ?_)
      · try refine sA ?_
        have he := Option.some.inj h
        subst he
        exact endsA ⟨[(4, (.lf false (.sc (.bool false))))], [], 0, 27⟩ []
      · try refine sA ?_
        refine Bs_if h (fun h hc6 => ?_) (fun h hc6 => ?_)
        · try refine sA ?_
          have he := Option.some.inj h
          subst he
          exact endsA ⟨[(4, (.lf false (.sc (.bool false))))], [], 0, 27⟩ []
        · try refine sA ?_
          have he := Option.some.inj h
          subst he
          exact endsA ⟨[(4, (.lf false (.sc (.bool true))))], [], 0, 27⟩ []
theorem w_laws_markIntS_w {a0 : (List Int)} {a1 : Int} {m0 : Nat} {x0 : Bool} {r : (Int × (List Int))} (h : laws_markIntS_w a0 a1 = some r) : Fn Try.prog 55 [(.os 0 1 0 a0.length m0 x0), (.lf false (.sc (.int .i64 a1)))] [(0, some (false, .arr true 1 (a0.map eI)))] 1 (.lf false (.sc (.int .i64 r.1))) [(0, some (false, .arr false 1 (r.2.map eI)))] 1 := by
  unfold laws_markIntS_w at h
  refine fn_code tab_ok mixed [(1000, [(0, 0), (1, 0)]), (1001, [(0, 0), (1, 0), (5, 0)]), (1002, [(0, 0), (1, 0), (5, 0), (9, 0)]), (1003, [(0, 0), (1, 0), (5, 0)]), (1004, [(0, 0), (1, 0), (5, 0)]), (1005, [(0, 0), (1, 0), (5, 0)]), (1006, [(4, 0)])] Try.func55 rfl rfl (by simp [Try.f55]) (by kernel_rfl) ?_
  simp only [Try.f55]
  refine sA ?_
  obtain ⟨y166, hl1, h⟩ := bind_ok h
  refine W_loopP (fun g165 : laws_markIntS_w_G1 => ⟨[(0, (.os 0 1 0 g165.c0.length g165.c0.length false)), (1, (.lf false (.sc (.int .i64 g165.t1)))), (5, (.lf false (.sc (.int .i64 g165.t5))))], [(0, some (false, .arr true 1 (g165.c0.map eI)))], 1, 19⟩) (laws_markIntS_w_L1) _ _ hl1 (weakA [some 0]) ?_
  · intro n1 g165 z1 hs1 hk1
    unfold laws_markIntS_w_L1 at hs1
    try dsimp only at hs1
    refine sA ?_
    refine Bs_if hs1 (fun hs1 hc2 => ?_) (fun hs1 hc2 => ?_)
    · try refine sA ?_
      obtain ⟨hp3, hs1⟩ := guard_some hs1
      have hn3 : g165.t5.toNat < g165.c0.length := by first | omega | (simp only [List.length_set, List.length_append, List.length_replicate, List.length_map]; omega)
      try refine sA ?_
      try refine andA ?_
      try refine andB ?_
      try refine sA ?_
      cases hs1
      exact X_backP hk1 (weakA [some 0])
    · try refine sA ?_
      cases hs1
      cases hk1
      try dsimp only at h
      try refine sA ?_
      have he := Option.some.inj h
      subst he
      exact endsA ⟨[(4, (.lf false (.sc (.int .i64 g165.t1))))], [(0, some (false, .arr false 1 (g165.c0.map eI)))], 1, 19⟩ [some 0]
theorem w_laws_markMoveS_w {a0 : (List MoveT)} {a1 : Int} {m0 : Nat} {x0 : Bool} {r : (Int × (List MoveT))} (h : laws_markMoveS_w a0 a1 = some r) : Fn Try.prog 56 [(.os 0 3 0 a0.length m0 x0), (.lf false (.sc (.int .i64 a1)))] [(0, some (false, .arr true 3 (a0.map eMove)))] 1 (.lf false (.sc (.int .i64 r.1))) [(0, some (false, .arr false 3 (r.2.map eMove)))] 1 := by
  unfold laws_markMoveS_w at h
  refine fn_code tab_ok mixed [(1000, [(0, 0), (1, 0)]), (1001, [(0, 0), (1, 0), (5, 0)]), (1002, [(0, 0), (1, 0), (5, 0), (9, 0)]), (1003, [(0, 0), (1, 0), (5, 0)]), (1004, [(0, 0), (1, 0), (5, 0)]), (1005, [(0, 0), (1, 0), (5, 0)]), (1006, [(0, 0), (1, 0), (5, 0)]), (1007, [(0, 0), (1, 0), (5, 0)]), (1008, [(0, 0), (1, 0), (5, 0)]), (1009, [(0, 0), (1, 0), (5, 0)]), (1010, [(4, 0)])] Try.func56 rfl rfl (by simp [Try.f56]) (by kernel_rfl) ?_
  simp only [Try.f56]
  refine sA ?_
  obtain ⟨y170, hl1, h⟩ := bind_ok h
  refine W_loopP (fun g169 : laws_markMoveS_w_G1 => ⟨[(0, (.os 0 3 0 g169.c0.length g169.c0.length false)), (1, (.lf false (.sc (.int .i64 g169.t1)))), (5, (.lf false (.sc (.int .i64 g169.t5))))], [(0, some (false, .arr true 3 (g169.c0.map eMove)))], 1, 34⟩) (laws_markMoveS_w_L1) _ _ hl1 (weakA [some 0]) ?_
  · intro n1 g169 z1 hs1 hk1
    unfold laws_markMoveS_w_L1 at hs1
    try dsimp only at hs1
    refine sA ?_
    refine Bs_if hs1 (fun hs1 hc2 => ?_) (fun hs1 hc2 => ?_)
    · try refine sA ?_
      obtain ⟨hp3, hs1⟩ := guard_some hs1
      have hn3 : g169.t5.toNat < g169.c0.length := by first | omega | (simp only [List.length_set, List.length_append, List.length_replicate, List.length_map]; omega)
      try refine sA ?_
      try refine andA ?_
      try refine andB ?_
      try refine sA ?_
      obtain ⟨hp5, hs1⟩ := guard_some hs1
      have hn5 : g169.t5.toNat < g169.c0.length := by first | omega | (simp only [List.length_set, List.length_append, List.length_replicate, List.length_map]; omega)
      try refine sA ?_
      try refine andA ?_
      try refine andB ?_
      try refine sA ?_
      obtain ⟨hp7, hs1⟩ := guard_some hs1
      have hn7 : g169.t5.toNat < g169.c0.length := by first | omega | (simp only [List.length_set, List.length_append, List.length_replicate, List.length_map]; omega)
      try refine sA ?_
      try refine andA ?_
      try refine andB ?_
      try refine sA ?_
      cases hs1
      exact X_backP hk1 (weakA [some 0])
    · try refine sA ?_
      cases hs1
      cases hk1
      try dsimp only at h
      try refine sA ?_
      have he := Option.some.inj h
      subst he
      exact endsA ⟨[(4, (.lf false (.sc (.int .i64 g169.t1))))], [(0, some (false, .arr false 3 (g169.c0.map eMove)))], 1, 34⟩ [some 0]
theorem w_laws_markSaga_ww {a0 : SagaT} {a1 : Int} {m0 : Nat} {x0 : Bool} {m1 : Nat} {x1 : Bool} {r : (Int × (List Int) × (List MoveT))} (h : laws_markSaga_ww a0 a1 = some r) : Fn Try.prog 23 [(.ag [(.os 0 1 0 a0.Accounts.length m0 x0), (.os 1 3 0 a0.Moves.length m1 x1), (.lf false (.sc (.int .i64 a0.Done))), (.lf false (.sc (.bool a0.Undoing)))]), (.lf false (.sc (.int .i64 a1)))] [(0, some (false, .arr true 1 (a0.Accounts.map eI))), (1, some (false, .arr true 3 (a0.Moves.map eMove)))] 2 (.lf false (.sc (.int .i64 r.1))) [(0, some (false, .arr false 1 (r.2.1.map eI))), (1, some (false, .arr false 3 (r.2.2.map eMove)))] 2 := by
  unfold laws_markSaga_ww at h
  refine fn_code tab_ok mixed [(1000, [(1, 0), (2, 0)]), (1001, [(1, 0), (2, 0)]), (1002, [(1, 0)]), (1003, [(4, 0)])] Try.func23 rfl rfl (by simp [Try.f23]) (by kernel_rfl) ?_
  simp only [Try.f23]
  refine sA ?_
  obtain ⟨c167, hr1, h⟩ := bind_ok h
  refine Cl_hA [0] (w_laws_markIntS_w hr1) ?_
  try refine sA ?_
  obtain ⟨hp2, h⟩ := guard_some h
  have hl2 : a0.Accounts.length ≤ c167.2.length := by omega
  have ht2 : List.take (a0.Accounts.length) c167.2 = c167.2 := by rw [← hp2]; exact List.take_length
  try simp (disch := first | assumption | (simp only [List.length_set]; assumption)) only [go_sem, Nat.reduceAdd, Nat.reduceMul, Nat.reduceSub, Nat.reduceEqDiff, ↓reduceIte, Nat.reduceLT, reduceCtorEq, Nat.reduceLeDiff, Int.reduceToNat, Int.reduceEq, Int.reduceLE, Int.reduceLT, Nat.reduceBEq, hl2, ht2]
  obtain ⟨c171, hr3, h⟩ := bind_ok h
  refine Cl_hand (ids := [1]) (w_laws_markMoveS_w hr3) (by first | rfl | (simp (disch := first | assumption | (simp only [List.length_set]; assumption)) only [go_sem, Nat.reduceAdd, Nat.reduceMul, Nat.reduceSub, Nat.reduceEqDiff, ↓reduceIte, Nat.reduceLT, reduceCtorEq, Nat.reduceLeDiff, Int.reduceToNat, Int.reduceEq, Int.reduceLE, Int.reduceLT, Nat.reduceBEq, hl2, ht2]; first | done | rfl) | (simp only [List.length_append, List.length_cons, List.length_nil, List.length_map, List.length_set, List.length_replicate, Nat.zero_add, Nat.reduceAdd]; rfl) | (simp (disch := first | assumption | (simp only [List.length_set]; assumption)) only [go_sem, Nat.reduceAdd, Nat.reduceMul, Nat.reduceSub, Nat.reduceEqDiff, ↓reduceIte, Nat.reduceLT, reduceCtorEq, Nat.reduceLeDiff, Int.reduceToNat, Int.reduceEq, Int.reduceLE, Int.reduceLT, Nat.reduceBEq, hl2, ht2]; simp only [List.length_append, List.length_cons, List.length_nil, List.length_map, List.length_set, List.length_replicate, Nat.zero_add, Nat.reduceAdd]; rfl)) (FitAll.refl _) (by first | rfl | (simp (disch := first | assumption | (simp only [List.length_set]; assumption)) only [go_sem, Nat.reduceAdd, Nat.reduceMul, Nat.reduceSub, Nat.reduceEqDiff, ↓reduceIte, Nat.reduceLT, reduceCtorEq, Nat.reduceLeDiff, Int.reduceToNat, Int.reduceEq, Int.reduceLE, Int.reduceLT, Nat.reduceBEq, hl2, ht2]; first | done | rfl) | (simp only [List.length_append, List.length_cons, List.length_nil, List.length_map, List.length_set, List.length_replicate, Nat.zero_add, Nat.reduceAdd]; rfl) | (simp (disch := first | assumption | (simp only [List.length_set]; assumption)) only [go_sem, Nat.reduceAdd, Nat.reduceMul, Nat.reduceSub, Nat.reduceEqDiff, ↓reduceIte, Nat.reduceLT, reduceCtorEq, Nat.reduceLeDiff, Int.reduceToNat, Int.reduceEq, Int.reduceLE, Int.reduceLT, Nat.reduceBEq, hl2, ht2]; simp only [List.length_append, List.length_cons, List.length_nil, List.length_map, List.length_set, List.length_replicate, Nat.zero_add, Nat.reduceAdd]; rfl)) (by decide) (by first | rfl | (simp (disch := first | assumption | (simp only [List.length_set]; assumption)) only [go_sem, Nat.reduceAdd, Nat.reduceMul, Nat.reduceSub, Nat.reduceEqDiff, ↓reduceIte, Nat.reduceLT, reduceCtorEq, Nat.reduceLeDiff, Int.reduceToNat, Int.reduceEq, Int.reduceLE, Int.reduceLT, Nat.reduceBEq, hl2, ht2]; done)) (by rfl) ?_
  try simp (disch := first | assumption | (simp only [List.length_set]; assumption)) only [go_sem, Nat.reduceAdd, Nat.reduceMul, Nat.reduceSub, Nat.reduceEqDiff, ↓reduceIte, Nat.reduceLT, reduceCtorEq, Nat.reduceLeDiff, Int.reduceToNat, Int.reduceEq, Int.reduceLE, Int.reduceLT, Nat.reduceBEq, hl2, ht2]
  obtain ⟨hp4, h⟩ := guard_some h
  have hl4 : a0.Moves.length ≤ c171.2.length := by omega
  have ht4 : List.take (a0.Moves.length) c171.2 = c171.2 := by rw [← hp4]; exact List.take_length
  try simp (disch := first | assumption | (simp only [List.length_set]; assumption)) only [go_sem, Nat.reduceAdd, Nat.reduceMul, Nat.reduceSub, Nat.reduceEqDiff, ↓reduceIte, Nat.reduceLT, reduceCtorEq, Nat.reduceLeDiff, Int.reduceToNat, Int.reduceEq, Int.reduceLE, Int.reduceLT, Nat.reduceBEq, hl2, ht2, hl4, ht4]
  have he := Option.some.inj h
  subst he
  refine ends_weak ⟨[(4, (.lf false (.sc (.int .i64 c171.1))))], [(0, some (false, .arr false 1 (c167.2.map eI))), (1, some (false, .arr false 3 (c171.2.map eMove)))], 2, 14⟩ (weak_of (m := 2) [some 0, some 1] rfl rfl rfl (by rfl) ?_ ?_) ?_
  all_goals ((try simp (disch := first | assumption | (simp only [List.length_set]; assumption)) only [go_sem, Nat.reduceAdd, Nat.reduceMul, Nat.reduceSub, Nat.reduceEqDiff, ↓reduceIte, Nat.reduceLT, reduceCtorEq, Nat.reduceLeDiff, Int.reduceToNat, Int.reduceEq, Int.reduceLE, Int.reduceLT, Nat.reduceBEq, hl2, ht2, hl4, ht4]); (repeat' first | done | rfl | omega | refine And.intro ?_ ?_ | (simp; done) | (simp; omega)))
theorem w_laws_heldIntS {a0 : (List Int)} {a1 : Int} {r : Int} (h : laws_heldIntS a0 a1 = some r) : Fn Try.prog 57 [(.lf true (.sl (a0.map eI))), (.lf false (.sc (.int .i64 a1)))] [] 0 (.lf false (.sc (.int .i64 r))) [] 0 := by
  unfold laws_heldIntS at h
  refine fn_code tab_ok mixed [(1000, [(0, 0), (1, 0)]), (1001, [(0, 0), (1, 0), (5, 0)]), (1002, [(0, 0), (1, 0), (5, 0), (9, 0)]), (1003, [(0, 0), (1, 0), (5, 0)]), (1004, [(0, 0), (1, 0), (5, 0), (17, 0)]), (1005, [(4, 0)]), (1006, [(0, 0), (1, 0), (5, 0)]), (1007, [(4, 0)])] Try.func57 rfl rfl (by simp [Try.f57]) (by kernel_rfl) ?_
  simp only [Try.f57]
  refine sA ?_
  obtain ⟨y177, hl1, h⟩ := bind_ok h
  refine W_loopP (fun g176 : laws_heldIntS_G1 => ⟨[(0, (.lf true (.sl (a0.map eI)))), (1, (.lf false (.sc (.int .i64 g176.t1)))), (5, (.lf false (.sc (.int .i64 g176.t5))))], [], 0, 21⟩) (laws_heldIntS_L1 a0) _ _ hl1 (weakA []) ?_
  · intro n1 g176 z1 hs1 hk1
    unfold laws_heldIntS_L1 at hs1
    try dsimp only at hs1
    refine sA ?_
    refine Bs_if hs1 (fun hs1 hc2 => ?_) (fun hs1 hc2 => ?_)
    · try refine sA ?_
      obtain ⟨hp3, hs1⟩ := guard_some hs1
      have hn3 : g176.t5.toNat < a0.length := by first | omega | (simp only [List.length_set, List.length_append, List.length_replicate, List.length_map]; omega)
      try refine sA ?_
      try refine andA ?_
      refine Bs_if hs1 (fun hs1 hc4 => ?_) (fun hs1 hc4 => ?_)
      · try refine sA ?_
        cases hs1
        cases hk1
        try dsimp only at h
        try refine sA ?_
        have he := Option.some.inj h
        subst he
        exact endsA ⟨[(4, (.lf false (.sc (.int .i64 (-1)))))], [], 0, 21⟩ []
      · try refine sA ?_
        cases hs1
        exact X_backP hk1 (weakA [])
    · try refine sA ?_
      cases hs1
      cases hk1
      try dsimp only at h
      try refine sA ?_
      have he := Option.some.inj h
      subst he
      exact endsA ⟨[(4, (.lf false (.sc (.int .i64 g176.t1))))], [], 0, 21⟩ []
theorem w_laws_heldMoveS {a0 : (List MoveT)} {a1 : Int} {r : Int} (h : laws_heldMoveS a0 a1 = some r) : Fn Try.prog 58 [(.lf true (.sl (a0.map eMove))), (.lf false (.sc (.int .i64 a1)))] [] 0 (.lf false (.sc (.int .i64 r))) [] 0 := by
  unfold laws_heldMoveS at h
  refine fn_code tab_ok mixed [(1000, [(0, 0), (1, 0)]), (1001, [(0, 0), (1, 0), (5, 0)]), (1002, [(0, 0), (1, 0), (5, 0), (9, 0)]), (1003, [(0, 0), (1, 0), (5, 0)]), (1004, [(0, 0), (1, 0), (5, 0), (18, 0)]), (1005, [(4, 0)]), (1006, [(0, 0), (1, 0), (5, 0)]), (1007, [(0, 0), (1, 0), (5, 0), (27, 0)]), (1008, [(4, 0)]), (1009, [(0, 0), (1, 0), (5, 0)]), (1010, [(0, 0), (1, 0), (5, 0), (36, 0)]), (1011, [(4, 0)]), (1012, [(0, 0), (1, 0), (5, 0)]), (1013, [(4, 0)])] Try.func58 rfl rfl (by simp [Try.f58]) (by kernel_rfl) ?_
  simp only [Try.f58]
  refine sA ?_
  obtain ⟨y182, hl1, h⟩ := bind_ok h
  refine W_loopP (fun g181 : laws_heldMoveS_G1 => ⟨[(0, (.lf true (.sl (a0.map eMove)))), (1, (.lf false (.sc (.int .i64 g181.t1)))), (5, (.lf false (.sc (.int .i64 g181.t5))))], [], 0, 40⟩) (laws_heldMoveS_L1 a0) _ _ hl1 (weakA []) ?_
  · intro n1 g181 z1 hs1 hk1
    unfold laws_heldMoveS_L1 at hs1
    try dsimp only at hs1
    refine sA ?_
    refine Bs_if hs1 (fun hs1 hc2 => ?_) (fun hs1 hc2 => ?_)
    · try refine sA ?_
      obtain ⟨hp3, hs1⟩ := guard_some hs1
      have hn3 : g181.t5.toNat < a0.length := by first | omega | (simp only [List.length_set, List.length_append, List.length_replicate, List.length_map]; omega)
      try refine sA ?_
      try refine andA ?_
      refine Bs_if hs1 (fun hs1 hc4 => ?_) (fun hs1 hc4 => ?_)
      · try refine sA ?_
        cases hs1
        cases hk1
        try dsimp only at h
        try refine sA ?_
        have he := Option.some.inj h
        subst he
        exact endsA ⟨[(4, (.lf false (.sc (.int .i64 (-1)))))], [], 0, 40⟩ []
      · try refine sA ?_
        obtain ⟨hp5, hs1⟩ := guard_some hs1
        have hn5 : g181.t5.toNat < a0.length := by first | omega | (simp only [List.length_set, List.length_append, List.length_replicate, List.length_map]; omega)
        try refine sA ?_
        try refine andA ?_
        refine Bs_if hs1 (fun hs1 hc6 => ?_) (fun hs1 hc6 => ?_)
        · try refine sA ?_
          cases hs1
          cases hk1
          try dsimp only at h
          try refine sA ?_
          have he := Option.some.inj h
          subst he
          exact endsA ⟨[(4, (.lf false (.sc (.int .i64 (-1)))))], [], 0, 40⟩ []
        · try refine sA ?_
          obtain ⟨hp7, hs1⟩ := guard_some hs1
          have hn7 : g181.t5.toNat < a0.length := by first | omega | (simp only [List.length_set, List.length_append, List.length_replicate, List.length_map]; omega)
          try refine sA ?_
          try refine andA ?_
          refine Bs_if hs1 (fun hs1 hc8 => ?_) (fun hs1 hc8 => ?_)
          · try refine sA ?_
            cases hs1
            cases hk1
            try dsimp only at h
            try refine sA ?_
            have he := Option.some.inj h
            subst he
            exact endsA ⟨[(4, (.lf false (.sc (.int .i64 (-1)))))], [], 0, 40⟩ []
          · try refine sA ?_
            cases hs1
            exact X_backP hk1 (weakA [])
    · try refine sA ?_
      cases hs1
      cases hk1
      try dsimp only at h
      try refine sA ?_
      have he := Option.some.inj h
      subst he
      exact endsA ⟨[(4, (.lf false (.sc (.int .i64 g181.t1))))], [], 0, 40⟩ []
theorem w_laws_heldSaga {a0 : SagaT} {a1 : Int} {r : Int} (h : laws_heldSaga a0 a1 = some r) : Fn Try.prog 24 [(.ag [(.lf true (.sl (a0.Accounts.map eI))), (.lf true (.sl (a0.Moves.map eMove))), (.lf false (.sc (.int .i64 a0.Done))), (.lf false (.sc (.bool a0.Undoing)))]), (.lf false (.sc (.int .i64 a1)))] [] 0 (.lf false (.sc (.int .i64 r))) [] 0 := by
  unfold laws_heldSaga at h
  refine fn_code tab_ok mixed [(1000, [(1, 0), (2, 0)]), (1001, [(1, 0), (2, 0)]), (1002, [(1, 0), (2, 0), (10, 0)]), (1003, [(4, 0)]), (1004, [(1, 0)]), (1005, [(1, 0), (16, 0)]), (1006, [(4, 0)]), (1007, [(4, 0)])] Try.func24 rfl rfl (by simp [Try.f24]) (by kernel_rfl) ?_
  simp only [Try.f24]
  refine sA ?_
  obtain ⟨c180, hr1, h⟩ := bind_ok h
  refine Cl_sA (w_laws_heldIntS hr1) ?_
  try refine sA ?_
  refine Bs_if h (fun h hc2 => ?_) (fun h hc2 => ?_)
  · try refine sA ?_
    have he := Option.some.inj h
    subst he
    exact endsA ⟨[(4, (.lf false (.sc (.int .i64 (-1)))))], [], 0, 18⟩ []
  · try refine sA ?_
    obtain ⟨c185, hr3, h⟩ := bind_ok h
    refine Cl_sA (w_laws_heldMoveS hr3) ?_
    try refine sA ?_
    refine Bs_if h (fun h hc4 => ?_) (fun h hc4 => ?_)
    · try refine sA ?_
      have he := Option.some.inj h
      subst he
      exact endsA ⟨[(4, (.lf false (.sc (.int .i64 (-1)))))], [], 0, 18⟩ []
    · try refine sA ?_
      have he := Option.some.inj h
      subst he
      exact endsA ⟨[(4, (.lf false (.sc (.int .i64 c185))))], [], 0, 18⟩ []
theorem w_laws_FnExactRunSaga {a0 : SagaT} {a1 : Int} {r : Bool} (h : laws_FnExactRunSaga a0 a1 = some r) : Fn Try.prog 5 [(.ag [(.lf true (.sl (a0.Accounts.map eI))), (.lf true (.sl (a0.Moves.map eMove))), (.lf false (.sc (.int .i64 a0.Done))), (.lf false (.sc (.bool a0.Undoing)))]), (.lf false (.sc (.int .i64 a1)))] [] 0 (.lf false (.sc (.bool r))) [] 0 := by
  unfold laws_FnExactRunSaga at h
  refine fn_code tab_ok mixed [(10, [(0, 2)]), (1000, [(1, 0), (2, 0)]), (1001, [(1, 0), (2, 0), (5, 0)]), (1002, [(1, 0), (2, 0), (5, 0)]), (1003, [(1, 0), (2, 0), (23, 0)]), (1004, [(4, 0)]), (1005, [(1, 0), (2, 0), (6, 0), (7, 0), (8, 0)]), (1006, [(1, 0), (2, 0), (6, 0), (7, 0), (8, 0), (9, 0)]), (1007, [(1, 0), (2, 0), (6, 0), (7, 0), (8, 0), (9, 0), (10, 0), (11, 0), (12, 0)]), (1008, [(1, 0), (2, 0), (6, 0), (7, 0), (8, 0), (9, 0), (10, 0), (11, 0), (12, 0), (54, 0)]), (1009, [(4, 0)]), (1010, [(1, 0), (2, 0), (6, 0), (7, 0), (8, 0), (9, 0), (10, 0), (11, 0), (12, 0), (59, 0)]), (1011, [(4, 0)]), (1012, [(1, 0), (2, 0), (6, 0), (7, 0), (8, 0), (9, 0), (10, 0), (11, 0), (12, 0), (13, 0)]), (1013, [(1, 0), (2, 0), (6, 0), (7, 0), (8, 0), (10, 0), (11, 0), (12, 0), (13, 0)]), (1014, [(1, 0), (2, 0), (6, 0), (7, 0), (8, 0), (10, 0), (80, 0)]), (1015, [(4, 0)]), (1016, [(1, 0), (2, 0), (6, 0), (7, 0), (8, 0), (10, 0), (14, 0)]), (1017, [(1, 0), (2, 0), (6, 0), (7, 0), (8, 0), (10, 0), (14, 0)]), (1018, [(1, 0), (2, 0), (6, 0), (7, 0), (8, 0), (10, 0), (14, 0), (15, 0)]), (1019, [(1, 0), (2, 0), (6, 0), (7, 0), (8, 0), (10, 0), (14, 0), (15, 0)]), (1020, [(1, 0), (2, 0), (6, 0), (7, 0), (8, 0), (10, 0), (14, 0), (15, 0), (88, 0)]), (1021, [(4, 0)]), (1022, [(1, 0), (2, 0), (6, 0), (7, 0), (8, 0), (10, 0), (14, 0), (91, 0)]), (1023, [(4, 0)]), (1024, [(6, 0), (7, 0), (8, 0), (10, 0), (14, 0), (16, 0), (17, 0), (18, 0)]), (1025, [(10, 0), (14, 0), (113, 0)]), (1026, [(4, 0)]), (1027, [(10, 0), (14, 0), (15, 0)]), (1028, [(14, 0), (15, 0)]), (1029, [(14, 0), (15, 0), (118, 0)]), (1030, [(4, 0)]), (1031, [(121, 0)]), (1032, [(4, 0)]), (1033, [(4, 0)]), (4008, []), (4014, []), (4025, [])] Try.func5 rfl rfl (by simp [Try.f5]) (by kernel_rfl) ?_
  simp only [Try.f5]
  refine sA ?_
  obtain ⟨c3, hr1, h⟩ := bind_ok h
  refine Cl_sA (w_laws_szSaga hr1) ?_
  try refine sA ?_
  refine Bs_if h (fun h hc2 => ?_) (fun h hc2 => ?_)
  · try refine sA ?_
    have he := Option.some.inj h
    subst he
    exact endsA ⟨[(4, (.lf false (.sc (.bool true))))], [], 0, 122⟩ []
  · try refine sA ?_
    obtain ⟨c12, hr3, h⟩ := bind_ok h
    refine Cl_sA (w_laws_toSaga hr3) ?_
    try refine sA ?_
    obtain ⟨c94, hr4, h⟩ := bind_ok h
    refine Cl_sA (w_spec_RunSaga hr4) ?_
    try refine sA ?_
    obtain ⟨c95, hr5, h⟩ := bind_ok h
    refine Cl_sA (w_laws_toSaga hr5) ?_
    try refine sA ?_
    obtain ⟨c147, hr6, h⟩ := bind_ok h
    refine Cl_sA (w_impl_RunSaga hr6) ?_
    try refine sA ?_
    obtain ⟨p161, hq7, h⟩ := bind_ok h
    refine Sq_cut (fun s2 => s2 = ⟨[(1, (.lf false (.sc (.int .i64 a1)))), (2, (.pb 0 0)), (6, (.pb 1 0)), (7, (.lf false (.sc (.int .i64 c94.2.1)))), (8, (.lf false (.sc (.bool c94.2.2)))), (9, (.pb 2 0)), (10, (.pb 3 0)), (11, (.lf false (.sc (.int .i64 c147.2.1)))), (12, (.lf false (.sc (.bool c147.2.2)))), (54, (.lf false (.sc (.bool p161.t54))))], [(0, some (true, .box [(.lf true (.sl (a0.Accounts.map eI))), (.lf true (.sl (a0.Moves.map eMove))), (.lf false (.sc (.int .i64 a0.Done))), (.lf false (.sc (.bool a0.Undoing)))])), (1, some (true, .box [(.os 4 1 0 c94.1.Accounts.length c94.1.Accounts.length false), (.os 5 3 0 c94.1.Moves.length c94.1.Moves.length false), (.lf false (.sc (.int .i64 c94.1.Done))), (.lf false (.sc (.bool c94.1.Undoing)))])), (2, some (true, .box [(.os 6 1 0 c95.Accounts.length c95.Accounts.length false), (.os 7 3 0 c95.Moves.length c95.Moves.length false), (.lf false (.sc (.int .i64 c95.Done))), (.lf false (.sc (.bool c95.Undoing)))])), (3, some (true, .box [(.os 8 1 0 c147.1.Accounts.length c147.1.Accounts.length false), (.os 9 3 0 c147.1.Moves.length c147.1.Moves.length false), (.lf false (.sc (.int .i64 c147.1.Done))), (.lf false (.sc (.bool c147.1.Undoing)))])), (4, some (false, .arr false 1 (c94.1.Accounts.map eI))), (5, some (true, .arr false 3 (c94.1.Moves.map eMove))), (6, some (true, .arr false 1 (c95.Accounts.map eI))), (7, some (true, .arr false 3 (c95.Moves.map eMove))), (8, some (false, .arr false 1 (c147.1.Accounts.map eI))), (9, some (true, .arr false 3 (c147.1.Moves.map eMove)))], 10, 122⟩) ?_ ?_
    · try refine sA ?_
      obtain ⟨c160, hr8, hq7⟩ := bind_ok hq7
      refine Cl_sA (w_laws_eqSaga hr8) ?_
      try refine sA ?_
      refine Sp_if hq7 (fun hq7 hc9 => ?_) (fun hq7 hc9 => ?_)
      · try refine sA ?_
        cases hq7
        exact X_cut rfl (weakA [some 0, some 7, some 11, some 15, some 4, some 5, some 8, some 9, some 12, some 13])
      · try refine sA ?_
        refine Sp_if hq7 (fun hq7 hc10 => ?_) (fun hq7 hc10 => ?_)
        · try refine sA ?_
          cases hq7
          exact X_cut rfl (weakA [some 0, some 7, some 11, some 15, some 4, some 5, some 8, some 9, some 12, some 13])
        · try refine sA ?_
          cases hq7
          exact X_cut rfl (weakA [some 0, some 7, some 11, some 15, some 4, some 5, some 8, some 9, some 12, some 13])
    · intro s2 hJ; subst hJ
      try dsimp only at h
      try refine sA ?_
      refine Bs_if h (fun h hc11 => ?_) (fun h hc11 => ?_)
      · try refine sA ?_
        have he := Option.some.inj h
        subst he
        exact endsA ⟨[(4, (.lf false (.sc (.bool false))))], [], 0, 122⟩ []
      · try refine sA ?_
        obtain ⟨c162, hr12, h⟩ := bind_ok h
        refine Cl_sA (w_laws_toSaga hr12) ?_
        try refine sA ?_
        obtain ⟨c163, hr13, h⟩ := bind_ok h
        refine Cl_sA (w_laws_eqSaga hr13) ?_
        try refine sA ?_
        refine Bs_if h (fun h hc14 => ?_) (fun h hc14 => ?_)
        · try refine sA ?_
          have he := Option.some.inj h
          subst he
          exact endsA ⟨[(4, (.lf false (.sc (.bool false))))], [], 0, 122⟩ []
        · try refine sA ?_
          obtain ⟨c172, hr15, h⟩ := bind_ok h
          refine Cl_hA [6, 7] (w_laws_markSaga_ww hr15) ?_
          try refine sA ?_
          obtain ⟨hp16, h⟩ := guard_some h
          have hl16 : c95.Accounts.length ≤ c172.2.1.length := by omega
          have ht16 : List.take (c95.Accounts.length) c172.2.1 = c172.2.1 := by rw [← hp16]; exact List.take_length
          try simp (disch := first | assumption | (simp only [List.length_set]; assumption)) only [go_sem, Nat.reduceAdd, Nat.reduceMul, Nat.reduceSub, Nat.reduceEqDiff, ↓reduceIte, Nat.reduceLT, reduceCtorEq, Nat.reduceLeDiff, Int.reduceToNat, Int.reduceEq, Int.reduceLE, Int.reduceLT, Nat.reduceBEq, hl16, ht16]
          obtain ⟨hp17, h⟩ := guard_some h
          have hl17 : c95.Moves.length ≤ c172.2.2.length := by omega
          have ht17 : List.take (c95.Moves.length) c172.2.2 = c172.2.2 := by rw [← hp17]; exact List.take_length
          try simp (disch := first | assumption | (simp only [List.length_set]; assumption)) only [go_sem, Nat.reduceAdd, Nat.reduceMul, Nat.reduceSub, Nat.reduceEqDiff, ↓reduceIte, Nat.reduceLT, reduceCtorEq, Nat.reduceLeDiff, Int.reduceToNat, Int.reduceEq, Int.reduceLE, Int.reduceLT, Nat.reduceBEq, hl16, ht16, hl17, ht17]
          obtain ⟨p174, hq18, h⟩ := bind_ok h
          refine Sq_cut (fun s2 => s2 = ⟨[(1, (.lf false (.sc (.int .i64 a1)))), (2, (.pb 0 0)), (6, (.pb 1 0)), (7, (.lf false (.sc (.int .i64 c94.2.1)))), (8, (.lf false (.sc (.bool c94.2.2)))), (10, (.pb 2 0)), (80, (.lf false (.sc (.bool p174.t80))))], [(0, some (true, .box [(.lf true (.sl (a0.Accounts.map eI))), (.lf true (.sl (a0.Moves.map eMove))), (.lf false (.sc (.int .i64 a0.Done))), (.lf false (.sc (.bool a0.Undoing)))])), (1, some (true, .box [(.os 3 1 0 c94.1.Accounts.length c94.1.Accounts.length false), (.os 4 3 0 c94.1.Moves.length c94.1.Moves.length false), (.lf false (.sc (.int .i64 c94.1.Done))), (.lf false (.sc (.bool c94.1.Undoing)))])), (2, some (true, .box [(.os 5 1 0 c147.1.Accounts.length c147.1.Accounts.length false), (.os 6 3 0 c147.1.Moves.length c147.1.Moves.length false), (.lf false (.sc (.int .i64 c147.1.Done))), (.lf false (.sc (.bool c147.1.Undoing)))])), (3, some (false, .arr false 1 (c94.1.Accounts.map eI))), (4, some (true, .arr false 3 (c94.1.Moves.map eMove))), (5, some (false, .arr false 1 (c147.1.Accounts.map eI))), (6, some (true, .arr false 3 (c147.1.Moves.map eMove)))], 7, 122⟩) ?_ ?_
          · try simp (disch := first | assumption | (simp only [List.length_set]; assumption)) only [go_sem, Nat.reduceAdd, Nat.reduceMul, Nat.reduceSub, Nat.reduceEqDiff, ↓reduceIte, Nat.reduceLT, reduceCtorEq, Nat.reduceLeDiff, Int.reduceToNat, Int.reduceEq, Int.reduceLE, Int.reduceLT, Nat.reduceBEq, hl16, ht16, hl17, ht17]
            refine Sp_if hq18 (fun hq18 hc19 => ?_) (fun hq18 hc19 => ?_)
            · try simp (disch := first | assumption | (simp only [List.length_set]; assumption)) only [go_sem, Nat.reduceAdd, Nat.reduceMul, Nat.reduceSub, Nat.reduceEqDiff, ↓reduceIte, Nat.reduceLT, reduceCtorEq, Nat.reduceLeDiff, Int.reduceToNat, Int.reduceEq, Int.reduceLE, Int.reduceLT, Nat.reduceBEq, hl16, ht16, hl17, ht17]
              cases hq18
              refine X_cut rfl ?_
              refine weak_of (m := 0) [some 0, some 1, some 3, some 4, some 5, some 8, some 9] rfl rfl rfl (by rfl) ?_ ?_
              all_goals ((try simp (disch := first | assumption | (simp only [List.length_set]; assumption)) only [go_sem, Nat.reduceAdd, Nat.reduceMul, Nat.reduceSub, Nat.reduceEqDiff, ↓reduceIte, Nat.reduceLT, reduceCtorEq, Nat.reduceLeDiff, Int.reduceToNat, Int.reduceEq, Int.reduceLE, Int.reduceLT, Nat.reduceBEq, hl16, ht16, hl17, ht17]); (repeat' first | done | rfl | omega | refine And.intro ?_ ?_ | (simp; done) | (simp; omega)))
            · try simp (disch := first | assumption | (simp only [List.length_set]; assumption)) only [go_sem, Nat.reduceAdd, Nat.reduceMul, Nat.reduceSub, Nat.reduceEqDiff, ↓reduceIte, Nat.reduceLT, reduceCtorEq, Nat.reduceLeDiff, Int.reduceToNat, Int.reduceEq, Int.reduceLE, Int.reduceLT, Nat.reduceBEq, hl16, ht16, hl17, ht17]
              obtain ⟨c173, hr20, hq18⟩ := bind_ok hq18
              refine Cl_shown (w_laws_eqSaga hr20) (by first | rfl | (simp (disch := first | assumption | (simp only [List.length_set]; assumption)) only [go_sem, Nat.reduceAdd, Nat.reduceMul, Nat.reduceSub, Nat.reduceEqDiff, ↓reduceIte, Nat.reduceLT, reduceCtorEq, Nat.reduceLeDiff, Int.reduceToNat, Int.reduceEq, Int.reduceLE, Int.reduceLT, Nat.reduceBEq, hl16, ht16, hl17, ht17]; first | done | rfl) | (simp only [List.length_append, List.length_cons, List.length_nil, List.length_map, List.length_set, List.length_replicate, Nat.zero_add, Nat.reduceAdd]; rfl) | (simp (disch := first | assumption | (simp only [List.length_set]; assumption)) only [go_sem, Nat.reduceAdd, Nat.reduceMul, Nat.reduceSub, Nat.reduceEqDiff, ↓reduceIte, Nat.reduceLT, reduceCtorEq, Nat.reduceLeDiff, Int.reduceToNat, Int.reduceEq, Int.reduceLE, Int.reduceLT, Nat.reduceBEq, hl16, ht16, hl17, ht17]; simp only [List.length_append, List.length_cons, List.length_nil, List.length_map, List.length_set, List.length_replicate, Nat.zero_add, Nat.reduceAdd]; rfl)) (FitAll.refl _) (.inr ⟨rfl, by simp [freeOb, free1]⟩) ?_
              try simp (disch := first | assumption | (simp only [List.length_set]; assumption)) only [go_sem, Nat.reduceAdd, Nat.reduceMul, Nat.reduceSub, Nat.reduceEqDiff, ↓reduceIte, Nat.reduceLT, reduceCtorEq, Nat.reduceLeDiff, Int.reduceToNat, Int.reduceEq, Int.reduceLE, Int.reduceLT, Nat.reduceBEq, hl16, ht16, hl17, ht17]
              refine Sp_if hq18 (fun hq18 hc21 => ?_) (fun hq18 hc21 => ?_)
              · try simp (disch := first | assumption | (simp only [List.length_set]; assumption)) only [go_sem, Nat.reduceAdd, Nat.reduceMul, Nat.reduceSub, Nat.reduceEqDiff, ↓reduceIte, Nat.reduceLT, reduceCtorEq, Nat.reduceLeDiff, Int.reduceToNat, Int.reduceEq, Int.reduceLE, Int.reduceLT, Nat.reduceBEq, hl16, ht16, hl17, ht17]
                cases hq18
                refine X_cut rfl ?_
                refine weak_of (m := 0) [some 0, some 1, some 3, some 4, some 5, some 8, some 9] rfl rfl rfl (by rfl) ?_ ?_
                all_goals ((try simp (disch := first | assumption | (simp only [List.length_set]; assumption)) only [go_sem, Nat.reduceAdd, Nat.reduceMul, Nat.reduceSub, Nat.reduceEqDiff, ↓reduceIte, Nat.reduceLT, reduceCtorEq, Nat.reduceLeDiff, Int.reduceToNat, Int.reduceEq, Int.reduceLE, Int.reduceLT, Nat.reduceBEq, hl16, ht16, hl17, ht17]); (repeat' first | done | rfl | omega | refine And.intro ?_ ?_ | (simp; done) | (simp; omega)))
              · try simp (disch := first | assumption | (simp only [List.length_set]; assumption)) only [go_sem, Nat.reduceAdd, Nat.reduceMul, Nat.reduceSub, Nat.reduceEqDiff, ↓reduceIte, Nat.reduceLT, reduceCtorEq, Nat.reduceLeDiff, Int.reduceToNat, Int.reduceEq, Int.reduceLE, Int.reduceLT, Nat.reduceBEq, hl16, ht16, hl17, ht17]
                refine Sp_if hq18 (fun hq18 hc22 => ?_) (fun hq18 hc22 => ?_)
                · try simp (disch := first | assumption | (simp only [List.length_set]; assumption)) only [go_sem, Nat.reduceAdd, Nat.reduceMul, Nat.reduceSub, Nat.reduceEqDiff, ↓reduceIte, Nat.reduceLT, reduceCtorEq, Nat.reduceLeDiff, Int.reduceToNat, Int.reduceEq, Int.reduceLE, Int.reduceLT, Nat.reduceBEq, hl16, ht16, hl17, ht17]
                  cases hq18
                  refine X_cut rfl ?_
                  refine weak_of (m := 0) [some 0, some 1, some 3, some 4, some 5, some 8, some 9] rfl rfl rfl (by rfl) ?_ ?_
                  all_goals ((try simp (disch := first | assumption | (simp only [List.length_set]; assumption)) only [go_sem, Nat.reduceAdd, Nat.reduceMul, Nat.reduceSub, Nat.reduceEqDiff, ↓reduceIte, Nat.reduceLT, reduceCtorEq, Nat.reduceLeDiff, Int.reduceToNat, Int.reduceEq, Int.reduceLE, Int.reduceLT, Nat.reduceBEq, hl16, ht16, hl17, ht17]); (repeat' first | done | rfl | omega | refine And.intro ?_ ?_ | (simp; done) | (simp; omega)))
                · try simp (disch := first | assumption | (simp only [List.length_set]; assumption)) only [go_sem, Nat.reduceAdd, Nat.reduceMul, Nat.reduceSub, Nat.reduceEqDiff, ↓reduceIte, Nat.reduceLT, reduceCtorEq, Nat.reduceLeDiff, Int.reduceToNat, Int.reduceEq, Int.reduceLE, Int.reduceLT, Nat.reduceBEq, hl16, ht16, hl17, ht17]
                  cases hq18
                  refine X_cut rfl ?_
                  refine weak_of (m := 0) [some 0, some 1, some 3, some 4, some 5, some 8, some 9] rfl rfl rfl (by rfl) ?_ ?_
                  all_goals ((try simp (disch := first | assumption | (simp only [List.length_set]; assumption)) only [go_sem, Nat.reduceAdd, Nat.reduceMul, Nat.reduceSub, Nat.reduceEqDiff, ↓reduceIte, Nat.reduceLT, reduceCtorEq, Nat.reduceLeDiff, Int.reduceToNat, Int.reduceEq, Int.reduceLE, Int.reduceLT, Nat.reduceBEq, hl16, ht16, hl17, ht17]); (repeat' first | done | rfl | omega | refine And.intro ?_ ?_ | (simp; done) | (simp; omega)))
          · intro s2 hJ; subst hJ
            try dsimp only at h
            try simp (disch := first | assumption | (simp only [List.length_set]; assumption)) only [go_sem, Nat.reduceAdd, Nat.reduceMul, Nat.reduceSub, Nat.reduceEqDiff, ↓reduceIte, Nat.reduceLT, reduceCtorEq, Nat.reduceLeDiff, Int.reduceToNat, Int.reduceEq, Int.reduceLE, Int.reduceLT, Nat.reduceBEq, hl16, ht16, hl17, ht17]
            refine Bs_if h (fun h hc23 => ?_) (fun h hc23 => ?_)
            · try simp (disch := first | assumption | (simp only [List.length_set]; assumption)) only [go_sem, Nat.reduceAdd, Nat.reduceMul, Nat.reduceSub, Nat.reduceEqDiff, ↓reduceIte, Nat.reduceLT, reduceCtorEq, Nat.reduceLeDiff, Int.reduceToNat, Int.reduceEq, Int.reduceLE, Int.reduceLT, Nat.reduceBEq, hl16, ht16, hl17, ht17]
              have he := Option.some.inj h
              subst he
              refine ends_weak ⟨[(4, (.lf false (.sc (.bool false))))], [], 0, 122⟩ (weak_of (m := 0) [] rfl rfl rfl (by rfl) ?_ ?_) ?_
              all_goals ((try simp (disch := first | assumption | (simp only [List.length_set]; assumption)) only [go_sem, Nat.reduceAdd, Nat.reduceMul, Nat.reduceSub, Nat.reduceEqDiff, ↓reduceIte, Nat.reduceLT, reduceCtorEq, Nat.reduceLeDiff, Int.reduceToNat, Int.reduceEq, Int.reduceLE, Int.reduceLT, Nat.reduceBEq, hl16, ht16, hl17, ht17]); (repeat' first | done | rfl | omega | refine And.intro ?_ ?_ | (simp; done) | (simp; omega)))
            · try simp (disch := first | assumption | (simp only [List.length_set]; assumption)) only [go_sem, Nat.reduceAdd, Nat.reduceMul, Nat.reduceSub, Nat.reduceEqDiff, ↓reduceIte, Nat.reduceLT, reduceCtorEq, Nat.reduceLeDiff, Int.reduceToNat, Int.reduceEq, Int.reduceLE, Int.reduceLT, Nat.reduceBEq, hl16, ht16, hl17, ht17]
              obtain ⟨c175, hr24, h⟩ := bind_ok h
              refine Cl_hand (ids := [5, 6]) (w_laws_markSaga_ww hr24) (by first | rfl | (simp (disch := first | assumption | (simp only [List.length_set]; assumption)) only [go_sem, Nat.reduceAdd, Nat.reduceMul, Nat.reduceSub, Nat.reduceEqDiff, ↓reduceIte, Nat.reduceLT, reduceCtorEq, Nat.reduceLeDiff, Int.reduceToNat, Int.reduceEq, Int.reduceLE, Int.reduceLT, Nat.reduceBEq, hl16, ht16, hl17, ht17]; first | done | rfl) | (simp only [List.length_append, List.length_cons, List.length_nil, List.length_map, List.length_set, List.length_replicate, Nat.zero_add, Nat.reduceAdd]; rfl) | (simp (disch := first | assumption | (simp only [List.length_set]; assumption)) only [go_sem, Nat.reduceAdd, Nat.reduceMul, Nat.reduceSub, Nat.reduceEqDiff, ↓reduceIte, Nat.reduceLT, reduceCtorEq, Nat.reduceLeDiff, Int.reduceToNat, Int.reduceEq, Int.reduceLE, Int.reduceLT, Nat.reduceBEq, hl16, ht16, hl17, ht17]; simp only [List.length_append, List.length_cons, List.length_nil, List.length_map, List.length_set, List.length_replicate, Nat.zero_add, Nat.reduceAdd]; rfl)) (FitAll.refl _) (by first | rfl | (simp (disch := first | assumption | (simp only [List.length_set]; assumption)) only [go_sem, Nat.reduceAdd, Nat.reduceMul, Nat.reduceSub, Nat.reduceEqDiff, ↓reduceIte, Nat.reduceLT, reduceCtorEq, Nat.reduceLeDiff, Int.reduceToNat, Int.reduceEq, Int.reduceLE, Int.reduceLT, Nat.reduceBEq, hl16, ht16, hl17, ht17]; first | done | rfl) | (simp only [List.length_append, List.length_cons, List.length_nil, List.length_map, List.length_set, List.length_replicate, Nat.zero_add, Nat.reduceAdd]; rfl) | (simp (disch := first | assumption | (simp only [List.length_set]; assumption)) only [go_sem, Nat.reduceAdd, Nat.reduceMul, Nat.reduceSub, Nat.reduceEqDiff, ↓reduceIte, Nat.reduceLT, reduceCtorEq, Nat.reduceLeDiff, Int.reduceToNat, Int.reduceEq, Int.reduceLE, Int.reduceLT, Nat.reduceBEq, hl16, ht16, hl17, ht17]; simp only [List.length_append, List.length_cons, List.length_nil, List.length_map, List.length_set, List.length_replicate, Nat.zero_add, Nat.reduceAdd]; rfl)) (by decide) (by first | rfl | (simp (disch := first | assumption | (simp only [List.length_set]; assumption)) only [go_sem, Nat.reduceAdd, Nat.reduceMul, Nat.reduceSub, Nat.reduceEqDiff, ↓reduceIte, Nat.reduceLT, reduceCtorEq, Nat.reduceLeDiff, Int.reduceToNat, Int.reduceEq, Int.reduceLE, Int.reduceLT, Nat.reduceBEq, hl16, ht16, hl17, ht17]; done)) (by rfl) ?_
              try simp (disch := first | assumption | (simp only [List.length_set]; assumption)) only [go_sem, Nat.reduceAdd, Nat.reduceMul, Nat.reduceSub, Nat.reduceEqDiff, ↓reduceIte, Nat.reduceLT, reduceCtorEq, Nat.reduceLeDiff, Int.reduceToNat, Int.reduceEq, Int.reduceLE, Int.reduceLT, Nat.reduceBEq, hl16, ht16, hl17, ht17]
              obtain ⟨hp25, h⟩ := guard_some h
              have hl25 : c147.1.Accounts.length ≤ c175.2.1.length := by omega
              have ht25 : List.take (c147.1.Accounts.length) c175.2.1 = c175.2.1 := by rw [← hp25]; exact List.take_length
              try simp (disch := first | assumption | (simp only [List.length_set]; assumption)) only [go_sem, Nat.reduceAdd, Nat.reduceMul, Nat.reduceSub, Nat.reduceEqDiff, ↓reduceIte, Nat.reduceLT, reduceCtorEq, Nat.reduceLeDiff, Int.reduceToNat, Int.reduceEq, Int.reduceLE, Int.reduceLT, Nat.reduceBEq, hl16, ht16, hl17, ht17, hl25, ht25]
              obtain ⟨hp26, h⟩ := guard_some h
              have hl26 : c147.1.Moves.length ≤ c175.2.2.length := by omega
              have ht26 : List.take (c147.1.Moves.length) c175.2.2 = c175.2.2 := by rw [← hp26]; exact List.take_length
              try simp (disch := first | assumption | (simp only [List.length_set]; assumption)) only [go_sem, Nat.reduceAdd, Nat.reduceMul, Nat.reduceSub, Nat.reduceEqDiff, ↓reduceIte, Nat.reduceLT, reduceCtorEq, Nat.reduceLeDiff, Int.reduceToNat, Int.reduceEq, Int.reduceLE, Int.reduceLT, Nat.reduceBEq, hl16, ht16, hl17, ht17, hl25, ht25, hl26, ht26]
              obtain ⟨c186, hr27, h⟩ := bind_ok h
              refine Cl_shown (w_laws_heldSaga hr27) (by first | rfl | (simp (disch := first | assumption | (simp only [List.length_set]; assumption)) only [go_sem, Nat.reduceAdd, Nat.reduceMul, Nat.reduceSub, Nat.reduceEqDiff, ↓reduceIte, Nat.reduceLT, reduceCtorEq, Nat.reduceLeDiff, Int.reduceToNat, Int.reduceEq, Int.reduceLE, Int.reduceLT, Nat.reduceBEq, hl16, ht16, hl17, ht17, hl25, ht25, hl26, ht26]; first | done | rfl) | (simp only [List.length_append, List.length_cons, List.length_nil, List.length_map, List.length_set, List.length_replicate, Nat.zero_add, Nat.reduceAdd]; rfl) | (simp (disch := first | assumption | (simp only [List.length_set]; assumption)) only [go_sem, Nat.reduceAdd, Nat.reduceMul, Nat.reduceSub, Nat.reduceEqDiff, ↓reduceIte, Nat.reduceLT, reduceCtorEq, Nat.reduceLeDiff, Int.reduceToNat, Int.reduceEq, Int.reduceLE, Int.reduceLT, Nat.reduceBEq, hl16, ht16, hl17, ht17, hl25, ht25, hl26, ht26]; simp only [List.length_append, List.length_cons, List.length_nil, List.length_map, List.length_set, List.length_replicate, Nat.zero_add, Nat.reduceAdd]; rfl)) (FitAll.refl _) (.inr ⟨rfl, by simp [freeOb, free1]⟩) ?_
              try simp (disch := first | assumption | (simp only [List.length_set]; assumption)) only [go_sem, Nat.reduceAdd, Nat.reduceMul, Nat.reduceSub, Nat.reduceEqDiff, ↓reduceIte, Nat.reduceLT, reduceCtorEq, Nat.reduceLeDiff, Int.reduceToNat, Int.reduceEq, Int.reduceLE, Int.reduceLT, Nat.reduceBEq, hl16, ht16, hl17, ht17, hl25, ht25, hl26, ht26]
              refine Bs_if h (fun h hc28 => ?_) (fun h hc28 => ?_)
              · try simp (disch := first | assumption | (simp only [List.length_set]; assumption)) only [go_sem, Nat.reduceAdd, Nat.reduceMul, Nat.reduceSub, Nat.reduceEqDiff, ↓reduceIte, Nat.reduceLT, reduceCtorEq, Nat.reduceLeDiff, Int.reduceToNat, Int.reduceEq, Int.reduceLE, Int.reduceLT, Nat.reduceBEq, hl16, ht16, hl17, ht17, hl25, ht25, hl26, ht26]
                have he := Option.some.inj h
                subst he
                refine ends_weak ⟨[(4, (.lf false (.sc (.bool false))))], [], 0, 122⟩ (weak_of (m := 0) [] rfl rfl rfl (by rfl) ?_ ?_) ?_
                all_goals ((try simp (disch := first | assumption | (simp only [List.length_set]; assumption)) only [go_sem, Nat.reduceAdd, Nat.reduceMul, Nat.reduceSub, Nat.reduceEqDiff, ↓reduceIte, Nat.reduceLT, reduceCtorEq, Nat.reduceLeDiff, Int.reduceToNat, Int.reduceEq, Int.reduceLE, Int.reduceLT, Nat.reduceBEq, hl16, ht16, hl17, ht17, hl25, ht25, hl26, ht26]); (repeat' first | done | rfl | omega | refine And.intro ?_ ?_ | (simp; done) | (simp; omega)))
              · try simp (disch := first | assumption | (simp only [List.length_set]; assumption)) only [go_sem, Nat.reduceAdd, Nat.reduceMul, Nat.reduceSub, Nat.reduceEqDiff, ↓reduceIte, Nat.reduceLT, reduceCtorEq, Nat.reduceLeDiff, Int.reduceToNat, Int.reduceEq, Int.reduceLE, Int.reduceLT, Nat.reduceBEq, hl16, ht16, hl17, ht17, hl25, ht25, hl26, ht26]
                refine Bs_if h (fun h hc29 => ?_) (fun h hc29 => ?_)
                · try simp (disch := first | assumption | (simp only [List.length_set]; assumption)) only [go_sem, Nat.reduceAdd, Nat.reduceMul, Nat.reduceSub, Nat.reduceEqDiff, ↓reduceIte, Nat.reduceLT, reduceCtorEq, Nat.reduceLeDiff, Int.reduceToNat, Int.reduceEq, Int.reduceLE, Int.reduceLT, Nat.reduceBEq, hl16, ht16, hl17, ht17, hl25, ht25, hl26, ht26]
                  have he := Option.some.inj h
                  subst he
                  refine ends_weak ⟨[(4, (.lf false (.sc (.bool false))))], [], 0, 122⟩ (weak_of (m := 0) [] rfl rfl rfl (by rfl) ?_ ?_) ?_
                  all_goals ((try simp (disch := first | assumption | (simp only [List.length_set]; assumption)) only [go_sem, Nat.reduceAdd, Nat.reduceMul, Nat.reduceSub, Nat.reduceEqDiff, ↓reduceIte, Nat.reduceLT, reduceCtorEq, Nat.reduceLeDiff, Int.reduceToNat, Int.reduceEq, Int.reduceLE, Int.reduceLT, Nat.reduceBEq, hl16, ht16, hl17, ht17, hl25, ht25, hl26, ht26]); (repeat' first | done | rfl | omega | refine And.intro ?_ ?_ | (simp; done) | (simp; omega)))
                · try simp (disch := first | assumption | (simp only [List.length_set]; assumption)) only [go_sem, Nat.reduceAdd, Nat.reduceMul, Nat.reduceSub, Nat.reduceEqDiff, ↓reduceIte, Nat.reduceLT, reduceCtorEq, Nat.reduceLeDiff, Int.reduceToNat, Int.reduceEq, Int.reduceLE, Int.reduceLT, Nat.reduceBEq, hl16, ht16, hl17, ht17, hl25, ht25, hl26, ht26]
                  obtain ⟨c187, hr30, h⟩ := bind_ok h
                  refine Cl_shown (w_laws_toSaga hr30) (by first | rfl | (simp (disch := first | assumption | (simp only [List.length_set]; assumption)) only [go_sem, Nat.reduceAdd, Nat.reduceMul, Nat.reduceSub, Nat.reduceEqDiff, ↓reduceIte, Nat.reduceLT, reduceCtorEq, Nat.reduceLeDiff, Int.reduceToNat, Int.reduceEq, Int.reduceLE, Int.reduceLT, Nat.reduceBEq, hl16, ht16, hl17, ht17, hl25, ht25, hl26, ht26]; first | done | rfl) | (simp only [List.length_append, List.length_cons, List.length_nil, List.length_map, List.length_set, List.length_replicate, Nat.zero_add, Nat.reduceAdd]; rfl) | (simp (disch := first | assumption | (simp only [List.length_set]; assumption)) only [go_sem, Nat.reduceAdd, Nat.reduceMul, Nat.reduceSub, Nat.reduceEqDiff, ↓reduceIte, Nat.reduceLT, reduceCtorEq, Nat.reduceLeDiff, Int.reduceToNat, Int.reduceEq, Int.reduceLE, Int.reduceLT, Nat.reduceBEq, hl16, ht16, hl17, ht17, hl25, ht25, hl26, ht26]; simp only [List.length_append, List.length_cons, List.length_nil, List.length_map, List.length_set, List.length_replicate, Nat.zero_add, Nat.reduceAdd]; rfl)) (FitAll.refl _) (.inl (by first | rfl | (simp (disch := first | assumption | (simp only [List.length_set]; assumption)) only [go_sem, Nat.reduceAdd, Nat.reduceMul, Nat.reduceSub, Nat.reduceEqDiff, ↓reduceIte, Nat.reduceLT, reduceCtorEq, Nat.reduceLeDiff, Int.reduceToNat, Int.reduceEq, Int.reduceLE, Int.reduceLT, Nat.reduceBEq, hl16, ht16, hl17, ht17, hl25, ht25, hl26, ht26]; done))) ?_
                  try simp (disch := first | assumption | (simp only [List.length_set]; assumption)) only [go_sem, Nat.reduceAdd, Nat.reduceMul, Nat.reduceSub, Nat.reduceEqDiff, ↓reduceIte, Nat.reduceLT, reduceCtorEq, Nat.reduceLeDiff, Int.reduceToNat, Int.reduceEq, Int.reduceLE, Int.reduceLT, Nat.reduceBEq, hl16, ht16, hl17, ht17, hl25, ht25, hl26, ht26]
                  obtain ⟨c188, hr31, h⟩ := bind_ok h
                  refine Cl_shown (w_impl_RunSaga hr31) (by first | rfl | (simp (disch := first | assumption | (simp only [List.length_set]; assumption)) only [go_sem, Nat.reduceAdd, Nat.reduceMul, Nat.reduceSub, Nat.reduceEqDiff, ↓reduceIte, Nat.reduceLT, reduceCtorEq, Nat.reduceLeDiff, Int.reduceToNat, Int.reduceEq, Int.reduceLE, Int.reduceLT, Nat.reduceBEq, hl16, ht16, hl17, ht17, hl25, ht25, hl26, ht26]; first | done | rfl) | (simp only [List.length_append, List.length_cons, List.length_nil, List.length_map, List.length_set, List.length_replicate, Nat.zero_add, Nat.reduceAdd]; rfl) | (simp (disch := first | assumption | (simp only [List.length_set]; assumption)) only [go_sem, Nat.reduceAdd, Nat.reduceMul, Nat.reduceSub, Nat.reduceEqDiff, ↓reduceIte, Nat.reduceLT, reduceCtorEq, Nat.reduceLeDiff, Int.reduceToNat, Int.reduceEq, Int.reduceLE, Int.reduceLT, Nat.reduceBEq, hl16, ht16, hl17, ht17, hl25, ht25, hl26, ht26]; simp only [List.length_append, List.length_cons, List.length_nil, List.length_map, List.length_set, List.length_replicate, Nat.zero_add, Nat.reduceAdd]; rfl)) (FitAll.refl _) (.inr ⟨rfl, by simp [freeOb, free1]⟩) ?_
                  try simp (disch := first | assumption | (simp only [List.length_set]; assumption)) only [go_sem, Nat.reduceAdd, Nat.reduceMul, Nat.reduceSub, Nat.reduceEqDiff, ↓reduceIte, Nat.reduceLT, reduceCtorEq, Nat.reduceLeDiff, Int.reduceToNat, Int.reduceEq, Int.reduceLE, Int.reduceLT, Nat.reduceBEq, hl16, ht16, hl17, ht17, hl25, ht25, hl26, ht26]
                  obtain ⟨p190, hq32, h⟩ := bind_ok h
                  refine Sq_cut (fun s2 => s2 = ⟨[(10, (.pb 0 0)), (14, (.lf false (.sc (.int .i64 c175.1)))), (113, (.lf false (.sc (.bool p190.t113))))], [(0, some (true, .box [(.os 1 1 0 c147.1.Accounts.length c147.1.Accounts.length false), (.os 2 3 0 c147.1.Moves.length c147.1.Moves.length false), (.lf false (.sc (.int .i64 c147.1.Done))), (.lf false (.sc (.bool c147.1.Undoing)))])), (1, some (false, .arr false 1 (c175.2.1.map eI))), (2, some (true, .arr false 3 (c175.2.2.map eMove)))], 3, 122⟩) ?_ ?_
                  · try simp (disch := first | assumption | (simp only [List.length_set]; assumption)) only [go_sem, Nat.reduceAdd, Nat.reduceMul, Nat.reduceSub, Nat.reduceEqDiff, ↓reduceIte, Nat.reduceLT, reduceCtorEq, Nat.reduceLeDiff, Int.reduceToNat, Int.reduceEq, Int.reduceLE, Int.reduceLT, Nat.reduceBEq, hl16, ht16, hl17, ht17, hl25, ht25, hl26, ht26]
                    obtain ⟨c189, hr33, hq32⟩ := bind_ok hq32
                    refine Cl_shown (w_laws_eqSaga hr33) (by first | rfl | (simp (disch := first | assumption | (simp only [List.length_set]; assumption)) only [go_sem, Nat.reduceAdd, Nat.reduceMul, Nat.reduceSub, Nat.reduceEqDiff, ↓reduceIte, Nat.reduceLT, reduceCtorEq, Nat.reduceLeDiff, Int.reduceToNat, Int.reduceEq, Int.reduceLE, Int.reduceLT, Nat.reduceBEq, hl16, ht16, hl17, ht17, hl25, ht25, hl26, ht26]; first | done | rfl) | (simp only [List.length_append, List.length_cons, List.length_nil, List.length_map, List.length_set, List.length_replicate, Nat.zero_add, Nat.reduceAdd]; rfl) | (simp (disch := first | assumption | (simp only [List.length_set]; assumption)) only [go_sem, Nat.reduceAdd, Nat.reduceMul, Nat.reduceSub, Nat.reduceEqDiff, ↓reduceIte, Nat.reduceLT, reduceCtorEq, Nat.reduceLeDiff, Int.reduceToNat, Int.reduceEq, Int.reduceLE, Int.reduceLT, Nat.reduceBEq, hl16, ht16, hl17, ht17, hl25, ht25, hl26, ht26]; simp only [List.length_append, List.length_cons, List.length_nil, List.length_map, List.length_set, List.length_replicate, Nat.zero_add, Nat.reduceAdd]; rfl)) (FitAll.refl _) (.inr ⟨rfl, by simp [freeOb, free1]⟩) ?_
                    try simp (disch := first | assumption | (simp only [List.length_set]; assumption)) only [go_sem, Nat.reduceAdd, Nat.reduceMul, Nat.reduceSub, Nat.reduceEqDiff, ↓reduceIte, Nat.reduceLT, reduceCtorEq, Nat.reduceLeDiff, Int.reduceToNat, Int.reduceEq, Int.reduceLE, Int.reduceLT, Nat.reduceBEq, hl16, ht16, hl17, ht17, hl25, ht25, hl26, ht26]
                    refine Sp_if hq32 (fun hq32 hc34 => ?_) (fun hq32 hc34 => ?_)
                    · try simp (disch := first | assumption | (simp only [List.length_set]; assumption)) only [go_sem, Nat.reduceAdd, Nat.reduceMul, Nat.reduceSub, Nat.reduceEqDiff, ↓reduceIte, Nat.reduceLT, reduceCtorEq, Nat.reduceLeDiff, Int.reduceToNat, Int.reduceEq, Int.reduceLE, Int.reduceLT, Nat.reduceBEq, hl16, ht16, hl17, ht17, hl25, ht25, hl26, ht26]
                      cases hq32
                      refine X_cut rfl ?_
                      refine weak_of (m := 0) [some 2, some 5, some 6] rfl rfl rfl (by rfl) ?_ ?_
                      all_goals ((try simp (disch := first | assumption | (simp only [List.length_set]; assumption)) only [go_sem, Nat.reduceAdd, Nat.reduceMul, Nat.reduceSub, Nat.reduceEqDiff, ↓reduceIte, Nat.reduceLT, reduceCtorEq, Nat.reduceLeDiff, Int.reduceToNat, Int.reduceEq, Int.reduceLE, Int.reduceLT, Nat.reduceBEq, hl16, ht16, hl17, ht17, hl25, ht25, hl26, ht26]); (repeat' first | done | rfl | omega | refine And.intro ?_ ?_ | (simp; done) | (simp; omega)))
                    · try simp (disch := first | assumption | (simp only [List.length_set]; assumption)) only [go_sem, Nat.reduceAdd, Nat.reduceMul, Nat.reduceSub, Nat.reduceEqDiff, ↓reduceIte, Nat.reduceLT, reduceCtorEq, Nat.reduceLeDiff, Int.reduceToNat, Int.reduceEq, Int.reduceLE, Int.reduceLT, Nat.reduceBEq, hl16, ht16, hl17, ht17, hl25, ht25, hl26, ht26]
                      refine Sp_if hq32 (fun hq32 hc35 => ?_) (fun hq32 hc35 => ?_)
                      · try simp (disch := first | assumption | (simp only [List.length_set]; assumption)) only [go_sem, Nat.reduceAdd, Nat.reduceMul, Nat.reduceSub, Nat.reduceEqDiff, ↓reduceIte, Nat.reduceLT, reduceCtorEq, Nat.reduceLeDiff, Int.reduceToNat, Int.reduceEq, Int.reduceLE, Int.reduceLT, Nat.reduceBEq, hl16, ht16, hl17, ht17, hl25, ht25, hl26, ht26]
                        cases hq32
                        refine X_cut rfl ?_
                        refine weak_of (m := 0) [some 2, some 5, some 6] rfl rfl rfl (by rfl) ?_ ?_
                        all_goals ((try simp (disch := first | assumption | (simp only [List.length_set]; assumption)) only [go_sem, Nat.reduceAdd, Nat.reduceMul, Nat.reduceSub, Nat.reduceEqDiff, ↓reduceIte, Nat.reduceLT, reduceCtorEq, Nat.reduceLeDiff, Int.reduceToNat, Int.reduceEq, Int.reduceLE, Int.reduceLT, Nat.reduceBEq, hl16, ht16, hl17, ht17, hl25, ht25, hl26, ht26]); (repeat' first | done | rfl | omega | refine And.intro ?_ ?_ | (simp; done) | (simp; omega)))
                      · try simp (disch := first | assumption | (simp only [List.length_set]; assumption)) only [go_sem, Nat.reduceAdd, Nat.reduceMul, Nat.reduceSub, Nat.reduceEqDiff, ↓reduceIte, Nat.reduceLT, reduceCtorEq, Nat.reduceLeDiff, Int.reduceToNat, Int.reduceEq, Int.reduceLE, Int.reduceLT, Nat.reduceBEq, hl16, ht16, hl17, ht17, hl25, ht25, hl26, ht26]
                        cases hq32
                        refine X_cut rfl ?_
                        refine weak_of (m := 0) [some 2, some 5, some 6] rfl rfl rfl (by rfl) ?_ ?_
                        all_goals ((try simp (disch := first | assumption | (simp only [List.length_set]; assumption)) only [go_sem, Nat.reduceAdd, Nat.reduceMul, Nat.reduceSub, Nat.reduceEqDiff, ↓reduceIte, Nat.reduceLT, reduceCtorEq, Nat.reduceLeDiff, Int.reduceToNat, Int.reduceEq, Int.reduceLE, Int.reduceLT, Nat.reduceBEq, hl16, ht16, hl17, ht17, hl25, ht25, hl26, ht26]); (repeat' first | done | rfl | omega | refine And.intro ?_ ?_ | (simp; done) | (simp; omega)))
                  · intro s2 hJ; subst hJ
                    try dsimp only at h
                    try simp (disch := first | assumption | (simp only [List.length_set]; assumption)) only [go_sem, Nat.reduceAdd, Nat.reduceMul, Nat.reduceSub, Nat.reduceEqDiff, ↓reduceIte, Nat.reduceLT, reduceCtorEq, Nat.reduceLeDiff, Int.reduceToNat, Int.reduceEq, Int.reduceLE, Int.reduceLT, Nat.reduceBEq, hl16, ht16, hl17, ht17, hl25, ht25, hl26, ht26]
                    refine Bs_if h (fun h hc36 => ?_) (fun h hc36 => ?_)
                    · try simp (disch := first | assumption | (simp only [List.length_set]; assumption)) only [go_sem, Nat.reduceAdd, Nat.reduceMul, Nat.reduceSub, Nat.reduceEqDiff, ↓reduceIte, Nat.reduceLT, reduceCtorEq, Nat.reduceLeDiff, Int.reduceToNat, Int.reduceEq, Int.reduceLE, Int.reduceLT, Nat.reduceBEq, hl16, ht16, hl17, ht17, hl25, ht25, hl26, ht26]
                      have he := Option.some.inj h
                      subst he
                      refine ends_weak ⟨[(4, (.lf false (.sc (.bool false))))], [], 0, 122⟩ (weak_of (m := 0) [] rfl rfl rfl (by rfl) ?_ ?_) ?_
                      all_goals ((try simp (disch := first | assumption | (simp only [List.length_set]; assumption)) only [go_sem, Nat.reduceAdd, Nat.reduceMul, Nat.reduceSub, Nat.reduceEqDiff, ↓reduceIte, Nat.reduceLT, reduceCtorEq, Nat.reduceLeDiff, Int.reduceToNat, Int.reduceEq, Int.reduceLE, Int.reduceLT, Nat.reduceBEq, hl16, ht16, hl17, ht17, hl25, ht25, hl26, ht26]); (repeat' first | done | rfl | omega | refine And.intro ?_ ?_ | (simp; done) | (simp; omega)))
                    · try simp (disch := first | assumption | (simp only [List.length_set]; assumption)) only [go_sem, Nat.reduceAdd, Nat.reduceMul, Nat.reduceSub, Nat.reduceEqDiff, ↓reduceIte, Nat.reduceLT, reduceCtorEq, Nat.reduceLeDiff, Int.reduceToNat, Int.reduceEq, Int.reduceLE, Int.reduceLT, Nat.reduceBEq, hl16, ht16, hl17, ht17, hl25, ht25, hl26, ht26]
                      obtain ⟨c191, hr37, h⟩ := bind_ok h
                      refine Cl_shown (w_laws_heldSaga hr37) (by first | rfl | (simp (disch := first | assumption | (simp only [List.length_set]; assumption)) only [go_sem, Nat.reduceAdd, Nat.reduceMul, Nat.reduceSub, Nat.reduceEqDiff, ↓reduceIte, Nat.reduceLT, reduceCtorEq, Nat.reduceLeDiff, Int.reduceToNat, Int.reduceEq, Int.reduceLE, Int.reduceLT, Nat.reduceBEq, hl16, ht16, hl17, ht17, hl25, ht25, hl26, ht26]; first | done | rfl) | (simp only [List.length_append, List.length_cons, List.length_nil, List.length_map, List.length_set, List.length_replicate, Nat.zero_add, Nat.reduceAdd]; rfl) | (simp (disch := first | assumption | (simp only [List.length_set]; assumption)) only [go_sem, Nat.reduceAdd, Nat.reduceMul, Nat.reduceSub, Nat.reduceEqDiff, ↓reduceIte, Nat.reduceLT, reduceCtorEq, Nat.reduceLeDiff, Int.reduceToNat, Int.reduceEq, Int.reduceLE, Int.reduceLT, Nat.reduceBEq, hl16, ht16, hl17, ht17, hl25, ht25, hl26, ht26]; simp only [List.length_append, List.length_cons, List.length_nil, List.length_map, List.length_set, List.length_replicate, Nat.zero_add, Nat.reduceAdd]; rfl)) (FitAll.refl _) (.inr ⟨rfl, by simp [freeOb, free1]⟩) ?_
                      try simp (disch := first | assumption | (simp only [List.length_set]; assumption)) only [go_sem, Nat.reduceAdd, Nat.reduceMul, Nat.reduceSub, Nat.reduceEqDiff, ↓reduceIte, Nat.reduceLT, reduceCtorEq, Nat.reduceLeDiff, Int.reduceToNat, Int.reduceEq, Int.reduceLE, Int.reduceLT, Nat.reduceBEq, hl16, ht16, hl17, ht17, hl25, ht25, hl26, ht26]
                      refine Bs_if h (fun h hc38 => ?_) (fun h hc38 => ?_)
                      · try simp (disch := first | assumption | (simp only [List.length_set]; assumption)) only [go_sem, Nat.reduceAdd, Nat.reduceMul, Nat.reduceSub, Nat.reduceEqDiff, ↓reduceIte, Nat.reduceLT, reduceCtorEq, Nat.reduceLeDiff, Int.reduceToNat, Int.reduceEq, Int.reduceLE, Int.reduceLT, Nat.reduceBEq, hl16, ht16, hl17, ht17, hl25, ht25, hl26, ht26]
                        have he := Option.some.inj h
                        subst he
                        refine ends_weak ⟨[(4, (.lf false (.sc (.bool false))))], [], 0, 122⟩ (weak_of (m := 0) [] rfl rfl rfl (by rfl) ?_ ?_) ?_
                        all_goals ((try simp (disch := first | assumption | (simp only [List.length_set]; assumption)) only [go_sem, Nat.reduceAdd, Nat.reduceMul, Nat.reduceSub, Nat.reduceEqDiff, ↓reduceIte, Nat.reduceLT, reduceCtorEq, Nat.reduceLeDiff, Int.reduceToNat, Int.reduceEq, Int.reduceLE, Int.reduceLT, Nat.reduceBEq, hl16, ht16, hl17, ht17, hl25, ht25, hl26, ht26]); (repeat' first | done | rfl | omega | refine And.intro ?_ ?_ | (simp; done) | (simp; omega)))
                      · try simp (disch := first | assumption | (simp only [List.length_set]; assumption)) only [go_sem, Nat.reduceAdd, Nat.reduceMul, Nat.reduceSub, Nat.reduceEqDiff, ↓reduceIte, Nat.reduceLT, reduceCtorEq, Nat.reduceLeDiff, Int.reduceToNat, Int.reduceEq, Int.reduceLE, Int.reduceLT, Nat.reduceBEq, hl16, ht16, hl17, ht17, hl25, ht25, hl26, ht26]
                        refine Bs_if h (fun h hc39 => ?_) (fun h hc39 => ?_)
                        · try simp (disch := first | assumption | (simp only [List.length_set]; assumption)) only [go_sem, Nat.reduceAdd, Nat.reduceMul, Nat.reduceSub, Nat.reduceEqDiff, ↓reduceIte, Nat.reduceLT, reduceCtorEq, Nat.reduceLeDiff, Int.reduceToNat, Int.reduceEq, Int.reduceLE, Int.reduceLT, Nat.reduceBEq, hl16, ht16, hl17, ht17, hl25, ht25, hl26, ht26]
                          have he := Option.some.inj h
                          subst he
                          refine ends_weak ⟨[(4, (.lf false (.sc (.bool false))))], [], 0, 122⟩ (weak_of (m := 0) [] rfl rfl rfl (by rfl) ?_ ?_) ?_
                          all_goals ((try simp (disch := first | assumption | (simp only [List.length_set]; assumption)) only [go_sem, Nat.reduceAdd, Nat.reduceMul, Nat.reduceSub, Nat.reduceEqDiff, ↓reduceIte, Nat.reduceLT, reduceCtorEq, Nat.reduceLeDiff, Int.reduceToNat, Int.reduceEq, Int.reduceLE, Int.reduceLT, Nat.reduceBEq, hl16, ht16, hl17, ht17, hl25, ht25, hl26, ht26]); (repeat' first | done | rfl | omega | refine And.intro ?_ ?_ | (simp; done) | (simp; omega)))
                        · try simp (disch := first | assumption | (simp only [List.length_set]; assumption)) only [go_sem, Nat.reduceAdd, Nat.reduceMul, Nat.reduceSub, Nat.reduceEqDiff, ↓reduceIte, Nat.reduceLT, reduceCtorEq, Nat.reduceLeDiff, Int.reduceToNat, Int.reduceEq, Int.reduceLE, Int.reduceLT, Nat.reduceBEq, hl16, ht16, hl17, ht17, hl25, ht25, hl26, ht26]
                          have he := Option.some.inj h
                          subst he
                          refine ends_weak ⟨[(4, (.lf false (.sc (.bool true))))], [], 0, 122⟩ (weak_of (m := 0) [] rfl rfl rfl (by rfl) ?_ ?_) ?_
                          all_goals ((try simp (disch := first | assumption | (simp only [List.length_set]; assumption)) only [go_sem, Nat.reduceAdd, Nat.reduceMul, Nat.reduceSub, Nat.reduceEqDiff, ↓reduceIte, Nat.reduceLT, reduceCtorEq, Nat.reduceLeDiff, Int.reduceToNat, Int.reduceEq, Int.reduceLE, Int.reduceLT, Nat.reduceBEq, hl16, ht16, hl17, ht17, hl25, ht25, hl26, ht26]); (repeat' first | done | rfl | omega | refine And.intro ?_ ?_ | (simp; done) | (simp; omega)))
end Go.TL.Ytjhcfmcdllfmpaa

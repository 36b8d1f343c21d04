import Derived.Test.YtjhcfmcdllfmpaaDoorTlTabr3D
import Derived.Test.YtjhcfmcdllfmpaaDoorG20EnR1
import Derived.Test.YtjhcfmcdllfmpaaDoorTlAuto
import Derived.Test.YtjhcfmcdllfmpaaDoorTlTrimr3D
import Derived.Test.YtjhcfmcdllfmpaaDoorTlBelow
import Derived.Test.YtjhcfmcdllfmpaaDoorTlInsr3D
import Derived.Test.YtjhcfmcdllfmpaaDoorTlInsert
set_option linter.unusedSimpArgs false
set_option linter.unusedVariables false
set_option linter.unusedVariables false
set_option linter.unusedSimpArgs false
set_option maxRecDepth 8000
set_option maxHeartbeats 0
namespace Go.TL.YtjhcfmcdllfmpaaDoor
open Go Go.Proofs Go.TL
theorem w_laws_szEvent {a0 : EventT} {a1 : Int} {r : Int} (h : laws_szEvent a0 a1 = some r) : Fn Tryd.prog 63 [(.ag [(.lf false (.sc (.int .i64 a0.Id))), (.lf false (.sc (.int .i64 a0.Version))), (.lf false (.sc (.int .i64 a0.Kind))), (.lf false (.sc (.string a0.Name)))]), (.lf false (.sc (.int .i64 a1)))] [] 0 (.lf false (.sc (.int .i64 r))) [] 0 := by
  unfold laws_szEvent at h
  refine fn_code tab_ok mixed [(1000, [(1, 0), (2, 0)]), (1001, [(1, 0)]), (1002, [(1, 0), (11, 0)]), (1003, [(4, 0)]), (1004, [(4, 0)])] Tryd.func63 rfl rfl (by simp [Tryd.f63]) (by kernel_rfl) ?_
  simp only [Tryd.f63]
  refine sA ?_
  refine Bs_if h (fun h hc1 => ?_) (fun h hc1 => ?_)
  · try refine sA ?_
    have he := Option.some.inj h
    subst he
    exact endsA ⟨[(4, (.lf false (.sc (.int .i64 (-1)))))], [], 0, 13⟩ []
  · try refine sA ?_
    have he := Option.some.inj h
    subst he
    exact endsA ⟨[(4, (.lf false (.sc (.int .i64 (wI (a1 - (a0.Name.size : Int)))))))], [], 0, 13⟩ []
theorem w_laws_szEventS {a0 : (List EventT)} {a1 : Int} {r : Int} (h : laws_szEventS a0 a1 = some r) : Fn Tryd.prog 11 [(.lf true (.sl (a0.map eEvent))), (.lf false (.sc (.int .i64 a1)))] [] 0 (.lf false (.sc (.int .i64 r))) [] 0 := by
  unfold laws_szEventS at h
  refine fn_code tab_ok mixed [(1000, [(0, 0), (1, 0)]), (1001, [(0, 0), (1, 0)]), (1002, [(0, 0), (1, 0), (11, 0)]), (1003, [(4, 0)]), (1004, [(0, 0), (1, 0), (5, 0)]), (1005, [(0, 0), (1, 0), (5, 0), (15, 0)]), (1006, [(0, 0), (1, 0), (5, 0)]), (1007, [(0, 0), (1, 0), (5, 0)]), (1008, [(0, 0), (1, 0), (5, 0), (25, 0)]), (1009, [(4, 0)]), (1010, [(4, 0)])] Tryd.func11 rfl rfl (by simp [Tryd.f11]) (by kernel_rfl) ?_
  simp only [Tryd.f11]
  refine sA ?_
  refine Bs_if h (fun h hc1 => ?_) (fun h hc1 => ?_)
  · try refine sA ?_
    have he := Option.some.inj h
    subst he
    exact endsA ⟨[(4, (.lf false (.sc (.int .i64 (-1)))))], [], 0, 27⟩ []
  · try refine sA ?_
    obtain ⟨y4, hl2, h⟩ := bind_ok h
    refine W_loopP (fun g1 : laws_szEventS_G1 => ⟨[(0, (.lf true (.sl (a0.map eEvent)))), (1, (.lf false (.sc (.int .i64 g1.t1)))), (5, (.lf false (.sc (.int .i64 g1.t5))))], [], 0, 27⟩) (laws_szEventS_L1 a0) _ _ hl2 (weakA []) ?_
    · intro n1 g1 z1 hs1 hk1
      unfold laws_szEventS_L1 at hs1
      try dsimp only at hs1
      refine sA ?_
      refine Bs_if hs1 (fun hs1 hc3 => ?_) (fun hs1 hc3 => ?_)
      · try refine sA ?_
        obtain ⟨hp4, hs1⟩ := guard_some hs1
        have hn4 : g1.t5.toNat < a0.length := by first | omega | (simp only [List.length_set, List.length_append, List.length_replicate, List.length_map]; omega)
        try refine sA ?_
        try refine andA ?_
        obtain ⟨c3, hr5, hs1⟩ := bind_ok hs1
        refine Cl_sA (w_laws_szEvent hr5) ?_
        try refine sA ?_
        refine Bs_if hs1 (fun hs1 hc6 => ?_) (fun hs1 hc6 => ?_)
        · try refine sA ?_
          cases hs1
          cases hk1
          try dsimp only at h
          try refine sA ?_
          have he := Option.some.inj h
          subst he
          exact endsA ⟨[(4, (.lf false (.sc (.int .i64 (-1)))))], [], 0, 27⟩ []
        · try refine sA ?_
          cases hs1
          exact X_backP hk1 (weakA [])
      · try refine sA ?_
        cases hs1
        cases hk1
        try dsimp only at h
        try refine sA ?_
        have he := Option.some.inj h
        subst he
        exact endsA ⟨[(4, (.lf false (.sc (.int .i64 g1.t1))))], [], 0, 27⟩ []
theorem w_laws_toEvent {a0 : EventT} {r : EventT} (h : laws_toEvent a0 = some r) : Fn Tryd.prog 66 [(.ag [(.lf false (.sc (.int .i64 a0.Id))), (.lf false (.sc (.int .i64 a0.Version))), (.lf false (.sc (.int .i64 a0.Kind))), (.lf false (.sc (.string a0.Name)))])] [] 0 (.ag [(.lf false (.sc (.int .i64 r.Id))), (.lf false (.sc (.int .i64 r.Version))), (.lf false (.sc (.int .i64 r.Kind))), (.lf false (.sc (.string r.Name)))]) [] 1 := by
  unfold laws_toEvent at h
  refine fn_code tab_ok mixed [(1000, [(1, 0), (2, 0)]), (1001, [(1, 0), (2, 0), (3, 0)]), (1002, [(1, 0), (2, 0), (3, 0)]), (1003, [(1, 0), (2, 0), (3, 0)]), (1004, [(1, 0), (2, 0), (3, 0)]), (1005, [(2, 0), (3, 0)]), (1006, [(2, 0)])] Tryd.func66 rfl rfl (by simp [Tryd.f66]) (by kernel_rfl) ?_
  simp only [Tryd.f66]
  refine sA ?_
  have he := Option.some.inj h
  subst he
  exact endsA ⟨[(2, (.pb 0 0))], [(0, some (true, .box [(.lf false (.sc (.int .i64 a0.Id))), (.lf false (.sc (.int .i64 a0.Version))), (.lf false (.sc (.int .i64 a0.Kind))), (.lf false (.sc (.string a0.Name)))]))], 1, 17⟩ [some 1]
theorem w_laws_toEventS {a0 : (List EventT)} {r : (List EventT)} (h : laws_toEventS a0 = some r) : Fn Tryd.prog 13 [(.lf true (.sl (a0.map eEvent)))] [] 0 (.os 0 4 0 r.length r.length false) [(0, some (true, .arr false 4 (r.map eEvent)))] 1 := by
  unfold laws_toEventS at h
  refine fn_code tab_ok mixed [(1000, [(0, 0)]), (1001, [(0, 0), (3, 0)]), (1002, [(0, 0), (3, 0), (4, 0)]), (1003, [(0, 0), (3, 0), (4, 0), (11, 0)]), (1004, [(0, 0), (3, 0), (4, 0)]), (1005, [(0, 0), (3, 0), (4, 0)]), (1006, [(2, 0)])] Tryd.func13 rfl rfl (by simp [Tryd.f13]) (by kernel_rfl) ?_
  simp only [Tryd.f13]
  simp (disch := first | assumption | (simp only [List.length_set]; assumption)) only [go_sem, Nat.reduceAdd, Nat.reduceMul, Nat.reduceSub, Nat.reduceEqDiff, ↓reduceIte, Nat.reduceLT, reduceCtorEq, Nat.reduceLeDiff, Int.reduceToNat, Int.reduceEq, Int.reduceLE, Int.reduceLT, Nat.reduceBEq, fold_eEvent_rep]
  obtain ⟨hp1, h⟩ := guard_some h
  try simp (disch := first | assumption | (simp only [List.length_set]; assumption)) only [go_sem, Nat.reduceAdd, Nat.reduceMul, Nat.reduceSub, Nat.reduceEqDiff, ↓reduceIte, Nat.reduceLT, reduceCtorEq, Nat.reduceLeDiff, Int.reduceToNat, Int.reduceEq, Int.reduceLE, Int.reduceLT, Nat.reduceBEq, fold_eEvent_rep]
  try refine andA ?_
  obtain ⟨y11, hl2, h⟩ := bind_ok h
  refine W_loopP (fun g8 : laws_toEventS_G1 => ⟨[(0, (.lf true (.sl (a0.map eEvent)))), (3, (.os 0 4 0 g8.c0.length g8.c0.length false)), (4, (.lf false (.sc (.int .i64 g8.t4))))], [(0, some (true, .arr false 4 (g8.c0.map eEvent)))], 1, 23⟩) (laws_toEventS_L1 a0) _ _ hl2 (weak_of (m := 0) [some 0] rfl rfl rfl (by rfl) (by ((try simp (disch := first | assumption | (simp only [List.length_set]; assumption)) only [go_sem, Nat.reduceAdd, Nat.reduceMul, Nat.reduceSub, Nat.reduceEqDiff, ↓reduceIte, Nat.reduceLT, reduceCtorEq, Nat.reduceLeDiff, Int.reduceToNat, Int.reduceEq, Int.reduceLE, Int.reduceLT, Nat.reduceBEq, fold_eEvent_rep]); (repeat' first | done | rfl | omega | refine And.intro ?_ ?_ | (simp; done) | (simp; omega)))) (by ((try simp (disch := first | assumption | (simp only [List.length_set]; assumption)) only [go_sem, Nat.reduceAdd, Nat.reduceMul, Nat.reduceSub, Nat.reduceEqDiff, ↓reduceIte, Nat.reduceLT, reduceCtorEq, Nat.reduceLeDiff, Int.reduceToNat, Int.reduceEq, Int.reduceLE, Int.reduceLT, Nat.reduceBEq, fold_eEvent_rep]); (repeat' first | done | rfl | omega | refine And.intro ?_ ?_ | (simp; done) | (simp; omega))))) ?_
  · intro n1 g8 z1 hs1 hk1
    unfold laws_toEventS_L1 at hs1
    try dsimp only at hs1
    simp (disch := first | assumption | (simp only [List.length_set]; assumption)) only [go_sem, Nat.reduceAdd, Nat.reduceMul, Nat.reduceSub, Nat.reduceEqDiff, ↓reduceIte, Nat.reduceLT, reduceCtorEq, Nat.reduceLeDiff, Int.reduceToNat, Int.reduceEq, Int.reduceLE, Int.reduceLT, Nat.reduceBEq, fold_eEvent_rep]
    refine Bs_if hs1 (fun hs1 hc3 => ?_) (fun hs1 hc3 => ?_)
    · try simp (disch := first | assumption | (simp only [List.length_set]; assumption)) only [go_sem, Nat.reduceAdd, Nat.reduceMul, Nat.reduceSub, Nat.reduceEqDiff, ↓reduceIte, Nat.reduceLT, reduceCtorEq, Nat.reduceLeDiff, Int.reduceToNat, Int.reduceEq, Int.reduceLE, Int.reduceLT, Nat.reduceBEq, fold_eEvent_rep]
      obtain ⟨hp4, hs1⟩ := guard_some hs1
      have hn4 : g8.t4.toNat < a0.length := by first | omega | (simp only [List.length_set, List.length_append, List.length_replicate, List.length_map]; omega)
      try simp (disch := first | assumption | (simp only [List.length_set]; assumption)) only [go_sem, Nat.reduceAdd, Nat.reduceMul, Nat.reduceSub, Nat.reduceEqDiff, ↓reduceIte, Nat.reduceLT, reduceCtorEq, Nat.reduceLeDiff, Int.reduceToNat, Int.reduceEq, Int.reduceLE, Int.reduceLT, Nat.reduceBEq, fold_eEvent_rep]
      try refine andA ?_
      obtain ⟨c10, hr5, hs1⟩ := bind_ok hs1
      refine Cl_shown (w_laws_toEvent hr5) (by first | rfl | (simp (disch := first | assumption | (simp only [List.length_set]; assumption)) only [go_sem, Nat.reduceAdd, Nat.reduceMul, Nat.reduceSub, Nat.reduceEqDiff, ↓reduceIte, Nat.reduceLT, reduceCtorEq, Nat.reduceLeDiff, Int.reduceToNat, Int.reduceEq, Int.reduceLE, Int.reduceLT, Nat.reduceBEq, fold_eEvent_rep]; first | done | rfl) | (simp only [List.length_append, List.length_cons, List.length_nil, List.length_map, List.length_set, List.length_replicate, Nat.zero_add, Nat.reduceAdd]; rfl) | (simp (disch := first | assumption | (simp only [List.length_set]; assumption)) only [go_sem, Nat.reduceAdd, Nat.reduceMul, Nat.reduceSub, Nat.reduceEqDiff, ↓reduceIte, Nat.reduceLT, reduceCtorEq, Nat.reduceLeDiff, Int.reduceToNat, Int.reduceEq, Int.reduceLE, Int.reduceLT, Nat.reduceBEq, fold_eEvent_rep]; simp only [List.length_append, List.length_cons, List.length_nil, List.length_map, List.length_set, List.length_replicate, Nat.zero_add, Nat.reduceAdd]; rfl)) (FitAll.refl _) (.inl (by first | rfl | (simp (disch := first | assumption | (simp only [List.length_set]; assumption)) only [go_sem, Nat.reduceAdd, Nat.reduceMul, Nat.reduceSub, Nat.reduceEqDiff, ↓reduceIte, Nat.reduceLT, reduceCtorEq, Nat.reduceLeDiff, Int.reduceToNat, Int.reduceEq, Int.reduceLE, Int.reduceLT, Nat.reduceBEq, fold_eEvent_rep]; done))) ?_
      try simp (disch := first | assumption | (simp only [List.length_set]; assumption)) only [go_sem, Nat.reduceAdd, Nat.reduceMul, Nat.reduceSub, Nat.reduceEqDiff, ↓reduceIte, Nat.reduceLT, reduceCtorEq, Nat.reduceLeDiff, Int.reduceToNat, Int.reduceEq, Int.reduceLE, Int.reduceLT, Nat.reduceBEq, fold_eEvent_rep]
      obtain ⟨hp6, hs1⟩ := guard_some hs1
      have hn6 : g8.t4.toNat < g8.c0.length := by first | omega | (simp only [List.length_set, List.length_append, List.length_replicate, List.length_map]; omega)
      try simp (disch := first | assumption | (simp only [List.length_set]; assumption)) only [go_sem, Nat.reduceAdd, Nat.reduceMul, Nat.reduceSub, Nat.reduceEqDiff, ↓reduceIte, Nat.reduceLT, reduceCtorEq, Nat.reduceLeDiff, Int.reduceToNat, Int.reduceEq, Int.reduceLE, Int.reduceLT, Nat.reduceBEq, fold_eEvent_rep]
      try refine andA ?_
      try refine andB ?_
      try simp (disch := first | assumption | (simp only [List.length_set]; assumption)) only [go_sem, Nat.reduceAdd, Nat.reduceMul, Nat.reduceSub, Nat.reduceEqDiff, ↓reduceIte, Nat.reduceLT, reduceCtorEq, Nat.reduceLeDiff, Int.reduceToNat, Int.reduceEq, Int.reduceLE, Int.reduceLT, Nat.reduceBEq, fold_eEvent_rep]
      cases hs1
      refine X_backP hk1 ?_
      refine weak_of (m := 0) [some 0] rfl rfl rfl (by rfl) ?_ ?_
      all_goals ((try simp (disch := first | assumption | (simp only [List.length_set]; assumption)) only [go_sem, Nat.reduceAdd, Nat.reduceMul, Nat.reduceSub, Nat.reduceEqDiff, ↓reduceIte, Nat.reduceLT, reduceCtorEq, Nat.reduceLeDiff, Int.reduceToNat, Int.reduceEq, Int.reduceLE, Int.reduceLT, Nat.reduceBEq, fold_eEvent_rep]); (repeat' first | done | rfl | omega | refine And.intro ?_ ?_ | (simp; done) | (simp; omega)))
    · try simp (disch := first | assumption | (simp only [List.length_set]; assumption)) only [go_sem, Nat.reduceAdd, Nat.reduceMul, Nat.reduceSub, Nat.reduceEqDiff, ↓reduceIte, Nat.reduceLT, reduceCtorEq, Nat.reduceLeDiff, Int.reduceToNat, Int.reduceEq, Int.reduceLE, Int.reduceLT, Nat.reduceBEq, fold_eEvent_rep]
      cases hs1
      cases hk1
      try dsimp only at h
      try simp (disch := first | assumption | (simp only [List.length_set]; assumption)) only [go_sem, Nat.reduceAdd, Nat.reduceMul, Nat.reduceSub, Nat.reduceEqDiff, ↓reduceIte, Nat.reduceLT, reduceCtorEq, Nat.reduceLeDiff, Int.reduceToNat, Int.reduceEq, Int.reduceLE, Int.reduceLT, Nat.reduceBEq, fold_eEvent_rep]
      have he := Option.some.inj h
      subst he
      refine ends_weak ⟨[(2, (.os 0 4 0 g8.c0.length g8.c0.length false))], [(0, some (true, .arr false 4 (g8.c0.map eEvent)))], 1, 23⟩ (weak_of (m := 0) [some 0] rfl rfl rfl (by rfl) ?_ ?_) ?_
      all_goals ((try simp (disch := first | assumption | (simp only [List.length_set]; assumption)) only [go_sem, Nat.reduceAdd, Nat.reduceMul, Nat.reduceSub, Nat.reduceEqDiff, ↓reduceIte, Nat.reduceLT, reduceCtorEq, Nat.reduceLeDiff, Int.reduceToNat, Int.reduceEq, Int.reduceLE, Int.reduceLT, Nat.reduceBEq, fold_eEvent_rep]); (repeat' first | done | rfl | omega | refine And.intro ?_ ?_ | (simp; done) | (simp; omega)))
theorem w_spec_NewState {r : StateT} (h : spec_NewState = some r) : Fn Tryd.prog 117 [] [] 0 (.ag [(.lf false (.sc (.int .i64 r.Status))), (.lf false (.sc (.int .i64 r.Next))), (.lf false (.sc (.bool r.Cancel))), (.lf false (.sc (.int .i64 r.Done))), .nl, .nl]) [] 1 := by
  unfold spec_NewState at h
  refine fn_code tab_ok mixed [] Tryd.func117 rfl rfl (by simp [Tryd.f117]) (by kernel_rfl) ?_
  simp only [Tryd.f117]
  refine sA ?_
  have he := Option.some.inj h
  subst he
  exact endsA ⟨[(0, (.pb 0 0))], [(0, some (true, .box [(.lf false (.sc (.int .i64 0))), (.lf false (.sc (.int .i64 1))), (.lf false (.sc (.bool false))), (.lf false (.sc (.int .i64 0))), .nl, .nl]))], 1, 2⟩ [some 0]
theorem w_spec_l1In {a0 : Int} {a1 : Int} {a2 : Int} {r : Bool} (h : spec_l1In a0 a1 a2 = some r) : Fn Tryd.prog 84 [(.lf false (.sc (.int .i64 a0))), (.lf false (.sc (.int .i64 a1))), (.lf false (.sc (.int .i64 a2)))] [] 0 (.lf false (.sc (.bool r))) [] 0 := by
  unfold spec_l1In at h
  refine fn_code tab_ok mixed [] Tryd.func84 rfl rfl (by simp [Tryd.f84]) (by kernel_rfl) ?_
  simp only [Tryd.f84]
  refine sA ?_
  refine Sp_if h (fun h hc1 => ?_) (fun h hc1 => ?_)
  · try refine sA ?_
    have he := Option.some.inj h
    subst he
    exact endsA ⟨[(6, (.lf false (.sc (.bool (decide (a0 ≤ a2))))))], [], 0, 15⟩ []
  · try refine sA ?_
    have he := Option.some.inj h
    subst he
    exact endsA ⟨[(6, (.lf false (.sc (.bool false))))], [], 0, 15⟩ []
theorem w_spec_l1Name {a0 : ByteArray} {r : Bool} (h : spec_l1Name a0 = some r) : Fn Tryd.prog 86 [(.lf false (.sc (.string a0)))] [] 0 (.lf false (.sc (.bool r))) [] 0 := by
  unfold spec_l1Name at h
  refine fn_code tab_ok mixed [(1000, [(0, 0)]), (1001, [(0, 0), (3, 0)]), (1002, [(0, 0), (3, 0), (7, 0)]), (1003, [(0, 0), (3, 0)]), (1004, [(0, 0), (3, 0), (32, 0)]), (1005, [(2, 0)]), (1006, [(2, 0)]), (4004, [])] Tryd.func86 rfl rfl (by simp [Tryd.f86]) (by kernel_rfl) ?_
  simp only [Tryd.f86]
  refine sA ?_
  obtain ⟨y21, hl1, h⟩ := bind_ok h
  refine W_loopP (fun g18 : spec_l1Name_G1 => ⟨[(0, (.lf false (.sc (.string a0)))), (3, (.lf false (.sc (.int .i64 g18.t3))))], [], 0, 36⟩) (spec_l1Name_L1 a0) _ _ hl1 (weakA []) ?_
  · intro n1 g18 z1 hs1 hk1
    unfold spec_l1Name_L1 at hs1
    try dsimp only at hs1
    refine sA ?_
    refine Bs_if hs1 (fun hs1 hc2 => ?_) (fun hs1 hc2 => ?_)
    · try refine sA ?_
      obtain ⟨p20, hq3, hs1⟩ := bind_ok hs1
      refine Sq_cut (fun s2 => s2 = ⟨[(0, (.lf false (.sc (.string a0)))), (3, (.lf false (.sc (.int .i64 g18.t3)))), (32, (.lf false (.sc (.bool p20.t32))))], [], 0, 36⟩) ?_ ?_
      · try refine sA ?_
        obtain ⟨hp4, hq3⟩ := guard_some hq3
        try refine sA ?_
        try refine andA ?_
        refine Sp_if hq3 (fun hq3 hc5 => ?_) (fun hq3 hc5 => ?_)
        · try refine sA ?_
          obtain ⟨hp6, hq3⟩ := guard_some hq3
          try refine sA ?_
          try refine andA ?_
          refine Sp_if hq3 (fun hq3 hc7 => ?_) (fun hq3 hc7 => ?_)
          · try refine sA ?_
            cases hq3
            exact X_cut rfl (weakA [])
          · try refine sA ?_
            obtain ⟨hp8, hq3⟩ := guard_some hq3
            try refine sA ?_
            try refine andA ?_
            refine Sp_if hq3 (fun hq3 hc9 => ?_) (fun hq3 hc9 => ?_)
            · try refine sA ?_
              obtain ⟨hp10, hq3⟩ := guard_some hq3
              try refine sA ?_
              try refine andA ?_
              cases hq3
              exact X_cut rfl (weakA [])
            · try refine sA ?_
              cases hq3
              exact X_cut rfl (weakA [])
        · try refine sA ?_
          obtain ⟨hp11, hq3⟩ := guard_some hq3
          try refine sA ?_
          try refine andA ?_
          refine Sp_if hq3 (fun hq3 hc12 => ?_) (fun hq3 hc12 => ?_)
          · try refine sA ?_
            obtain ⟨hp13, hq3⟩ := guard_some hq3
            try refine sA ?_
            try refine andA ?_
            cases hq3
            exact X_cut rfl (weakA [])
          · try refine sA ?_
            cases hq3
            exact X_cut rfl (weakA [])
      · intro s2 hJ; subst hJ
        try dsimp only at hs1
        try refine sA ?_
        refine Bs_if hs1 (fun hs1 hc14 => ?_) (fun hs1 hc14 => ?_)
        · try refine sA ?_
          cases hs1
          cases hk1
          try dsimp only at h
          try refine sA ?_
          have he := Option.some.inj h
          subst he
          exact endsA ⟨[(2, (.lf false (.sc (.bool false))))], [], 0, 36⟩ []
        · try refine sA ?_
          cases hs1
          exact X_backP hk1 (weakA [])
    · try refine sA ?_
      cases hs1
      cases hk1
      try dsimp only at h
      try refine sA ?_
      have he := Option.some.inj h
      subst he
      exact endsA ⟨[(2, (.lf false (.sc (.bool (decide ((a0.size : Int) ≤ 12))))))], [], 0, 36⟩ []
theorem w_spec_GoodEvent {a0 : EventT} {r : Bool} (h : spec_GoodEvent a0 = some r) : Fn Tryd.prog 33 [(.ag [(.lf false (.sc (.int .i64 a0.Id))), (.lf false (.sc (.int .i64 a0.Version))), (.lf false (.sc (.int .i64 a0.Kind))), (.lf false (.sc (.string a0.Name)))])] [] 0 (.lf false (.sc (.bool r))) [] 0 := by
  unfold spec_GoodEvent at h
  refine fn_code tab_ok mixed [] Tryd.func33 rfl rfl (by simp [Tryd.f33]) (by kernel_rfl) ?_
  simp only [Tryd.f33]
  refine sA ?_
  obtain ⟨c15, hr1, h⟩ := bind_ok h
  refine Cl_sA (w_spec_l1In hr1) ?_
  try refine sA ?_
  refine Sp_if h (fun h hc2 => ?_) (fun h hc2 => ?_)
  · try refine sA ?_
    obtain ⟨c16, hr3, h⟩ := bind_ok h
    refine Cl_sA (w_spec_l1In hr3) ?_
    try refine sA ?_
    refine Sp_if h (fun h hc4 => ?_) (fun h hc4 => ?_)
    · try refine sA ?_
      obtain ⟨c17, hr5, h⟩ := bind_ok h
      refine Cl_sA (w_spec_l1In hr5) ?_
      try refine sA ?_
      refine Sp_if h (fun h hc6 => ?_) (fun h hc6 => ?_)
      · try refine sA ?_
        obtain ⟨c24, hr7, h⟩ := bind_ok h
        refine Cl_sA (w_spec_l1Name hr7) ?_
        try refine sA ?_
        have he := Option.some.inj h
        subst he
        exact endsA ⟨[(2, (.lf false (.sc (.bool c24))))], [], 0, 21⟩ []
      · try refine sA ?_
        have he := Option.some.inj h
        subst he
        exact endsA ⟨[(2, (.lf false (.sc (.bool false))))], [], 0, 21⟩ []
    · try refine sA ?_
      have he := Option.some.inj h
      subst he
      exact endsA ⟨[(2, (.lf false (.sc (.bool false))))], [], 0, 21⟩ []
  · try refine sA ?_
    have he := Option.some.inj h
    subst he
    exact endsA ⟨[(2, (.lf false (.sc (.bool false))))], [], 0, 21⟩ []
theorem w_spec_l12Own {a0 : StateT} {r : StateT} (h : spec_l12Own a0 = some r) : Fn Tryd.prog 123 [(.ag [(.lf false (.sc (.int .i64 a0.Status))), (.lf false (.sc (.int .i64 a0.Next))), (.lf false (.sc (.bool a0.Cancel))), (.lf false (.sc (.int .i64 a0.Done))), (.lf true (.sl (a0.Signals.map eS))), (.lf true (.sl (a0.Timers.map eS)))])] [] 0 (.ag [(.lf false (.sc (.int .i64 r.Status))), (.lf false (.sc (.int .i64 r.Next))), (.lf false (.sc (.bool r.Cancel))), (.lf false (.sc (.int .i64 r.Done))), (.os 0 1 0 r.Signals.length r.Signals.length false), (.os 1 1 0 r.Timers.length r.Timers.length false)]) [(0, some (true, .arr false 1 (r.Signals.map eS))), (1, some (true, .arr false 1 (r.Timers.map eS)))] 3 := by
  unfold spec_l12Own at h
  refine fn_code tab_ok mixed [(1000, [(1, 0), (2, 0)]), (1001, [(1, 0), (2, 0)]), (1002, [(1, 0), (2, 0)]), (1003, [(2, 0)])] Tryd.func123 rfl rfl (by simp [Tryd.f123]) (by kernel_rfl) ?_
  simp only [Tryd.f123]
  refine sA ?_
  obtain ⟨hp1, h⟩ := guard_some h
  try refine sA ?_
  try refine andA ?_
  obtain ⟨hp2, h⟩ := guard_some h
  try refine sA ?_
  try refine andA ?_
  have he := Option.some.inj h
  subst he
  exact endsA ⟨[(2, (.pb 2 0))], [(0, some (true, .arr false 1 ((([]) ++ a0.Signals).map eS))), (1, some (true, .arr false 1 ((([]) ++ a0.Timers).map eS))), (2, some (true, .box [(.lf false (.sc (.int .i64 a0.Status))), (.lf false (.sc (.int .i64 a0.Next))), (.lf false (.sc (.bool a0.Cancel))), (.lf false (.sc (.int .i64 a0.Done))), (.os 0 1 0 ((([]) ++ a0.Signals).length) ((([]) ++ a0.Signals).length) false), (.os 1 1 0 ((([]) ++ a0.Timers).length) ((([]) ++ a0.Timers).length) false)]))], 3, 14⟩ [some 3, some 5, some 1]
theorem w_spec_l12At {a0 : (List ByteArray)} {a1 : ByteArray} {r : Int} (h : spec_l12At a0 a1 = some r) : Fn Tryd.prog 124 [(.lf true (.sl (a0.map eS))), (.lf false (.sc (.string a1)))] [] 0 (.lf false (.sc (.int .i64 r))) [] 0 := by
  unfold spec_l12At at h
  refine fn_code tab_ok mixed [(1000, [(0, 0), (1, 0)]), (1001, [(1, 0), (7, 0), (8, 0), (9, 0)]), (1002, [(1, 0), (7, 0), (8, 0), (9, 0), (10, 0)]), (1003, [(1, 0), (5, 0), (6, 0), (7, 0), (8, 0), (9, 0)]), (1004, [(1, 0), (5, 0), (7, 0), (8, 0), (9, 0), (16, 0)]), (1005, [(4, 0)]), (1006, [(1, 0), (7, 0), (8, 0), (9, 0)]), (1007, [(4, 0)])] Tryd.func124 rfl rfl (by simp [Tryd.f124]) (by kernel_rfl) ?_
  simp only [Tryd.f124]
  refine sA ?_
  obtain ⟨y29, hl1, h⟩ := bind_ok h
  refine W_loopP (fun g28 : spec_l12At_G1 => ⟨[(1, (.lf false (.sc (.string a1)))), (7, (.lf true (.sl (a0.map eS)))), (8, (.lf false (.sc (.int .i64 ((a0.length : Nat) : Int))))), (9, (.lf false (.sc (.int .i64 g28.t9))))], [], 0, 19⟩) (spec_l12At_L1 a0 a1) _ _ hl1 (weakA []) ?_
  · intro n1 g28 z1 hs1 hk1
    unfold spec_l12At_L1 at hs1
    try dsimp only at hs1
    refine sA ?_
    refine Bs_if hs1 (fun hs1 hc2 => ?_) (fun hs1 hc2 => ?_)
    · try refine sA ?_
      obtain ⟨hp3, hs1⟩ := guard_some hs1
      have hn3 : g28.t9.toNat < a0.length := by first | omega | (simp only [List.length_set, List.length_append, List.length_replicate, List.length_map]; omega)
      try refine sA ?_
      try refine andA ?_
      refine Bs_if hs1 (fun hs1 hc4 => ?_) (fun hs1 hc4 => ?_)
      · try refine sA ?_
        cases hs1
        cases hk1
        try dsimp only at h
        try refine sA ?_
        have he := Option.some.inj h
        subst he
        exact endsA ⟨[(4, (.lf false (.sc (.int .i64 g28.t9))))], [], 0, 19⟩ []
      · try refine sA ?_
        cases hs1
        exact X_backP hk1 (weakA [])
    · try refine sA ?_
      cases hs1
      cases hk1
      try dsimp only at h
      try refine sA ?_
      have he := Option.some.inj h
      subst he
      exact endsA ⟨[(4, (.lf false (.sc (.int .i64 (-1)))))], [], 0, 19⟩ []
theorem w_spec_l12Timer {a0 : (List ByteArray)} {a1 : ByteArray} {r : (List ByteArray)} (h : spec_l12Timer a0 a1 = some r) : Fn Tryd.prog 125 [(.lf true (.sl (a0.map eS))), (.lf false (.sc (.string a1)))] [] 0 (.os 0 1 0 r.length r.length false) [(0, some (true, .arr false 1 (r.map eS)))] 1 := by
  unfold spec_l12Timer at h
  refine fn_code tab_ok mixed [(1000, [(0, 0), (1, 0)]), (1001, [(0, 0), (1, 0), (5, 0)]), (1002, [(0, 0), (1, 0), (5, 0), (6, 0)]), (1003, [(1, 0), (5, 0), (6, 0), (13, 0), (14, 0), (15, 0)]), (1004, [(1, 0), (5, 0), (6, 0), (13, 0), (14, 0), (15, 0), (16, 0)]), (1005, [(1, 0), (5, 0), (6, 0), (8, 0), (13, 0), (14, 0), (15, 0)]), (1006, [(1, 0), (5, 0), (6, 0), (8, 0), (13, 0), (14, 0), (15, 0), (21, 0)]), (1007, [(1, 0), (5, 0), (6, 0), (8, 0), (13, 0), (14, 0), (15, 0), (28, 0)]), (1008, [(1, 0), (5, 0), (8, 0), (13, 0), (14, 0), (15, 0)]), (1009, [(1, 0), (5, 0), (6, 0), (8, 0), (13, 0), (14, 0), (15, 0)]), (1010, [(1, 0), (5, 0), (6, 0), (13, 0), (14, 0), (15, 0)]), (1011, [(1, 0), (5, 0), (6, 0), (13, 0), (14, 0), (15, 0)]), (1012, [(1, 0), (5, 0), (39, 0)]), (1013, [(5, 0)]), (1014, [(4, 0)]), (4007, [])] Tryd.func125 rfl rfl (by simp [Tryd.f125]) (by kernel_rfl) ?_
  simp only [Tryd.f125]
  refine sA ?_
  obtain ⟨c34, hr1, h⟩ := bind_ok h
  refine Cl_sA (w_spec_l12At hr1) ?_
  try refine sA ?_
  obtain ⟨y38, hl2, h⟩ := bind_ok h
  refine W_loopP (fun g35 : spec_l12Timer_G1 => ⟨[(1, (.lf false (.sc (.string a1)))), (5, (.os 0 1 0 g35.c0.length g35.c0.length false)), (6, (.lf false (.sc (.bool g35.t6)))), (13, (.lf true (.sl (a0.map eS)))), (14, (.lf false (.sc (.int .i64 ((a0.length : Nat) : Int))))), (15, (.lf false (.sc (.int .i64 g35.t15))))], [(0, some (true, .arr false 1 (g35.c0.map eS)))], 1, 45⟩) (spec_l12Timer_L1 a0 a1) _ _ hl2 (weakA [none]) ?_
  · intro n1 g35 z1 hs1 hk1
    unfold spec_l12Timer_L1 at hs1
    try dsimp only at hs1
    refine sA ?_
    refine Bs_if hs1 (fun hs1 hc3 => ?_) (fun hs1 hc3 => ?_)
    · try refine sA ?_
      obtain ⟨hp4, hs1⟩ := guard_some hs1
      have hn4 : g35.t15.toNat < a0.length := by first | omega | (simp only [List.length_set, List.length_append, List.length_replicate, List.length_map]; omega)
      try refine sA ?_
      try refine andA ?_
      refine Bs_if hs1 (fun hs1 hc5 => ?_) (fun hs1 hc5 => ?_)
      · try refine sA ?_
        cases hs1
        exact X_backP hk1 (weakA [some 0])
      · try refine sA ?_
        obtain ⟨p37, hq6, hs1⟩ := bind_ok hs1
        refine Sq_cut (fun s2 => s2 = ⟨[(1, (.lf false (.sc (.string a1)))), (5, (.os 0 1 0 g35.c0.length g35.c0.length false)), (6, (.lf false (.sc (.bool g35.t6)))), (8, (.lf false (.sc (.string (nth a0 g35.t15.toNat))))), (13, (.lf true (.sl (a0.map eS)))), (14, (.lf false (.sc (.int .i64 ((a0.length : Nat) : Int))))), (15, (.lf false (.sc (.int .i64 g35.t15)))), (28, (.lf false (.sc (.bool p37.t28))))], [(0, some (true, .arr false 1 (g35.c0.map eS)))], 1, 45⟩) ?_ ?_
        · try refine sA ?_
          refine Sp_if hq6 (fun hq6 hc7 => ?_) (fun hq6 hc7 => ?_)
          · try refine sA ?_
            cases hq6
            exact X_cut rfl (weakA [some 0])
          · try refine sA ?_
            cases hq6
            exact X_cut rfl (weakA [some 0])
        · intro s2 hJ; subst hJ
          try dsimp only at hs1
          try refine sA ?_
          refine Bs_if hs1 (fun hs1 hc8 => ?_) (fun hs1 hc8 => ?_)
          · try refine sA ?_
            obtain ⟨hp9, hs1⟩ := guard_some hs1
            try refine sA ?_
            try refine andA ?_
            obtain ⟨hp10, hs1⟩ := guard_some hs1
            try refine sA ?_
            try refine andA ?_
            cases hs1
            exact X_backP hk1 (weakA [some 4])
          · try refine sA ?_
            obtain ⟨hp11, hs1⟩ := guard_some hs1
            try refine sA ?_
            try refine andA ?_
            cases hs1
            exact X_backP hk1 (weakA [some 2])
    · try refine sA ?_
      cases hs1
      cases hk1
      try dsimp only at h
      try refine sA ?_
      refine Bs_if h (fun h hc12 => ?_) (fun h hc12 => ?_)
      · try refine sA ?_
        obtain ⟨hp13, h⟩ := guard_some h
        try refine sA ?_
        try refine andA ?_
        have he := Option.some.inj h
        subst he
        exact endsA ⟨[(4, (.os 0 1 0 ((g35.c0 ++ ([a1])).length) ((g35.c0 ++ ([a1])).length) false))], [(0, some (true, .arr false 1 ((g35.c0 ++ ([a1])).map eS)))], 1, 45⟩ [some 2]
      · try refine sA ?_
        have he := Option.some.inj h
        subst he
        exact endsA ⟨[(4, (.os 0 1 0 g35.c0.length g35.c0.length false))], [(0, some (true, .arr false 1 (g35.c0.map eS)))], 1, 45⟩ [some 0]
theorem w_spec_l12Names {a0 : (List ByteArray)} {a1 : Bool} {r : Bool} (h : spec_l12Names a0 a1 = some r) : Fn Tryd.prog 85 [(.lf true (.sl (a0.map eS))), (.lf false (.sc (.bool a1)))] [] 0 (.lf false (.sc (.bool r))) [] 0 := by
  unfold spec_l12Names at h
  refine fn_code tab_ok mixed [(1000, [(0, 0), (1, 0)]), (1001, [(0, 0), (1, 0), (9, 0), (10, 0), (11, 0)]), (1002, [(0, 0), (1, 0), (9, 0), (10, 0), (11, 0), (12, 0)]), (1003, [(0, 0), (1, 0), (5, 0), (6, 0), (9, 0), (10, 0), (11, 0)]), (1004, [(0, 0), (1, 0), (5, 0), (6, 0), (9, 0), (10, 0), (11, 0), (18, 0)]), (1005, [(4, 0)]), (1006, [(0, 0), (1, 0), (5, 0), (6, 0), (9, 0), (10, 0), (11, 0), (21, 0), (22, 0), (23, 0)]), (1007, [(0, 0), (1, 0), (5, 0), (6, 0), (9, 0), (10, 0), (11, 0), (21, 0), (22, 0), (23, 0), (24, 0)]), (1008, [(0, 0), (1, 0), (5, 0), (6, 0), (7, 0), (8, 0), (9, 0), (10, 0), (11, 0), (21, 0), (22, 0), (23, 0)]), (1009, [(0, 0), (1, 0), (5, 0), (6, 0), (9, 0), (10, 0), (11, 0), (21, 0), (22, 0), (23, 0), (44, 0)]), (1010, [(4, 0)]), (1011, [(0, 0), (1, 0), (5, 0), (6, 0), (9, 0), (10, 0), (11, 0), (21, 0), (22, 0), (23, 0)]), (1012, [(0, 0), (1, 0), (9, 0), (10, 0), (11, 0)]), (1013, [(4, 0)]), (4009, [])] Tryd.func85 rfl rfl (by simp [Tryd.f85]) (by kernel_rfl) ?_
  simp only [Tryd.f85]
  refine sA ?_
  obtain ⟨y58, hl1, h⟩ := bind_ok h
  refine W_loopP (fun g43 : spec_l12Names_G1 => ⟨[(0, (.lf true (.sl (a0.map eS)))), (1, (.lf false (.sc (.bool a1)))), (9, (.lf true (.sl (a0.map eS)))), (10, (.lf false (.sc (.int .i64 ((a0.length : Nat) : Int))))), (11, (.lf false (.sc (.int .i64 g43.t11))))], [], 0, 50⟩) (spec_l12Names_L1 a0 a1) _ _ hl1 (weakA []) ?_
  · intro n1 g43 z1 hs1 hk1
    unfold spec_l12Names_L1 at hs1
    try dsimp only at hs1
    refine sA ?_
    refine Bs_if hs1 (fun hs1 hc2 => ?_) (fun hs1 hc2 => ?_)
    · try refine sA ?_
      obtain ⟨hp3, hs1⟩ := guard_some hs1
      have hn3 : g43.t11.toNat < a0.length := by first | omega | (simp only [List.length_set, List.length_append, List.length_replicate, List.length_map]; omega)
      try refine sA ?_
      try refine andA ?_
      obtain ⟨c51, hr4, hs1⟩ := bind_ok hs1
      refine Cl_sA (w_spec_l1Name hr4) ?_
      try refine sA ?_
      refine Bs_if hs1 (fun hs1 hc5 => ?_) (fun hs1 hc5 => ?_)
      · try refine sA ?_
        cases hs1
        cases hk1
        try dsimp only at h
        try refine sA ?_
        have he := Option.some.inj h
        subst he
        exact endsA ⟨[(4, (.lf false (.sc (.bool false))))], [], 0, 50⟩ []
      · try refine sA ?_
        obtain ⟨hp6, hs1⟩ := guard_some hs1
        try refine sA ?_
        try refine andA ?_
        obtain ⟨y55, hl7, hs1⟩ := bind_ok hs1
        refine W_loopP (fun g52 : spec_l12Names_G2 => ⟨[(0, (.lf true (.sl (a0.map eS)))), (1, (.lf false (.sc (.bool a1)))), (5, (.lf false (.sc (.int .i64 g43.t11)))), (6, (.lf false (.sc (.string (nth a0 g43.t11.toNat))))), (9, (.lf true (.sl (a0.map eS)))), (10, (.lf false (.sc (.int .i64 ((a0.length : Nat) : Int))))), (11, (.lf false (.sc (.int .i64 g43.t11)))), (21, (.lf true (.sl ((a0.take g43.t11.toNat).map eS)))), (22, (.lf false (.sc (.int .i64 (((a0.take g43.t11.toNat).length : Nat) : Int))))), (23, (.lf false (.sc (.int .i64 g52.t23))))], [], 0, 50⟩) (spec_l12Names_L2 a0 g43 a1) _ _ hl7 (weakA []) ?_
        · intro n2 g52 z2 hs2 hk2
          unfold spec_l12Names_L2 at hs2
          try dsimp only at hs2
          refine sA ?_
          refine Bs_if hs2 (fun hs2 hc8 => ?_) (fun hs2 hc8 => ?_)
          · try refine sA ?_
            obtain ⟨hp9, hs2⟩ := guard_some hs2
            have hn9 : g52.t23.toNat < (a0.take g43.t11.toNat).length := by first | omega | (simp only [List.length_set, List.length_append, List.length_replicate, List.length_map]; omega)
            try refine sA ?_
            try refine andA ?_
            obtain ⟨p54, hq10, hs2⟩ := bind_ok hs2
            refine Sq_cut (fun s2 => s2 = ⟨[(0, (.lf true (.sl (a0.map eS)))), (1, (.lf false (.sc (.bool a1)))), (5, (.lf false (.sc (.int .i64 g43.t11)))), (6, (.lf false (.sc (.string (nth a0 g43.t11.toNat))))), (9, (.lf true (.sl (a0.map eS)))), (10, (.lf false (.sc (.int .i64 ((a0.length : Nat) : Int))))), (11, (.lf false (.sc (.int .i64 g43.t11)))), (21, (.lf true (.sl ((a0.take g43.t11.toNat).map eS)))), (22, (.lf false (.sc (.int .i64 (((a0.take g43.t11.toNat).length : Nat) : Int))))), (23, (.lf false (.sc (.int .i64 g52.t23)))), (44, (.lf false (.sc (.bool p54.t44))))], [], 0, 50⟩) ?_ ?_
            · try refine sA ?_
              refine Sp_if hq10 (fun hq10 hc11 => ?_) (fun hq10 hc11 => ?_)
              · try refine sA ?_
                cases hq10
                exact X_cut rfl (weakA [])
              · try refine sA ?_
                refine Sp_if hq10 (fun hq10 hc12 => ?_) (fun hq10 hc12 => ?_)
                · try refine sA ?_
                  refine Sp_if hq10 (fun hq10 hc13 => ?_) (fun hq10 hc13 => ?_)
                  · try refine sA ?_
                    cases hq10
                    exact X_cut rfl (weakA [])
                  · try refine sA ?_
                    cases hq10
                    exact X_cut rfl (weakA [])
                · try refine sA ?_
                  cases hq10
                  exact X_cut rfl (weakA [])
            · intro s2 hJ; subst hJ
              try dsimp only at hs2
              try refine sA ?_
              refine Bs_if hs2 (fun hs2 hc14 => ?_) (fun hs2 hc14 => ?_)
              · try refine sA ?_
                cases hs2
                cases hk2
                try dsimp only at hs1
                try refine sA ?_
                cases hs1
                cases hk1
                try dsimp only at h
                try refine sA ?_
                have he := Option.some.inj h
                subst he
                exact endsA ⟨[(4, (.lf false (.sc (.bool false))))], [], 0, 50⟩ []
              · try refine sA ?_
                cases hs2
                exact X_backP hk2 (weakA [])
          · try refine sA ?_
            cases hs2
            cases hk2
            try dsimp only at hs1
            try refine sA ?_
            cases hs1
            exact X_backP hk1 (weakA [])
    · try refine sA ?_
      cases hs1
      cases hk1
      try dsimp only at h
      try refine sA ?_
      have he := Option.some.inj h
      subst he
      exact endsA ⟨[(4, (.lf false (.sc (.bool (decide (((a0.length : Nat) : Int) ≤ 30))))))], [], 0, 50⟩ []
theorem w_spec_GoodState {a0 : StateT} {r : Bool} (h : spec_GoodState a0 = some r) : Fn Tryd.prog 32 [(.ag [(.lf false (.sc (.int .i64 a0.Status))), (.lf false (.sc (.int .i64 a0.Next))), (.lf false (.sc (.bool a0.Cancel))), (.lf false (.sc (.int .i64 a0.Done))), (.lf true (.sl (a0.Signals.map eS))), (.lf true (.sl (a0.Timers.map eS)))])] [] 0 (.lf false (.sc (.bool r))) [] 0 := by
  unfold spec_GoodState at h
  refine fn_code tab_ok mixed [(1000, [(1, 0)]), (1001, [(1, 0), (30, 0)]), (1002, [(2, 0)]), (1003, [(1, 0), (33, 0)]), (1004, [(2, 0)]), (1005, [(2, 0)]), (4001, [])] Tryd.func32 rfl rfl (by simp [Tryd.f32]) (by kernel_rfl) ?_
  simp only [Tryd.f32]
  refine sA ?_
  obtain ⟨p64, hq1, h⟩ := bind_ok h
  refine Sq_cut (fun s2 => s2 = ⟨[(1, (.pb 0 0)), (30, (.lf false (.sc (.bool p64.t30))))], [(0, some (true, .box [(.lf false (.sc (.int .i64 a0.Status))), (.lf false (.sc (.int .i64 a0.Next))), (.lf false (.sc (.bool a0.Cancel))), (.lf false (.sc (.int .i64 a0.Done))), (.lf true (.sl (a0.Signals.map eS))), (.lf true (.sl (a0.Timers.map eS)))]))], 1, 62⟩) ?_ ?_
  · try refine sA ?_
    obtain ⟨c41, hr2, hq1⟩ := bind_ok hq1
    refine Cl_sA (w_spec_l1In hr2) ?_
    try refine sA ?_
    refine Sp_if hq1 (fun hq1 hc3 => ?_) (fun hq1 hc3 => ?_)
    · try refine sA ?_
      cases hq1
      exact X_cut rfl (weakA [some 0])
    · try refine sA ?_
      obtain ⟨c42, hr4, hq1⟩ := bind_ok hq1
      refine Cl_sA (w_spec_l1In hr4) ?_
      try refine sA ?_
      refine Sp_if hq1 (fun hq1 hc5 => ?_) (fun hq1 hc5 => ?_)
      · try refine sA ?_
        cases hq1
        exact X_cut rfl (weakA [some 0])
      · try refine sA ?_
        obtain ⟨c61, hr6, hq1⟩ := bind_ok hq1
        refine Cl_sA (w_spec_l12Names hr6) ?_
        try refine sA ?_
        refine Sp_if hq1 (fun hq1 hc7 => ?_) (fun hq1 hc7 => ?_)
        · try refine sA ?_
          cases hq1
          exact X_cut rfl (weakA [some 0])
        · try refine sA ?_
          obtain ⟨c62, hr8, hq1⟩ := bind_ok hq1
          refine Cl_sA (w_spec_l12Names hr8) ?_
          try refine sA ?_
          refine Sp_if hq1 (fun hq1 hc9 => ?_) (fun hq1 hc9 => ?_)
          · try refine sA ?_
            cases hq1
            exact X_cut rfl (weakA [some 0])
          · try refine sA ?_
            obtain ⟨c63, hr10, hq1⟩ := bind_ok hq1
            refine Cl_sA (w_spec_l1In hr10) ?_
            try refine sA ?_
            cases hq1
            exact X_cut rfl (weakA [some 0])
  · intro s2 hJ; subst hJ
    try dsimp only at h
    try refine sA ?_
    refine Bs_if h (fun h hc11 => ?_) (fun h hc11 => ?_)
    · try refine sA ?_
      have he := Option.some.inj h
      subst he
      exact endsA ⟨[(2, (.lf false (.sc (.bool false))))], [], 0, 62⟩ []
    · try refine sA ?_
      refine Bs_if h (fun h hc12 => ?_) (fun h hc12 => ?_)
      · try refine sA ?_
        refine Sp_if h (fun h hc13 => ?_) (fun h hc13 => ?_)
        · try refine sA ?_
          refine Sp_if h (fun h hc14 => ?_) (fun h hc14 => ?_)
          · try refine sA ?_
            refine Sp_if h (fun h hc15 => ?_) (fun h hc15 => ?_)
            · try refine sA ?_
              refine Sp_if h (fun h hc16 => ?_) (fun h hc16 => ?_)
              · try refine sA ?_
                have he := Option.some.inj h
                subst he
                exact endsA ⟨[(2, (.lf false (.sc (.bool (((a0.Timers.length : Nat) : Int) == 0)))))], [], 0, 62⟩ []
              · try refine sA ?_
                have he := Option.some.inj h
                subst he
                exact endsA ⟨[(2, (.lf false (.sc (.bool false))))], [], 0, 62⟩ []
            · try refine sA ?_
              have he := Option.some.inj h
              subst he
              exact endsA ⟨[(2, (.lf false (.sc (.bool false))))], [], 0, 62⟩ []
          · try refine sA ?_
            have he := Option.some.inj h
            subst he
            exact endsA ⟨[(2, (.lf false (.sc (.bool false))))], [], 0, 62⟩ []
        · try refine sA ?_
          have he := Option.some.inj h
          subst he
          exact endsA ⟨[(2, (.lf false (.sc (.bool false))))], [], 0, 62⟩ []
      · try refine sA ?_
        have he := Option.some.inj h
        subst he
        exact endsA ⟨[(2, (.lf false (.sc (.bool (decide (a0.Next > 1))))))], [], 0, 62⟩ []
theorem w_spec_l12Apply {a0 : StateT} {a1 : EventT} {r : (StateT × Bool)} (h : spec_l12Apply a0 a1 = some r) : Fn Tryd.prog 79 [(.ag [(.lf false (.sc (.int .i64 a0.Status))), (.lf false (.sc (.int .i64 a0.Next))), (.lf false (.sc (.bool a0.Cancel))), (.lf false (.sc (.int .i64 a0.Done))), (.lf true (.sl (a0.Signals.map eS))), (.lf true (.sl (a0.Timers.map eS)))]), (.ag [(.lf false (.sc (.int .i64 a1.Id))), (.lf false (.sc (.int .i64 a1.Version))), (.lf false (.sc (.int .i64 a1.Kind))), (.lf false (.sc (.string a1.Name)))])] [] 0 (.tu [(.ag [(.lf false (.sc (.int .i64 r.1.Status))), (.lf false (.sc (.int .i64 r.1.Next))), (.lf false (.sc (.bool r.1.Cancel))), (.lf false (.sc (.int .i64 r.1.Done))), (.lf true (.sl (r.1.Signals.map eS))), (.lf true (.sl (r.1.Timers.map eS)))]), (.lf false (.sc (.bool r.2)))]) [] 1 := by
  unfold spec_l12Apply at h
  refine fn_code tab_ok mixed [(22, [(0, 2)]), (1000, [(2, 0), (3, 0), (4, 0)]), (1001, [(2, 0), (3, 0), (4, 0), (29, 0)]), (1002, [(4, 0), (5, 0)]), (1003, [(2, 0), (3, 0), (4, 0)]), (1004, [(2, 0), (3, 0), (4, 0), (34, 0)]), (1005, [(2, 0), (4, 0)]), (1006, [(2, 0), (4, 0)]), (1007, [(2, 0), (3, 0), (4, 0), (34, 0), (37, 0)]), (1008, [(2, 0), (4, 0)]), (1009, [(2, 0), (3, 0), (4, 0), (34, 0), (40, 0)]), (1010, [(2, 0), (3, 0), (4, 0), (53, 0)]), (1011, [(4, 0), (5, 0)]), (1012, [(2, 0), (4, 0)]), (1013, [(2, 0), (3, 0), (4, 0), (34, 0), (62, 0)]), (1014, [(2, 0), (4, 0)]), (1015, [(2, 0), (3, 0), (4, 0), (34, 0), (68, 0)]), (1016, [(2, 0), (4, 0)]), (1017, [(2, 0), (4, 0), (76, 0)]), (1018, [(2, 0), (4, 0), (79, 0)]), (1019, [(4, 0), (5, 0)]), (1020, [(2, 0), (4, 0)]), (1021, [(2, 0), (4, 0)]), (1022, [(4, 0), (5, 0)]), (3000, []), (4001, []), (4010, [])] Tryd.func79 rfl rfl (by simp [Tryd.f79]) (by kernel_rfl) ?_
  simp only [Tryd.f79]
  refine sA ?_
  obtain ⟨p26, hq1, h⟩ := bind_ok h
  refine Sq_cut (fun s2 => s2 = ⟨[(2, (.pb 0 0)), (3, (.pb 1 0)), (4, (.pb 2 0)), (29, (.lf false (.sc (.bool p26.t29))))], [(0, some (true, .box [(.lf false (.sc (.int .i64 a0.Status))), (.lf false (.sc (.int .i64 a0.Next))), (.lf false (.sc (.bool a0.Cancel))), (.lf false (.sc (.int .i64 a0.Done))), (.lf true (.sl (a0.Signals.map eS))), (.lf true (.sl (a0.Timers.map eS)))])), (1, some (true, .box [(.lf false (.sc (.int .i64 a1.Id))), (.lf false (.sc (.int .i64 a1.Version))), (.lf false (.sc (.int .i64 a1.Kind))), (.lf false (.sc (.string a1.Name)))])), (2, some (true, .box [(.lf false (.sc (.int .i64 0))), (.lf false (.sc (.int .i64 0))), (.lf false (.sc (.bool false))), (.lf false (.sc (.int .i64 0))), .nl, .nl]))], 3, 89⟩) ?_ ?_
  · try refine sA ?_
    obtain ⟨c25, hr2, hq1⟩ := bind_ok hq1
    refine Cl_sA (w_spec_GoodEvent hr2) ?_
    try refine sA ?_
    refine Sp_if hq1 (fun hq1 hc3 => ?_) (fun hq1 hc3 => ?_)
    · try refine sA ?_
      cases hq1
      exact X_cut rfl (weakA [some 0, some 1, some 2])
    · try refine sA ?_
      refine Sp_if hq1 (fun hq1 hc4 => ?_) (fun hq1 hc4 => ?_)
      · try refine sA ?_
        cases hq1
        exact X_cut rfl (weakA [some 0, some 1, some 2])
      · try refine sA ?_
        refine Sp_if hq1 (fun hq1 hc5 => ?_) (fun hq1 hc5 => ?_)
        · try refine sA ?_
          cases hq1
          exact X_cut rfl (weakA [some 0, some 1, some 2])
        · try refine sA ?_
          cases hq1
          exact X_cut rfl (weakA [some 0, some 1, some 2])
  · intro s2 hJ; subst hJ
    try dsimp only at h
    try refine sA ?_
    refine Bs_if h (fun h hc6 => ?_) (fun h hc6 => ?_)
    · try refine sA ?_
      have he := Option.some.inj h
      subst he
      exact endsA ⟨[(4, (.pb 0 0)), (5, (.lf false (.sc (.bool false))))], [(0, some (true, .box [(.lf false (.sc (.int .i64 a0.Status))), (.lf false (.sc (.int .i64 a0.Next))), (.lf false (.sc (.bool a0.Cancel))), (.lf false (.sc (.int .i64 a0.Done))), (.lf true (.sl (a0.Signals.map eS))), (.lf true (.sl (a0.Timers.map eS)))]))], 1, 89⟩ [some 2]
    · try refine sA ?_
      obtain ⟨c27, hr7, h⟩ := bind_ok h
      refine Cl_sA (w_spec_l12Own hr7) ?_
      try refine sA ?_
      obtain ⟨q8, hq8, h⟩ := bind_ok h
      refine Sq_cut (fun s2 => ∃ p40 : spec_l12Apply_J3000, q8 = .inl p40 ∧ s2 = ⟨[(2, (.pb 0 0)), (4, (.pb 1 0))], [(0, some (true, .box [(.lf false (.sc (.int .i64 p40.b0_0))), (.lf false (.sc (.int .i64 c27.Next))), (.lf false (.sc (.bool p40.b0_2))), (.lf false (.sc (.int .i64 p40.b0_3))), (.os 2 1 0 p40.c2.length p40.c2.length false), (.os 3 1 0 p40.c3.length p40.c3.length false)])), (1, some (true, .box [(.lf false (.sc (.int .i64 0))), (.lf false (.sc (.int .i64 0))), (.lf false (.sc (.bool false))), (.lf false (.sc (.int .i64 0))), .nl, .nl])), (2, some (true, .arr false 1 (p40.c2.map eS))), (3, some (true, .arr false 1 (p40.c3.map eS)))], 4, 89⟩) ?_ ?_
      · try refine sA ?_
        refine Bs_if hq8 (fun hq8 hc9 => ?_) (fun hq8 hc9 => ?_)
        · try refine sA ?_
          cases hq8
          exact X_cut ⟨_, rfl, rfl⟩ (weakA [some 0, some 2, some 3, some 4])
        · try refine sA ?_
          refine Bs_if hq8 (fun hq8 hc10 => ?_) (fun hq8 hc10 => ?_)
          · try refine sA ?_
            obtain ⟨p33, hq11, hq8⟩ := bind_ok hq8
            refine Sq_cut (fun s2 => s2 = ⟨[(2, (.pb 0 0)), (3, (.pb 1 0)), (4, (.pb 2 0)), (53, (.lf false (.sc (.bool p33.t53))))], [(0, some (true, .box [(.lf false (.sc (.int .i64 c27.Status))), (.lf false (.sc (.int .i64 c27.Next))), (.lf false (.sc (.bool c27.Cancel))), (.lf false (.sc (.int .i64 c27.Done))), (.os 3 1 0 c27.Signals.length c27.Signals.length false), (.os 4 1 0 c27.Timers.length c27.Timers.length false)])), (1, some (true, .box [(.lf false (.sc (.int .i64 a1.Id))), (.lf false (.sc (.int .i64 a1.Version))), (.lf false (.sc (.int .i64 a1.Kind))), (.lf false (.sc (.string a1.Name)))])), (2, some (true, .box [(.lf false (.sc (.int .i64 0))), (.lf false (.sc (.int .i64 0))), (.lf false (.sc (.bool false))), (.lf false (.sc (.int .i64 0))), .nl, .nl])), (3, some (true, .arr false 1 (c27.Signals.map eS))), (4, some (true, .arr false 1 (c27.Timers.map eS)))], 5, 89⟩) ?_ ?_
            · try refine sA ?_
              obtain ⟨c32, hr12, hq11⟩ := bind_ok hq11
              refine Cl_sA (w_spec_l12At hr12) ?_
              try refine sA ?_
              refine Sp_if hq11 (fun hq11 hc13 => ?_) (fun hq11 hc13 => ?_)
              · try refine sA ?_
                cases hq11
                exact X_cut rfl (weakA [some 0, some 1, some 2, some 3, some 4])
              · try refine sA ?_
                cases hq11
                exact X_cut rfl (weakA [some 0, some 1, some 2, some 3, some 4])
            · intro s2 hJ; subst hJ
              try dsimp only at hq8
              try refine sA ?_
              refine Bs_if hq8 (fun hq8 hc14 => ?_) (fun hq8 hc14 => ?_)
              · try refine sA ?_
                cases hq8
                try dsimp only at h
                have he := Option.some.inj h
                subst he
                refine ends_frz 3 ?_
                refine ends_frz 4 ?_
                try refine sA ?_
                exact endsA ⟨[(4, (.pb 0 0)), (5, (.lf false (.sc (.bool false))))], [(0, some (true, .box [(.lf false (.sc (.int .i64 c27.Status))), (.lf false (.sc (.int .i64 c27.Next))), (.lf false (.sc (.bool c27.Cancel))), (.lf false (.sc (.int .i64 c27.Done))), (.lf true (.sl (c27.Signals.map eS))), (.lf true (.sl (c27.Timers.map eS)))]))], 1, 89⟩ [some 2]
              · try refine sA ?_
                obtain ⟨hp15, hq8⟩ := guard_some hq8
                try refine sA ?_
                try refine andA ?_
                cases hq8
                exact X_cut ⟨_, rfl, rfl⟩ (weakA [some 0, some 2, some 6, some 4])
          · try refine sA ?_
            refine Bs_if hq8 (fun hq8 hc16 => ?_) (fun hq8 hc16 => ?_)
            · try refine sA ?_
              cases hq8
              exact X_cut ⟨_, rfl, rfl⟩ (weakA [some 0, some 2, some 3, some 4])
            · try refine sA ?_
              refine Bs_if hq8 (fun hq8 hc17 => ?_) (fun hq8 hc17 => ?_)
              · try refine sA ?_
                obtain ⟨c39, hr18, hq8⟩ := bind_ok hq8
                refine Cl_sA (w_spec_l12Timer hr18) ?_
                try refine sA ?_
                cases hq8
                exact X_cut ⟨_, rfl, rfl⟩ (weakA [some 0, some 2, some 3, some 6])
              · try refine sA ?_
                refine Bs_if hq8 (fun hq8 hc19 => ?_) (fun hq8 hc19 => ?_)
                · try refine sA ?_
                  refine Bs_if hq8 (fun hq8 hc20 => ?_) (fun hq8 hc20 => ?_)
                  · try refine sA ?_
                    cases hq8
                    try dsimp only at h
                    have he := Option.some.inj h
                    subst he
                    refine ends_frz 3 ?_
                    refine ends_frz 4 ?_
                    try refine sA ?_
                    exact endsA ⟨[(4, (.pb 0 0)), (5, (.lf false (.sc (.bool false))))], [(0, some (true, .box [(.lf false (.sc (.int .i64 c27.Status))), (.lf false (.sc (.int .i64 c27.Next))), (.lf false (.sc (.bool c27.Cancel))), (.lf false (.sc (.int .i64 c27.Done))), (.lf true (.sl (c27.Signals.map eS))), (.lf true (.sl (c27.Timers.map eS)))]))], 1, 89⟩ [some 2]
                  · try refine sA ?_
                    cases hq8
                    exact X_cut ⟨_, rfl, rfl⟩ (weakA [some 0, some 2, some 3, some 4])
                · try refine sA ?_
                  cases hq8
                  exact X_cut ⟨_, rfl, rfl⟩ (weakA [some 0, some 2, some 3, none])
      · intro s2 hJ; obtain ⟨p40, e, rfl⟩ := hJ; subst e
        try dsimp only at h
        try refine sA ?_
        obtain ⟨c65, hr21, h⟩ := bind_ok h
        refine Cl_sA (w_spec_GoodState hr21) ?_
        try refine sA ?_
        have he := Option.some.inj h
        subst he
        refine ends_frz 2 ?_
        refine ends_frz 3 ?_
        try refine sA ?_
        exact endsA ⟨[(4, (.pb 0 0)), (5, (.lf false (.sc (.bool c65))))], [(0, some (true, .box [(.lf false (.sc (.int .i64 p40.b0_0))), (.lf false (.sc (.int .i64 (wI (c27.Next + 1))))), (.lf false (.sc (.bool p40.b0_2))), (.lf false (.sc (.int .i64 p40.b0_3))), (.lf true (.sl (p40.c2.map eS))), (.lf true (.sl (p40.c3.map eS)))]))], 1, 89⟩ [some 1]
theorem w_spec_l12Fold_w {a0 : (List EventT)} {m0 : Nat} {x0 : Bool} {r : (StateT × Int)} (h : spec_l12Fold_w a0 = some r) : Fn Tryd.prog 69 [(.os 0 4 0 a0.length m0 x0)] [(0, some (false, .arr true 4 (a0.map eEvent)))] 1 (.tu [(.ag [(.lf false (.sc (.int .i64 r.1.Status))), (.lf false (.sc (.int .i64 r.1.Next))), (.lf false (.sc (.bool r.1.Cancel))), (.lf false (.sc (.int .i64 r.1.Done))), (.lf true (.sl (r.1.Signals.map eS))), (.lf true (.sl (r.1.Timers.map eS)))]), (.lf false (.sc (.int .i64 r.2)))]) [(0, some (false, .arr false 4 (a0.map eEvent)))] 2 := by
  unfold spec_l12Fold_w at h
  refine fn_code tab_ok mixed [(1000, [(0, 0), (2, 0)]), (1001, [(0, 0), (2, 0), (4, 0)]), (1002, [(0, 0), (2, 0), (4, 0), (10, 0), (11, 0), (12, 0)]), (1003, [(0, 0), (2, 0), (4, 0), (10, 0), (11, 0), (12, 0), (13, 0)]), (1004, [(0, 0), (2, 0), (4, 0), (5, 0), (6, 0), (10, 0), (11, 0), (12, 0)]), (1005, [(0, 0), (2, 0), (4, 0), (5, 0), (7, 0), (8, 0), (10, 0), (11, 0), (12, 0)]), (1006, [(0, 0), (2, 0), (4, 0), (5, 0), (7, 0), (10, 0), (11, 0), (12, 0), (24, 0)]), (1007, [(2, 0), (3, 0)]), (1008, [(0, 0), (2, 0), (4, 0), (10, 0), (11, 0), (12, 0)]), (1009, [(0, 0), (2, 0), (4, 0), (10, 0), (11, 0), (12, 0)]), (1010, [(2, 0), (3, 0)])] Tryd.func69 rfl rfl (by simp [Tryd.f69]) (by kernel_rfl) ?_
  simp only [Tryd.f69]
  refine sA ?_
  obtain ⟨c72, hr1, h⟩ := bind_ok h
  refine Cl_sA (w_spec_NewState hr1) ?_
  try refine sA ?_
  obtain ⟨y76, hl2, h⟩ := bind_ok h
  refine W_loopP (fun g73 : spec_l12Fold_w_G1 => ⟨[(0, (.os 0 4 0 a0.length m0 x0)), (2, (.pb 1 0)), (4, (.pb 2 0)), (10, (.os 0 4 0 a0.length m0 x0)), (11, (.lf false (.sc (.int .i64 ((a0.length : Nat) : Int))))), (12, (.lf false (.sc (.int .i64 g73.t12))))], [(0, some (false, .arr true 4 (a0.map eEvent))), (1, some (true, .box [(.lf false (.sc (.int .i64 0))), (.lf false (.sc (.int .i64 0))), (.lf false (.sc (.bool false))), (.lf false (.sc (.int .i64 0))), .nl, .nl])), (2, some (true, .box [(.lf false (.sc (.int .i64 g73.b2_0))), (.lf false (.sc (.int .i64 g73.b2_1))), (.lf false (.sc (.bool g73.b2_2))), (.lf false (.sc (.int .i64 g73.b2_3))), (.lf true (.sl (g73.b2_4.map eS))), (.lf true (.sl (g73.b2_5.map eS)))]))], 3, 32⟩) (spec_l12Fold_w_L1 a0) _ _ hl2 (weakA [some 0, some 1, some 3]) ?_
  · intro n1 g73 z1 hs1 hk1
    unfold spec_l12Fold_w_L1 at hs1
    try dsimp only at hs1
    refine sA ?_
    refine Bs_if hs1 (fun hs1 hc3 => ?_) (fun hs1 hc3 => ?_)
    · try refine sA ?_
      obtain ⟨hp4, hs1⟩ := guard_some hs1
      have hn4 : g73.t12.toNat < a0.length := by first | omega | (simp only [List.length_set, List.length_append, List.length_replicate, List.length_map]; omega)
      try refine sA ?_
      try refine andA ?_
      try refine andB ?_
      try refine sA ?_
      obtain ⟨c75, hr6, hs1⟩ := bind_ok hs1
      refine Cl_sA (w_spec_l12Apply hr6) ?_
      try refine sA ?_
      refine Bs_if hs1 (fun hs1 hc7 => ?_) (fun hs1 hc7 => ?_)
      · try refine sA ?_
        cases hs1
        cases hk1
        try dsimp only at h
        try refine sA ?_
        have he := Option.some.inj h
        subst he
        exact endsA ⟨[(2, (.pb 1 0)), (3, (.lf false (.sc (.int .i64 g73.t12))))], [(0, some (false, .arr false 4 (a0.map eEvent))), (1, some (true, .box [(.lf false (.sc (.int .i64 g73.b2_0))), (.lf false (.sc (.int .i64 g73.b2_1))), (.lf false (.sc (.bool g73.b2_2))), (.lf false (.sc (.int .i64 g73.b2_3))), (.lf true (.sl (g73.b2_4.map eS))), (.lf true (.sl (g73.b2_5.map eS)))]))], 2, 32⟩ [some 0, some 1]
      · try refine sA ?_
        cases hs1
        exact X_backP hk1 (weakA [some 0, some 1, some 2])
    · try refine sA ?_
      cases hs1
      cases hk1
      try dsimp only at h
      try refine sA ?_
      have he := Option.some.inj h
      subst he
      exact endsA ⟨[(2, (.pb 1 0)), (3, (.lf false (.sc (.int .i64 ((a0.length : Nat) : Int)))))], [(0, some (false, .arr false 4 (a0.map eEvent))), (1, some (true, .box [(.lf false (.sc (.int .i64 g73.b2_0))), (.lf false (.sc (.int .i64 g73.b2_1))), (.lf false (.sc (.bool g73.b2_2))), (.lf false (.sc (.int .i64 g73.b2_3))), (.lf true (.sl (g73.b2_4.map eS))), (.lf true (.sl (g73.b2_5.map eS)))]))], 2, 32⟩ [some 0, some 1]
theorem w_spec_FoldEvents_w {a0 : (List EventT)} {m0 : Nat} {x0 : Bool} {r : (StateT × Int)} (h : spec_FoldEvents_w a0 = some r) : Fn Tryd.prog 22 [(.os 0 4 0 a0.length m0 x0)] [(0, some (false, .arr true 4 (a0.map eEvent)))] 1 (.tu [(.ag [(.lf false (.sc (.int .i64 r.1.Status))), (.lf false (.sc (.int .i64 r.1.Next))), (.lf false (.sc (.bool r.1.Cancel))), (.lf false (.sc (.int .i64 r.1.Done))), (.lf true (.sl (r.1.Signals.map eS))), (.lf true (.sl (r.1.Timers.map eS)))]), (.lf false (.sc (.int .i64 r.2)))]) [(0, some (false, .arr false 4 (a0.map eEvent)))] 2 := by
  unfold spec_FoldEvents_w at h
  refine fn_code tab_ok mixed [] Tryd.func22 rfl rfl (by simp [Tryd.f22]) (by kernel_rfl) ?_
  simp only [Tryd.f22]
  refine sA ?_
  obtain ⟨c79, hr1, h⟩ := bind_ok h
  refine Cl_hA [0] (w_spec_l12Fold_w hr1) ?_
  try refine sA ?_
  have he := Option.some.inj h
  subst he
  exact endsA ⟨[(2, (.pb 1 0)), (3, (.lf false (.sc (.int .i64 c79.2))))], [(0, some (false, .arr false 4 (a0.map eEvent))), (1, some (true, .box [(.lf false (.sc (.int .i64 c79.1.Status))), (.lf false (.sc (.int .i64 c79.1.Next))), (.lf false (.sc (.bool c79.1.Cancel))), (.lf false (.sc (.int .i64 c79.1.Done))), (.lf true (.sl (c79.1.Signals.map eS))), (.lf true (.sl (c79.1.Timers.map eS)))]))], 2, 8⟩ [some 0, some 1]
theorem w_impl_NewState {r : StateT} (h : impl_NewState = some r) : Fn Tryd.prog 38 [] [] 0 (.ag [(.lf false (.sc (.int .i64 r.Status))), (.lf false (.sc (.int .i64 r.Next))), (.lf false (.sc (.bool r.Cancel))), (.lf false (.sc (.int .i64 r.Done))), .nl, .nl]) [] 1 := by
  unfold impl_NewState at h
  refine fn_code tab_ok mixed [] Tryd.func38 rfl rfl (by simp [Tryd.f38]) (by kernel_rfl) ?_
  simp only [Tryd.f38]
  refine sA ?_
  have he := Option.some.inj h
  subst he
  exact endsA ⟨[(0, (.pb 0 0))], [(0, some (true, .box [(.lf false (.sc (.int .i64 0))), (.lf false (.sc (.int .i64 1))), (.lf false (.sc (.bool false))), (.lf false (.sc (.int .i64 0))), .nl, .nl]))], 1, 2⟩ [some 0]
theorem w_impl_in {a0 : Int} {a1 : Int} {a2 : Int} {r : Bool} (h : impl_in a0 a1 a2 = some r) : Fn Tryd.prog 80 [(.lf false (.sc (.int .i64 a0))), (.lf false (.sc (.int .i64 a1))), (.lf false (.sc (.int .i64 a2)))] [] 0 (.lf false (.sc (.bool r))) [] 0 := by
  unfold impl_in at h
  refine fn_code tab_ok mixed [] Tryd.func80 rfl rfl (by simp [Tryd.f80]) (by kernel_rfl) ?_
  simp only [Tryd.f80]
  refine sA ?_
  refine Sp_if h (fun h hc1 => ?_) (fun h hc1 => ?_)
  · try refine sA ?_
    have he := Option.some.inj h
    subst he
    exact endsA ⟨[(6, (.lf false (.sc (.bool (decide (a0 ≤ a2))))))], [], 0, 15⟩ []
  · try refine sA ?_
    have he := Option.some.inj h
    subst he
    exact endsA ⟨[(6, (.lf false (.sc (.bool false))))], [], 0, 15⟩ []
theorem w_strings_Trim {a0 a1 : ByteArray} {r : ByteArray} (h : strings_Trim a0 a1 = some r) : Fn Tryd.prog 129 [.lf false (.sc (.string a0)), .lf false (.sc (.string a1))] [] 0 (.lf false (.sc (.string r))) [] 0 := by
  unfold strings_Trim at h
  obtain ⟨⟨hp1, hp2, hp3⟩, h⟩ := guard_some h
  have he := Option.some.inj h; subst he
  exact fn_str2 (Ent.of Tryd.func129 rfl (by simp [Tryd.f129])) fun w => Go.Proofs.Any.strings_Trim_laid Go.Proofs.Tryd.lays160 (by kernel_rfl) a0 a1 w hp1 hp2 (ascii_of_all hp3)
theorem w_impl_goodName {a0 : ByteArray} {r : Bool} (h : impl_goodName a0 = some r) : Fn Tryd.prog 88 [(.lf false (.sc (.string a0)))] [] 0 (.lf false (.sc (.bool r))) [] 0 := by
  unfold impl_goodName at h
  refine fn_code tab_ok mixed [] Tryd.func88 rfl rfl (by simp [Tryd.f88]) (by kernel_rfl) ?_
  simp only [Tryd.f88]
  refine sA ?_
  refine Sp_if h (fun h hc1 => ?_) (fun h hc1 => ?_)
  · try refine sA ?_
    obtain ⟨c89, hr2, h⟩ := bind_ok h
    refine Cl_sA (w_strings_Trim hr2) ?_
    try refine sA ?_
    have he := Option.some.inj h
    subst he
    exact endsA ⟨[(2, (.lf false (.sc (.bool (c89.toList == ByteArray.empty.toList)))))], [], 0, 11⟩ []
  · try refine sA ?_
    have he := Option.some.inj h
    subst he
    exact endsA ⟨[(2, (.lf false (.sc (.bool false))))], [], 0, 11⟩ []
theorem w_impl_namesOk_c1 {a0 : ByteArray} {r : Bool} (h : impl_namesOk_c1 a0 = some r) : Fn Tryd.prog 127 [(.lf false (.sc (.string a0)))] [] 0 (.lf false (.sc (.bool r))) [] 0 := by
  unfold impl_namesOk_c1 at h
  refine fn_code tab_ok mixed [] Tryd.func127 rfl rfl (by simp [Tryd.f127]) (by kernel_rfl) ?_
  simp only [Tryd.f127]
  refine sA ?_
  obtain ⟨c90, hr1, h⟩ := bind_ok h
  refine Cl_sA (w_impl_goodName hr1) ?_
  try refine sA ?_
  have he := Option.some.inj h
  subst he
  exact endsA ⟨[(2, (.lf false (.sc (.bool (!c90)))))], [], 0, 6⟩ []
theorem w_slices_IndexFunc_string_impl_namesOk_c1 {a0 : (List ByteArray)} {r : Int} (h : slices_IndexFunc_string_impl_namesOk_c1 a0 = some r) : Fn Tryd.prog 150 [(.lf true (.sl (a0.map eS))), (.fn 127 [])] [] 0 (.lf false (.sc (.int .i64 r))) [] 0 := by
  unfold slices_IndexFunc_string_impl_namesOk_c1 at h
  refine fn_code tab_ok mixed [(1000, [(0, 0), (1, 0)]), (1001, [(0, 0), (1, 0), (7, 0), (8, 0)]), (1002, [(0, 0), (1, 0), (7, 0), (8, 0), (9, 0)]), (1003, [(0, 0), (1, 0), (5, 0), (7, 0), (8, 0)]), (1004, [(0, 0), (1, 0), (5, 0), (7, 0), (8, 0), (16, 0)]), (1005, [(4, 0)]), (1006, [(0, 0), (1, 0), (7, 0), (8, 0)]), (1007, [(4, 0)])] Tryd.func150 rfl rfl (by simp [Tryd.f150]) (by kernel_rfl) ?_
  simp only [Tryd.f150]
  refine sA ?_
  obtain ⟨y93, hl1, h⟩ := bind_ok h
  refine W_loopP (fun g88 : slices_IndexFunc_string_impl_namesOk_c1_G1 => ⟨[(0, (.lf true (.sl (a0.map eS)))), (1, (.fn 127 [])), (7, (.lf false (.sc (.int .i64 ((a0.length : Nat) : Int))))), (8, (.lf false (.sc (.int .i64 g88.t8))))], [], 0, 19⟩) (slices_IndexFunc_string_impl_namesOk_c1_L1 a0) _ _ hl1 (weakA []) ?_
  · intro n1 g88 z1 hs1 hk1
    unfold slices_IndexFunc_string_impl_namesOk_c1_L1 at hs1
    try dsimp only at hs1
    refine sA ?_
    refine Bs_if hs1 (fun hs1 hc2 => ?_) (fun hs1 hc2 => ?_)
    · try refine sA ?_
      obtain ⟨hp3, hs1⟩ := guard_some hs1
      have hn3 : g88.t8.toNat < a0.length := by first | omega | (simp only [List.length_set, List.length_append, List.length_replicate, List.length_map]; omega)
      try refine sA ?_
      try refine andA ?_
      obtain ⟨c92, hr4, hs1⟩ := bind_ok hs1
      refine Cl_sA (w_impl_namesOk_c1 hr4) ?_
      try refine sA ?_
      refine Bs_if hs1 (fun hs1 hc5 => ?_) (fun hs1 hc5 => ?_)
      · try refine sA ?_
        cases hs1
        cases hk1
        try dsimp only at h
        try refine sA ?_
        have he := Option.some.inj h
        subst he
        exact endsA ⟨[(4, (.lf false (.sc (.int .i64 g88.t8))))], [], 0, 19⟩ []
      · try refine sA ?_
        cases hs1
        exact X_backP hk1 (weakA [])
    · try refine sA ?_
      cases hs1
      cases hk1
      try dsimp only at h
      try refine sA ?_
      have he := Option.some.inj h
      subst he
      exact endsA ⟨[(4, (.lf false (.sc (.int .i64 (-1)))))], [], 0, 19⟩ []
theorem w_slices_ContainsFunc_string_impl_namesOk_c1 {a0 : (List ByteArray)} {r : Bool} (h : slices_ContainsFunc_string_impl_namesOk_c1 a0 = some r) : Fn Tryd.prog 126 [(.lf true (.sl (a0.map eS))), (.fn 127 [])] [] 0 (.lf false (.sc (.bool r))) [] 0 := by
  unfold slices_ContainsFunc_string_impl_namesOk_c1 at h
  refine fn_code tab_ok mixed [] Tryd.func126 rfl rfl (by simp [Tryd.f126]) (by kernel_rfl) ?_
  simp only [Tryd.f126]
  refine sA ?_
  obtain ⟨c96, hr1, h⟩ := bind_ok h
  refine Cl_sA (w_slices_IndexFunc_string_impl_namesOk_c1 hr1) ?_
  try refine sA ?_
  have he := Option.some.inj h
  subst he
  exact endsA ⟨[(4, (.lf false (.sc (.bool (decide (c96 ≥ 0))))))], [], 0, 9⟩ []
theorem w_impl_namesOk {a0 : (List ByteArray)} {a1 : Int} {r : Bool} (h : impl_namesOk a0 a1 = some r) : Fn Tryd.prog 81 [(.lf true (.sl (a0.map eS))), (.lf false (.sc (.int .i64 a1)))] [] 0 (.lf false (.sc (.bool r))) [] 0 := by
  unfold impl_namesOk at h
  refine fn_code tab_ok mixed [] Tryd.func81 rfl rfl (by simp [Tryd.f81]) (by kernel_rfl) ?_
  simp only [Tryd.f81]
  refine sA ?_
  refine Sp_if h (fun h hc1 => ?_) (fun h hc1 => ?_)
  · try refine sA ?_
    obtain ⟨c97, hr2, h⟩ := bind_ok h
    refine Cl_sA (w_slices_ContainsFunc_string_impl_namesOk_c1 hr2) ?_
    try refine sA ?_
    have he := Option.some.inj h
    subst he
    exact endsA ⟨[(4, (.lf false (.sc (.bool (!c97)))))], [], 0, 14⟩ []
  · try refine sA ?_
    have he := Option.some.inj h
    subst he
    exact endsA ⟨[(4, (.lf false (.sc (.bool false))))], [], 0, 14⟩ []
theorem w_slices_Index_string {a0 : (List ByteArray)} {a1 : ByteArray} {r : Int} (h : slices_Index_string a0 a1 = some r) : Fn Tryd.prog 146 [(.lf true (.sl (a0.map eS))), (.lf false (.sc (.string a1)))] [] 0 (.lf false (.sc (.int .i64 r))) [] 0 := by
  unfold slices_Index_string at h
  refine fn_code tab_ok mixed [(1000, [(0, 0), (1, 0)]), (1001, [(0, 0), (1, 0), (7, 0), (8, 0)]), (1002, [(0, 0), (1, 0), (7, 0), (8, 0), (9, 0)]), (1003, [(0, 0), (1, 0), (5, 0), (7, 0), (8, 0)]), (1004, [(0, 0), (1, 0), (5, 0), (7, 0), (8, 0), (16, 0)]), (1005, [(4, 0)]), (1006, [(0, 0), (1, 0), (7, 0), (8, 0)]), (1007, [(4, 0)])] Tryd.func146 rfl rfl (by simp [Tryd.f146]) (by kernel_rfl) ?_
  simp only [Tryd.f146]
  refine sA ?_
  obtain ⟨y101, hl1, h⟩ := bind_ok h
  refine W_loopP (fun g100 : slices_Index_string_G1 => ⟨[(0, (.lf true (.sl (a0.map eS)))), (1, (.lf false (.sc (.string a1)))), (7, (.lf false (.sc (.int .i64 ((a0.length : Nat) : Int))))), (8, (.lf false (.sc (.int .i64 g100.t8))))], [], 0, 19⟩) (slices_Index_string_L1 a0 a1) _ _ hl1 (weakA []) ?_
  · intro n1 g100 z1 hs1 hk1
    unfold slices_Index_string_L1 at hs1
    try dsimp only at hs1
    refine sA ?_
    refine Bs_if hs1 (fun hs1 hc2 => ?_) (fun hs1 hc2 => ?_)
    · try refine sA ?_
      obtain ⟨hp3, hs1⟩ := guard_some hs1
      have hn3 : g100.t8.toNat < a0.length := by first | omega | (simp only [List.length_set, List.length_append, List.length_replicate, List.length_map]; omega)
      try refine sA ?_
      try refine andA ?_
      refine Bs_if hs1 (fun hs1 hc4 => ?_) (fun hs1 hc4 => ?_)
      · try refine sA ?_
        cases hs1
        cases hk1
        try dsimp only at h
        try refine sA ?_
        have he := Option.some.inj h
        subst he
        exact endsA ⟨[(4, (.lf false (.sc (.int .i64 g100.t8))))], [], 0, 19⟩ []
      · try refine sA ?_
        cases hs1
        exact X_backP hk1 (weakA [])
    · try refine sA ?_
      cases hs1
      cases hk1
      try dsimp only at h
      try refine sA ?_
      have he := Option.some.inj h
      subst he
      exact endsA ⟨[(4, (.lf false (.sc (.int .i64 (-1)))))], [], 0, 19⟩ []
theorem w_slices_Contains_string {a0 : (List ByteArray)} {a1 : ByteArray} {r : Bool} (h : slices_Contains_string a0 a1 = some r) : Fn Tryd.prog 121 [(.lf true (.sl (a0.map eS))), (.lf false (.sc (.string a1)))] [] 0 (.lf false (.sc (.bool r))) [] 0 := by
  unfold slices_Contains_string at h
  refine fn_code tab_ok mixed [] Tryd.func121 rfl rfl (by simp [Tryd.f121]) (by kernel_rfl) ?_
  simp only [Tryd.f121]
  refine sA ?_
  obtain ⟨c104, hr1, h⟩ := bind_ok h
  refine Cl_sA (w_slices_Index_string hr1) ?_
  try refine sA ?_
  have he := Option.some.inj h
  subst he
  exact endsA ⟨[(4, (.lf false (.sc (.bool (decide (c104 ≥ 0))))))], [], 0, 9⟩ []
theorem w_impl_distinct {a0 : (List ByteArray)} {r : Bool} (h : impl_distinct a0 = some r) : Fn Tryd.prog 82 [(.lf true (.sl (a0.map eS)))] [] 0 (.lf false (.sc (.bool r))) [] 0 := by
  unfold impl_distinct at h
  refine fn_code tab_ok mixed [(1000, [(0, 0)]), (1001, [(0, 0), (5, 0), (6, 0), (7, 0)]), (1002, [(0, 0), (5, 0), (6, 0), (7, 0), (8, 0)]), (1003, [(0, 0), (3, 0), (4, 0), (5, 0), (6, 0), (7, 0)]), (1004, [(0, 0), (5, 0), (6, 0), (7, 0), (16, 0)]), (1005, [(2, 0)]), (1006, [(0, 0), (5, 0), (6, 0), (7, 0)]), (1007, [(2, 0)])] Tryd.func82 rfl rfl (by simp [Tryd.f82]) (by kernel_rfl) ?_
  simp only [Tryd.f82]
  refine sA ?_
  obtain ⟨y107, hl1, h⟩ := bind_ok h
  refine W_loopP (fun g99 : impl_distinct_G1 => ⟨[(0, (.lf true (.sl (a0.map eS)))), (5, (.lf true (.sl (a0.map eS)))), (6, (.lf false (.sc (.int .i64 ((a0.length : Nat) : Int))))), (7, (.lf false (.sc (.int .i64 g99.t7))))], [], 0, 18⟩) (impl_distinct_L1 a0) _ _ hl1 (weakA []) ?_
  · intro n1 g99 z1 hs1 hk1
    unfold impl_distinct_L1 at hs1
    try dsimp only at hs1
    refine sA ?_
    refine Bs_if hs1 (fun hs1 hc2 => ?_) (fun hs1 hc2 => ?_)
    · try refine sA ?_
      obtain ⟨hp3, hs1⟩ := guard_some hs1
      have hn3 : g99.t7.toNat < a0.length := by first | omega | (simp only [List.length_set, List.length_append, List.length_replicate, List.length_map]; omega)
      try refine sA ?_
      try refine andA ?_
      obtain ⟨hp4, hs1⟩ := guard_some hs1
      try refine sA ?_
      try refine andA ?_
      obtain ⟨c106, hr5, hs1⟩ := bind_ok hs1
      refine Cl_sA (w_slices_Contains_string hr5) ?_
      try refine sA ?_
      refine Bs_if hs1 (fun hs1 hc6 => ?_) (fun hs1 hc6 => ?_)
      · try refine sA ?_
        cases hs1
        cases hk1
        try dsimp only at h
        try refine sA ?_
        have he := Option.some.inj h
        subst he
        exact endsA ⟨[(2, (.lf false (.sc (.bool false))))], [], 0, 18⟩ []
      · try refine sA ?_
        cases hs1
        exact X_backP hk1 (weakA [])
    · try refine sA ?_
      cases hs1
      cases hk1
      try dsimp only at h
      try refine sA ?_
      have he := Option.some.inj h
      subst he
      exact endsA ⟨[(2, (.lf false (.sc (.bool true))))], [], 0, 18⟩ []
theorem w_cmp_isNaN_string {a0 : ByteArray} {r : Bool} (h : cmp_isNaN_string a0 = some r) : Fn Tryd.prog 138 [(.lf false (.sc (.string a0)))] [] 0 (.lf false (.sc (.bool r))) [] 0 := by
  unfold cmp_isNaN_string at h
  refine fn_code tab_ok mixed [] Tryd.func138 rfl rfl (by simp [Tryd.f138]) (by kernel_rfl) ?_
  simp only [Tryd.f138]
  refine sA ?_
  have he := Option.some.inj h
  subst he
  exact endsA ⟨[(2, (.lf false (.sc (.bool (!(a0.toList == a0.toList))))))], [], 0, 6⟩ []
theorem w_cmp_Less_string {a0 : ByteArray} {a1 : ByteArray} {r : Bool} (h : cmp_Less_string a0 a1 = some r) : Fn Tryd.prog 128 [(.lf false (.sc (.string a0))), (.lf false (.sc (.string a1)))] [] 0 (.lf false (.sc (.bool r))) [] 0 := by
  unfold cmp_Less_string at h
  refine fn_code tab_ok mixed [] Tryd.func128 rfl rfl (by simp [Tryd.f128]) (by kernel_rfl) ?_
  simp only [Tryd.f128]
  refine sA ?_
  obtain ⟨c113, hr1, h⟩ := bind_ok h
  refine Cl_sA (w_cmp_isNaN_string hr1) ?_
  try refine sA ?_
  refine Sp_if h (fun h hc2 => ?_) (fun h hc2 => ?_)
  · try refine sA ?_
    obtain ⟨c114, hr3, h⟩ := bind_ok h
    refine Cl_sA (w_cmp_isNaN_string hr3) ?_
    try refine sA ?_
    refine Sp_if h (fun h hc4 => ?_) (fun h hc4 => ?_)
    · try refine sA ?_
      have he := Option.some.inj h
      subst he
      exact endsA ⟨[(4, (.lf false (.sc (.bool true))))], [], 0, 17⟩ []
    · try refine sA ?_
      have he := Option.some.inj h
      subst he
      exact endsA ⟨[(4, (.lf false (.sc (.bool (sLt a0 a1)))))], [], 0, 17⟩ []
  · try refine sA ?_
    have he := Option.some.inj h
    subst he
    exact endsA ⟨[(4, (.lf false (.sc (.bool (sLt a0 a1)))))], [], 0, 17⟩ []
theorem w_slices_IsSorted_string {a0 : (List ByteArray)} {r : Bool} (h : slices_IsSorted_string a0 = some r) : Fn Tryd.prog 83 [(.lf true (.sl (a0.map eS)))] [] 0 (.lf false (.sc (.bool r))) [] 0 := by
  unfold slices_IsSorted_string at h
  refine fn_code tab_ok mixed [(1000, [(0, 0)]), (1001, [(0, 0), (3, 0)]), (1002, [(0, 0), (3, 0), (8, 0)]), (1003, [(0, 0), (3, 0)]), (1004, [(0, 0), (3, 0), (20, 0)]), (1005, [(2, 0)]), (1006, [(2, 0)])] Tryd.func83 rfl rfl (by simp [Tryd.f83]) (by kernel_rfl) ?_
  simp only [Tryd.f83]
  refine sA ?_
  obtain ⟨y117, hl1, h⟩ := bind_ok h
  refine W_loopP (fun g112 : slices_IsSorted_string_G1 => ⟨[(0, (.lf true (.sl (a0.map eS)))), (3, (.lf false (.sc (.int .i64 g112.t3))))], [], 0, 21⟩) (slices_IsSorted_string_L1 a0) _ _ hl1 (weakA []) ?_
  · intro n1 g112 z1 hs1 hk1
    unfold slices_IsSorted_string_L1 at hs1
    try dsimp only at hs1
    refine sA ?_
    refine Bs_if hs1 (fun hs1 hc2 => ?_) (fun hs1 hc2 => ?_)
    · try refine sA ?_
      obtain ⟨hp3, hs1⟩ := guard_some hs1
      have hn3 : g112.t3.toNat < a0.length := by first | omega | (simp only [List.length_set, List.length_append, List.length_replicate, List.length_map]; omega)
      try refine sA ?_
      try refine andA ?_
      obtain ⟨hp4, hs1⟩ := guard_some hs1
      have hn4 : (wI (g112.t3 - 1)).toNat < a0.length := by first | omega | (simp only [List.length_set, List.length_append, List.length_replicate, List.length_map]; omega)
      try refine sA ?_
      try refine andA ?_
      obtain ⟨c116, hr5, hs1⟩ := bind_ok hs1
      refine Cl_sA (w_cmp_Less_string hr5) ?_
      try refine sA ?_
      refine Bs_if hs1 (fun hs1 hc6 => ?_) (fun hs1 hc6 => ?_)
      · try refine sA ?_
        cases hs1
        cases hk1
        try dsimp only at h
        try refine sA ?_
        have he := Option.some.inj h
        subst he
        exact endsA ⟨[(2, (.lf false (.sc (.bool false))))], [], 0, 21⟩ []
      · try refine sA ?_
        cases hs1
        exact X_backP hk1 (weakA [])
    · try refine sA ?_
      cases hs1
      cases hk1
      try dsimp only at h
      try refine sA ?_
      have he := Option.some.inj h
      subst he
      exact endsA ⟨[(2, (.lf false (.sc (.bool true))))], [], 0, 21⟩ []
theorem w_impl_GoodState {a0 : StateT} {r : Bool} (h : impl_GoodState a0 = some r) : Fn Tryd.prog 31 [(.ag [(.lf false (.sc (.int .i64 a0.Status))), (.lf false (.sc (.int .i64 a0.Next))), (.lf false (.sc (.bool a0.Cancel))), (.lf false (.sc (.int .i64 a0.Done))), (.lf true (.sl (a0.Signals.map eS))), (.lf true (.sl (a0.Timers.map eS)))])] [] 0 (.lf false (.sc (.bool r))) [] 0 := by
  unfold impl_GoodState at h
  refine fn_code tab_ok mixed [(1000, [(1, 0)]), (1001, [(1, 0), (18, 0)]), (1002, [(2, 0)]), (1003, [(1, 0), (46, 0)]), (1004, [(2, 0)]), (1005, [(1, 0), (49, 0)]), (1006, [(2, 0)]), (1007, [(2, 0)]), (4001, []), (4003, [])] Tryd.func31 rfl rfl (by simp [Tryd.f31]) (by kernel_rfl) ?_
  simp only [Tryd.f31]
  refine sA ?_
  obtain ⟨p87, hq1, h⟩ := bind_ok h
  refine Sq_cut (fun s2 => s2 = ⟨[(1, (.pb 0 0)), (18, (.lf false (.sc (.bool p87.t18))))], [(0, some (true, .box [(.lf false (.sc (.int .i64 a0.Status))), (.lf false (.sc (.int .i64 a0.Next))), (.lf false (.sc (.bool a0.Cancel))), (.lf false (.sc (.int .i64 a0.Done))), (.lf true (.sl (a0.Signals.map eS))), (.lf true (.sl (a0.Timers.map eS)))]))], 1, 78⟩) ?_ ?_
  · try refine sA ?_
    obtain ⟨c84, hr2, hq1⟩ := bind_ok hq1
    refine Cl_sA (w_impl_in hr2) ?_
    try refine sA ?_
    refine Sp_if hq1 (fun hq1 hc3 => ?_) (fun hq1 hc3 => ?_)
    · try refine sA ?_
      cases hq1
      exact X_cut rfl (weakA [some 0])
    · try refine sA ?_
      obtain ⟨c85, hr4, hq1⟩ := bind_ok hq1
      refine Cl_sA (w_impl_in hr4) ?_
      try refine sA ?_
      refine Sp_if hq1 (fun hq1 hc5 => ?_) (fun hq1 hc5 => ?_)
      · try refine sA ?_
        cases hq1
        exact X_cut rfl (weakA [some 0])
      · try refine sA ?_
        obtain ⟨c86, hr6, hq1⟩ := bind_ok hq1
        refine Cl_sA (w_impl_in hr6) ?_
        try refine sA ?_
        cases hq1
        exact X_cut rfl (weakA [some 0])
  · intro s2 hJ; subst hJ
    try dsimp only at h
    try refine sA ?_
    refine Bs_if h (fun h hc7 => ?_) (fun h hc7 => ?_)
    · try refine sA ?_
      have he := Option.some.inj h
      subst he
      exact endsA ⟨[(2, (.lf false (.sc (.bool false))))], [], 0, 78⟩ []
    · try refine sA ?_
      obtain ⟨p122, hq8, h⟩ := bind_ok h
      refine Sq_cut (fun s2 => s2 = ⟨[(1, (.pb 0 0)), (46, (.lf false (.sc (.bool p122.t46))))], [(0, some (true, .box [(.lf false (.sc (.int .i64 a0.Status))), (.lf false (.sc (.int .i64 a0.Next))), (.lf false (.sc (.bool a0.Cancel))), (.lf false (.sc (.int .i64 a0.Done))), (.lf true (.sl (a0.Signals.map eS))), (.lf true (.sl (a0.Timers.map eS)))]))], 1, 78⟩) ?_ ?_
      · try refine sA ?_
        obtain ⟨c98, hr9, hq8⟩ := bind_ok hq8
        refine Cl_sA (w_impl_namesOk hr9) ?_
        try refine sA ?_
        refine Sp_if hq8 (fun hq8 hc10 => ?_) (fun hq8 hc10 => ?_)
        · try refine sA ?_
          cases hq8
          exact X_cut rfl (weakA [some 0])
        · try refine sA ?_
          obtain ⟨c110, hr11, hq8⟩ := bind_ok hq8
          refine Cl_sA (w_impl_distinct hr11) ?_
          try refine sA ?_
          refine Sp_if hq8 (fun hq8 hc12 => ?_) (fun hq8 hc12 => ?_)
          · try refine sA ?_
            cases hq8
            exact X_cut rfl (weakA [some 0])
          · try refine sA ?_
            obtain ⟨c111, hr13, hq8⟩ := bind_ok hq8
            refine Cl_sA (w_impl_namesOk hr13) ?_
            try refine sA ?_
            refine Sp_if hq8 (fun hq8 hc14 => ?_) (fun hq8 hc14 => ?_)
            · try refine sA ?_
              cases hq8
              exact X_cut rfl (weakA [some 0])
            · try refine sA ?_
              obtain ⟨c120, hr15, hq8⟩ := bind_ok hq8
              refine Cl_sA (w_slices_IsSorted_string hr15) ?_
              try refine sA ?_
              refine Sp_if hq8 (fun hq8 hc16 => ?_) (fun hq8 hc16 => ?_)
              · try refine sA ?_
                cases hq8
                exact X_cut rfl (weakA [some 0])
              · try refine sA ?_
                obtain ⟨c121, hr17, hq8⟩ := bind_ok hq8
                refine Cl_sA (w_impl_distinct hr17) ?_
                try refine sA ?_
                cases hq8
                exact X_cut rfl (weakA [some 0])
      · intro s2 hJ; subst hJ
        try dsimp only at h
        try refine sA ?_
        refine Bs_if h (fun h hc18 => ?_) (fun h hc18 => ?_)
        · try refine sA ?_
          have he := Option.some.inj h
          subst he
          exact endsA ⟨[(2, (.lf false (.sc (.bool false))))], [], 0, 78⟩ []
        · try refine sA ?_
          refine Bs_if h (fun h hc19 => ?_) (fun h hc19 => ?_)
          · try refine sA ?_
            have he := Option.some.inj h
            subst he
            exact endsA ⟨[(2, (.lf false (.sc (.bool (decide (a0.Next > 1))))))], [], 0, 78⟩ []
          · try refine sA ?_
            refine Sp_if h (fun h hc20 => ?_) (fun h hc20 => ?_)
            · try refine sA ?_
              refine Sp_if h (fun h hc21 => ?_) (fun h hc21 => ?_)
              · try refine sA ?_
                refine Sp_if h (fun h hc22 => ?_) (fun h hc22 => ?_)
                · try refine sA ?_
                  refine Sp_if h (fun h hc23 => ?_) (fun h hc23 => ?_)
                  · try refine sA ?_
                    have he := Option.some.inj h
                    subst he
                    exact endsA ⟨[(2, (.lf false (.sc (.bool (((a0.Timers.length : Nat) : Int) == 0)))))], [], 0, 78⟩ []
                  · try refine sA ?_
                    have he := Option.some.inj h
                    subst he
                    exact endsA ⟨[(2, (.lf false (.sc (.bool false))))], [], 0, 78⟩ []
                · try refine sA ?_
                  have he := Option.some.inj h
                  subst he
                  exact endsA ⟨[(2, (.lf false (.sc (.bool false))))], [], 0, 78⟩ []
              · try refine sA ?_
                have he := Option.some.inj h
                subst he
                exact endsA ⟨[(2, (.lf false (.sc (.bool false))))], [], 0, 78⟩ []
            · try refine sA ?_
              have he := Option.some.inj h
              subst he
              exact endsA ⟨[(2, (.lf false (.sc (.bool false))))], [], 0, 78⟩ []
theorem w_impl_isVersion {a0 : Int} {r : Bool} (h : impl_isVersion a0 = some r) : Fn Tryd.prog 103 [(.lf false (.sc (.int .i64 a0)))] [] 0 (.lf false (.sc (.bool r))) [] 0 := by
  unfold impl_isVersion at h
  refine fn_code tab_ok mixed [] Tryd.func103 rfl rfl (by simp [Tryd.f103]) (by kernel_rfl) ?_
  simp only [Tryd.f103]
  refine sA ?_
  obtain ⟨c125, hr1, h⟩ := bind_ok h
  refine Cl_sA (w_impl_in hr1) ?_
  try refine sA ?_
  have he := Option.some.inj h
  subst he
  exact endsA ⟨[(2, (.lf false (.sc (.bool c125))))], [], 0, 5⟩ []
theorem w_impl_goodKind {a0 : Int} {r : Bool} (h : impl_goodKind a0 = some r) : Fn Tryd.prog 87 [(.lf false (.sc (.int .i64 a0)))] [] 0 (.lf false (.sc (.bool r))) [] 0 := by
  unfold impl_goodKind at h
  refine fn_code tab_ok mixed [] Tryd.func87 rfl rfl (by simp [Tryd.f87]) (by kernel_rfl) ?_
  simp only [Tryd.f87]
  refine sA ?_
  obtain ⟨c127, hr1, h⟩ := bind_ok h
  refine Cl_sA (w_impl_in hr1) ?_
  try refine sA ?_
  have he := Option.some.inj h
  subst he
  exact endsA ⟨[(2, (.lf false (.sc (.bool c127))))], [], 0, 5⟩ []
theorem w_impl_GoodEvent {a0 : EventT} {r : Bool} (h : impl_GoodEvent a0 = some r) : Fn Tryd.prog 76 [(.ag [(.lf false (.sc (.int .i64 a0.Id))), (.lf false (.sc (.int .i64 a0.Version))), (.lf false (.sc (.int .i64 a0.Kind))), (.lf false (.sc (.string a0.Name)))])] [] 0 (.lf false (.sc (.bool r))) [] 0 := by
  unfold impl_GoodEvent at h
  refine fn_code tab_ok mixed [] Tryd.func76 rfl rfl (by simp [Tryd.f76]) (by kernel_rfl) ?_
  simp only [Tryd.f76]
  refine sA ?_
  obtain ⟨c124, hr1, h⟩ := bind_ok h
  refine Cl_sA (w_impl_in hr1) ?_
  try refine sA ?_
  refine Sp_if h (fun h hc2 => ?_) (fun h hc2 => ?_)
  · try refine sA ?_
    obtain ⟨c126, hr3, h⟩ := bind_ok h
    refine Cl_sA (w_impl_isVersion hr3) ?_
    try refine sA ?_
    refine Sp_if h (fun h hc4 => ?_) (fun h hc4 => ?_)
    · try refine sA ?_
      obtain ⟨c128, hr5, h⟩ := bind_ok h
      refine Cl_sA (w_impl_goodKind hr5) ?_
      try refine sA ?_
      refine Sp_if h (fun h hc6 => ?_) (fun h hc6 => ?_)
      · try refine sA ?_
        obtain ⟨c129, hr7, h⟩ := bind_ok h
        refine Cl_sA (w_impl_goodName hr7) ?_
        try refine sA ?_
        have he := Option.some.inj h
        subst he
        exact endsA ⟨[(2, (.lf false (.sc (.bool c129))))], [], 0, 21⟩ []
      · try refine sA ?_
        have he := Option.some.inj h
        subst he
        exact endsA ⟨[(2, (.lf false (.sc (.bool false))))], [], 0, 21⟩ []
    · try refine sA ?_
      have he := Option.some.inj h
      subst he
      exact endsA ⟨[(2, (.lf false (.sc (.bool false))))], [], 0, 21⟩ []
  · try refine sA ?_
    have he := Option.some.inj h
    subst he
    exact endsA ⟨[(2, (.lf false (.sc (.bool false))))], [], 0, 21⟩ []
theorem w_slices_Clone_string {a0 : (List ByteArray)} {r : (List ByteArray)} (h : slices_Clone_string a0 = some r) : Fn Tryd.prog 120 [(.lf true (.sl (a0.map eS)))] [] 0 (.os 0 1 0 r.length r.length false) [(0, some (true, .arr false 1 (r.map eS)))] 1 := by
  unfold slices_Clone_string at h
  obtain ⟨hp, h⟩ := guard_some h
  have he := Option.some.inj h; subst he
  refine fn_code tab_ok mixed [] Tryd.func120 rfl rfl (by simp [Tryd.f120]) (by kernel_rfl) ?_
  simp only [Tryd.f120]
  simp (disch := assumption) only [go_sem, Nat.reduceAdd, Nat.reduceMul, Nat.reduceSub, Nat.reduceEqDiff, ↓reduceIte, Nat.reduceLT, reduceCtorEq, Nat.reduceLeDiff, Int.reduceToNat, Int.reduceEq, Int.reduceLE, Int.reduceLT, Nat.reduceBEq]
  intro b hb
  refine Bs_splitC (b = true) (by simp) (fun hc => ?_) (fun hc => ?_)
  · have h0 : a0 = [] := by simpa using hb (by simpa using hc)
    subst h0
    try simp (disch := assumption) only [go_sem, Nat.reduceAdd, Nat.reduceMul, Nat.reduceSub, Nat.reduceEqDiff, ↓reduceIte, Nat.reduceLT, reduceCtorEq, Nat.reduceLeDiff, Int.reduceToNat, Int.reduceEq, Int.reduceLE, Int.reduceLT, Nat.reduceBEq]
    refine ends_weak ⟨[(2, (.os 0 1 0 0 0 false))], [(0, some (true, .arr false 1 (([] : List ByteArray).map eS)))], 1, 8⟩ (weak_of (m := 0) [none] rfl rfl rfl (by rfl) ?_ ?_) ?_
    all_goals ((try simp (disch := assumption) only [go_sem, Nat.reduceAdd, Nat.reduceMul, Nat.reduceSub, Nat.reduceEqDiff, ↓reduceIte, Nat.reduceLT, reduceCtorEq, Nat.reduceLeDiff, Int.reduceToNat, Int.reduceEq, Int.reduceLE, Int.reduceLT, Nat.reduceBEq]); (repeat' first | done | rfl | omega | refine And.intro ?_ ?_ | (simp; done) | (simp; omega)))
  · try simp (disch := assumption) only [go_sem, Nat.reduceAdd, Nat.reduceMul, Nat.reduceSub, Nat.reduceEqDiff, ↓reduceIte, Nat.reduceLT, reduceCtorEq, Nat.reduceLeDiff, Int.reduceToNat, Int.reduceEq, Int.reduceLE, Int.reduceLT, Nat.reduceBEq]
    first | refine And.intro (by first | omega | exact ⟨by omega, fun _ => mapLen fun _ => rfl⟩ | (refine ⟨?_, by omega⟩; first | exact mapLen fun _ => rfl | simp)) ?_ | skip
    try simp (disch := assumption) only [go_sem, Nat.reduceAdd, Nat.reduceMul, Nat.reduceSub, Nat.reduceEqDiff, ↓reduceIte, Nat.reduceLT, reduceCtorEq, Nat.reduceLeDiff, Int.reduceToNat, Int.reduceEq, Int.reduceLE, Int.reduceLT, Nat.reduceBEq]
    refine ends_weak ⟨[(2, (.os 0 1 0 a0.length a0.length false))], [(0, some (true, .arr false 1 (a0.map eS)))], 1, 8⟩ (weak_of (m := 0) [some 1] rfl rfl rfl (by rfl) ?_ ?_) ?_
    all_goals ((try simp (disch := assumption) only [go_sem, Nat.reduceAdd, Nat.reduceMul, Nat.reduceSub, Nat.reduceEqDiff, ↓reduceIte, Nat.reduceLT, reduceCtorEq, Nat.reduceLeDiff, Int.reduceToNat, Int.reduceEq, Int.reduceLE, Int.reduceLT, Nat.reduceBEq]); (repeat' first | done | rfl | omega | refine And.intro ?_ ?_ | (simp; done) | (simp; omega)))
theorem w_impl_cloneState {a0 : StateT} {r : StateT} (h : impl_cloneState a0 = some r) : Fn Tryd.prog 77 [(.ag [(.lf false (.sc (.int .i64 a0.Status))), (.lf false (.sc (.int .i64 a0.Next))), (.lf false (.sc (.bool a0.Cancel))), (.lf false (.sc (.int .i64 a0.Done))), (.lf true (.sl (a0.Signals.map eS))), (.lf true (.sl (a0.Timers.map eS)))])] [] 0 (.ag [(.lf false (.sc (.int .i64 r.Status))), (.lf false (.sc (.int .i64 r.Next))), (.lf false (.sc (.bool r.Cancel))), (.lf false (.sc (.int .i64 r.Done))), (.os 0 1 0 r.Signals.length r.Signals.length false), (.os 1 1 0 r.Timers.length r.Timers.length false)]) [(0, some (true, .arr false 1 (r.Signals.map eS))), (1, some (true, .arr false 1 (r.Timers.map eS)))] 3 := by
  unfold impl_cloneState at h
  refine fn_code tab_ok mixed [(1, [(4, 2)]), (1000, [(1, 0), (2, 0)]), (1001, [(1, 0), (2, 0)]), (1002, [(2, 0)])] Tryd.func77 rfl rfl (by simp [Tryd.f77]) (by kernel_rfl) ?_
  simp only [Tryd.f77]
  refine sA ?_
  obtain ⟨c132, hr1, h⟩ := bind_ok h
  refine Cl_sA (w_slices_Clone_string hr1) ?_
  try refine sA ?_
  obtain ⟨c133, hr2, h⟩ := bind_ok h
  refine Cl_sA (w_slices_Clone_string hr2) ?_
  try refine sA ?_
  have he := Option.some.inj h
  subst he
  exact endsA ⟨[(2, (.pb 2 0))], [(0, some (true, .arr false 1 (c132.map eS))), (1, some (true, .arr false 1 (c133.map eS))), (2, some (true, .box [(.lf false (.sc (.int .i64 a0.Status))), (.lf false (.sc (.int .i64 a0.Next))), (.lf false (.sc (.bool a0.Cancel))), (.lf false (.sc (.int .i64 a0.Done))), (.os 0 1 0 c132.length c132.length false), (.os 1 1 0 c133.length c133.length false)]))], 3, 12⟩ [some 2, some 3, some 1]
theorem w_slices_isNaN_string {a0 : ByteArray} {r : Bool} (h : slices_isNaN_string a0 = some r) : Fn Tryd.prog 169 [(.lf false (.sc (.string a0)))] [] 0 (.lf false (.sc (.bool r))) [] 0 := by
  unfold slices_isNaN_string at h
  refine fn_code tab_ok mixed [] Tryd.func169 rfl rfl (by simp [Tryd.f169]) (by kernel_rfl) ?_
  simp only [Tryd.f169]
  refine sA ?_
  have he := Option.some.inj h
  subst he
  exact endsA ⟨[(2, (.lf false (.sc (.bool (!(a0.toList == a0.toList))))))], [], 0, 6⟩ []
theorem w_slices_BinarySearch_string {a0 : (List ByteArray)} {a1 : ByteArray} {r : (Int × Bool)} (h : slices_BinarySearch_string a0 a1 = some r) : Fn Tryd.prog 147 [(.lf true (.sl (a0.map eS))), (.lf false (.sc (.string a1)))] [] 0 (.tu [(.lf false (.sc (.int .i64 r.1))), (.lf false (.sc (.bool r.2)))]) [] 0 := by
  unfold slices_BinarySearch_string at h
  refine fn_code tab_ok mixed [(1000, [(0, 0), (1, 0)]), (1001, [(0, 0), (1, 0), (6, 0)]), (1002, [(0, 0), (1, 0), (6, 0), (7, 0), (8, 0)]), (1003, [(0, 0), (1, 0), (6, 0), (7, 0), (8, 0), (15, 0)]), (1004, [(0, 0), (1, 0), (6, 0), (7, 0), (8, 0), (9, 0)]), (1005, [(0, 0), (1, 0), (6, 0), (7, 0), (8, 0), (9, 0), (27, 0)]), (1006, [(0, 0), (1, 0), (6, 0), (7, 0), (8, 0)]), (1007, [(0, 0), (1, 0), (6, 0), (7, 0), (8, 0)]), (1008, [(4, 0), (5, 0)])] Tryd.func147 rfl rfl (by simp [Tryd.f147]) (by kernel_rfl) ?_
  simp only [Tryd.f147]
  refine sA ?_
  obtain ⟨y141, hl1, h⟩ := bind_ok h
  refine W_loopP (fun g138 : slices_BinarySearch_string_G1 => ⟨[(0, (.lf true (.sl (a0.map eS)))), (1, (.lf false (.sc (.string a1)))), (6, (.lf false (.sc (.int .i64 ((a0.length : Nat) : Int))))), (7, (.lf false (.sc (.int .i64 g138.t7)))), (8, (.lf false (.sc (.int .i64 g138.t8))))], [], 0, 54⟩) (slices_BinarySearch_string_L1 a0 a1) _ _ hl1 (weakA []) ?_
  · intro n1 g138 z1 hs1 hk1
    unfold slices_BinarySearch_string_L1 at hs1
    try dsimp only at hs1
    refine sA ?_
    refine Bs_if hs1 (fun hs1 hc2 => ?_) (fun hs1 hc2 => ?_)
    · try refine sA ?_
      obtain ⟨hp3, hs1⟩ := guard_some hs1
      have hn3 : (wI (shR 64 (wU (wI (g138.t7 + g138.t8))) 1)).toNat < a0.length := by first | omega | (simp only [List.length_set, List.length_append, List.length_replicate, List.length_map]; omega)
      try refine sA ?_
      try refine andA ?_
      obtain ⟨c140, hr4, hs1⟩ := bind_ok hs1
      refine Cl_sA (w_cmp_Less_string hr4) ?_
      try refine sA ?_
      refine Bs_if hs1 (fun hs1 hc5 => ?_) (fun hs1 hc5 => ?_)
      · try refine sA ?_
        cases hs1
        exact X_backP hk1 (weakA [])
      · try refine sA ?_
        cases hs1
        exact X_backP hk1 (weakA [])
    · try refine sA ?_
      cases hs1
      cases hk1
      try dsimp only at h
      try refine sA ?_
      refine Sp_if h (fun h hc6 => ?_) (fun h hc6 => ?_)
      · try refine sA ?_
        obtain ⟨hp7, h⟩ := guard_some h
        have hn7 : g138.t7.toNat < a0.length := by first | omega | (simp only [List.length_set, List.length_append, List.length_replicate, List.length_map]; omega)
        try refine sA ?_
        try refine andA ?_
        refine Sp_if h (fun h hc8 => ?_) (fun h hc8 => ?_)
        · try refine sA ?_
          have he := Option.some.inj h
          subst he
          exact endsA ⟨[(4, (.lf false (.sc (.int .i64 g138.t7)))), (5, (.lf false (.sc (.bool true))))], [], 0, 54⟩ []
        · try refine sA ?_
          obtain ⟨hp9, h⟩ := guard_some h
          have hn9 : g138.t7.toNat < a0.length := by first | omega | (simp only [List.length_set, List.length_append, List.length_replicate, List.length_map]; omega)
          try refine sA ?_
          try refine andA ?_
          obtain ⟨c144, hr10, h⟩ := bind_ok h
          refine Cl_sA (w_slices_isNaN_string hr10) ?_
          try refine sA ?_
          refine Sp_if h (fun h hc11 => ?_) (fun h hc11 => ?_)
          · try refine sA ?_
            obtain ⟨c145, hr12, h⟩ := bind_ok h
            refine Cl_sA (w_slices_isNaN_string hr12) ?_
            try refine sA ?_
            have he := Option.some.inj h
            subst he
            exact endsA ⟨[(4, (.lf false (.sc (.int .i64 g138.t7)))), (5, (.lf false (.sc (.bool c145))))], [], 0, 54⟩ []
          · try refine sA ?_
            have he := Option.some.inj h
            subst he
            exact endsA ⟨[(4, (.lf false (.sc (.int .i64 g138.t7)))), (5, (.lf false (.sc (.bool false))))], [], 0, 54⟩ []
      · try refine sA ?_
        have he := Option.some.inj h
        subst he
        exact endsA ⟨[(4, (.lf false (.sc (.int .i64 g138.t7)))), (5, (.lf false (.sc (.bool false))))], [], 0, 54⟩ []
theorem w_slices_Delete_string_w {a0 : List ByteArray} {a1 a2 : Int} {m0 : Nat} {x0 : Bool} {r : List ByteArray} (h : slices_Delete_string_w a0 a1 a2 = some r) : Fn Tryd.prog 148 [(.os 0 1 0 a0.length m0 x0), (.lf false (.sc (.int .i64 a1))), (.lf false (.sc (.int .i64 a2)))] [(0, some (false, .arr true 1 (a0.map eS)))] 1 (.os 1 1 0 r.length r.length false) [(0, none), (1, some (false, .arr false 1 (r.map eS)))] 2 := by
  unfold slices_Delete_string_w at h
  obtain ⟨⟨hp1, hp2, hp3, hp4⟩, h⟩ := guard_some h
  have he := Option.some.inj h; subst he
  refine fn_code tab_ok mixed [] Tryd.func148 rfl rfl (by simp [Tryd.f148]) (by kernel_rfl) ?_
  simp only [Tryd.f148]
  simp (disch := assumption) only [go_sem, Nat.reduceAdd, Nat.reduceMul, Nat.reduceSub, Nat.reduceEqDiff, ↓reduceIte, Nat.reduceLT, reduceCtorEq, Nat.reduceLeDiff, Int.reduceToNat, Int.reduceEq, Int.reduceLE, Int.reduceLT, Nat.reduceBEq]
  refine And.intro (by omega) ?_
  try simp (disch := assumption) only [go_sem, Nat.reduceAdd, Nat.reduceMul, Nat.reduceSub, Nat.reduceEqDiff, ↓reduceIte, Nat.reduceLT, reduceCtorEq, Nat.reduceLeDiff, Int.reduceToNat, Int.reduceEq, Int.reduceLE, Int.reduceLT, Nat.reduceBEq]
  refine Bs_splitC (a1 == a2) (by first | rfl | simp) (fun hc => ?_) (fun hc => ?_)
  · try simp (disch := assumption) only [go_sem, Nat.reduceAdd, Nat.reduceMul, Nat.reduceSub, Nat.reduceEqDiff, ↓reduceIte, Nat.reduceLT, reduceCtorEq, Nat.reduceLeDiff, Int.reduceToNat, Int.reduceEq, Int.reduceLE, Int.reduceLT, Nat.reduceBEq]
    have he : a1 = a2 := by simpa using hc
    have hr : a0.take a1.toNat ++ a0.drop a2.toNat = a0 := by rw [he]; exact List.take_append_drop _ _
    rw [hr]
    refine ends_weak ⟨[(6, (.os 1 1 0 a0.length a0.length false))], [(0, none), (1, some (false, .arr false 1 (a0.map eS)))], 2, 33⟩ (weak_of (m := 1) [some 0, some 0] rfl rfl rfl (by rfl) ?_ ?_) ?_
    all_goals ((try simp (disch := assumption) only [go_sem, Nat.reduceAdd, Nat.reduceMul, Nat.reduceSub, Nat.reduceEqDiff, ↓reduceIte, Nat.reduceLT, reduceCtorEq, Nat.reduceLeDiff, Int.reduceToNat, Int.reduceEq, Int.reduceLE, Int.reduceLT, Nat.reduceBEq]); (repeat' first | done | rfl | omega | refine And.intro ?_ ?_ | (simp; done) | (simp; omega)))
  · try simp (disch := assumption) only [go_sem, Nat.reduceAdd, Nat.reduceMul, Nat.reduceSub, Nat.reduceEqDiff, ↓reduceIte, Nat.reduceLT, reduceCtorEq, Nat.reduceLeDiff, Int.reduceToNat, Int.reduceEq, Int.reduceLE, Int.reduceLT, Nat.reduceBEq]
    refine And.intro (by omega) (And.intro (by omega) ?_)
    have hs : a2.toNat + (a0.length - a2.toNat) ≤ a0.length := by omega
    simp (disch := assumption) only [go_sem, Nat.reduceAdd, Nat.reduceMul, Nat.reduceSub, Nat.reduceEqDiff, ↓reduceIte, Nat.reduceLT, reduceCtorEq, Nat.reduceLeDiff, Int.reduceToNat, Int.reduceEq, Int.reduceLE, Int.reduceLT, Nat.reduceBEq, hs]
    have hd : (a0.drop a2.toNat).length = a0.length - a2.toNat := List.length_drop
    have ht : (a0.take a1.toNat).length = a1.toNat := by rw [List.length_take]; omega
    have hR : (a0.take a1.toNat ++ a0.drop a2.toNat).length = a1.toNat + (a0.drop a2.toNat).length := by rw [List.length_append, ht]
    refine And.intro ⟨by omega, (by first | exact mapLen fun _ => rfl | simp), by omega⟩ (And.intro ⟨by omega, by omega, by omega⟩ (And.intro (by omega) ?_))
    refine ends_weak ⟨[(6, (.os 1 1 0 (a0.take a1.toNat ++ a0.drop a2.toNat).length (a0.take a1.toNat ++ a0.drop a2.toNat).length false))], [(0, none), (1, some (false, .arr false 1 ((a0.take a1.toNat ++ a0.drop a2.toNat).map eS)))], 2, 33⟩ (weak_of (m := 1) [some 0, some 1] rfl rfl rfl (by rfl) ?_ ?_) ?_
    all_goals ((try simp (disch := assumption) only [go_sem, Nat.reduceAdd, Nat.reduceMul, Nat.reduceSub, Nat.reduceEqDiff, ↓reduceIte, Nat.reduceLT, reduceCtorEq, Nat.reduceLeDiff, Int.reduceToNat, Int.reduceEq, Int.reduceLE, Int.reduceLT, Nat.reduceBEq]); (repeat' first | done | rfl | omega | refine And.intro ?_ ?_ | (simp; done) | (simp; omega)))
theorem w_slices_Insert_string_w {a0 : List ByteArray} {a1 : Int} {a2 : List ByteArray} {m0 m2 : Nat} {x0 x2 : Bool} {r : List ByteArray} (h : slices_Insert_string_w a0 a1 a2 = some r) : Fn Tryd.prog 149 [(.os 0 1 0 a0.length m0 x0), (.lf false (.sc (.int .i64 a1))), (.os 1 1 0 a2.length m2 x2)] [(0, some (false, .arr true 1 (a0.map eS))), (1, some (false, .arr true 1 (a2.map eS)))] 2 (.os 2 1 0 r.length r.length false) [(0, none), (1, none), (2, some (false, .arr false 1 (r.map eS)))] 3 := by
  unfold slices_Insert_string_w at h
  obtain ⟨⟨hp1, hp2, hp3, hp4⟩, h⟩ := guard_some h
  have he := Option.some.inj h; subst he
  obtain ⟨x, rfl⟩ := List.length_eq_one_iff.1 hp1
  rw [List.append_assoc, List.singleton_append]
  exact fn_insert Go.Proofs.Tryd.lays22 (Ent.of Tryd.func149 rfl (by simp [Tryd.f149])) (fun _ => rfl) hp2 hp3 hp4
theorem w_impl_State_turnTimer_o {a0 : StateT} {a1 : ByteArray} {m1 : Nat} {x1 : Bool} {m2 : Nat} {x2 : Bool} {r : (Bool × StateT)} (h : impl_State_turnTimer_o a0 a1 = some r) : Fn Tryd.prog 122 [(.pb 0 0), (.lf false (.sc (.string a1)))] [(0, some (false, .box [(.lf false (.sc (.int .i64 a0.Status))), (.lf false (.sc (.int .i64 a0.Next))), (.lf false (.sc (.bool a0.Cancel))), (.lf false (.sc (.int .i64 a0.Done))), (.os 1 1 0 a0.Signals.length m1 x1), (.os 2 1 0 a0.Timers.length m2 x2)])), (1, some (false, .arr true 1 (a0.Signals.map eS))), (2, some (false, .arr true 1 (a0.Timers.map eS)))] 3 (.lf false (.sc (.bool r.1))) [(0, some (false, .box [(.lf false (.sc (.int .i64 r.2.Status))), (.lf false (.sc (.int .i64 r.2.Next))), (.lf false (.sc (.bool r.2.Cancel))), (.lf false (.sc (.int .i64 r.2.Done))), (.os 1 1 0 a0.Signals.length a0.Signals.length false), (.os 3 1 0 r.2.Timers.length r.2.Timers.length false)])), (1, some (false, .arr false 1 (a0.Signals.map eS))), (2, none), (3, some (false, .arr false 1 (r.2.Timers.map eS)))] 4 := by
  unfold impl_State_turnTimer_o at h
  refine fn_code tab_ok mixed [(1000, [(0, 0), (1, 0)]), (1001, [(0, 0), (1, 0), (5, 0), (6, 0)]), (1002, []), (1003, [(0, 0), (1, 0), (5, 0), (27, 0)]), (1004, []), (1005, [(0, 0), (1, 0), (5, 0), (40, 0)]), (1006, [(4, 0)]), (1007, [(4, 0)])] Tryd.func122 rfl rfl (by simp [Tryd.f122]) (by kernel_rfl) ?_
  simp only [Tryd.f122]
  refine sA ?_
  obtain ⟨c146, hr1, h⟩ := bind_ok h
  refine Cl_sA (w_slices_BinarySearch_string hr1) ?_
  try refine sA ?_
  refine Bs_if h (fun h hc2 => ?_) (fun h hc2 => ?_)
  · try refine sA ?_
    obtain ⟨c147, hr3, h⟩ := bind_ok h
    refine Cl_hA [2] (w_slices_Delete_string_w hr3) ?_
    try refine sA ?_
    have he := Option.some.inj h
    subst he
    exact endsA ⟨[(4, (.lf false (.sc (.bool true))))], [(0, some (false, .box [(.lf false (.sc (.int .i64 a0.Status))), (.lf false (.sc (.int .i64 a0.Next))), (.lf false (.sc (.bool a0.Cancel))), (.lf false (.sc (.int .i64 a0.Done))), (.os 1 1 0 a0.Signals.length a0.Signals.length false), (.os 3 1 0 c147.length c147.length false)])), (1, some (false, .arr false 1 (a0.Signals.map eS))), (2, none), (3, some (false, .arr false 1 (c147.map eS)))], 4, 47⟩ [some 0, some 1, some 2, some 3]
  · try refine sA ?_
    refine Bs_if h (fun h hc4 => ?_) (fun h hc4 => ?_)
    · try refine sA ?_
      have he := Option.some.inj h
      subst he
      exact endsA ⟨[(4, (.lf false (.sc (.bool false))))], [(0, some (false, .box [(.lf false (.sc (.int .i64 a0.Status))), (.lf false (.sc (.int .i64 a0.Next))), (.lf false (.sc (.bool a0.Cancel))), (.lf false (.sc (.int .i64 a0.Done))), (.os 1 1 0 a0.Signals.length a0.Signals.length false), (.os 3 1 0 a0.Timers.length a0.Timers.length false)])), (1, some (false, .arr false 1 (a0.Signals.map eS))), (2, none), (3, some (false, .arr false 1 (a0.Timers.map eS)))], 4, 47⟩ [some 0, some 1, some 2, some 2]
    · try refine sA ?_
      obtain ⟨c148, hr5, h⟩ := bind_ok h
      refine Cl_hA [2, 3] (w_slices_Insert_string_w hr5) ?_
      try refine sA ?_
      have he := Option.some.inj h
      subst he
      exact endsA ⟨[(4, (.lf false (.sc (.bool true))))], [(0, some (false, .box [(.lf false (.sc (.int .i64 a0.Status))), (.lf false (.sc (.int .i64 a0.Next))), (.lf false (.sc (.bool a0.Cancel))), (.lf false (.sc (.int .i64 a0.Done))), (.os 1 1 0 a0.Signals.length a0.Signals.length false), (.os 3 1 0 c148.length c148.length false)])), (1, some (false, .arr false 1 (a0.Signals.map eS))), (2, none), (3, some (false, .arr false 1 (c148.map eS)))], 4, 47⟩ [some 0, some 1, some 2, some 4]
theorem w_impl_State_apply_o {a0 : StateT} {a1 : Int} {a2 : ByteArray} {m1 : Nat} {x1 : Bool} {m2 : Nat} {x2 : Bool} {r : (Bool × StateT)} (h : impl_State_apply_o a0 a1 a2 = some r) : Fn Tryd.prog 78 [(.pb 0 0), (.lf false (.sc (.int .i64 a1))), (.lf false (.sc (.string a2)))] [(0, some (false, .box [(.lf false (.sc (.int .i64 a0.Status))), (.lf false (.sc (.int .i64 a0.Next))), (.lf false (.sc (.bool a0.Cancel))), (.lf false (.sc (.int .i64 a0.Done))), (.os 1 1 0 a0.Signals.length m1 x1), (.os 2 1 0 a0.Timers.length m2 x2)])), (1, some (false, .arr true 1 (a0.Signals.map eS))), (2, some (false, .arr true 1 (a0.Timers.map eS)))] 3 (.lf false (.sc (.bool r.1))) [(0, some (false, .box [(.lf false (.sc (.int .i64 r.2.Status))), (.lf false (.sc (.int .i64 r.2.Next))), (.lf false (.sc (.bool r.2.Cancel))), (.lf false (.sc (.int .i64 r.2.Done))), (.os 3 1 0 r.2.Signals.length r.2.Signals.length false), (.os 4 1 0 r.2.Timers.length r.2.Timers.length false)])), (1, none), (2, none), (3, some (false, .arr false 1 (r.2.Signals.map eS))), (4, some (false, .arr false 1 (r.2.Timers.map eS)))] 5 := by
  unfold impl_State_apply_o at h
  refine fn_code tab_ok mixed [(1000, [(0, 0), (1, 0), (2, 0)]), (1001, [(0, 0), (1, 0), (2, 0), (32, 0)]), (1002, [(6, 0)]), (1003, [(0, 0), (2, 0), (33, 0)]), (1004, [(0, 0), (2, 0), (33, 0), (34, 0)]), (1005, [(0, 0)]), (1006, [(0, 0), (2, 0), (33, 0), (39, 0)]), (1007, [(0, 0), (2, 0), (54, 0)]), (1008, [(6, 0)]), (1009, [(0, 0)]), (1010, [(0, 0), (2, 0), (33, 0), (65, 0)]), (1011, [(0, 0)]), (1012, [(0, 0), (2, 0), (33, 0), (74, 0)]), (1013, [(0, 0), (79, 0)]), (1014, [(6, 0)]), (1015, [(0, 0), (33, 0), (80, 0)]), (1016, [(0, 0), (85, 0)]), (1017, [(6, 0)]), (1018, [(0, 0)]), (1019, [(0, 0), (89, 0)]), (1020, [(0, 0)]), (1021, []), (1022, [(6, 0)]), (4001, []), (4007, [])] Tryd.func78 rfl rfl (by simp [Tryd.f78]) (by kernel_rfl) ?_
  simp only [Tryd.f78]
  refine sA ?_
  obtain ⟨p151, hq1, h⟩ := bind_ok h
  refine Sq_cut (fun s2 => s2 = ⟨[(0, (.pb 0 0)), (1, (.lf false (.sc (.int .i64 a1)))), (2, (.lf false (.sc (.string a2)))), (32, (.lf false (.sc (.bool p151.t32))))], [(0, some (false, .box [(.lf false (.sc (.int .i64 a0.Status))), (.lf false (.sc (.int .i64 a0.Next))), (.lf false (.sc (.bool a0.Cancel))), (.lf false (.sc (.int .i64 a0.Done))), (.os 1 1 0 a0.Signals.length m1 x1), (.os 2 1 0 a0.Timers.length m2 x2)])), (1, some (false, .arr true 1 (a0.Signals.map eS))), (2, some (false, .arr true 1 (a0.Timers.map eS)))], 3, 104⟩) ?_ ?_
  · try refine sA ?_
    refine Sp_if hq1 (fun hq1 hc2 => ?_) (fun hq1 hc2 => ?_)
    · try refine sA ?_
      cases hq1
      exact X_cut rfl (weakA [some 0, some 1, some 2])
    · try refine sA ?_
      refine Sp_if hq1 (fun hq1 hc3 => ?_) (fun hq1 hc3 => ?_)
      · try refine sA ?_
        cases hq1
        exact X_cut rfl (weakA [some 0, some 1, some 2])
      · try refine sA ?_
        refine Sp_if hq1 (fun hq1 hc4 => ?_) (fun hq1 hc4 => ?_)
        · try refine sA ?_
          cases hq1
          exact X_cut rfl (weakA [some 0, some 1, some 2])
        · try refine sA ?_
          cases hq1
          exact X_cut rfl (weakA [some 0, some 1, some 2])
  · intro s2 hJ; subst hJ
    try dsimp only at h
    try refine sA ?_
    refine Bs_if h (fun h hc5 => ?_) (fun h hc5 => ?_)
    · try refine sA ?_
      have he := Option.some.inj h
      subst he
      exact endsA ⟨[(6, (.lf false (.sc (.bool false))))], [(0, some (false, .box [(.lf false (.sc (.int .i64 a0.Status))), (.lf false (.sc (.int .i64 a0.Next))), (.lf false (.sc (.bool a0.Cancel))), (.lf false (.sc (.int .i64 a0.Done))), (.os 3 1 0 a0.Signals.length a0.Signals.length false), (.os 4 1 0 a0.Timers.length a0.Timers.length false)])), (1, none), (2, none), (3, some (false, .arr false 1 (a0.Signals.map eS))), (4, some (false, .arr false 1 (a0.Timers.map eS)))], 5, 104⟩ [some 0, some 1, some 2, some 1, some 2]
    · try refine sA ?_
      refine Bs_if h (fun h hc6 => ?_) (fun h hc6 => ?_)
      · try refine sA ?_
        have he := Option.some.inj h
        subst he
        exact endsA ⟨[(6, (.lf false (.sc (.bool true))))], [(0, some (false, .box [(.lf false (.sc (.int .i64 1))), (.lf false (.sc (.int .i64 (wI (a0.Next + 1))))), (.lf false (.sc (.bool a0.Cancel))), (.lf false (.sc (.int .i64 a0.Done))), (.os 3 1 0 a0.Signals.length a0.Signals.length false), (.os 4 1 0 a0.Timers.length a0.Timers.length false)])), (1, none), (2, none), (3, some (false, .arr false 1 (a0.Signals.map eS))), (4, some (false, .arr false 1 (a0.Timers.map eS)))], 5, 104⟩ [some 0, some 1, some 2, some 1, some 2]
      · try refine sA ?_
        refine Bs_if h (fun h hc7 => ?_) (fun h hc7 => ?_)
        · try refine sA ?_
          obtain ⟨p153, hq8, h⟩ := bind_ok h
          refine Sq_cut (fun s2 => s2 = ⟨[(0, (.pb 0 0)), (2, (.lf false (.sc (.string a2)))), (54, (.lf false (.sc (.bool p153.t54))))], [(0, some (false, .box [(.lf false (.sc (.int .i64 a0.Status))), (.lf false (.sc (.int .i64 a0.Next))), (.lf false (.sc (.bool a0.Cancel))), (.lf false (.sc (.int .i64 a0.Done))), (.os 1 1 0 a0.Signals.length m1 x1), (.os 2 1 0 a0.Timers.length m2 x2)])), (1, some (false, .arr true 1 (a0.Signals.map eS))), (2, some (false, .arr true 1 (a0.Timers.map eS)))], 3, 104⟩) ?_ ?_
          · try refine sA ?_
            obtain ⟨c152, hr9, hq8⟩ := bind_ok hq8
            refine Cl_sA (w_slices_Contains_string hr9) ?_
            try refine sA ?_
            refine Sp_if hq8 (fun hq8 hc10 => ?_) (fun hq8 hc10 => ?_)
            · try refine sA ?_
              cases hq8
              exact X_cut rfl (weakA [some 0, some 1, some 2])
            · try refine sA ?_
              cases hq8
              exact X_cut rfl (weakA [some 0, some 1, some 2])
          · intro s2 hJ; subst hJ
            try dsimp only at h
            try refine sA ?_
            refine Bs_if h (fun h hc11 => ?_) (fun h hc11 => ?_)
            · try refine sA ?_
              have he := Option.some.inj h
              subst he
              exact endsA ⟨[(6, (.lf false (.sc (.bool false))))], [(0, some (false, .box [(.lf false (.sc (.int .i64 a0.Status))), (.lf false (.sc (.int .i64 a0.Next))), (.lf false (.sc (.bool a0.Cancel))), (.lf false (.sc (.int .i64 a0.Done))), (.os 3 1 0 a0.Signals.length a0.Signals.length false), (.os 4 1 0 a0.Timers.length a0.Timers.length false)])), (1, none), (2, none), (3, some (false, .arr false 1 (a0.Signals.map eS))), (4, some (false, .arr false 1 (a0.Timers.map eS)))], 5, 104⟩ [some 0, some 1, some 2, some 1, some 2]
            · try refine sA ?_
              obtain ⟨hp12, h⟩ := guard_some h
              try refine sA ?_
              try refine andA ?_
              have he := Option.some.inj h
              subst he
              exact endsA ⟨[(6, (.lf false (.sc (.bool true))))], [(0, some (false, .box [(.lf false (.sc (.int .i64 a0.Status))), (.lf false (.sc (.int .i64 (wI (a0.Next + 1))))), (.lf false (.sc (.bool a0.Cancel))), (.lf false (.sc (.int .i64 a0.Done))), (.os 3 1 0 ((a0.Signals ++ ([a2])).length) ((a0.Signals ++ ([a2])).length) false), (.os 4 1 0 a0.Timers.length a0.Timers.length false)])), (1, none), (2, none), (3, some (false, .arr false 1 ((a0.Signals ++ ([a2])).map eS))), (4, some (false, .arr false 1 (a0.Timers.map eS)))], 5, 104⟩ [some 0, some 1, some 2, some 4, some 2]
        · try refine sA ?_
          refine Bs_if h (fun h hc13 => ?_) (fun h hc13 => ?_)
          · try refine sA ?_
            have he := Option.some.inj h
            subst he
            exact endsA ⟨[(6, (.lf false (.sc (.bool true))))], [(0, some (false, .box [(.lf false (.sc (.int .i64 a0.Status))), (.lf false (.sc (.int .i64 (wI (a0.Next + 1))))), (.lf false (.sc (.bool a0.Cancel))), (.lf false (.sc (.int .i64 (wI (a0.Done + 1))))), (.os 3 1 0 a0.Signals.length a0.Signals.length false), (.os 4 1 0 a0.Timers.length a0.Timers.length false)])), (1, none), (2, none), (3, some (false, .arr false 1 (a0.Signals.map eS))), (4, some (false, .arr false 1 (a0.Timers.map eS)))], 5, 104⟩ [some 0, some 1, some 2, some 1, some 2]
          · try refine sA ?_
            refine Bs_if h (fun h hc14 => ?_) (fun h hc14 => ?_)
            · try refine sA ?_
              obtain ⟨c154, hr15, h⟩ := bind_ok h
              refine Cl_hA [0, 1, 2] (w_impl_State_turnTimer_o hr15) ?_
              try refine sA ?_
              refine Bs_if h (fun h hc16 => ?_) (fun h hc16 => ?_)
              · try refine sA ?_
                have he := Option.some.inj h
                subst he
                exact endsA ⟨[(6, (.lf false (.sc (.bool false))))], [(0, some (false, .box [(.lf false (.sc (.int .i64 c154.2.Status))), (.lf false (.sc (.int .i64 c154.2.Next))), (.lf false (.sc (.bool c154.2.Cancel))), (.lf false (.sc (.int .i64 c154.2.Done))), (.os 3 1 0 a0.Signals.length a0.Signals.length false), (.os 4 1 0 c154.2.Timers.length c154.2.Timers.length false)])), (1, none), (2, none), (3, some (false, .arr false 1 (a0.Signals.map eS))), (4, some (false, .arr false 1 (c154.2.Timers.map eS)))], 5, 104⟩ [some 0, some 1, some 2, some 1, some 3]
              · try refine sA ?_
                have he := Option.some.inj h
                subst he
                exact endsA ⟨[(6, (.lf false (.sc (.bool true))))], [(0, some (false, .box [(.lf false (.sc (.int .i64 c154.2.Status))), (.lf false (.sc (.int .i64 (wI (c154.2.Next + 1))))), (.lf false (.sc (.bool c154.2.Cancel))), (.lf false (.sc (.int .i64 c154.2.Done))), (.os 3 1 0 a0.Signals.length a0.Signals.length false), (.os 4 1 0 c154.2.Timers.length c154.2.Timers.length false)])), (1, none), (2, none), (3, some (false, .arr false 1 (a0.Signals.map eS))), (4, some (false, .arr false 1 (c154.2.Timers.map eS)))], 5, 104⟩ [some 0, some 1, some 2, some 1, some 3]
            · try refine sA ?_
              refine Bs_if h (fun h hc17 => ?_) (fun h hc17 => ?_)
              · try refine sA ?_
                refine Bs_if h (fun h hc18 => ?_) (fun h hc18 => ?_)
                · try refine sA ?_
                  have he := Option.some.inj h
                  subst he
                  exact endsA ⟨[(6, (.lf false (.sc (.bool false))))], [(0, some (false, .box [(.lf false (.sc (.int .i64 a0.Status))), (.lf false (.sc (.int .i64 a0.Next))), (.lf false (.sc (.bool a0.Cancel))), (.lf false (.sc (.int .i64 a0.Done))), (.os 3 1 0 a0.Signals.length a0.Signals.length false), (.os 4 1 0 a0.Timers.length a0.Timers.length false)])), (1, none), (2, none), (3, some (false, .arr false 1 (a0.Signals.map eS))), (4, some (false, .arr false 1 (a0.Timers.map eS)))], 5, 104⟩ [some 0, some 1, some 2, some 1, some 2]
                · try refine sA ?_
                  have he := Option.some.inj h
                  subst he
                  exact endsA ⟨[(6, (.lf false (.sc (.bool true))))], [(0, some (false, .box [(.lf false (.sc (.int .i64 a0.Status))), (.lf false (.sc (.int .i64 (wI (a0.Next + 1))))), (.lf false (.sc (.bool true))), (.lf false (.sc (.int .i64 a0.Done))), (.os 3 1 0 a0.Signals.length a0.Signals.length false), (.os 4 1 0 a0.Timers.length a0.Timers.length false)])), (1, none), (2, none), (3, some (false, .arr false 1 (a0.Signals.map eS))), (4, some (false, .arr false 1 (a0.Timers.map eS)))], 5, 104⟩ [some 0, some 1, some 2, some 1, some 2]
              · try refine sA ?_
                refine Bs_if h (fun h hc19 => ?_) (fun h hc19 => ?_)
                · try refine sA ?_
                  have he := Option.some.inj h
                  subst he
                  exact endsA ⟨[(6, (.lf false (.sc (.bool true))))], [(0, some (false, .box [(.lf false (.sc (.int .i64 2))), (.lf false (.sc (.int .i64 (wI (a0.Next + 1))))), (.lf false (.sc (.bool a0.Cancel))), (.lf false (.sc (.int .i64 a0.Done))), (.os 3 1 0 a0.Signals.length a0.Signals.length false), (.os 4 1 0 (([] : List ByteArray).length) (([] : List ByteArray).length) false)])), (1, none), (2, none), (3, some (false, .arr false 1 (a0.Signals.map eS))), (4, some (false, .arr false 1 (([] : List ByteArray).map eS)))], 5, 104⟩ [some 0, some 1, some 2, some 1, none]
                · try refine sA ?_
                  have he := Option.some.inj h
                  subst he
                  exact endsA ⟨[(6, (.lf false (.sc (.bool true))))], [(0, some (false, .box [(.lf false (.sc (.int .i64 a0.Status))), (.lf false (.sc (.int .i64 (wI (a0.Next + 1))))), (.lf false (.sc (.bool a0.Cancel))), (.lf false (.sc (.int .i64 a0.Done))), (.os 3 1 0 a0.Signals.length a0.Signals.length false), (.os 4 1 0 a0.Timers.length a0.Timers.length false)])), (1, none), (2, none), (3, some (false, .arr false 1 (a0.Signals.map eS))), (4, some (false, .arr false 1 (a0.Timers.map eS)))], 5, 104⟩ [some 0, some 1, some 2, some 1, some 2]
theorem w_impl_ApplyEvent {a0 : StateT} {a1 : EventT} {r : (StateT × Bool)} (h : impl_ApplyEvent a0 a1 = some r) : Fn Tryd.prog 28 [(.ag [(.lf false (.sc (.int .i64 a0.Status))), (.lf false (.sc (.int .i64 a0.Next))), (.lf false (.sc (.bool a0.Cancel))), (.lf false (.sc (.int .i64 a0.Done))), (.lf true (.sl (a0.Signals.map eS))), (.lf true (.sl (a0.Timers.map eS)))]), (.ag [(.lf false (.sc (.int .i64 a1.Id))), (.lf false (.sc (.int .i64 a1.Version))), (.lf false (.sc (.int .i64 a1.Kind))), (.lf false (.sc (.string a1.Name)))])] [] 0 (.tu [(.ag [(.lf false (.sc (.int .i64 r.1.Status))), (.lf false (.sc (.int .i64 r.1.Next))), (.lf false (.sc (.bool r.1.Cancel))), (.lf false (.sc (.int .i64 r.1.Done))), (.os 0 1 0 r.1.Signals.length r.1.Signals.length false), (.os 1 1 0 r.1.Timers.length r.1.Timers.length false)]), (.lf false (.sc (.bool r.2)))]) [(0, some (false, .arr false 1 (r.1.Signals.map eS))), (1, some (false, .arr false 1 (r.1.Timers.map eS)))] 3 := by
  unfold impl_ApplyEvent at h
  refine fn_code tab_ok mixed [(1000, [(2, 0), (3, 0), (4, 0)]), (1001, [(2, 0), (3, 0), (4, 0), (21, 0)]), (1002, [(4, 0), (5, 0)]), (1003, [(3, 0), (4, 0), (6, 0)]), (1004, [(4, 0), (6, 0), (35, 0)]), (1005, [(4, 0), (5, 0)]), (1006, [(4, 0), (5, 0)]), (4001, []), (4004, [])] Tryd.func28 rfl rfl (by simp [Tryd.f28]) (by kernel_rfl) ?_
  simp only [Tryd.f28]
  refine sA ?_
  obtain ⟨p131, hq1, h⟩ := bind_ok h
  refine Sq_cut (fun s2 => s2 = ⟨[(2, (.pb 0 0)), (3, (.pb 1 0)), (4, (.pb 2 0)), (21, (.lf false (.sc (.bool p131.t21))))], [(0, some (true, .box [(.lf false (.sc (.int .i64 a0.Status))), (.lf false (.sc (.int .i64 a0.Next))), (.lf false (.sc (.bool a0.Cancel))), (.lf false (.sc (.int .i64 a0.Done))), (.lf true (.sl (a0.Signals.map eS))), (.lf true (.sl (a0.Timers.map eS)))])), (1, some (true, .box [(.lf false (.sc (.int .i64 a1.Id))), (.lf false (.sc (.int .i64 a1.Version))), (.lf false (.sc (.int .i64 a1.Kind))), (.lf false (.sc (.string a1.Name)))])), (2, some (true, .box [(.lf false (.sc (.int .i64 0))), (.lf false (.sc (.int .i64 0))), (.lf false (.sc (.bool false))), (.lf false (.sc (.int .i64 0))), .nl, .nl]))], 3, 38⟩) ?_ ?_
  · try refine sA ?_
    obtain ⟨c123, hr2, hq1⟩ := bind_ok hq1
    refine Cl_sA (w_impl_GoodState hr2) ?_
    try refine sA ?_
    refine Sp_if hq1 (fun hq1 hc3 => ?_) (fun hq1 hc3 => ?_)
    · try refine sA ?_
      cases hq1
      exact X_cut rfl (weakA [some 0, some 1, some 2])
    · try refine sA ?_
      obtain ⟨c130, hr4, hq1⟩ := bind_ok hq1
      refine Cl_sA (w_impl_GoodEvent hr4) ?_
      try refine sA ?_
      refine Sp_if hq1 (fun hq1 hc5 => ?_) (fun hq1 hc5 => ?_)
      · try refine sA ?_
        cases hq1
        exact X_cut rfl (weakA [some 0, some 1, some 2])
      · try refine sA ?_
        cases hq1
        exact X_cut rfl (weakA [some 0, some 1, some 2])
  · intro s2 hJ; subst hJ
    try dsimp only at h
    try refine sA ?_
    refine Bs_if h (fun h hc6 => ?_) (fun h hc6 => ?_)
    · try refine sA ?_
      have he := Option.some.inj h
      subst he
      exact endsA ⟨[(4, (.pb 2 0)), (5, (.lf false (.sc (.bool false))))], [(0, some (false, .arr false 1 (([] : List ByteArray).map eS))), (1, some (false, .arr false 1 (([] : List ByteArray).map eS))), (2, some (true, .box [(.lf false (.sc (.int .i64 0))), (.lf false (.sc (.int .i64 0))), (.lf false (.sc (.bool false))), (.lf false (.sc (.int .i64 0))), (.os 0 1 0 (([] : List ByteArray).length) (([] : List ByteArray).length) false), (.os 1 1 0 (([] : List ByteArray).length) (([] : List ByteArray).length) false)]))], 3, 38⟩ [none, none, some 2]
    · try refine sA ?_
      obtain ⟨c134, hr7, h⟩ := bind_ok h
      refine Cl_sA (w_impl_cloneState hr7) ?_
      try refine sA ?_
      obtain ⟨p157, hq8, h⟩ := bind_ok h
      refine Sq_cut (fun s2 => s2 = ⟨[(4, (.pb 0 0)), (6, (.pb 1 0)), (35, (.lf false (.sc (.bool p157.t35))))], [(0, some (true, .box [(.lf false (.sc (.int .i64 0))), (.lf false (.sc (.int .i64 0))), (.lf false (.sc (.bool false))), (.lf false (.sc (.int .i64 0))), .nl, .nl])), (1, some (true, .box [(.lf false (.sc (.int .i64 p157.b1_0))), (.lf false (.sc (.int .i64 p157.b1_1))), (.lf false (.sc (.bool p157.b1_2))), (.lf false (.sc (.int .i64 p157.b1_3))), (.os 2 1 0 p157.c2.length p157.c2.length false), (.os 3 1 0 p157.c3.length p157.c3.length false)])), (2, some (false, .arr false 1 (p157.c2.map eS))), (3, some (false, .arr false 1 (p157.c3.map eS)))], 4, 38⟩) ?_ ?_
      · try refine sA ?_
        obtain ⟨c155, hr9, hq8⟩ := bind_ok hq8
        refine Cl_hA [6, 3, 4] (w_impl_State_apply_o hr9) ?_
        try refine sA ?_
        refine Sp_if hq8 (fun hq8 hc10 => ?_) (fun hq8 hc10 => ?_)
        · try refine sA ?_
          cases hq8
          exact X_cut rfl (weakA [some 2, some 6, some 7, some 8])
        · try refine sA ?_
          obtain ⟨c156, hr11, hq8⟩ := bind_ok hq8
          refine Cl_sA (w_impl_GoodState hr11) ?_
          try refine sA ?_
          cases hq8
          exact X_cut rfl (weakA [some 2, some 6, some 7, some 8])
      · intro s2 hJ; subst hJ
        try dsimp only at h
        try refine sA ?_
        refine Bs_if h (fun h hc12 => ?_) (fun h hc12 => ?_)
        · try refine sA ?_
          have he := Option.some.inj h
          subst he
          exact endsA ⟨[(4, (.pb 2 0)), (5, (.lf false (.sc (.bool false))))], [(0, some (false, .arr false 1 (([] : List ByteArray).map eS))), (1, some (false, .arr false 1 (([] : List ByteArray).map eS))), (2, some (true, .box [(.lf false (.sc (.int .i64 0))), (.lf false (.sc (.int .i64 0))), (.lf false (.sc (.bool false))), (.lf false (.sc (.int .i64 0))), (.os 0 1 0 (([] : List ByteArray).length) (([] : List ByteArray).length) false), (.os 1 1 0 (([] : List ByteArray).length) (([] : List ByteArray).length) false)]))], 3, 38⟩ [none, none, some 0]
        · try refine sA ?_
          have he := Option.some.inj h
          subst he
          exact endsA ⟨[(4, (.pb 2 0)), (5, (.lf false (.sc (.bool true))))], [(0, some (false, .arr false 1 (p157.c2.map eS))), (1, some (false, .arr false 1 (p157.c3.map eS))), (2, some (true, .box [(.lf false (.sc (.int .i64 p157.b1_0))), (.lf false (.sc (.int .i64 p157.b1_1))), (.lf false (.sc (.bool p157.b1_2))), (.lf false (.sc (.int .i64 p157.b1_3))), (.os 0 1 0 p157.c2.length p157.c2.length false), (.os 1 1 0 p157.c3.length p157.c3.length false)]))], 3, 38⟩ [some 2, some 3, some 0]
theorem w_impl_FoldEvents {a0 : (List EventT)} {r : (StateT × Int)} (h : impl_FoldEvents a0 = some r) : Fn Tryd.prog 23 [(.lf true (.sl (a0.map eEvent)))] [] 0 (.tu [(.ag [(.lf false (.sc (.int .i64 r.1.Status))), (.lf false (.sc (.int .i64 r.1.Next))), (.lf false (.sc (.bool r.1.Cancel))), (.lf false (.sc (.int .i64 r.1.Done))), (.os 0 1 0 r.1.Signals.length r.1.Signals.length false), (.os 1 1 0 r.1.Timers.length r.1.Timers.length false)]), (.lf false (.sc (.int .i64 r.2)))]) [(0, some (false, .arr false 1 (r.1.Signals.map eS))), (1, some (false, .arr false 1 (r.1.Timers.map eS)))] 3 := by
  unfold impl_FoldEvents at h
  refine fn_code tab_ok mixed [(1000, [(0, 0), (2, 0)]), (1001, [(0, 0), (2, 0), (4, 0)]), (1002, [(0, 0), (2, 0), (4, 0), (10, 0), (11, 0), (12, 0)]), (1003, [(0, 0), (2, 0), (4, 0), (10, 0), (11, 0), (12, 0), (13, 0)]), (1004, [(0, 0), (2, 0), (4, 0), (5, 0), (6, 0), (10, 0), (11, 0), (12, 0)]), (1005, [(0, 0), (2, 0), (4, 0), (5, 0), (7, 0), (8, 0), (10, 0), (11, 0), (12, 0)]), (1006, [(0, 0), (2, 0), (4, 0), (5, 0), (7, 0), (10, 0), (11, 0), (12, 0), (24, 0)]), (1007, [(2, 0), (3, 0)]), (1008, [(0, 0), (2, 0), (4, 0), (10, 0), (11, 0), (12, 0)]), (1009, [(0, 0), (2, 0), (4, 0), (10, 0), (11, 0), (12, 0)]), (1010, [(2, 0), (3, 0)])] Tryd.func23 rfl rfl (by simp [Tryd.f23]) (by kernel_rfl) ?_
  simp only [Tryd.f23]
  refine sA ?_
  obtain ⟨c82, hr1, h⟩ := bind_ok h
  refine Cl_sA (w_impl_NewState hr1) ?_
  try refine sA ?_
  obtain ⟨y160, hl2, h⟩ := bind_ok h
  refine W_loopP (fun g83 : impl_FoldEvents_G1 => ⟨[(0, (.lf true (.sl (a0.map eEvent)))), (2, (.pb 0 0)), (4, (.pb 1 0)), (10, (.lf true (.sl (a0.map eEvent)))), (11, (.lf false (.sc (.int .i64 ((a0.length : Nat) : Int))))), (12, (.lf false (.sc (.int .i64 g83.t12))))], [(0, some (true, .box [(.lf false (.sc (.int .i64 0))), (.lf false (.sc (.int .i64 0))), (.lf false (.sc (.bool false))), (.lf false (.sc (.int .i64 0))), .nl, .nl])), (1, some (true, .box [(.lf false (.sc (.int .i64 g83.b1_0))), (.lf false (.sc (.int .i64 g83.b1_1))), (.lf false (.sc (.bool g83.b1_2))), (.lf false (.sc (.int .i64 g83.b1_3))), (.os 2 1 0 g83.c2.length g83.c2.length false), (.os 3 1 0 g83.c3.length g83.c3.length false)])), (2, some (false, .arr false 1 (g83.c2.map eS))), (3, some (false, .arr false 1 (g83.c3.map eS)))], 4, 32⟩) (impl_FoldEvents_L1 a0) _ _ hl2 (weakA [some 0, some 2, none, none]) ?_
  · intro n1 g83 z1 hs1 hk1
    unfold impl_FoldEvents_L1 at hs1
    try dsimp only at hs1
    refine sA ?_
    refine Bs_if hs1 (fun hs1 hc3 => ?_) (fun hs1 hc3 => ?_)
    · try refine sA ?_
      obtain ⟨hp4, hs1⟩ := guard_some hs1
      have hn4 : g83.t12.toNat < a0.length := by first | omega | (simp only [List.length_set, List.length_append, List.length_replicate, List.length_map]; omega)
      try refine sA ?_
      try refine andA ?_
      obtain ⟨c159, hr5, hs1⟩ := bind_ok hs1
      refine Cl_sA (w_impl_ApplyEvent hr5) ?_
      try refine sA ?_
      refine Bs_if hs1 (fun hs1 hc6 => ?_) (fun hs1 hc6 => ?_)
      · try refine sA ?_
        cases hs1
        cases hk1
        try dsimp only at h
        try refine sA ?_
        have he := Option.some.inj h
        subst he
        exact endsA ⟨[(2, (.pb 2 0)), (3, (.lf false (.sc (.int .i64 g83.t12))))], [(0, some (false, .arr false 1 (g83.c2.map eS))), (1, some (false, .arr false 1 (g83.c3.map eS))), (2, some (true, .box [(.lf false (.sc (.int .i64 g83.b1_0))), (.lf false (.sc (.int .i64 g83.b1_1))), (.lf false (.sc (.bool g83.b1_2))), (.lf false (.sc (.int .i64 g83.b1_3))), (.os 0 1 0 g83.c2.length g83.c2.length false), (.os 1 1 0 g83.c3.length g83.c3.length false)]))], 3, 32⟩ [some 2, some 3, some 0]
      · try refine sA ?_
        cases hs1
        exact X_backP hk1 (weakA [some 0, some 1, some 5, some 6])
    · try refine sA ?_
      cases hs1
      cases hk1
      try dsimp only at h
      try refine sA ?_
      have he := Option.some.inj h
      subst he
      exact endsA ⟨[(2, (.pb 2 0)), (3, (.lf false (.sc (.int .i64 ((a0.length : Nat) : Int)))))], [(0, some (false, .arr false 1 (g83.c2.map eS))), (1, some (false, .arr false 1 (g83.c3.map eS))), (2, some (true, .box [(.lf false (.sc (.int .i64 g83.b1_0))), (.lf false (.sc (.int .i64 g83.b1_1))), (.lf false (.sc (.bool g83.b1_2))), (.lf false (.sc (.int .i64 g83.b1_3))), (.os 0 1 0 g83.c2.length g83.c2.length false), (.os 1 1 0 g83.c3.length g83.c3.length false)]))], 3, 32⟩ [some 2, some 3, some 0]
theorem w_laws_eqStringS {a0 : (List ByteArray)} {a1 : (List ByteArray)} {r : Bool} (h : laws_eqStringS a0 a1 = some r) : Fn Tryd.prog 18 [(.lf true (.sl (a0.map eS))), (.lf true (.sl (a1.map eS)))] [] 0 (.lf false (.sc (.bool r))) [] 0 := by
  unfold laws_eqStringS at h
  refine fn_code tab_ok mixed [(1000, [(0, 0), (1, 0)]), (1001, [(0, 0), (1, 0), (10, 0)]), (1002, [(4, 0)]), (1003, [(0, 0), (1, 0), (5, 0)]), (1004, [(0, 0), (1, 0), (5, 0), (14, 0)]), (1005, [(0, 0), (1, 0), (5, 0)]), (1006, [(0, 0), (1, 0), (5, 0), (25, 0)]), (1007, [(4, 0)]), (1008, [(4, 0)])] Tryd.func18 rfl rfl (by simp [Tryd.f18]) (by kernel_rfl) ?_
  simp only [Tryd.f18]
  refine sA ?_
  refine Bs_if h (fun h hc1 => ?_) (fun h hc1 => ?_)
  · try refine sA ?_
    have he := Option.some.inj h
    subst he
    exact endsA ⟨[(4, (.lf false (.sc (.bool false))))], [], 0, 26⟩ []
  · try refine sA ?_
    obtain ⟨y165, hl2, h⟩ := bind_ok h
    refine W_loopP (fun g164 : laws_eqStringS_G1 => ⟨[(0, (.lf true (.sl (a0.map eS)))), (1, (.lf true (.sl (a1.map eS)))), (5, (.lf false (.sc (.int .i64 g164.t5))))], [], 0, 26⟩) (laws_eqStringS_L1 a0 a1) _ _ hl2 (weakA []) ?_
    · intro n1 g164 z1 hs1 hk1
      unfold laws_eqStringS_L1 at hs1
      try dsimp only at hs1
      refine sA ?_
      refine Bs_if hs1 (fun hs1 hc3 => ?_) (fun hs1 hc3 => ?_)
      · try refine sA ?_
        obtain ⟨hp4, hs1⟩ := guard_some hs1
        have hn4 : g164.t5.toNat < a0.length := by first | omega | (simp only [List.length_set, List.length_append, List.length_replicate, List.length_map]; omega)
        try refine sA ?_
        try refine andA ?_
        obtain ⟨hp5, hs1⟩ := guard_some hs1
        have hn5 : g164.t5.toNat < a1.length := by first | omega | (simp only [List.length_set, List.length_append, List.length_replicate, List.length_map]; omega)
        try refine sA ?_
        try refine andA ?_
        refine Bs_if hs1 (fun hs1 hc6 => ?_) (fun hs1 hc6 => ?_)
        · try refine sA ?_
          cases hs1
          cases hk1
          try dsimp only at h
          try refine sA ?_
          have he := Option.some.inj h
          subst he
          exact endsA ⟨[(4, (.lf false (.sc (.bool false))))], [], 0, 26⟩ []
        · try refine sA ?_
          cases hs1
          exact X_backP hk1 (weakA [])
      · try refine sA ?_
        cases hs1
        cases hk1
        try dsimp only at h
        try refine sA ?_
        have he := Option.some.inj h
        subst he
        exact endsA ⟨[(4, (.lf false (.sc (.bool true))))], [], 0, 26⟩ []
theorem w_laws_eqState {a0 : StateT} {a1 : StateT} {r : Bool} (h : laws_eqState a0 a1 = some r) : Fn Tryd.prog 24 [(.ag [(.lf false (.sc (.int .i64 a0.Status))), (.lf false (.sc (.int .i64 a0.Next))), (.lf false (.sc (.bool a0.Cancel))), (.lf false (.sc (.int .i64 a0.Done))), (.lf true (.sl (a0.Signals.map eS))), (.lf true (.sl (a0.Timers.map eS)))]), (.ag [(.lf false (.sc (.int .i64 a1.Status))), (.lf false (.sc (.int .i64 a1.Next))), (.lf false (.sc (.bool a1.Cancel))), (.lf false (.sc (.int .i64 a1.Done))), (.lf true (.sl (a1.Signals.map eS))), (.lf true (.sl (a1.Timers.map eS)))])] [] 0 (.lf false (.sc (.bool r))) [] 0 := by
  unfold laws_eqState at h
  refine fn_code tab_ok mixed [(1000, [(2, 0), (3, 0)]), (1001, [(2, 0), (3, 0), (9, 0)]), (1002, [(4, 0)]), (1003, [(2, 0), (3, 0), (14, 0)]), (1004, [(4, 0)]), (1005, [(2, 0), (3, 0), (19, 0)]), (1006, [(4, 0)]), (1007, [(2, 0), (3, 0), (24, 0)]), (1008, [(4, 0)]), (1009, [(2, 0), (3, 0), (30, 0)]), (1010, [(4, 0)]), (1011, [(36, 0)]), (1012, [(4, 0)]), (1013, [(4, 0)])] Tryd.func24 rfl rfl (by simp [Tryd.f24]) (by kernel_rfl) ?_
  simp only [Tryd.f24]
  refine sA ?_
  refine Bs_if h (fun h hc1 => ?_) (fun h hc1 => ?_)
  · try refine sA ?_
    have he := Option.some.inj h
    subst he
    exact endsA ⟨[(4, (.lf false (.sc (.bool false))))], [], 0, 37⟩ []
  · try refine sA ?_
    refine Bs_if h (fun h hc2 => ?_) (fun h hc2 => ?_)
    · try refine sA ?_
      have he := Option.some.inj h
      subst he
      exact endsA ⟨[(4, (.lf false (.sc (.bool false))))], [], 0, 37⟩ []
    · try refine sA ?_
      refine Bs_if h (fun h hc3 => ?_) (fun h hc3 => ?_)
      · try refine sA ?_
        have he := Option.some.inj h
        subst he
        exact endsA ⟨[(4, (.lf false (.sc (.bool false))))], [], 0, 37⟩ []
      · try refine sA ?_
        refine Bs_if h (fun h hc4 => ?_) (fun h hc4 => ?_)
        · try refine sA ?_
          have he := Option.some.inj h
          subst he
          exact endsA ⟨[(4, (.lf false (.sc (.bool false))))], [], 0, 37⟩ []
        · try refine sA ?_
          obtain ⟨c168, hr5, h⟩ := bind_ok h
          refine Cl_sA (w_laws_eqStringS hr5) ?_
          try refine sA ?_
          refine Bs_if h (fun h hc6 => ?_) (fun h hc6 => ?_)
          · try refine sA ?_
            have he := Option.some.inj h
            subst he
            exact endsA ⟨[(4, (.lf false (.sc (.bool false))))], [], 0, 37⟩ []
          · try refine sA ?_
            obtain ⟨c169, hr7, h⟩ := bind_ok h
            refine Cl_sA (w_laws_eqStringS hr7) ?_
            try refine sA ?_
            refine Bs_if h (fun h hc8 => ?_) (fun h hc8 => ?_)
            · try refine sA ?_
              have he := Option.some.inj h
              subst he
              exact endsA ⟨[(4, (.lf false (.sc (.bool false))))], [], 0, 37⟩ []
            · try refine sA ?_
              have he := Option.some.inj h
              subst he
              exact endsA ⟨[(4, (.lf false (.sc (.bool true))))], [], 0, 37⟩ []
theorem w_laws_eqEvent {a0 : EventT} {a1 : EventT} {r : Bool} (h : laws_eqEvent a0 a1 = some r) : Fn Tryd.prog 68 [(.ag [(.lf false (.sc (.int .i64 a0.Id))), (.lf false (.sc (.int .i64 a0.Version))), (.lf false (.sc (.int .i64 a0.Kind))), (.lf false (.sc (.string a0.Name)))]), (.ag [(.lf false (.sc (.int .i64 a1.Id))), (.lf false (.sc (.int .i64 a1.Version))), (.lf false (.sc (.int .i64 a1.Kind))), (.lf false (.sc (.string a1.Name)))])] [] 0 (.lf false (.sc (.bool r))) [] 0 := by
  unfold laws_eqEvent at h
  refine fn_code tab_ok mixed [(1000, [(2, 0), (3, 0)]), (1001, [(2, 0), (3, 0), (9, 0)]), (1002, [(4, 0)]), (1003, [(2, 0), (3, 0), (14, 0)]), (1004, [(4, 0)]), (1005, [(2, 0), (3, 0), (19, 0)]), (1006, [(4, 0)]), (1007, [(24, 0)]), (1008, [(4, 0)]), (1009, [(4, 0)])] Tryd.func68 rfl rfl (by simp [Tryd.f68]) (by kernel_rfl) ?_
  simp only [Tryd.f68]
  refine sA ?_
  refine Bs_if h (fun h hc1 => ?_) (fun h hc1 => ?_)
  · try refine sA ?_
    have he := Option.some.inj h
    subst he
    exact endsA ⟨[(4, (.lf false (.sc (.bool false))))], [], 0, 25⟩ []
  · try refine sA ?_
    refine Bs_if h (fun h hc2 => ?_) (fun h hc2 => ?_)
    · try refine sA ?_
      have he := Option.some.inj h
      subst he
      exact endsA ⟨[(4, (.lf false (.sc (.bool false))))], [], 0, 25⟩ []
    · try refine sA ?_
      refine Bs_if h (fun h hc3 => ?_) (fun h hc3 => ?_)
      · try refine sA ?_
        have he := Option.some.inj h
        subst he
        exact endsA ⟨[(4, (.lf false (.sc (.bool false))))], [], 0, 25⟩ []
      · try refine sA ?_
        refine Bs_if h (fun h hc4 => ?_) (fun h hc4 => ?_)
        · try refine sA ?_
          have he := Option.some.inj h
          subst he
          exact endsA ⟨[(4, (.lf false (.sc (.bool false))))], [], 0, 25⟩ []
        · try refine sA ?_
          have he := Option.some.inj h
          subst he
          exact endsA ⟨[(4, (.lf false (.sc (.bool true))))], [], 0, 25⟩ []
theorem w_laws_eqEventS {a0 : (List EventT)} {a1 : (List EventT)} {r : Bool} (h : laws_eqEventS a0 a1 = some r) : Fn Tryd.prog 15 [(.lf true (.sl (a0.map eEvent))), (.lf true (.sl (a1.map eEvent)))] [] 0 (.lf false (.sc (.bool r))) [] 0 := by
  unfold laws_eqEventS at h
  refine fn_code tab_ok mixed [(1000, [(0, 0), (1, 0)]), (1001, [(0, 0), (1, 0), (10, 0)]), (1002, [(4, 0)]), (1003, [(0, 0), (1, 0), (5, 0)]), (1004, [(0, 0), (1, 0), (5, 0), (14, 0)]), (1005, [(0, 0), (1, 0), (5, 0)]), (1006, [(0, 0), (1, 0), (5, 0), (26, 0)]), (1007, [(4, 0)]), (1008, [(4, 0)])] Tryd.func15 rfl rfl (by simp [Tryd.f15]) (by kernel_rfl) ?_
  simp only [Tryd.f15]
  refine sA ?_
  refine Bs_if h (fun h hc1 => ?_) (fun h hc1 => ?_)
  · try refine sA ?_
    have he := Option.some.inj h
    subst he
    exact endsA ⟨[(4, (.lf false (.sc (.bool false))))], [], 0, 27⟩ []
  · try refine sA ?_
    obtain ⟨y176, hl2, h⟩ := bind_ok h
    refine W_loopP (fun g173 : laws_eqEventS_G1 => ⟨[(0, (.lf true (.sl (a0.map eEvent)))), (1, (.lf true (.sl (a1.map eEvent)))), (5, (.lf false (.sc (.int .i64 g173.t5))))], [], 0, 27⟩) (laws_eqEventS_L1 a0 a1) _ _ hl2 (weakA []) ?_
    · intro n1 g173 z1 hs1 hk1
      unfold laws_eqEventS_L1 at hs1
      try dsimp only at hs1
      refine sA ?_
      refine Bs_if hs1 (fun hs1 hc3 => ?_) (fun hs1 hc3 => ?_)
      · try refine sA ?_
        obtain ⟨hp4, hs1⟩ := guard_some hs1
        have hn4 : g173.t5.toNat < a0.length := by first | omega | (simp only [List.length_set, List.length_append, List.length_replicate, List.length_map]; omega)
        try refine sA ?_
        try refine andA ?_
        obtain ⟨hp5, hs1⟩ := guard_some hs1
        have hn5 : g173.t5.toNat < a1.length := by first | omega | (simp only [List.length_set, List.length_append, List.length_replicate, List.length_map]; omega)
        try refine sA ?_
        try refine andA ?_
        obtain ⟨c175, hr6, hs1⟩ := bind_ok hs1
        refine Cl_sA (w_laws_eqEvent hr6) ?_
        try refine sA ?_
        refine Bs_if hs1 (fun hs1 hc7 => ?_) (fun hs1 hc7 => ?_)
        · try refine sA ?_
          cases hs1
          cases hk1
          try dsimp only at h
          try refine sA ?_
          have he := Option.some.inj h
          subst he
          exact endsA ⟨[(4, (.lf false (.sc (.bool false))))], [], 0, 27⟩ []
        · try refine sA ?_
          cases hs1
          exact X_backP hk1 (weakA [])
      · try refine sA ?_
        cases hs1
        cases hk1
        try dsimp only at h
        try refine sA ?_
        have he := Option.some.inj h
        subst he
        exact endsA ⟨[(4, (.lf false (.sc (.bool true))))], [], 0, 27⟩ []
theorem w_laws_markText {a0 : Int} {r : ByteArray} (h : laws_markText a0 = some r) : Fn Tryd.prog 70 [(.lf false (.sc (.int .i64 a0)))] [] 0 (.lf false (.sc (.string r))) [] 0 := by
  unfold laws_markText at h
  refine fn_code tab_ok mixed [(1000, [(0, 0)]), (1001, [(0, 0), (5, 0)]), (1002, [(2, 0)]), (1003, [(0, 0), (3, 0)]), (1004, [(0, 0), (3, 0), (7, 0)]), (1005, [(0, 0), (3, 0)]), (1006, [(0, 0), (3, 0)]), (1007, [(2, 0)])] Tryd.func70 rfl rfl (by simp [Tryd.f70]) (by kernel_rfl) ?_
  simp only [Tryd.f70]
  refine sA ?_
  refine Bs_if h (fun h hc1 => ?_) (fun h hc1 => ?_)
  · try refine sA ?_
    have he := Option.some.inj h
    subst he
    exact endsA ⟨[(2, (.lf false (.sc (.string (⟨#[109, 48]⟩ : ByteArray)))))], [], 0, 20⟩ []
  · try refine sA ?_
    obtain ⟨y183, hl2, h⟩ := bind_ok h
    refine W_loopP (fun g182 : laws_markText_G1 => ⟨[(0, (.lf false (.sc (.int .i64 g182.t0)))), (3, (.lf false (.sc (.string g182.t3))))], [], 0, 20⟩) (laws_markText_L1) _ _ hl2 (weakA []) ?_
    · intro n1 g182 z1 hs1 hk1
      unfold laws_markText_L1 at hs1
      try dsimp only at hs1
      refine sA ?_
      refine Bs_if hs1 (fun hs1 hc3 => ?_) (fun hs1 hc3 => ?_)
      · try refine sA ?_
        obtain ⟨hp4, hs1⟩ := guard_some hs1
        try refine sA ?_
        try refine andA ?_
        cases hs1
        exact X_backP hk1 (weakA [])
      · try refine sA ?_
        cases hs1
        cases hk1
        try dsimp only at h
        try refine sA ?_
        obtain ⟨hp5, h⟩ := guard_some h
        try refine sA ?_
        try refine andA ?_
        have he := Option.some.inj h
        subst he
        exact endsA ⟨[(2, (.lf false (.sc (.string ((⟨#[109]⟩ : ByteArray) ++ g182.t3)))))], [], 0, 20⟩ []
theorem w_laws_markEventS_w {a0 : (List EventT)} {a1 : Int} {m0 : Nat} {x0 : Bool} {r : (Int × (List EventT))} (h : laws_markEventS_w a0 a1 = some r) : Fn Tryd.prog 19 [(.os 0 4 0 a0.length m0 x0), (.lf false (.sc (.int .i64 a1)))] [(0, some (false, .arr true 4 (a0.map eEvent)))] 1 (.lf false (.sc (.int .i64 r.1))) [(0, some (false, .arr false 4 (r.2.map eEvent)))] 1 := by
  unfold laws_markEventS_w at h
  refine fn_code tab_ok mixed [(1000, [(0, 0), (1, 0)]), (1001, [(0, 0), (1, 0), (5, 0)]), (1002, [(0, 0), (1, 0), (5, 0), (9, 0)]), (1003, [(0, 0), (1, 0), (5, 0)]), (1004, [(0, 0), (1, 0), (5, 0)]), (1005, [(0, 0), (1, 0), (5, 0)]), (1006, [(0, 0), (1, 0), (5, 0)]), (1007, [(0, 0), (1, 0), (5, 0)]), (1008, [(0, 0), (1, 0), (5, 0)]), (1009, [(0, 0), (1, 0), (5, 0)]), (1010, [(0, 0), (1, 0), (5, 0)]), (1011, [(0, 0), (1, 0), (5, 0)]), (1012, [(4, 0)])] Tryd.func19 rfl rfl (by simp [Tryd.f19]) (by kernel_rfl) ?_
  simp only [Tryd.f19]
  refine sA ?_
  obtain ⟨y186, hl1, h⟩ := bind_ok h
  refine W_loopP (fun g181 : laws_markEventS_w_G1 => ⟨[(0, (.os 0 4 0 g181.c0.length g181.c0.length false)), (1, (.lf false (.sc (.int .i64 g181.t1)))), (5, (.lf false (.sc (.int .i64 g181.t5))))], [(0, some (false, .arr true 4 (g181.c0.map eEvent)))], 1, 42⟩) (laws_markEventS_w_L1) _ _ hl1 (weakA [some 0]) ?_
  · intro n1 g181 z1 hs1 hk1
    unfold laws_markEventS_w_L1 at hs1
    try dsimp only at hs1
    refine sA ?_
    refine Bs_if hs1 (fun hs1 hc2 => ?_) (fun hs1 hc2 => ?_)
    · try refine sA ?_
      obtain ⟨hp3, hs1⟩ := guard_some hs1
      have hn3 : g181.t5.toNat < g181.c0.length := by first | omega | (simp only [List.length_set, List.length_append, List.length_replicate, List.length_map]; omega)
      try refine sA ?_
      try refine andA ?_
      try refine andB ?_
      try refine sA ?_
      obtain ⟨hp5, hs1⟩ := guard_some hs1
      have hn5 : g181.t5.toNat < g181.c0.length := by first | omega | (simp only [List.length_set, List.length_append, List.length_replicate, List.length_map]; omega)
      try refine sA ?_
      try refine andA ?_
      try refine andB ?_
      try refine sA ?_
      obtain ⟨hp7, hs1⟩ := guard_some hs1
      have hn7 : g181.t5.toNat < g181.c0.length := by first | omega | (simp only [List.length_set, List.length_append, List.length_replicate, List.length_map]; omega)
      try refine sA ?_
      try refine andA ?_
      try refine andB ?_
      try refine sA ?_
      obtain ⟨c185, hr9, hs1⟩ := bind_ok hs1
      refine Cl_sA (w_laws_markText hr9) ?_
      try refine sA ?_
      obtain ⟨hp10, hs1⟩ := guard_some hs1
      have hn10 : g181.t5.toNat < g181.c0.length := by first | omega | (simp only [List.length_set, List.length_append, List.length_replicate, List.length_map]; omega)
      try refine sA ?_
      try refine andA ?_
      try refine andB ?_
      try refine sA ?_
      cases hs1
      exact X_backP hk1 (weakA [some 0])
    · try refine sA ?_
      cases hs1
      cases hk1
      try dsimp only at h
      try refine sA ?_
      have he := Option.some.inj h
      subst he
      exact endsA ⟨[(4, (.lf false (.sc (.int .i64 g181.t1))))], [(0, some (false, .arr false 4 (g181.c0.map eEvent)))], 1, 42⟩ [some 0]
theorem w_laws_markStringS_w {a0 : (List ByteArray)} {a1 : Int} {m0 : Nat} {x0 : Bool} {r : (Int × (List ByteArray))} (h : laws_markStringS_w a0 a1 = some r) : Fn Tryd.prog 20 [(.os 0 1 0 a0.length m0 x0), (.lf false (.sc (.int .i64 a1)))] [(0, some (false, .arr true 1 (a0.map eS)))] 1 (.lf false (.sc (.int .i64 r.1))) [(0, some (false, .arr false 1 (r.2.map eS)))] 1 := by
  unfold laws_markStringS_w at h
  refine fn_code tab_ok mixed [(1000, [(0, 0), (1, 0)]), (1001, [(0, 0), (1, 0), (5, 0)]), (1002, [(0, 0), (1, 0), (5, 0), (9, 0)]), (1003, [(0, 0), (1, 0), (5, 0)]), (1004, [(0, 0), (1, 0), (5, 0)]), (1005, [(0, 0), (1, 0), (5, 0)]), (1006, [(4, 0)])] Tryd.func20 rfl rfl (by simp [Tryd.f20]) (by kernel_rfl) ?_
  simp only [Tryd.f20]
  refine sA ?_
  obtain ⟨y195, hl1, h⟩ := bind_ok h
  refine W_loopP (fun g192 : laws_markStringS_w_G1 => ⟨[(0, (.os 0 1 0 g192.c0.length g192.c0.length false)), (1, (.lf false (.sc (.int .i64 g192.t1)))), (5, (.lf false (.sc (.int .i64 g192.t5))))], [(0, some (false, .arr true 1 (g192.c0.map eS)))], 1, 20⟩) (laws_markStringS_w_L1) _ _ hl1 (weakA [some 0]) ?_
  · intro n1 g192 z1 hs1 hk1
    unfold laws_markStringS_w_L1 at hs1
    try dsimp only at hs1
    refine sA ?_
    refine Bs_if hs1 (fun hs1 hc2 => ?_) (fun hs1 hc2 => ?_)
    · try refine sA ?_
      obtain ⟨c194, hr3, hs1⟩ := bind_ok hs1
      refine Cl_sA (w_laws_markText hr3) ?_
      try refine sA ?_
      obtain ⟨hp4, hs1⟩ := guard_some hs1
      have hn4 : g192.t5.toNat < g192.c0.length := by first | omega | (simp only [List.length_set, List.length_append, List.length_replicate, List.length_map]; omega)
      try refine sA ?_
      try refine andA ?_
      try refine andB ?_
      try refine sA ?_
      cases hs1
      exact X_backP hk1 (weakA [some 0])
    · try refine sA ?_
      cases hs1
      cases hk1
      try dsimp only at h
      try refine sA ?_
      have he := Option.some.inj h
      subst he
      exact endsA ⟨[(4, (.lf false (.sc (.int .i64 g192.t1))))], [(0, some (false, .arr false 1 (g192.c0.map eS)))], 1, 20⟩ [some 0]
theorem w_laws_markState_ww {a0 : StateT} {a1 : Int} {m0 : Nat} {x0 : Bool} {m1 : Nat} {x1 : Bool} {r : (Int × (List ByteArray) × (List ByteArray))} (h : laws_markState_ww a0 a1 = some r) : Fn Tryd.prog 25 [(.ag [(.lf false (.sc (.int .i64 a0.Status))), (.lf false (.sc (.int .i64 a0.Next))), (.lf false (.sc (.bool a0.Cancel))), (.lf false (.sc (.int .i64 a0.Done))), (.os 0 1 0 a0.Signals.length m0 x0), (.os 1 1 0 a0.Timers.length m1 x1)]), (.lf false (.sc (.int .i64 a1)))] [(0, some (false, .arr true 1 (a0.Signals.map eS))), (1, some (false, .arr true 1 (a0.Timers.map eS)))] 2 (.lf false (.sc (.int .i64 r.1))) [(0, some (false, .arr false 1 (r.2.1.map eS))), (1, some (false, .arr false 1 (r.2.2.map eS)))] 2 := by
  unfold laws_markState_ww at h
  refine fn_code tab_ok mixed [(1000, [(1, 0), (2, 0)]), (1001, [(1, 0), (2, 0)]), (1002, [(1, 0)]), (1003, [(4, 0)])] Tryd.func25 rfl rfl (by simp [Tryd.f25]) (by kernel_rfl) ?_
  simp only [Tryd.f25]
  refine sA ?_
  obtain ⟨c196, hr1, h⟩ := bind_ok h
  refine Cl_hA [0] (w_laws_markStringS_w hr1) ?_
  try refine sA ?_
  obtain ⟨hp2, h⟩ := guard_some h
  have hl2 : a0.Signals.length ≤ c196.2.length := by omega
  have ht2 : List.take (a0.Signals.length) c196.2 = c196.2 := by rw [← hp2]; exact List.take_length
  try simp (disch := first | assumption | (simp only [List.length_set]; assumption)) only [go_sem, Nat.reduceAdd, Nat.reduceMul, Nat.reduceSub, Nat.reduceEqDiff, ↓reduceIte, Nat.reduceLT, reduceCtorEq, Nat.reduceLeDiff, Int.reduceToNat, Int.reduceEq, Int.reduceLE, Int.reduceLT, Nat.reduceBEq, hl2, ht2]
  obtain ⟨c197, hr3, h⟩ := bind_ok h
  refine Cl_hand (ids := [1]) (w_laws_markStringS_w hr3) (by first | rfl | (simp (disch := first | assumption | (simp only [List.length_set]; assumption)) only [go_sem, Nat.reduceAdd, Nat.reduceMul, Nat.reduceSub, Nat.reduceEqDiff, ↓reduceIte, Nat.reduceLT, reduceCtorEq, Nat.reduceLeDiff, Int.reduceToNat, Int.reduceEq, Int.reduceLE, Int.reduceLT, Nat.reduceBEq, hl2, ht2]; first | done | rfl) | (simp only [List.length_append, List.length_cons, List.length_nil, List.length_map, List.length_set, List.length_replicate, Nat.zero_add, Nat.reduceAdd]; rfl) | (simp (disch := first | assumption | (simp only [List.length_set]; assumption)) only [go_sem, Nat.reduceAdd, Nat.reduceMul, Nat.reduceSub, Nat.reduceEqDiff, ↓reduceIte, Nat.reduceLT, reduceCtorEq, Nat.reduceLeDiff, Int.reduceToNat, Int.reduceEq, Int.reduceLE, Int.reduceLT, Nat.reduceBEq, hl2, ht2]; simp only [List.length_append, List.length_cons, List.length_nil, List.length_map, List.length_set, List.length_replicate, Nat.zero_add, Nat.reduceAdd]; rfl)) (FitAll.refl _) (by first | rfl | (simp (disch := first | assumption | (simp only [List.length_set]; assumption)) only [go_sem, Nat.reduceAdd, Nat.reduceMul, Nat.reduceSub, Nat.reduceEqDiff, ↓reduceIte, Nat.reduceLT, reduceCtorEq, Nat.reduceLeDiff, Int.reduceToNat, Int.reduceEq, Int.reduceLE, Int.reduceLT, Nat.reduceBEq, hl2, ht2]; first | done | rfl) | (simp only [List.length_append, List.length_cons, List.length_nil, List.length_map, List.length_set, List.length_replicate, Nat.zero_add, Nat.reduceAdd]; rfl) | (simp (disch := first | assumption | (simp only [List.length_set]; assumption)) only [go_sem, Nat.reduceAdd, Nat.reduceMul, Nat.reduceSub, Nat.reduceEqDiff, ↓reduceIte, Nat.reduceLT, reduceCtorEq, Nat.reduceLeDiff, Int.reduceToNat, Int.reduceEq, Int.reduceLE, Int.reduceLT, Nat.reduceBEq, hl2, ht2]; simp only [List.length_append, List.length_cons, List.length_nil, List.length_map, List.length_set, List.length_replicate, Nat.zero_add, Nat.reduceAdd]; rfl)) (by decide) (by first | rfl | (simp (disch := first | assumption | (simp only [List.length_set]; assumption)) only [go_sem, Nat.reduceAdd, Nat.reduceMul, Nat.reduceSub, Nat.reduceEqDiff, ↓reduceIte, Nat.reduceLT, reduceCtorEq, Nat.reduceLeDiff, Int.reduceToNat, Int.reduceEq, Int.reduceLE, Int.reduceLT, Nat.reduceBEq, hl2, ht2]; done)) (by rfl) ?_
  try simp (disch := first | assumption | (simp only [List.length_set]; assumption)) only [go_sem, Nat.reduceAdd, Nat.reduceMul, Nat.reduceSub, Nat.reduceEqDiff, ↓reduceIte, Nat.reduceLT, reduceCtorEq, Nat.reduceLeDiff, Int.reduceToNat, Int.reduceEq, Int.reduceLE, Int.reduceLT, Nat.reduceBEq, hl2, ht2]
  obtain ⟨hp4, h⟩ := guard_some h
  have hl4 : a0.Timers.length ≤ c197.2.length := by omega
  have ht4 : List.take (a0.Timers.length) c197.2 = c197.2 := by rw [← hp4]; exact List.take_length
  try simp (disch := first | assumption | (simp only [List.length_set]; assumption)) only [go_sem, Nat.reduceAdd, Nat.reduceMul, Nat.reduceSub, Nat.reduceEqDiff, ↓reduceIte, Nat.reduceLT, reduceCtorEq, Nat.reduceLeDiff, Int.reduceToNat, Int.reduceEq, Int.reduceLE, Int.reduceLT, Nat.reduceBEq, hl2, ht2, hl4, ht4]
  have he := Option.some.inj h
  subst he
  refine ends_weak ⟨[(4, (.lf false (.sc (.int .i64 c197.1))))], [(0, some (false, .arr false 1 (c196.2.map eS))), (1, some (false, .arr false 1 (c197.2.map eS)))], 2, 14⟩ (weak_of (m := 2) [some 0, some 1] rfl rfl rfl (by rfl) ?_ ?_) ?_
  all_goals ((try simp (disch := first | assumption | (simp only [List.length_set]; assumption)) only [go_sem, Nat.reduceAdd, Nat.reduceMul, Nat.reduceSub, Nat.reduceEqDiff, ↓reduceIte, Nat.reduceLT, reduceCtorEq, Nat.reduceLeDiff, Int.reduceToNat, Int.reduceEq, Int.reduceLE, Int.reduceLT, Nat.reduceBEq, hl2, ht2, hl4, ht4]); (repeat' first | done | rfl | omega | refine And.intro ?_ ?_ | (simp; done) | (simp; omega)))
theorem w_laws_heldStringS {a0 : (List ByteArray)} {a1 : Int} {r : Int} (h : laws_heldStringS a0 a1 = some r) : Fn Tryd.prog 21 [(.lf true (.sl (a0.map eS))), (.lf false (.sc (.int .i64 a1)))] [] 0 (.lf false (.sc (.int .i64 r))) [] 0 := by
  unfold laws_heldStringS at h
  refine fn_code tab_ok mixed [(4, [(3, 5)]), (1000, [(0, 0), (1, 0)]), (1001, [(0, 0), (1, 0), (5, 0)]), (1002, [(0, 0), (1, 0), (5, 0), (9, 0)]), (1003, [(0, 0), (1, 0), (5, 0)]), (1004, [(0, 0), (1, 0), (5, 0), (18, 0)]), (1005, [(4, 0)]), (1006, [(0, 0), (1, 0), (5, 0)]), (1007, [(4, 0)])] Tryd.func21 rfl rfl (by simp [Tryd.f21]) (by kernel_rfl) ?_
  simp only [Tryd.f21]
  refine sA ?_
  obtain ⟨y202, hl1, h⟩ := bind_ok h
  refine W_loopP (fun g199 : laws_heldStringS_G1 => ⟨[(0, (.lf true (.sl (a0.map eS)))), (1, (.lf false (.sc (.int .i64 g199.t1)))), (5, (.lf false (.sc (.int .i64 g199.t5))))], [], 0, 22⟩) (laws_heldStringS_L1 a0) _ _ hl1 (weakA []) ?_
  · intro n1 g199 z1 hs1 hk1
    unfold laws_heldStringS_L1 at hs1
    try dsimp only at hs1
    refine sA ?_
    refine Bs_if hs1 (fun hs1 hc2 => ?_) (fun hs1 hc2 => ?_)
    · try refine sA ?_
      obtain ⟨hp3, hs1⟩ := guard_some hs1
      have hn3 : g199.t5.toNat < a0.length := by first | omega | (simp only [List.length_set, List.length_append, List.length_replicate, List.length_map]; omega)
      try refine sA ?_
      try refine andA ?_
      obtain ⟨c201, hr4, hs1⟩ := bind_ok hs1
      refine Cl_sA (w_laws_markText hr4) ?_
      try refine sA ?_
      refine Bs_if hs1 (fun hs1 hc5 => ?_) (fun hs1 hc5 => ?_)
      · try refine sA ?_
        cases hs1
        cases hk1
        try dsimp only at h
        try refine sA ?_
        have he := Option.some.inj h
        subst he
        exact endsA ⟨[(4, (.lf false (.sc (.int .i64 (-1)))))], [], 0, 22⟩ []
      · try refine sA ?_
        cases hs1
        exact X_backP hk1 (weakA [])
    · try refine sA ?_
      cases hs1
      cases hk1
      try dsimp only at h
      try refine sA ?_
      have he := Option.some.inj h
      subst he
      exact endsA ⟨[(4, (.lf false (.sc (.int .i64 g199.t1))))], [], 0, 22⟩ []
theorem w_laws_heldState {a0 : StateT} {a1 : Int} {r : Int} (h : laws_heldState a0 a1 = some r) : Fn Tryd.prog 26 [(.ag [(.lf false (.sc (.int .i64 a0.Status))), (.lf false (.sc (.int .i64 a0.Next))), (.lf false (.sc (.bool a0.Cancel))), (.lf false (.sc (.int .i64 a0.Done))), (.lf true (.sl (a0.Signals.map eS))), (.lf true (.sl (a0.Timers.map eS)))]), (.lf false (.sc (.int .i64 a1)))] [] 0 (.lf false (.sc (.int .i64 r))) [] 0 := by
  unfold laws_heldState at h
  refine fn_code tab_ok mixed [(1000, [(1, 0), (2, 0)]), (1001, [(1, 0), (2, 0)]), (1002, [(1, 0), (2, 0), (10, 0)]), (1003, [(4, 0)]), (1004, [(1, 0)]), (1005, [(1, 0), (16, 0)]), (1006, [(4, 0)]), (1007, [(4, 0)])] Tryd.func26 rfl rfl (by simp [Tryd.f26]) (by kernel_rfl) ?_
  simp only [Tryd.f26]
  refine sA ?_
  obtain ⟨c205, hr1, h⟩ := bind_ok h
  refine Cl_sA (w_laws_heldStringS hr1) ?_
  try refine sA ?_
  refine Bs_if h (fun h hc2 => ?_) (fun h hc2 => ?_)
  · try refine sA ?_
    have he := Option.some.inj h
    subst he
    exact endsA ⟨[(4, (.lf false (.sc (.int .i64 (-1)))))], [], 0, 18⟩ []
  · try refine sA ?_
    obtain ⟨c206, hr3, h⟩ := bind_ok h
    refine Cl_sA (w_laws_heldStringS hr3) ?_
    try refine sA ?_
    refine Bs_if h (fun h hc4 => ?_) (fun h hc4 => ?_)
    · try refine sA ?_
      have he := Option.some.inj h
      subst he
      exact endsA ⟨[(4, (.lf false (.sc (.int .i64 (-1)))))], [], 0, 18⟩ []
    · try refine sA ?_
      have he := Option.some.inj h
      subst he
      exact endsA ⟨[(4, (.lf false (.sc (.int .i64 c206))))], [], 0, 18⟩ []
theorem w_laws_FnExactFoldEvents {a0 : (List EventT)} {r : Bool} (h : laws_FnExactFoldEvents a0 = some r) : Fn Tryd.prog 5 [(.lf true (.sl (a0.map eEvent)))] [] 0 (.lf false (.sc (.bool r))) [] 0 := by
  unfold laws_FnExactFoldEvents at h
  refine fn_code tab_ok mixed [(1000, [(0, 0)]), (1001, [(0, 0), (3, 0)]), (1002, [(0, 0), (3, 0)]), (1003, [(0, 0), (18, 0)]), (1004, [(2, 0)]), (1005, [(0, 0), (4, 0), (5, 0)]), (1006, [(0, 0), (4, 0), (5, 0), (6, 0)]), (1007, [(0, 0), (4, 0), (5, 0), (6, 0), (7, 0), (8, 0)]), (1008, [(0, 0), (4, 0), (5, 0), (6, 0), (7, 0), (8, 0), (40, 0)]), (1009, [(2, 0)]), (1010, [(0, 0), (4, 0), (5, 0), (6, 0), (7, 0), (8, 0), (45, 0)]), (1011, [(2, 0)]), (1012, [(0, 0), (4, 0), (5, 0), (6, 0), (7, 0), (8, 0), (9, 0)]), (1013, [(0, 0), (4, 0), (5, 0), (7, 0), (8, 0), (9, 0)]), (1014, [(0, 0), (4, 0), (5, 0), (7, 0), (61, 0)]), (1015, [(2, 0)]), (1016, [(0, 0), (4, 0), (5, 0), (7, 0), (10, 0)]), (1017, [(0, 0), (4, 0), (5, 0), (7, 0), (10, 0)]), (1018, [(0, 0), (4, 0), (5, 0), (7, 0), (10, 0), (11, 0)]), (1019, [(0, 0), (4, 0), (5, 0), (7, 0), (10, 0), (11, 0)]), (1020, [(0, 0), (4, 0), (5, 0), (7, 0), (10, 0), (11, 0), (69, 0)]), (1021, [(2, 0)]), (1022, [(0, 0), (4, 0), (5, 0), (7, 0), (10, 0), (72, 0)]), (1023, [(2, 0)]), (1024, [(4, 0), (5, 0), (7, 0), (10, 0), (12, 0), (13, 0)]), (1025, [(7, 0), (10, 0), (87, 0)]), (1026, [(2, 0)]), (1027, [(7, 0), (10, 0), (11, 0)]), (1028, [(10, 0), (11, 0)]), (1029, [(10, 0), (11, 0), (92, 0)]), (1030, [(2, 0)]), (1031, [(95, 0)]), (1032, [(2, 0)]), (1033, [(2, 0)]), (4008, []), (4014, []), (4025, [])] Tryd.func5 rfl rfl (by simp [Tryd.f5]) (by kernel_rfl) ?_
  simp only [Tryd.f5]
  refine sA ?_
  obtain ⟨c7, hr1, h⟩ := bind_ok h
  refine Cl_sA (w_laws_szEventS hr1) ?_
  try refine sA ?_
  refine Bs_if h (fun h hc2 => ?_) (fun h hc2 => ?_)
  · try refine sA ?_
    have he := Option.some.inj h
    subst he
    exact endsA ⟨[(2, (.lf false (.sc (.bool true))))], [], 0, 96⟩ []
  · try refine sA ?_
    obtain ⟨c12, hr3, h⟩ := bind_ok h
    refine Cl_sA (w_laws_toEventS hr3) ?_
    try refine sA ?_
    obtain ⟨c80, hr4, h⟩ := bind_ok h
    refine Cl_hA [0] (w_spec_FoldEvents_w hr4) ?_
    try refine sA ?_
    obtain ⟨c81, hr5, h⟩ := bind_ok h
    refine Cl_sA (w_laws_toEventS hr5) ?_
    try refine sA ?_
    obtain ⟨c163, hr6, h⟩ := bind_ok h
    refine Cl_sA (w_impl_FoldEvents hr6) ?_
    try refine sA ?_
    obtain ⟨p171, hq7, h⟩ := bind_ok h
    refine Sq_cut (fun s2 => s2 = ⟨[(0, (.lf true (.sl (a0.map eEvent)))), (4, (.pb 0 0)), (5, (.lf false (.sc (.int .i64 c80.2)))), (6, (.os 1 4 0 c81.length c81.length false)), (7, (.pb 2 0)), (8, (.lf false (.sc (.int .i64 c163.2)))), (40, (.lf false (.sc (.bool p171.t40))))], [(0, some (true, .box [(.lf false (.sc (.int .i64 c80.1.Status))), (.lf false (.sc (.int .i64 c80.1.Next))), (.lf false (.sc (.bool c80.1.Cancel))), (.lf false (.sc (.int .i64 c80.1.Done))), (.lf true (.sl (c80.1.Signals.map eS))), (.lf true (.sl (c80.1.Timers.map eS)))])), (1, some (true, .arr false 4 (c81.map eEvent))), (2, some (true, .box [(.lf false (.sc (.int .i64 c163.1.Status))), (.lf false (.sc (.int .i64 c163.1.Next))), (.lf false (.sc (.bool c163.1.Cancel))), (.lf false (.sc (.int .i64 c163.1.Done))), (.os 3 1 0 c163.1.Signals.length c163.1.Signals.length false), (.os 4 1 0 c163.1.Timers.length c163.1.Timers.length false)])), (3, some (false, .arr false 1 (c163.1.Signals.map eS))), (4, some (false, .arr false 1 (c163.1.Timers.map eS)))], 5, 96⟩) ?_ ?_
    · try refine sA ?_
      obtain ⟨c170, hr8, hq7⟩ := bind_ok hq7
      refine Cl_sA (w_laws_eqState hr8) ?_
      try refine sA ?_
      refine Sp_if hq7 (fun hq7 hc9 => ?_) (fun hq7 hc9 => ?_)
      · try refine sA ?_
        cases hq7
        exact X_cut rfl (weakA [some 2, some 3, some 7, some 4, some 5])
      · try refine sA ?_
        cases hq7
        exact X_cut rfl (weakA [some 2, some 3, some 7, some 4, some 5])
    · intro s2 hJ; subst hJ
      try dsimp only at h
      try refine sA ?_
      refine Bs_if h (fun h hc10 => ?_) (fun h hc10 => ?_)
      · try refine sA ?_
        have he := Option.some.inj h
        subst he
        exact endsA ⟨[(2, (.lf false (.sc (.bool false))))], [], 0, 96⟩ []
      · try refine sA ?_
        obtain ⟨c172, hr11, h⟩ := bind_ok h
        refine Cl_sA (w_laws_toEventS hr11) ?_
        try refine sA ?_
        obtain ⟨c179, hr12, h⟩ := bind_ok h
        refine Cl_sA (w_laws_eqEventS hr12) ?_
        try refine sA ?_
        refine Bs_if h (fun h hc13 => ?_) (fun h hc13 => ?_)
        · try refine sA ?_
          have he := Option.some.inj h
          subst he
          exact endsA ⟨[(2, (.lf false (.sc (.bool false))))], [], 0, 96⟩ []
        · try refine sA ?_
          obtain ⟨c187, hr14, h⟩ := bind_ok h
          refine Cl_hA [1] (w_laws_markEventS_w hr14) ?_
          try refine sA ?_
          obtain ⟨hp15, h⟩ := guard_some h
          have hl15 : c81.length ≤ c187.2.length := by omega
          have ht15 : List.take (c81.length) c187.2 = c187.2 := by rw [← hp15]; exact List.take_length
          try simp (disch := first | assumption | (simp only [List.length_set]; assumption)) only [go_sem, Nat.reduceAdd, Nat.reduceMul, Nat.reduceSub, Nat.reduceEqDiff, ↓reduceIte, Nat.reduceLT, reduceCtorEq, Nat.reduceLeDiff, Int.reduceToNat, Int.reduceEq, Int.reduceLE, Int.reduceLT, Nat.reduceBEq, hl15, ht15]
          obtain ⟨p189, hq16, h⟩ := bind_ok h
          refine Sq_cut (fun s2 => s2 = ⟨[(0, (.lf true (.sl (a0.map eEvent)))), (4, (.pb 0 0)), (5, (.lf false (.sc (.int .i64 c80.2)))), (7, (.pb 1 0)), (61, (.lf false (.sc (.bool p189.t61))))], [(0, some (true, .box [(.lf false (.sc (.int .i64 c80.1.Status))), (.lf false (.sc (.int .i64 c80.1.Next))), (.lf false (.sc (.bool c80.1.Cancel))), (.lf false (.sc (.int .i64 c80.1.Done))), (.lf true (.sl (c80.1.Signals.map eS))), (.lf true (.sl (c80.1.Timers.map eS)))])), (1, some (true, .box [(.lf false (.sc (.int .i64 c163.1.Status))), (.lf false (.sc (.int .i64 c163.1.Next))), (.lf false (.sc (.bool c163.1.Cancel))), (.lf false (.sc (.int .i64 c163.1.Done))), (.os 2 1 0 c163.1.Signals.length c163.1.Signals.length false), (.os 3 1 0 c163.1.Timers.length c163.1.Timers.length false)])), (2, some (false, .arr false 1 (c163.1.Signals.map eS))), (3, some (false, .arr false 1 (c163.1.Timers.map eS)))], 4, 96⟩) ?_ ?_
          · try simp (disch := first | assumption | (simp only [List.length_set]; assumption)) only [go_sem, Nat.reduceAdd, Nat.reduceMul, Nat.reduceSub, Nat.reduceEqDiff, ↓reduceIte, Nat.reduceLT, reduceCtorEq, Nat.reduceLeDiff, Int.reduceToNat, Int.reduceEq, Int.reduceLE, Int.reduceLT, Nat.reduceBEq, hl15, ht15]
            refine Sp_if hq16 (fun hq16 hc17 => ?_) (fun hq16 hc17 => ?_)
            · try simp (disch := first | assumption | (simp only [List.length_set]; assumption)) only [go_sem, Nat.reduceAdd, Nat.reduceMul, Nat.reduceSub, Nat.reduceEqDiff, ↓reduceIte, Nat.reduceLT, reduceCtorEq, Nat.reduceLeDiff, Int.reduceToNat, Int.reduceEq, Int.reduceLE, Int.reduceLT, Nat.reduceBEq, hl15, ht15]
              cases hq16
              refine X_cut rfl ?_
              refine weak_of (m := 0) [some 0, some 2, some 3, some 4] rfl rfl rfl (by rfl) ?_ ?_
              all_goals ((try simp (disch := first | assumption | (simp only [List.length_set]; assumption)) only [go_sem, Nat.reduceAdd, Nat.reduceMul, Nat.reduceSub, Nat.reduceEqDiff, ↓reduceIte, Nat.reduceLT, reduceCtorEq, Nat.reduceLeDiff, Int.reduceToNat, Int.reduceEq, Int.reduceLE, Int.reduceLT, Nat.reduceBEq, hl15, ht15]); (repeat' first | done | rfl | omega | refine And.intro ?_ ?_ | (simp; done) | (simp; omega)))
            · try simp (disch := first | assumption | (simp only [List.length_set]; assumption)) only [go_sem, Nat.reduceAdd, Nat.reduceMul, Nat.reduceSub, Nat.reduceEqDiff, ↓reduceIte, Nat.reduceLT, reduceCtorEq, Nat.reduceLeDiff, Int.reduceToNat, Int.reduceEq, Int.reduceLE, Int.reduceLT, Nat.reduceBEq, hl15, ht15]
              obtain ⟨c188, hr18, hq16⟩ := bind_ok hq16
              refine Cl_shown (w_laws_eqState hr18) (by first | rfl | (simp (disch := first | assumption | (simp only [List.length_set]; assumption)) only [go_sem, Nat.reduceAdd, Nat.reduceMul, Nat.reduceSub, Nat.reduceEqDiff, ↓reduceIte, Nat.reduceLT, reduceCtorEq, Nat.reduceLeDiff, Int.reduceToNat, Int.reduceEq, Int.reduceLE, Int.reduceLT, Nat.reduceBEq, hl15, ht15]; first | done | rfl) | (simp only [List.length_append, List.length_cons, List.length_nil, List.length_map, List.length_set, List.length_replicate, Nat.zero_add, Nat.reduceAdd]; rfl) | (simp (disch := first | assumption | (simp only [List.length_set]; assumption)) only [go_sem, Nat.reduceAdd, Nat.reduceMul, Nat.reduceSub, Nat.reduceEqDiff, ↓reduceIte, Nat.reduceLT, reduceCtorEq, Nat.reduceLeDiff, Int.reduceToNat, Int.reduceEq, Int.reduceLE, Int.reduceLT, Nat.reduceBEq, hl15, ht15]; simp only [List.length_append, List.length_cons, List.length_nil, List.length_map, List.length_set, List.length_replicate, Nat.zero_add, Nat.reduceAdd]; rfl)) (FitAll.refl _) (.inr ⟨rfl, by simp [freeOb, free1]⟩) ?_
              try simp (disch := first | assumption | (simp only [List.length_set]; assumption)) only [go_sem, Nat.reduceAdd, Nat.reduceMul, Nat.reduceSub, Nat.reduceEqDiff, ↓reduceIte, Nat.reduceLT, reduceCtorEq, Nat.reduceLeDiff, Int.reduceToNat, Int.reduceEq, Int.reduceLE, Int.reduceLT, Nat.reduceBEq, hl15, ht15]
              refine Sp_if hq16 (fun hq16 hc19 => ?_) (fun hq16 hc19 => ?_)
              · try simp (disch := first | assumption | (simp only [List.length_set]; assumption)) only [go_sem, Nat.reduceAdd, Nat.reduceMul, Nat.reduceSub, Nat.reduceEqDiff, ↓reduceIte, Nat.reduceLT, reduceCtorEq, Nat.reduceLeDiff, Int.reduceToNat, Int.reduceEq, Int.reduceLE, Int.reduceLT, Nat.reduceBEq, hl15, ht15]
                cases hq16
                refine X_cut rfl ?_
                refine weak_of (m := 0) [some 0, some 2, some 3, some 4] rfl rfl rfl (by rfl) ?_ ?_
                all_goals ((try simp (disch := first | assumption | (simp only [List.length_set]; assumption)) only [go_sem, Nat.reduceAdd, Nat.reduceMul, Nat.reduceSub, Nat.reduceEqDiff, ↓reduceIte, Nat.reduceLT, reduceCtorEq, Nat.reduceLeDiff, Int.reduceToNat, Int.reduceEq, Int.reduceLE, Int.reduceLT, Nat.reduceBEq, hl15, ht15]); (repeat' first | done | rfl | omega | refine And.intro ?_ ?_ | (simp; done) | (simp; omega)))
              · try simp (disch := first | assumption | (simp only [List.length_set]; assumption)) only [go_sem, Nat.reduceAdd, Nat.reduceMul, Nat.reduceSub, Nat.reduceEqDiff, ↓reduceIte, Nat.reduceLT, reduceCtorEq, Nat.reduceLeDiff, Int.reduceToNat, Int.reduceEq, Int.reduceLE, Int.reduceLT, Nat.reduceBEq, hl15, ht15]
                cases hq16
                refine X_cut rfl ?_
                refine weak_of (m := 0) [some 0, some 2, some 3, some 4] rfl rfl rfl (by rfl) ?_ ?_
                all_goals ((try simp (disch := first | assumption | (simp only [List.length_set]; assumption)) only [go_sem, Nat.reduceAdd, Nat.reduceMul, Nat.reduceSub, Nat.reduceEqDiff, ↓reduceIte, Nat.reduceLT, reduceCtorEq, Nat.reduceLeDiff, Int.reduceToNat, Int.reduceEq, Int.reduceLE, Int.reduceLT, Nat.reduceBEq, hl15, ht15]); (repeat' first | done | rfl | omega | refine And.intro ?_ ?_ | (simp; done) | (simp; omega)))
          · intro s2 hJ; subst hJ
            try dsimp only at h
            try simp (disch := first | assumption | (simp only [List.length_set]; assumption)) only [go_sem, Nat.reduceAdd, Nat.reduceMul, Nat.reduceSub, Nat.reduceEqDiff, ↓reduceIte, Nat.reduceLT, reduceCtorEq, Nat.reduceLeDiff, Int.reduceToNat, Int.reduceEq, Int.reduceLE, Int.reduceLT, Nat.reduceBEq, hl15, ht15]
            refine Bs_if h (fun h hc20 => ?_) (fun h hc20 => ?_)
            · try simp (disch := first | assumption | (simp only [List.length_set]; assumption)) only [go_sem, Nat.reduceAdd, Nat.reduceMul, Nat.reduceSub, Nat.reduceEqDiff, ↓reduceIte, Nat.reduceLT, reduceCtorEq, Nat.reduceLeDiff, Int.reduceToNat, Int.reduceEq, Int.reduceLE, Int.reduceLT, Nat.reduceBEq, hl15, ht15]
              have he := Option.some.inj h
              subst he
              refine ends_weak ⟨[(2, (.lf false (.sc (.bool false))))], [], 0, 96⟩ (weak_of (m := 0) [] rfl rfl rfl (by rfl) ?_ ?_) ?_
              all_goals ((try simp (disch := first | assumption | (simp only [List.length_set]; assumption)) only [go_sem, Nat.reduceAdd, Nat.reduceMul, Nat.reduceSub, Nat.reduceEqDiff, ↓reduceIte, Nat.reduceLT, reduceCtorEq, Nat.reduceLeDiff, Int.reduceToNat, Int.reduceEq, Int.reduceLE, Int.reduceLT, Nat.reduceBEq, hl15, ht15]); (repeat' first | done | rfl | omega | refine And.intro ?_ ?_ | (simp; done) | (simp; omega)))
            · try simp (disch := first | assumption | (simp only [List.length_set]; assumption)) only [go_sem, Nat.reduceAdd, Nat.reduceMul, Nat.reduceSub, Nat.reduceEqDiff, ↓reduceIte, Nat.reduceLT, reduceCtorEq, Nat.reduceLeDiff, Int.reduceToNat, Int.reduceEq, Int.reduceLE, Int.reduceLT, Nat.reduceBEq, hl15, ht15]
              obtain ⟨c198, hr21, h⟩ := bind_ok h
              refine Cl_hand (ids := [2, 3]) (w_laws_markState_ww hr21) (by first | rfl | (simp (disch := first | assumption | (simp only [List.length_set]; assumption)) only [go_sem, Nat.reduceAdd, Nat.reduceMul, Nat.reduceSub, Nat.reduceEqDiff, ↓reduceIte, Nat.reduceLT, reduceCtorEq, Nat.reduceLeDiff, Int.reduceToNat, Int.reduceEq, Int.reduceLE, Int.reduceLT, Nat.reduceBEq, hl15, ht15]; first | done | rfl) | (simp only [List.length_append, List.length_cons, List.length_nil, List.length_map, List.length_set, List.length_replicate, Nat.zero_add, Nat.reduceAdd]; rfl) | (simp (disch := first | assumption | (simp only [List.length_set]; assumption)) only [go_sem, Nat.reduceAdd, Nat.reduceMul, Nat.reduceSub, Nat.reduceEqDiff, ↓reduceIte, Nat.reduceLT, reduceCtorEq, Nat.reduceLeDiff, Int.reduceToNat, Int.reduceEq, Int.reduceLE, Int.reduceLT, Nat.reduceBEq, hl15, ht15]; simp only [List.length_append, List.length_cons, List.length_nil, List.length_map, List.length_set, List.length_replicate, Nat.zero_add, Nat.reduceAdd]; rfl)) (FitAll.refl _) (by first | rfl | (simp (disch := first | assumption | (simp only [List.length_set]; assumption)) only [go_sem, Nat.reduceAdd, Nat.reduceMul, Nat.reduceSub, Nat.reduceEqDiff, ↓reduceIte, Nat.reduceLT, reduceCtorEq, Nat.reduceLeDiff, Int.reduceToNat, Int.reduceEq, Int.reduceLE, Int.reduceLT, Nat.reduceBEq, hl15, ht15]; first | done | rfl) | (simp only [List.length_append, List.length_cons, List.length_nil, List.length_map, List.length_set, List.length_replicate, Nat.zero_add, Nat.reduceAdd]; rfl) | (simp (disch := first | assumption | (simp only [List.length_set]; assumption)) only [go_sem, Nat.reduceAdd, Nat.reduceMul, Nat.reduceSub, Nat.reduceEqDiff, ↓reduceIte, Nat.reduceLT, reduceCtorEq, Nat.reduceLeDiff, Int.reduceToNat, Int.reduceEq, Int.reduceLE, Int.reduceLT, Nat.reduceBEq, hl15, ht15]; simp only [List.length_append, List.length_cons, List.length_nil, List.length_map, List.length_set, List.length_replicate, Nat.zero_add, Nat.reduceAdd]; rfl)) (by decide) (by first | rfl | (simp (disch := first | assumption | (simp only [List.length_set]; assumption)) only [go_sem, Nat.reduceAdd, Nat.reduceMul, Nat.reduceSub, Nat.reduceEqDiff, ↓reduceIte, Nat.reduceLT, reduceCtorEq, Nat.reduceLeDiff, Int.reduceToNat, Int.reduceEq, Int.reduceLE, Int.reduceLT, Nat.reduceBEq, hl15, ht15]; done)) (by rfl) ?_
              try simp (disch := first | assumption | (simp only [List.length_set]; assumption)) only [go_sem, Nat.reduceAdd, Nat.reduceMul, Nat.reduceSub, Nat.reduceEqDiff, ↓reduceIte, Nat.reduceLT, reduceCtorEq, Nat.reduceLeDiff, Int.reduceToNat, Int.reduceEq, Int.reduceLE, Int.reduceLT, Nat.reduceBEq, hl15, ht15]
              obtain ⟨hp22, h⟩ := guard_some h
              have hl22 : c163.1.Signals.length ≤ c198.2.1.length := by omega
              have ht22 : List.take (c163.1.Signals.length) c198.2.1 = c198.2.1 := by rw [← hp22]; exact List.take_length
              try simp (disch := first | assumption | (simp only [List.length_set]; assumption)) only [go_sem, Nat.reduceAdd, Nat.reduceMul, Nat.reduceSub, Nat.reduceEqDiff, ↓reduceIte, Nat.reduceLT, reduceCtorEq, Nat.reduceLeDiff, Int.reduceToNat, Int.reduceEq, Int.reduceLE, Int.reduceLT, Nat.reduceBEq, hl15, ht15, hl22, ht22]
              obtain ⟨hp23, h⟩ := guard_some h
              have hl23 : c163.1.Timers.length ≤ c198.2.2.length := by omega
              have ht23 : List.take (c163.1.Timers.length) c198.2.2 = c198.2.2 := by rw [← hp23]; exact List.take_length
              try simp (disch := first | assumption | (simp only [List.length_set]; assumption)) only [go_sem, Nat.reduceAdd, Nat.reduceMul, Nat.reduceSub, Nat.reduceEqDiff, ↓reduceIte, Nat.reduceLT, reduceCtorEq, Nat.reduceLeDiff, Int.reduceToNat, Int.reduceEq, Int.reduceLE, Int.reduceLT, Nat.reduceBEq, hl15, ht15, hl22, ht22, hl23, ht23]
              obtain ⟨c207, hr24, h⟩ := bind_ok h
              refine Cl_shown (w_laws_heldState hr24) (by first | rfl | (simp (disch := first | assumption | (simp only [List.length_set]; assumption)) only [go_sem, Nat.reduceAdd, Nat.reduceMul, Nat.reduceSub, Nat.reduceEqDiff, ↓reduceIte, Nat.reduceLT, reduceCtorEq, Nat.reduceLeDiff, Int.reduceToNat, Int.reduceEq, Int.reduceLE, Int.reduceLT, Nat.reduceBEq, hl15, ht15, hl22, ht22, hl23, ht23]; first | done | rfl) | (simp only [List.length_append, List.length_cons, List.length_nil, List.length_map, List.length_set, List.length_replicate, Nat.zero_add, Nat.reduceAdd]; rfl) | (simp (disch := first | assumption | (simp only [List.length_set]; assumption)) only [go_sem, Nat.reduceAdd, Nat.reduceMul, Nat.reduceSub, Nat.reduceEqDiff, ↓reduceIte, Nat.reduceLT, reduceCtorEq, Nat.reduceLeDiff, Int.reduceToNat, Int.reduceEq, Int.reduceLE, Int.reduceLT, Nat.reduceBEq, hl15, ht15, hl22, ht22, hl23, ht23]; simp only [List.length_append, List.length_cons, List.length_nil, List.length_map, List.length_set, List.length_replicate, Nat.zero_add, Nat.reduceAdd]; rfl)) (FitAll.refl _) (.inr ⟨rfl, by simp [freeOb, free1]⟩) ?_
              try simp (disch := first | assumption | (simp only [List.length_set]; assumption)) only [go_sem, Nat.reduceAdd, Nat.reduceMul, Nat.reduceSub, Nat.reduceEqDiff, ↓reduceIte, Nat.reduceLT, reduceCtorEq, Nat.reduceLeDiff, Int.reduceToNat, Int.reduceEq, Int.reduceLE, Int.reduceLT, Nat.reduceBEq, hl15, ht15, hl22, ht22, hl23, ht23]
              refine Bs_if h (fun h hc25 => ?_) (fun h hc25 => ?_)
              · try simp (disch := first | assumption | (simp only [List.length_set]; assumption)) only [go_sem, Nat.reduceAdd, Nat.reduceMul, Nat.reduceSub, Nat.reduceEqDiff, ↓reduceIte, Nat.reduceLT, reduceCtorEq, Nat.reduceLeDiff, Int.reduceToNat, Int.reduceEq, Int.reduceLE, Int.reduceLT, Nat.reduceBEq, hl15, ht15, hl22, ht22, hl23, ht23]
                have he := Option.some.inj h
                subst he
                refine ends_weak ⟨[(2, (.lf false (.sc (.bool false))))], [], 0, 96⟩ (weak_of (m := 0) [] rfl rfl rfl (by rfl) ?_ ?_) ?_
                all_goals ((try simp (disch := first | assumption | (simp only [List.length_set]; assumption)) only [go_sem, Nat.reduceAdd, Nat.reduceMul, Nat.reduceSub, Nat.reduceEqDiff, ↓reduceIte, Nat.reduceLT, reduceCtorEq, Nat.reduceLeDiff, Int.reduceToNat, Int.reduceEq, Int.reduceLE, Int.reduceLT, Nat.reduceBEq, hl15, ht15, hl22, ht22, hl23, ht23]); (repeat' first | done | rfl | omega | refine And.intro ?_ ?_ | (simp; done) | (simp; omega)))
              · try simp (disch := first | assumption | (simp only [List.length_set]; assumption)) only [go_sem, Nat.reduceAdd, Nat.reduceMul, Nat.reduceSub, Nat.reduceEqDiff, ↓reduceIte, Nat.reduceLT, reduceCtorEq, Nat.reduceLeDiff, Int.reduceToNat, Int.reduceEq, Int.reduceLE, Int.reduceLT, Nat.reduceBEq, hl15, ht15, hl22, ht22, hl23, ht23]
                refine Bs_if h (fun h hc26 => ?_) (fun h hc26 => ?_)
                · try simp (disch := first | assumption | (simp only [List.length_set]; assumption)) only [go_sem, Nat.reduceAdd, Nat.reduceMul, Nat.reduceSub, Nat.reduceEqDiff, ↓reduceIte, Nat.reduceLT, reduceCtorEq, Nat.reduceLeDiff, Int.reduceToNat, Int.reduceEq, Int.reduceLE, Int.reduceLT, Nat.reduceBEq, hl15, ht15, hl22, ht22, hl23, ht23]
                  have he := Option.some.inj h
                  subst he
                  refine ends_weak ⟨[(2, (.lf false (.sc (.bool false))))], [], 0, 96⟩ (weak_of (m := 0) [] rfl rfl rfl (by rfl) ?_ ?_) ?_
                  all_goals ((try simp (disch := first | assumption | (simp only [List.length_set]; assumption)) only [go_sem, Nat.reduceAdd, Nat.reduceMul, Nat.reduceSub, Nat.reduceEqDiff, ↓reduceIte, Nat.reduceLT, reduceCtorEq, Nat.reduceLeDiff, Int.reduceToNat, Int.reduceEq, Int.reduceLE, Int.reduceLT, Nat.reduceBEq, hl15, ht15, hl22, ht22, hl23, ht23]); (repeat' first | done | rfl | omega | refine And.intro ?_ ?_ | (simp; done) | (simp; omega)))
                · try simp (disch := first | assumption | (simp only [List.length_set]; assumption)) only [go_sem, Nat.reduceAdd, Nat.reduceMul, Nat.reduceSub, Nat.reduceEqDiff, ↓reduceIte, Nat.reduceLT, reduceCtorEq, Nat.reduceLeDiff, Int.reduceToNat, Int.reduceEq, Int.reduceLE, Int.reduceLT, Nat.reduceBEq, hl15, ht15, hl22, ht22, hl23, ht23]
                  obtain ⟨c208, hr27, h⟩ := bind_ok h
                  refine Cl_shown (w_laws_toEventS hr27) (by first | rfl | (simp (disch := first | assumption | (simp only [List.length_set]; assumption)) only [go_sem, Nat.reduceAdd, Nat.reduceMul, Nat.reduceSub, Nat.reduceEqDiff, ↓reduceIte, Nat.reduceLT, reduceCtorEq, Nat.reduceLeDiff, Int.reduceToNat, Int.reduceEq, Int.reduceLE, Int.reduceLT, Nat.reduceBEq, hl15, ht15, hl22, ht22, hl23, ht23]; first | done | rfl) | (simp only [List.length_append, List.length_cons, List.length_nil, List.length_map, List.length_set, List.length_replicate, Nat.zero_add, Nat.reduceAdd]; rfl) | (simp (disch := first | assumption | (simp only [List.length_set]; assumption)) only [go_sem, Nat.reduceAdd, Nat.reduceMul, Nat.reduceSub, Nat.reduceEqDiff, ↓reduceIte, Nat.reduceLT, reduceCtorEq, Nat.reduceLeDiff, Int.reduceToNat, Int.reduceEq, Int.reduceLE, Int.reduceLT, Nat.reduceBEq, hl15, ht15, hl22, ht22, hl23, ht23]; simp only [List.length_append, List.length_cons, List.length_nil, List.length_map, List.length_set, List.length_replicate, Nat.zero_add, Nat.reduceAdd]; rfl)) (FitAll.refl _) (.inl (by first | rfl | (simp (disch := first | assumption | (simp only [List.length_set]; assumption)) only [go_sem, Nat.reduceAdd, Nat.reduceMul, Nat.reduceSub, Nat.reduceEqDiff, ↓reduceIte, Nat.reduceLT, reduceCtorEq, Nat.reduceLeDiff, Int.reduceToNat, Int.reduceEq, Int.reduceLE, Int.reduceLT, Nat.reduceBEq, hl15, ht15, hl22, ht22, hl23, ht23]; done))) ?_
                  try simp (disch := first | assumption | (simp only [List.length_set]; assumption)) only [go_sem, Nat.reduceAdd, Nat.reduceMul, Nat.reduceSub, Nat.reduceEqDiff, ↓reduceIte, Nat.reduceLT, reduceCtorEq, Nat.reduceLeDiff, Int.reduceToNat, Int.reduceEq, Int.reduceLE, Int.reduceLT, Nat.reduceBEq, hl15, ht15, hl22, ht22, hl23, ht23]
                  obtain ⟨c209, hr28, h⟩ := bind_ok h
                  refine Cl_shown (w_impl_FoldEvents hr28) (by first | rfl | (simp (disch := first | assumption | (simp only [List.length_set]; assumption)) only [go_sem, Nat.reduceAdd, Nat.reduceMul, Nat.reduceSub, Nat.reduceEqDiff, ↓reduceIte, Nat.reduceLT, reduceCtorEq, Nat.reduceLeDiff, Int.reduceToNat, Int.reduceEq, Int.reduceLE, Int.reduceLT, Nat.reduceBEq, hl15, ht15, hl22, ht22, hl23, ht23]; first | done | rfl) | (simp only [List.length_append, List.length_cons, List.length_nil, List.length_map, List.length_set, List.length_replicate, Nat.zero_add, Nat.reduceAdd]; rfl) | (simp (disch := first | assumption | (simp only [List.length_set]; assumption)) only [go_sem, Nat.reduceAdd, Nat.reduceMul, Nat.reduceSub, Nat.reduceEqDiff, ↓reduceIte, Nat.reduceLT, reduceCtorEq, Nat.reduceLeDiff, Int.reduceToNat, Int.reduceEq, Int.reduceLE, Int.reduceLT, Nat.reduceBEq, hl15, ht15, hl22, ht22, hl23, ht23]; simp only [List.length_append, List.length_cons, List.length_nil, List.length_map, List.length_set, List.length_replicate, Nat.zero_add, Nat.reduceAdd]; rfl)) (FitAll.refl _) (.inr ⟨rfl, by simp [freeOb, free1]⟩) ?_
                  try simp (disch := first | assumption | (simp only [List.length_set]; assumption)) only [go_sem, Nat.reduceAdd, Nat.reduceMul, Nat.reduceSub, Nat.reduceEqDiff, ↓reduceIte, Nat.reduceLT, reduceCtorEq, Nat.reduceLeDiff, Int.reduceToNat, Int.reduceEq, Int.reduceLE, Int.reduceLT, Nat.reduceBEq, hl15, ht15, hl22, ht22, hl23, ht23]
                  obtain ⟨p211, hq29, h⟩ := bind_ok h
                  refine Sq_cut (fun s2 => s2 = ⟨[(7, (.pb 0 0)), (10, (.lf false (.sc (.int .i64 c198.1)))), (87, (.lf false (.sc (.bool p211.t87))))], [(0, some (true, .box [(.lf false (.sc (.int .i64 c163.1.Status))), (.lf false (.sc (.int .i64 c163.1.Next))), (.lf false (.sc (.bool c163.1.Cancel))), (.lf false (.sc (.int .i64 c163.1.Done))), (.os 1 1 0 c163.1.Signals.length c163.1.Signals.length false), (.os 2 1 0 c163.1.Timers.length c163.1.Timers.length false)])), (1, some (false, .arr false 1 (c198.2.1.map eS))), (2, some (false, .arr false 1 (c198.2.2.map eS)))], 3, 96⟩) ?_ ?_
                  · try simp (disch := first | assumption | (simp only [List.length_set]; assumption)) only [go_sem, Nat.reduceAdd, Nat.reduceMul, Nat.reduceSub, Nat.reduceEqDiff, ↓reduceIte, Nat.reduceLT, reduceCtorEq, Nat.reduceLeDiff, Int.reduceToNat, Int.reduceEq, Int.reduceLE, Int.reduceLT, Nat.reduceBEq, hl15, ht15, hl22, ht22, hl23, ht23]
                    obtain ⟨c210, hr30, hq29⟩ := bind_ok hq29
                    refine Cl_shown (w_laws_eqState hr30) (by first | rfl | (simp (disch := first | assumption | (simp only [List.length_set]; assumption)) only [go_sem, Nat.reduceAdd, Nat.reduceMul, Nat.reduceSub, Nat.reduceEqDiff, ↓reduceIte, Nat.reduceLT, reduceCtorEq, Nat.reduceLeDiff, Int.reduceToNat, Int.reduceEq, Int.reduceLE, Int.reduceLT, Nat.reduceBEq, hl15, ht15, hl22, ht22, hl23, ht23]; first | done | rfl) | (simp only [List.length_append, List.length_cons, List.length_nil, List.length_map, List.length_set, List.length_replicate, Nat.zero_add, Nat.reduceAdd]; rfl) | (simp (disch := first | assumption | (simp only [List.length_set]; assumption)) only [go_sem, Nat.reduceAdd, Nat.reduceMul, Nat.reduceSub, Nat.reduceEqDiff, ↓reduceIte, Nat.reduceLT, reduceCtorEq, Nat.reduceLeDiff, Int.reduceToNat, Int.reduceEq, Int.reduceLE, Int.reduceLT, Nat.reduceBEq, hl15, ht15, hl22, ht22, hl23, ht23]; simp only [List.length_append, List.length_cons, List.length_nil, List.length_map, List.length_set, List.length_replicate, Nat.zero_add, Nat.reduceAdd]; rfl)) (FitAll.refl _) (.inr ⟨rfl, by simp [freeOb, free1]⟩) ?_
                    try simp (disch := first | assumption | (simp only [List.length_set]; assumption)) only [go_sem, Nat.reduceAdd, Nat.reduceMul, Nat.reduceSub, Nat.reduceEqDiff, ↓reduceIte, Nat.reduceLT, reduceCtorEq, Nat.reduceLeDiff, Int.reduceToNat, Int.reduceEq, Int.reduceLE, Int.reduceLT, Nat.reduceBEq, hl15, ht15, hl22, ht22, hl23, ht23]
                    refine Sp_if hq29 (fun hq29 hc31 => ?_) (fun hq29 hc31 => ?_)
                    · try simp (disch := first | assumption | (simp only [List.length_set]; assumption)) only [go_sem, Nat.reduceAdd, Nat.reduceMul, Nat.reduceSub, Nat.reduceEqDiff, ↓reduceIte, Nat.reduceLT, reduceCtorEq, Nat.reduceLeDiff, Int.reduceToNat, Int.reduceEq, Int.reduceLE, Int.reduceLT, Nat.reduceBEq, hl15, ht15, hl22, ht22, hl23, ht23]
                      cases hq29
                      refine X_cut rfl ?_
                      refine weak_of (m := 0) [some 1, some 2, some 3] rfl rfl rfl (by rfl) ?_ ?_
                      all_goals ((try simp (disch := first | assumption | (simp only [List.length_set]; assumption)) only [go_sem, Nat.reduceAdd, Nat.reduceMul, Nat.reduceSub, Nat.reduceEqDiff, ↓reduceIte, Nat.reduceLT, reduceCtorEq, Nat.reduceLeDiff, Int.reduceToNat, Int.reduceEq, Int.reduceLE, Int.reduceLT, Nat.reduceBEq, hl15, ht15, hl22, ht22, hl23, ht23]); (repeat' first | done | rfl | omega | refine And.intro ?_ ?_ | (simp; done) | (simp; omega)))
                    · try simp (disch := first | assumption | (simp only [List.length_set]; assumption)) only [go_sem, Nat.reduceAdd, Nat.reduceMul, Nat.reduceSub, Nat.reduceEqDiff, ↓reduceIte, Nat.reduceLT, reduceCtorEq, Nat.reduceLeDiff, Int.reduceToNat, Int.reduceEq, Int.reduceLE, Int.reduceLT, Nat.reduceBEq, hl15, ht15, hl22, ht22, hl23, ht23]
                      cases hq29
                      refine X_cut rfl ?_
                      refine weak_of (m := 0) [some 1, some 2, some 3] rfl rfl rfl (by rfl) ?_ ?_
                      all_goals ((try simp (disch := first | assumption | (simp only [List.length_set]; assumption)) only [go_sem, Nat.reduceAdd, Nat.reduceMul, Nat.reduceSub, Nat.reduceEqDiff, ↓reduceIte, Nat.reduceLT, reduceCtorEq, Nat.reduceLeDiff, Int.reduceToNat, Int.reduceEq, Int.reduceLE, Int.reduceLT, Nat.reduceBEq, hl15, ht15, hl22, ht22, hl23, ht23]); (repeat' first | done | rfl | omega | refine And.intro ?_ ?_ | (simp; done) | (simp; omega)))
                  · intro s2 hJ; subst hJ
                    try dsimp only at h
                    try simp (disch := first | assumption | (simp only [List.length_set]; assumption)) only [go_sem, Nat.reduceAdd, Nat.reduceMul, Nat.reduceSub, Nat.reduceEqDiff, ↓reduceIte, Nat.reduceLT, reduceCtorEq, Nat.reduceLeDiff, Int.reduceToNat, Int.reduceEq, Int.reduceLE, Int.reduceLT, Nat.reduceBEq, hl15, ht15, hl22, ht22, hl23, ht23]
                    refine Bs_if h (fun h hc32 => ?_) (fun h hc32 => ?_)
                    · try simp (disch := first | assumption | (simp only [List.length_set]; assumption)) only [go_sem, Nat.reduceAdd, Nat.reduceMul, Nat.reduceSub, Nat.reduceEqDiff, ↓reduceIte, Nat.reduceLT, reduceCtorEq, Nat.reduceLeDiff, Int.reduceToNat, Int.reduceEq, Int.reduceLE, Int.reduceLT, Nat.reduceBEq, hl15, ht15, hl22, ht22, hl23, ht23]
                      have he := Option.some.inj h
                      subst he
                      refine ends_weak ⟨[(2, (.lf false (.sc (.bool false))))], [], 0, 96⟩ (weak_of (m := 0) [] rfl rfl rfl (by rfl) ?_ ?_) ?_
                      all_goals ((try simp (disch := first | assumption | (simp only [List.length_set]; assumption)) only [go_sem, Nat.reduceAdd, Nat.reduceMul, Nat.reduceSub, Nat.reduceEqDiff, ↓reduceIte, Nat.reduceLT, reduceCtorEq, Nat.reduceLeDiff, Int.reduceToNat, Int.reduceEq, Int.reduceLE, Int.reduceLT, Nat.reduceBEq, hl15, ht15, hl22, ht22, hl23, ht23]); (repeat' first | done | rfl | omega | refine And.intro ?_ ?_ | (simp; done) | (simp; omega)))
                    · try simp (disch := first | assumption | (simp only [List.length_set]; assumption)) only [go_sem, Nat.reduceAdd, Nat.reduceMul, Nat.reduceSub, Nat.reduceEqDiff, ↓reduceIte, Nat.reduceLT, reduceCtorEq, Nat.reduceLeDiff, Int.reduceToNat, Int.reduceEq, Int.reduceLE, Int.reduceLT, Nat.reduceBEq, hl15, ht15, hl22, ht22, hl23, ht23]
                      obtain ⟨c212, hr33, h⟩ := bind_ok h
                      refine Cl_shown (w_laws_heldState hr33) (by first | rfl | (simp (disch := first | assumption | (simp only [List.length_set]; assumption)) only [go_sem, Nat.reduceAdd, Nat.reduceMul, Nat.reduceSub, Nat.reduceEqDiff, ↓reduceIte, Nat.reduceLT, reduceCtorEq, Nat.reduceLeDiff, Int.reduceToNat, Int.reduceEq, Int.reduceLE, Int.reduceLT, Nat.reduceBEq, hl15, ht15, hl22, ht22, hl23, ht23]; first | done | rfl) | (simp only [List.length_append, List.length_cons, List.length_nil, List.length_map, List.length_set, List.length_replicate, Nat.zero_add, Nat.reduceAdd]; rfl) | (simp (disch := first | assumption | (simp only [List.length_set]; assumption)) only [go_sem, Nat.reduceAdd, Nat.reduceMul, Nat.reduceSub, Nat.reduceEqDiff, ↓reduceIte, Nat.reduceLT, reduceCtorEq, Nat.reduceLeDiff, Int.reduceToNat, Int.reduceEq, Int.reduceLE, Int.reduceLT, Nat.reduceBEq, hl15, ht15, hl22, ht22, hl23, ht23]; simp only [List.length_append, List.length_cons, List.length_nil, List.length_map, List.length_set, List.length_replicate, Nat.zero_add, Nat.reduceAdd]; rfl)) (FitAll.refl _) (.inr ⟨rfl, by simp [freeOb, free1]⟩) ?_
                      try simp (disch := first | assumption | (simp only [List.length_set]; assumption)) only [go_sem, Nat.reduceAdd, Nat.reduceMul, Nat.reduceSub, Nat.reduceEqDiff, ↓reduceIte, Nat.reduceLT, reduceCtorEq, Nat.reduceLeDiff, Int.reduceToNat, Int.reduceEq, Int.reduceLE, Int.reduceLT, Nat.reduceBEq, hl15, ht15, hl22, ht22, hl23, ht23]
                      refine Bs_if h (fun h hc34 => ?_) (fun h hc34 => ?_)
                      · try simp (disch := first | assumption | (simp only [List.length_set]; assumption)) only [go_sem, Nat.reduceAdd, Nat.reduceMul, Nat.reduceSub, Nat.reduceEqDiff, ↓reduceIte, Nat.reduceLT, reduceCtorEq, Nat.reduceLeDiff, Int.reduceToNat, Int.reduceEq, Int.reduceLE, Int.reduceLT, Nat.reduceBEq, hl15, ht15, hl22, ht22, hl23, ht23]
                        have he := Option.some.inj h
                        subst he
                        refine ends_weak ⟨[(2, (.lf false (.sc (.bool false))))], [], 0, 96⟩ (weak_of (m := 0) [] rfl rfl rfl (by rfl) ?_ ?_) ?_
                        all_goals ((try simp (disch := first | assumption | (simp only [List.length_set]; assumption)) only [go_sem, Nat.reduceAdd, Nat.reduceMul, Nat.reduceSub, Nat.reduceEqDiff, ↓reduceIte, Nat.reduceLT, reduceCtorEq, Nat.reduceLeDiff, Int.reduceToNat, Int.reduceEq, Int.reduceLE, Int.reduceLT, Nat.reduceBEq, hl15, ht15, hl22, ht22, hl23, ht23]); (repeat' first | done | rfl | omega | refine And.intro ?_ ?_ | (simp; done) | (simp; omega)))
                      · try simp (disch := first | assumption | (simp only [List.length_set]; assumption)) only [go_sem, Nat.reduceAdd, Nat.reduceMul, Nat.reduceSub, Nat.reduceEqDiff, ↓reduceIte, Nat.reduceLT, reduceCtorEq, Nat.reduceLeDiff, Int.reduceToNat, Int.reduceEq, Int.reduceLE, Int.reduceLT, Nat.reduceBEq, hl15, ht15, hl22, ht22, hl23, ht23]
                        refine Bs_if h (fun h hc35 => ?_) (fun h hc35 => ?_)
                        · try simp (disch := first | assumption | (simp only [List.length_set]; assumption)) only [go_sem, Nat.reduceAdd, Nat.reduceMul, Nat.reduceSub, Nat.reduceEqDiff, ↓reduceIte, Nat.reduceLT, reduceCtorEq, Nat.reduceLeDiff, Int.reduceToNat, Int.reduceEq, Int.reduceLE, Int.reduceLT, Nat.reduceBEq, hl15, ht15, hl22, ht22, hl23, ht23]
                          have he := Option.some.inj h
                          subst he
                          refine ends_weak ⟨[(2, (.lf false (.sc (.bool false))))], [], 0, 96⟩ (weak_of (m := 0) [] rfl rfl rfl (by rfl) ?_ ?_) ?_
                          all_goals ((try simp (disch := first | assumption | (simp only [List.length_set]; assumption)) only [go_sem, Nat.reduceAdd, Nat.reduceMul, Nat.reduceSub, Nat.reduceEqDiff, ↓reduceIte, Nat.reduceLT, reduceCtorEq, Nat.reduceLeDiff, Int.reduceToNat, Int.reduceEq, Int.reduceLE, Int.reduceLT, Nat.reduceBEq, hl15, ht15, hl22, ht22, hl23, ht23]); (repeat' first | done | rfl | omega | refine And.intro ?_ ?_ | (simp; done) | (simp; omega)))
                        · try simp (disch := first | assumption | (simp only [List.length_set]; assumption)) only [go_sem, Nat.reduceAdd, Nat.reduceMul, Nat.reduceSub, Nat.reduceEqDiff, ↓reduceIte, Nat.reduceLT, reduceCtorEq, Nat.reduceLeDiff, Int.reduceToNat, Int.reduceEq, Int.reduceLE, Int.reduceLT, Nat.reduceBEq, hl15, ht15, hl22, ht22, hl23, ht23]
                          have he := Option.some.inj h
                          subst he
                          refine ends_weak ⟨[(2, (.lf false (.sc (.bool true))))], [], 0, 96⟩ (weak_of (m := 0) [] rfl rfl rfl (by rfl) ?_ ?_) ?_
                          all_goals ((try simp (disch := first | assumption | (simp only [List.length_set]; assumption)) only [go_sem, Nat.reduceAdd, Nat.reduceMul, Nat.reduceSub, Nat.reduceEqDiff, ↓reduceIte, Nat.reduceLT, reduceCtorEq, Nat.reduceLeDiff, Int.reduceToNat, Int.reduceEq, Int.reduceLE, Int.reduceLT, Nat.reduceBEq, hl15, ht15, hl22, ht22, hl23, ht23]); (repeat' first | done | rfl | omega | refine And.intro ?_ ?_ | (simp; done) | (simp; omega)))
end Go.TL.YtjhcfmcdllfmpaaDoor

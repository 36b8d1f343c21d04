import Derived.Test.YtmmhgioeoikgbaaWlFnBreakerA
set_option linter.unusedVariables false
set_option linter.unusedSimpArgs false
set_option maxRecDepth 8000
set_option maxHeartbeats 0
namespace Go.TL.Ytmmhgioeoikgbaa
open Go Go.Proofs Go.TL
theorem w_laws_FnBreaker {a0 : (List Int)} {a1 : (List Int)} {r : Bool} (h : laws_FnBreaker a0 a1 = some r) : Fn Try.prog 12 [(.lf true (.sl (a0.map eU8))), (.lf true (.sl (a1.map eU8)))] [] 0 (.lf false (.sc (.bool r))) [] 0 := by
  unfold laws_FnBreaker at h
  refine fn_code tab_ok mixed [(1000, [(0, 0), (1, 0)]), (1001, [(0, 0), (1, 0), (34, 0)]), (1002, [(4, 0)]), (1003, [(1, 0), (5, 0), (6, 0), (7, 0)]), (1004, [(1, 0), (5, 0), (6, 0), (7, 0), (8, 0), (9, 0), (10, 0)]), (1005, [(1, 0), (5, 0), (6, 0), (7, 0), (8, 0), (9, 0), (10, 0), (11, 0), (12, 0), (13, 0)]), (1006, [(1, 0), (5, 0), (6, 0), (7, 0), (8, 0), (9, 0), (10, 0), (70, 0)]), (1007, [(4, 0)]), (1008, [(1, 0), (5, 0), (6, 0), (7, 0), (8, 0), (9, 0), (71, 0)]), (1009, [(1, 0), (5, 0), (6, 0), (7, 0), (8, 0), (9, 0), (14, 0)]), (1010, [(1, 0), (5, 0), (6, 0), (7, 0), (8, 0), (9, 0), (14, 0), (15, 0)]), (1011, [(1, 0), (5, 0), (6, 0), (8, 0), (9, 0), (14, 0), (15, 0), (72, 0), (73, 0), (74, 0)]), (1012, [(1, 0), (5, 0), (6, 0), (8, 0), (9, 0), (14, 0), (15, 0), (72, 0), (73, 0), (74, 0), (75, 0)]), (1013, [(1, 0), (5, 0), (6, 0), (8, 0), (9, 0), (14, 0), (15, 0), (16, 0), (17, 0), (72, 0), (73, 0), (74, 0)]), (1014, [(1, 0), (5, 0), (6, 0), (8, 0), (9, 0), (14, 0), (15, 0), (16, 0), (17, 0), (18, 0), (72, 0), (73, 0), (74, 0)]), (1015, [(1, 0), (5, 0), (6, 0), (8, 0), (9, 0), (14, 0), (15, 0), (17, 0), (18, 0), (72, 0), (73, 0), (74, 0), (94, 0)]), (1016, [(4, 0)]), (1017, [(1, 0), (5, 0), (6, 0), (8, 0), (9, 0), (14, 0), (15, 0), (17, 0), (72, 0), (73, 0), (74, 0), (96, 0)]), (1018, [(1, 0), (5, 0), (6, 0), (8, 0), (9, 0), (14, 0), (15, 0), (17, 0), (72, 0), (73, 0), (74, 0), (98, 0)]), (1019, [(1, 0), (5, 0), (6, 0), (8, 0), (9, 0), (14, 0), (72, 0), (73, 0), (74, 0)]), (1020, [(1, 0), (5, 0), (6, 0), (8, 0), (9, 0), (14, 0), (15, 0), (72, 0), (73, 0), (74, 0)]), (1021, [(1, 0), (5, 0), (6, 0), (8, 0), (9, 0), (14, 0), (15, 0), (17, 0), (72, 0), (73, 0), (74, 0)]), (1022, [(1, 0), (5, 0), (6, 0), (8, 0), (9, 0), (14, 0), (15, 0), (17, 0), (72, 0), (73, 0), (74, 0), (107, 0)]), (1023, [(1, 0), (5, 0), (6, 0), (8, 0), (9, 0), (15, 0), (72, 0), (73, 0), (74, 0)]), (1024, [(1, 0), (5, 0), (6, 0), (8, 0), (9, 0), (14, 0), (15, 0), (72, 0), (73, 0), (74, 0)]), (1025, [(1, 0), (5, 0), (6, 0), (8, 0), (9, 0), (14, 0), (15, 0), (72, 0), (73, 0), (74, 0)]), (1026, [(1, 0), (122, 0)]), (1027, [(4, 0)]), (1028, [(19, 0), (20, 0)]), (1029, [(19, 0), (20, 0), (21, 0), (22, 0), (23, 0)]), (1030, [(19, 0), (20, 0), (21, 0), (22, 0), (23, 0), (24, 0), (25, 0), (26, 0)]), (1031, [(19, 0), (21, 0), (22, 0), (23, 0), (24, 0), (25, 0), (26, 0), (27, 0), (28, 0)]), (1032, [(19, 0), (21, 0), (22, 0), (23, 0), (27, 0), (166, 0)]), (1033, [(4, 0)]), (1034, [(4, 0)]), (2071, []), (4006, []), (4014, []), (4022, []), (4026, []), (4032, [])] Try.func12 rfl rfl (by simp [Try.f12]) (by kernel_rfl) ?_
  simp only [Try.f12]
  simp (disch := assumption) only [go_sem, Nat.reduceAdd, Nat.reduceMul, Nat.reduceSub, Nat.reduceEqDiff, ↓reduceIte, Nat.reduceLT, reduceCtorEq, Nat.reduceLeDiff, Int.reduceToNat, Int.reduceEq, Int.reduceLE, Int.reduceLT, Nat.reduceBEq]
  refine Bs_splitC ((decide ((wI (((a0.length : Nat) : Int) + ((a1.length : Nat) : Int))) > 1048576))) (by first | rfl | (simp only [beq_iff_eq]; done) | simp) (fun hc1 => ?_) (fun hc1 => ?_)
  · rw [if_pos hc1] at h
    try simp (disch := assumption) only [go_sem, Nat.reduceAdd, Nat.reduceMul, Nat.reduceSub, Nat.reduceEqDiff, ↓reduceIte, Nat.reduceLT, reduceCtorEq, Nat.reduceLeDiff, Int.reduceToNat, Int.reduceEq, Int.reduceLE, Int.reduceLT, Nat.reduceBEq]
    have he := Option.some.inj h
    subst he
    refine ends_weak ⟨[(4, (.lf false (.sc (.bool true))))], [], 0, 186⟩ (weak_of (m := 0) [] rfl rfl rfl (by simp [injR]) ?_ ?_) ?_
    all_goals ((try simp (disch := assumption) only [go_sem, Nat.reduceAdd, Nat.reduceMul, Nat.reduceSub, Nat.reduceEqDiff, ↓reduceIte, Nat.reduceLT, reduceCtorEq, Nat.reduceLeDiff, Int.reduceToNat, Int.reduceEq, Int.reduceLE, Int.reduceLT, Nat.reduceBEq]); (repeat' first | done | rfl | omega | refine And.intro ?_ ?_ | (simp; done) | (simp; omega)))
  · rw [if_neg (nt hc1)] at h
    try simp (disch := assumption) only [go_sem, Nat.reduceAdd, Nat.reduceMul, Nat.reduceSub, Nat.reduceEqDiff, ↓reduceIte, Nat.reduceLT, reduceCtorEq, Nat.reduceLeDiff, Int.reduceToNat, Int.reduceEq, Int.reduceLE, Int.reduceLT, Nat.reduceBEq]
    obtain ⟨c24, hr2, h⟩ := bind_ok h
    refine Cl_shown (w_spec_DrawPlayBreaker hr2) (by first | rfl | (simp (disch := assumption) only [go_sem, Nat.reduceAdd, Nat.reduceMul, Nat.reduceSub, Nat.reduceEqDiff, ↓reduceIte, Nat.reduceLT, reduceCtorEq, Nat.reduceLeDiff, Int.reduceToNat, Int.reduceEq, Int.reduceLE, Int.reduceLT, Nat.reduceBEq]; first | done | rfl)) (FitAll.refl _) (.inl (by first | rfl | (simp (disch := assumption) only [go_sem, Nat.reduceAdd, Nat.reduceMul, Nat.reduceSub, Nat.reduceEqDiff, ↓reduceIte, Nat.reduceLT, reduceCtorEq, Nat.reduceLeDiff, Int.reduceToNat, Int.reduceEq, Int.reduceLE, Int.reduceLT, Nat.reduceBEq]; done))) ?_
    try simp (disch := assumption) only [go_sem, Nat.reduceAdd, Nat.reduceMul, Nat.reduceSub, Nat.reduceEqDiff, ↓reduceIte, Nat.reduceLT, reduceCtorEq, Nat.reduceLeDiff, Int.reduceToNat, Int.reduceEq, Int.reduceLE, Int.reduceLT, Nat.reduceBEq]
    obtain ⟨c47, hr3, h⟩ := bind_ok h
    refine Cl_shown (w_impl_PlayBreaker hr3) (by first | rfl | (simp (disch := assumption) only [go_sem, Nat.reduceAdd, Nat.reduceMul, Nat.reduceSub, Nat.reduceEqDiff, ↓reduceIte, Nat.reduceLT, reduceCtorEq, Nat.reduceLeDiff, Int.reduceToNat, Int.reduceEq, Int.reduceLE, Int.reduceLT, Nat.reduceBEq]; first | done | rfl)) (FitAll.refl _) (.inr ⟨rfl, by simp [freeOb, free1]⟩) ?_
    try simp (disch := assumption) only [go_sem, Nat.reduceAdd, Nat.reduceMul, Nat.reduceSub, Nat.reduceEqDiff, ↓reduceIte, Nat.reduceLT, reduceCtorEq, Nat.reduceLeDiff, Int.reduceToNat, Int.reduceEq, Int.reduceLE, Int.reduceLT, Nat.reduceBEq]
    obtain ⟨c64, hr4, h⟩ := bind_ok h
    refine Cl_shown (w_spec_PlayBreaker hr4) (by first | rfl | (simp (disch := assumption) only [go_sem, Nat.reduceAdd, Nat.reduceMul, Nat.reduceSub, Nat.reduceEqDiff, ↓reduceIte, Nat.reduceLT, reduceCtorEq, Nat.reduceLeDiff, Int.reduceToNat, Int.reduceEq, Int.reduceLE, Int.reduceLT, Nat.reduceBEq]; first | done | rfl)) (FitAll.refl _) (.inr ⟨rfl, by simp [freeOb, free1]⟩) ?_
    try simp (disch := assumption) only [go_sem, Nat.reduceAdd, Nat.reduceMul, Nat.reduceSub, Nat.reduceEqDiff, ↓reduceIte, Nat.reduceLT, reduceCtorEq, Nat.reduceLeDiff, Int.reduceToNat, Int.reduceEq, Int.reduceLE, Int.reduceLT, Nat.reduceBEq]
    obtain ⟨p70, hq5, h⟩ := bind_ok h
    refine Sq_cut (fun s2 => s2 = ⟨[(1, (.lf true (.sl (a1.map eU8)))), (5, (.lf false (.sc (.int .i64 c24.1)))), (6, (.lf false (.sc (.int .i64 c24.2.1)))), (7, (.os 0 2 0 c24.2.2.length c24.2.2.length false)), (8, (.pb 1 0)), (9, (.os 2 1 0 c47.2.1.length c47.2.1.length false)), (10, (.lf false (.sc (.bool c47.2.2)))), (70, (.lf false (.sc (.bool p70.t70))))], [(0, some (true, .arr false 2 (c24.2.2.map eCall))), (1, some (true, .box [(.lf false (.sc (.int .i64 c47.1.Limit))), (.lf false (.sc (.int .i64 c47.1.Cool))), (.lf false (.sc (.int .i64 c47.1.State))), (.lf false (.sc (.int .i64 c47.1.Fails))), (.lf false (.sc (.int .i64 c47.1.Opened)))])), (2, some (true, .arr false 1 (c47.2.1.map eB)))], 3, 186⟩) ?_ ?_
    · try simp (disch := assumption) only [go_sem, Nat.reduceAdd, Nat.reduceMul, Nat.reduceSub, Nat.reduceEqDiff, ↓reduceIte, Nat.reduceLT, reduceCtorEq, Nat.reduceLeDiff, Int.reduceToNat, Int.reduceEq, Int.reduceLE, Int.reduceLT, Nat.reduceBEq]
      refine Sp_splitC ((!(c47.2.2 == c64.2.2))) (by first | rfl | (simp only [beq_iff_eq]; done) | simp) (fun hc6 => ?_) (fun hc6 => ?_)
      · rw [if_pos hc6] at hq5
        try simp (disch := assumption) only [go_sem, Nat.reduceAdd, Nat.reduceMul, Nat.reduceSub, Nat.reduceEqDiff, ↓reduceIte, Nat.reduceLT, reduceCtorEq, Nat.reduceLeDiff, Int.reduceToNat, Int.reduceEq, Int.reduceLE, Int.reduceLT, Nat.reduceBEq]
        cases hq5
        refine X_cut rfl ?_
        refine weak_of (m := 0) [some 0, some 3, some 1] rfl rfl rfl (by simp [injR]) ?_ ?_
        all_goals ((try simp (disch := assumption) only [go_sem, Nat.reduceAdd, Nat.reduceMul, Nat.reduceSub, Nat.reduceEqDiff, ↓reduceIte, Nat.reduceLT, reduceCtorEq, Nat.reduceLeDiff, Int.reduceToNat, Int.reduceEq, Int.reduceLE, Int.reduceLT, Nat.reduceBEq]); (repeat' first | done | rfl | omega | refine And.intro ?_ ?_ | (simp; done) | (simp; omega)))
      · rw [if_neg (nt hc6)] at hq5
        try simp (disch := assumption) only [go_sem, Nat.reduceAdd, Nat.reduceMul, Nat.reduceSub, Nat.reduceEqDiff, ↓reduceIte, Nat.reduceLT, reduceCtorEq, Nat.reduceLeDiff, Int.reduceToNat, Int.reduceEq, Int.reduceLE, Int.reduceLT, Nat.reduceBEq]
        first | refine And.intro ⟨by kernel_rfl, by kernel_rfl, by kernel_rfl⟩ ?_ | skip
        try simp (disch := assumption) only [go_sem, Nat.reduceAdd, Nat.reduceMul, Nat.reduceSub, Nat.reduceEqDiff, ↓reduceIte, Nat.reduceLT, reduceCtorEq, Nat.reduceLeDiff, Int.reduceToNat, Int.reduceEq, Int.reduceLE, Int.reduceLT, Nat.reduceBEq]
        refine Sp_splitC ((!((c47.1.Limit == c64.1.Limit) && ((c47.1.Cool == c64.1.Cool) && ((c47.1.State == c64.1.State) && ((c47.1.Fails == c64.1.Fails) && (c47.1.Opened == c64.1.Opened))))))) (by first | rfl | (simp only [beq_iff_eq]; done) | simp) (fun hc8 => ?_) (fun hc8 => ?_)
        · rw [if_pos hc8] at hq5
          try simp (disch := assumption) only [go_sem, Nat.reduceAdd, Nat.reduceMul, Nat.reduceSub, Nat.reduceEqDiff, ↓reduceIte, Nat.reduceLT, reduceCtorEq, Nat.reduceLeDiff, Int.reduceToNat, Int.reduceEq, Int.reduceLE, Int.reduceLT, Nat.reduceBEq]
          cases hq5
          refine X_cut rfl ?_
          refine weak_of (m := 0) [some 0, some 3, some 1] rfl rfl rfl (by simp [injR]) ?_ ?_
          all_goals ((try simp (disch := assumption) only [go_sem, Nat.reduceAdd, Nat.reduceMul, Nat.reduceSub, Nat.reduceEqDiff, ↓reduceIte, Nat.reduceLT, reduceCtorEq, Nat.reduceLeDiff, Int.reduceToNat, Int.reduceEq, Int.reduceLE, Int.reduceLT, Nat.reduceBEq]); (repeat' first | done | rfl | omega | refine And.intro ?_ ?_ | (simp; done) | (simp; omega)))
        · rw [if_neg (nt hc8)] at hq5
          try simp (disch := assumption) only [go_sem, Nat.reduceAdd, Nat.reduceMul, Nat.reduceSub, Nat.reduceEqDiff, ↓reduceIte, Nat.reduceLT, reduceCtorEq, Nat.reduceLeDiff, Int.reduceToNat, Int.reduceEq, Int.reduceLE, Int.reduceLT, Nat.reduceBEq]
          obtain ⟨c69, hr9, hq5⟩ := bind_ok hq5
          refine Cl_shown (w_laws_sameBools hr9) (by first | rfl | (simp (disch := assumption) only [go_sem, Nat.reduceAdd, Nat.reduceMul, Nat.reduceSub, Nat.reduceEqDiff, ↓reduceIte, Nat.reduceLT, reduceCtorEq, Nat.reduceLeDiff, Int.reduceToNat, Int.reduceEq, Int.reduceLE, Int.reduceLT, Nat.reduceBEq]; first | done | rfl)) (FitAll.refl _) (.inr ⟨rfl, by simp [freeOb, free1]⟩) ?_
          try simp (disch := assumption) only [go_sem, Nat.reduceAdd, Nat.reduceMul, Nat.reduceSub, Nat.reduceEqDiff, ↓reduceIte, Nat.reduceLT, reduceCtorEq, Nat.reduceLeDiff, Int.reduceToNat, Int.reduceEq, Int.reduceLE, Int.reduceLT, Nat.reduceBEq]
          cases hq5
          refine X_cut rfl ?_
          refine weak_of (m := 0) [some 0, some 3, some 1] rfl rfl rfl (by simp [injR]) ?_ ?_
          all_goals ((try simp (disch := assumption) only [go_sem, Nat.reduceAdd, Nat.reduceMul, Nat.reduceSub, Nat.reduceEqDiff, ↓reduceIte, Nat.reduceLT, reduceCtorEq, Nat.reduceLeDiff, Int.reduceToNat, Int.reduceEq, Int.reduceLE, Int.reduceLT, Nat.reduceBEq]); (repeat' first | done | rfl | omega | refine And.intro ?_ ?_ | (simp; done) | (simp; omega)))
    · intro s2 hJ; subst hJ
      try dsimp only at h
      try simp (disch := assumption) only [go_sem, Nat.reduceAdd, Nat.reduceMul, Nat.reduceSub, Nat.reduceEqDiff, ↓reduceIte, Nat.reduceLT, reduceCtorEq, Nat.reduceLeDiff, Int.reduceToNat, Int.reduceEq, Int.reduceLE, Int.reduceLT, Nat.reduceBEq]
      refine Bs_splitC (p70.t70) (by first | rfl | (simp only [beq_iff_eq]; done) | simp) (fun hc10 => ?_) (fun hc10 => ?_)
      · rw [if_pos hc10] at h
        try simp (disch := assumption) only [go_sem, Nat.reduceAdd, Nat.reduceMul, Nat.reduceSub, Nat.reduceEqDiff, ↓reduceIte, Nat.reduceLT, reduceCtorEq, Nat.reduceLeDiff, Int.reduceToNat, Int.reduceEq, Int.reduceLE, Int.reduceLT, Nat.reduceBEq]
        have he := Option.some.inj h
        subst he
        refine ends_weak ⟨[(4, (.lf false (.sc (.bool false))))], [], 0, 186⟩ (weak_of (m := 0) [] rfl rfl rfl (by simp [injR]) ?_ ?_) ?_
        all_goals ((try simp (disch := assumption) only [go_sem, Nat.reduceAdd, Nat.reduceMul, Nat.reduceSub, Nat.reduceEqDiff, ↓reduceIte, Nat.reduceLT, reduceCtorEq, Nat.reduceLeDiff, Int.reduceToNat, Int.reduceEq, Int.reduceLE, Int.reduceLT, Nat.reduceBEq]); (repeat' first | done | rfl | omega | refine And.intro ?_ ?_ | (simp; done) | (simp; omega)))
      · rw [if_neg (nt hc10)] at h
        try simp (disch := assumption) only [go_sem, Nat.reduceAdd, Nat.reduceMul, Nat.reduceSub, Nat.reduceEqDiff, ↓reduceIte, Nat.reduceLT, reduceCtorEq, Nat.reduceLeDiff, Int.reduceToNat, Int.reduceEq, Int.reduceLE, Int.reduceLT, Nat.reduceBEq]
        obtain ⟨q11, hq11, h⟩ := bind_ok h
        refine Sq_cut (fun s2 => ∃ p83 : Unit, q11 = .inl p83 ∧ s2 = ⟨[(1, (.lf true (.sl (a1.map eU8))))], [], 0, 186⟩) ?_ ?_
        · try simp (disch := assumption) only [go_sem, Nat.reduceAdd, Nat.reduceMul, Nat.reduceSub, Nat.reduceEqDiff, ↓reduceIte, Nat.reduceLT, reduceCtorEq, Nat.reduceLeDiff, Int.reduceToNat, Int.reduceEq, Int.reduceLE, Int.reduceLT, Nat.reduceBEq]
          refine Bs_splitC (c47.2.2) (by first | rfl | (simp only [beq_iff_eq]; done) | simp) (fun hc12 => ?_) (fun hc12 => ?_)
          · rw [if_pos hc12] at hq11
            try simp (disch := assumption) only [go_sem, Nat.reduceAdd, Nat.reduceMul, Nat.reduceSub, Nat.reduceEqDiff, ↓reduceIte, Nat.reduceLT, reduceCtorEq, Nat.reduceLeDiff, Int.reduceToNat, Int.reduceEq, Int.reduceLE, Int.reduceLT, Nat.reduceBEq]
            obtain ⟨y76, hl13, hq11⟩ := bind_ok hq11
            refine W_loopP (fun g71 : laws_FnBreaker_G1 => ⟨[(1, (.lf true (.sl (a1.map eU8)))), (5, (.lf false (.sc (.int .i64 c24.1)))), (6, (.lf false (.sc (.int .i64 c24.2.1)))), (8, (.pb 0 0)), (9, (.os 1 1 0 c47.2.1.length c47.2.1.length false)), (14, (.lf false (.sc (.int .i64 g71.t14)))), (15, (.lf false (.sc (.int .i64 g71.t15)))), (72, (.os 2 2 0 c24.2.2.length c24.2.2.length false)), (73, (.lf false (.sc (.int .i64 ((c24.2.2.length : Nat) : Int))))), (74, (.lf false (.sc (.int .i64 g71.t74))))], [(0, some (true, .box [(.lf false (.sc (.int .i64 c47.1.Limit))), (.lf false (.sc (.int .i64 c47.1.Cool))), (.lf false (.sc (.int .i64 c47.1.State))), (.lf false (.sc (.int .i64 c47.1.Fails))), (.lf false (.sc (.int .i64 c47.1.Opened)))])), (1, some (true, .arr false 1 (c47.2.1.map eB))), (2, some (true, .arr false 2 (c24.2.2.map eCall)))], 3, 186⟩) (laws_FnBreaker_L1 c24 c47) _ _ hl13 (weak_of (m := 0) [some 1, some 2, some 0] rfl rfl rfl (by simp [injR]) ?_ ?_) ?_
            rotate_left 2
            · intro n1 g71 z1 hs1 hk1
              unfold laws_FnBreaker_L1 at hs1
              try dsimp only at hs1
              simp (disch := assumption) only [go_sem, Nat.reduceAdd, Nat.reduceMul, Nat.reduceSub, Nat.reduceEqDiff, ↓reduceIte, Nat.reduceLT, reduceCtorEq, Nat.reduceLeDiff, Int.reduceToNat, Int.reduceEq, Int.reduceLE, Int.reduceLT, Nat.reduceBEq]
              refine Bs_splitC ((decide (g71.t74 < ((c24.2.2.length : Nat) : Int)))) (by first | rfl | (simp only [beq_iff_eq]; done) | simp) (fun hc14 => ?_) (fun hc14 => ?_)
              · rw [if_pos hc14] at hs1
                try simp (disch := assumption) only [go_sem, Nat.reduceAdd, Nat.reduceMul, Nat.reduceSub, Nat.reduceEqDiff, ↓reduceIte, Nat.reduceLT, reduceCtorEq, Nat.reduceLeDiff, Int.reduceToNat, Int.reduceEq, Int.reduceLE, Int.reduceLT, Nat.reduceBEq]
                obtain ⟨hp15, hs1⟩ := guard_some hs1
                have hn15 : g71.t74.toNat < c24.2.2.length := by first | omega | (simp only [List.length_set, List.length_append, List.length_replicate, List.length_map]; omega)
                try simp (disch := assumption) only [go_sem, Nat.reduceAdd, Nat.reduceMul, Nat.reduceSub, Nat.reduceEqDiff, ↓reduceIte, Nat.reduceLT, reduceCtorEq, Nat.reduceLeDiff, Int.reduceToNat, Int.reduceEq, Int.reduceLE, Int.reduceLT, Nat.reduceBEq]
                first | refine And.intro (by first | omega | exact ⟨by omega, fun _ => mapLen fun _ => rfl⟩ | (refine ⟨by omega, ?_, by omega⟩; first | exact mapLen fun _ => rfl | simp) | (refine ⟨?_, by omega⟩; first | exact mapLen fun _ => rfl | simp)) ?_ | skip
                first | refine And.intro (by first | omega | (simp only [List.length_set, List.length_append, List.length_replicate, List.length_map]; omega)) ?_ | skip
                try simp (disch := assumption) only [go_sem, Nat.reduceAdd, Nat.reduceMul, Nat.reduceSub, Nat.reduceEqDiff, ↓reduceIte, Nat.reduceLT, reduceCtorEq, Nat.reduceLeDiff, Int.reduceToNat, Int.reduceEq, Int.reduceLE, Int.reduceLT, Nat.reduceBEq]
                obtain ⟨p74, hq17, hs1⟩ := bind_ok hs1
                refine Sq_cut (fun s2 => s2 = ⟨[(1, (.lf true (.sl (a1.map eU8)))), (5, (.lf false (.sc (.int .i64 c24.1)))), (6, (.lf false (.sc (.int .i64 c24.2.1)))), (8, (.pb 0 0)), (9, (.os 1 1 0 c47.2.1.length c47.2.1.length false)), (14, (.lf false (.sc (.int .i64 g71.t14)))), (15, (.lf false (.sc (.int .i64 g71.t15)))), (16, (.lf false (.sc (.int .i64 g71.t74)))), (17, (.pb 2 0)), (18, (.lf false (.sc (.bool p74.t18)))), (72, (.os 3 2 0 c24.2.2.length c24.2.2.length false)), (73, (.lf false (.sc (.int .i64 ((c24.2.2.length : Nat) : Int))))), (74, (.lf false (.sc (.int .i64 g71.t74))))], [(0, some (true, .box [(.lf false (.sc (.int .i64 c47.1.Limit))), (.lf false (.sc (.int .i64 c47.1.Cool))), (.lf false (.sc (.int .i64 c47.1.State))), (.lf false (.sc (.int .i64 c47.1.Fails))), (.lf false (.sc (.int .i64 c47.1.Opened)))])), (1, some (true, .arr false 1 (c47.2.1.map eB))), (2, some (true, .box [(.lf false (.sc (.int .i64 ((nth c24.2.2 g71.t74.toNat).Now)))), (.lf false (.sc (.bool ((nth c24.2.2 g71.t74.toNat).Fine))))])), (3, some (true, .arr false 2 (c24.2.2.map eCall)))], 4, 186⟩) ?_ ?_
                · try simp (disch := assumption) only [go_sem, Nat.reduceAdd, Nat.reduceMul, Nat.reduceSub, Nat.reduceEqDiff, ↓reduceIte, Nat.reduceLT, reduceCtorEq, Nat.reduceLeDiff, Int.reduceToNat, Int.reduceEq, Int.reduceLE, Int.reduceLT, Nat.reduceBEq]
                  refine Sp_splitC ((decide (g71.t15 < 0))) (by first | rfl | (simp only [beq_iff_eq]; done) | simp) (fun hc18 => ?_) (fun hc18 => ?_)
                  · rw [if_pos hc18] at hq17
                    try simp (disch := assumption) only [go_sem, Nat.reduceAdd, Nat.reduceMul, Nat.reduceSub, Nat.reduceEqDiff, ↓reduceIte, Nat.reduceLT, reduceCtorEq, Nat.reduceLeDiff, Int.reduceToNat, Int.reduceEq, Int.reduceLE, Int.reduceLT, Nat.reduceBEq]
                    cases hq17
                    refine X_cut rfl ?_
                    refine weak_of (m := 0) [some 0, some 1, some 3, some 2] rfl rfl rfl (by simp [injR]) ?_ ?_
                    all_goals ((try simp (disch := assumption) only [go_sem, Nat.reduceAdd, Nat.reduceMul, Nat.reduceSub, Nat.reduceEqDiff, ↓reduceIte, Nat.reduceLT, reduceCtorEq, Nat.reduceLeDiff, Int.reduceToNat, Int.reduceEq, Int.reduceLE, Int.reduceLT, Nat.reduceBEq]); (repeat' first | done | rfl | omega | refine And.intro ?_ ?_ | (simp; done) | (simp; omega)))
                  · rw [if_neg (nt hc18)] at hq17
                    try simp (disch := assumption) only [go_sem, Nat.reduceAdd, Nat.reduceMul, Nat.reduceSub, Nat.reduceEqDiff, ↓reduceIte, Nat.reduceLT, reduceCtorEq, Nat.reduceLeDiff, Int.reduceToNat, Int.reduceEq, Int.reduceLE, Int.reduceLT, Nat.reduceBEq]
                    cases hq17
                    refine X_cut rfl ?_
                    refine weak_of (m := 0) [some 0, some 1, some 3, some 2] rfl rfl rfl (by simp [injR]) ?_ ?_
                    all_goals ((try simp (disch := assumption) only [go_sem, Nat.reduceAdd, Nat.reduceMul, Nat.reduceSub, Nat.reduceEqDiff, ↓reduceIte, Nat.reduceLT, reduceCtorEq, Nat.reduceLeDiff, Int.reduceToNat, Int.reduceEq, Int.reduceLE, Int.reduceLT, Nat.reduceBEq]); (repeat' first | done | rfl | omega | refine And.intro ?_ ?_ | (simp; done) | (simp; omega)))
                · intro s2 hJ; subst hJ
                  try dsimp only at hs1
                  try simp (disch := assumption) only [go_sem, Nat.reduceAdd, Nat.reduceMul, Nat.reduceSub, Nat.reduceEqDiff, ↓reduceIte, Nat.reduceLT, reduceCtorEq, Nat.reduceLeDiff, Int.reduceToNat, Int.reduceEq, Int.reduceLE, Int.reduceLT, Nat.reduceBEq]
                  obtain ⟨hp19, hs1⟩ := guard_some hs1
                  have hn19 : g71.t74.toNat < c47.2.1.length := by first | omega | (simp only [List.length_set, List.length_append, List.length_replicate, List.length_map]; omega)
                  try simp (disch := assumption) only [go_sem, Nat.reduceAdd, Nat.reduceMul, Nat.reduceSub, Nat.reduceEqDiff, ↓reduceIte, Nat.reduceLT, reduceCtorEq, Nat.reduceLeDiff, Int.reduceToNat, Int.reduceEq, Int.reduceLE, Int.reduceLT, Nat.reduceBEq]
                  first | refine And.intro (by first | omega | exact ⟨by omega, fun _ => mapLen fun _ => rfl⟩ | (refine ⟨by omega, ?_, by omega⟩; first | exact mapLen fun _ => rfl | simp) | (refine ⟨?_, by omega⟩; first | exact mapLen fun _ => rfl | simp)) ?_ | skip
                  first | refine And.intro (by first | omega | (simp only [List.length_set, List.length_append, List.length_replicate, List.length_map]; omega)) ?_ | skip
                  try simp (disch := assumption) only [go_sem, Nat.reduceAdd, Nat.reduceMul, Nat.reduceSub, Nat.reduceEqDiff, ↓reduceIte, Nat.reduceLT, reduceCtorEq, Nat.reduceLeDiff, Int.reduceToNat, Int.reduceEq, Int.reduceLE, Int.reduceLT, Nat.reduceBEq]
                  refine Bs_splitC ((!((nth c47.2.1 g71.t74.toNat) == p74.t18))) (by first | rfl | (simp only [beq_iff_eq]; done) | simp) (fun hc21 => ?_) (fun hc21 => ?_)
                  · rw [if_pos hc21] at hs1
                    try simp (disch := assumption) only [go_sem, Nat.reduceAdd, Nat.reduceMul, Nat.reduceSub, Nat.reduceEqDiff, ↓reduceIte, Nat.reduceLT, reduceCtorEq, Nat.reduceLeDiff, Int.reduceToNat, Int.reduceEq, Int.reduceLE, Int.reduceLT, Nat.reduceBEq]
                    cases hs1
                    cases hk1
                    try dsimp only at hq11
                    try simp (disch := assumption) only [go_sem, Nat.reduceAdd, Nat.reduceMul, Nat.reduceSub, Nat.reduceEqDiff, ↓reduceIte, Nat.reduceLT, reduceCtorEq, Nat.reduceLeDiff, Int.reduceToNat, Int.reduceEq, Int.reduceLE, Int.reduceLT, Nat.reduceBEq]
                    cases hq11
                    try dsimp only at h
                    have he := Option.some.inj h
                    subst he
                    refine ends_weak ⟨[(4, (.lf false (.sc (.bool false))))], [], 0, 186⟩ (weak_of (m := 0) [] rfl rfl rfl (by simp [injR]) ?_ ?_) ?_
                    all_goals ((try simp (disch := assumption) only [go_sem, Nat.reduceAdd, Nat.reduceMul, Nat.reduceSub, Nat.reduceEqDiff, ↓reduceIte, Nat.reduceLT, reduceCtorEq, Nat.reduceLeDiff, Int.reduceToNat, Int.reduceEq, Int.reduceLE, Int.reduceLT, Nat.reduceBEq]); (repeat' first | done | rfl | omega | refine And.intro ?_ ?_ | (simp; done) | (simp; omega)))
                  · rw [if_neg (nt hc21)] at hs1
                    try simp (disch := assumption) only [go_sem, Nat.reduceAdd, Nat.reduceMul, Nat.reduceSub, Nat.reduceEqDiff, ↓reduceIte, Nat.reduceLT, reduceCtorEq, Nat.reduceLeDiff, Int.reduceToNat, Int.reduceEq, Int.reduceLE, Int.reduceLT, Nat.reduceBEq]
                    refine Bs_splitC ((!p74.t18)) (by first | rfl | (simp only [beq_iff_eq]; done) | simp) (fun hc22 => ?_) (fun hc22 => ?_)
                    · rw [if_pos hc22] at hs1
                      try simp (disch := assumption) only [go_sem, Nat.reduceAdd, Nat.reduceMul, Nat.reduceSub, Nat.reduceEqDiff, ↓reduceIte, Nat.reduceLT, reduceCtorEq, Nat.reduceLeDiff, Int.reduceToNat, Int.reduceEq, Int.reduceLE, Int.reduceLT, Nat.reduceBEq]
                      cases hs1
                      refine X_backP hk1 ?_
                      refine weak_of (m := 0) [some 0, some 1, some 3] rfl rfl rfl (by simp [injR]) ?_ ?_
                      all_goals ((try simp (disch := assumption) only [go_sem, Nat.reduceAdd, Nat.reduceMul, Nat.reduceSub, Nat.reduceEqDiff, ↓reduceIte, Nat.reduceLT, reduceCtorEq, Nat.reduceLeDiff, Int.reduceToNat, Int.reduceEq, Int.reduceLE, Int.reduceLT, Nat.reduceBEq]); (repeat' first | done | rfl | omega | refine And.intro ?_ ?_ | (simp; done) | (simp; omega)))
                    · rw [if_neg (nt hc22)] at hs1
                      try simp (disch := assumption) only [go_sem, Nat.reduceAdd, Nat.reduceMul, Nat.reduceSub, Nat.reduceEqDiff, ↓reduceIte, Nat.reduceLT, reduceCtorEq, Nat.reduceLeDiff, Int.reduceToNat, Int.reduceEq, Int.reduceLE, Int.reduceLT, Nat.reduceBEq]
                      refine Bs_splitC ((nth c24.2.2 g71.t74.toNat).Fine) (by first | rfl | (simp only [beq_iff_eq]; done) | simp) (fun hc23 => ?_) (fun hc23 => ?_)
                      · rw [if_pos hc23] at hs1
                        try simp (disch := assumption) only [go_sem, Nat.reduceAdd, Nat.reduceMul, Nat.reduceSub, Nat.reduceEqDiff, ↓reduceIte, Nat.reduceLT, reduceCtorEq, Nat.reduceLeDiff, Int.reduceToNat, Int.reduceEq, Int.reduceLE, Int.reduceLT, Nat.reduceBEq]
                        cases hs1
                        refine X_backP hk1 ?_
                        refine weak_of (m := 0) [some 0, some 1, some 3] rfl rfl rfl (by simp [injR]) ?_ ?_
                        all_goals ((try simp (disch := assumption) only [go_sem, Nat.reduceAdd, Nat.reduceMul, Nat.reduceSub, Nat.reduceEqDiff, ↓reduceIte, Nat.reduceLT, reduceCtorEq, Nat.reduceLeDiff, Int.reduceToNat, Int.reduceEq, Int.reduceLE, Int.reduceLT, Nat.reduceBEq]); (repeat' first | done | rfl | omega | refine And.intro ?_ ?_ | (simp; done) | (simp; omega)))
                      · rw [if_neg (nt hc23)] at hs1
                        try simp (disch := assumption) only [go_sem, Nat.reduceAdd, Nat.reduceMul, Nat.reduceSub, Nat.reduceEqDiff, ↓reduceIte, Nat.reduceLT, reduceCtorEq, Nat.reduceLeDiff, Int.reduceToNat, Int.reduceEq, Int.reduceLE, Int.reduceLT, Nat.reduceBEq]
                        obtain ⟨p75, hq24, hs1⟩ := bind_ok hs1
                        refine Sq_cut (fun s2 => s2 = ⟨[(1, (.lf true (.sl (a1.map eU8)))), (5, (.lf false (.sc (.int .i64 c24.1)))), (6, (.lf false (.sc (.int .i64 c24.2.1)))), (8, (.pb 0 0)), (9, (.os 1 1 0 c47.2.1.length c47.2.1.length false)), (14, (.lf false (.sc (.int .i64 (wI (g71.t14 + 1)))))), (15, (.lf false (.sc (.int .i64 g71.t15)))), (17, (.pb 2 0)), (72, (.os 3 2 0 c24.2.2.length c24.2.2.length false)), (73, (.lf false (.sc (.int .i64 ((c24.2.2.length : Nat) : Int))))), (74, (.lf false (.sc (.int .i64 g71.t74)))), (107, (.lf false (.sc (.bool p75.t107))))], [(0, some (true, .box [(.lf false (.sc (.int .i64 c47.1.Limit))), (.lf false (.sc (.int .i64 c47.1.Cool))), (.lf false (.sc (.int .i64 c47.1.State))), (.lf false (.sc (.int .i64 c47.1.Fails))), (.lf false (.sc (.int .i64 c47.1.Opened)))])), (1, some (true, .arr false 1 (c47.2.1.map eB))), (2, some (true, .box [(.lf false (.sc (.int .i64 ((nth c24.2.2 g71.t74.toNat).Now)))), (.lf false (.sc (.bool ((nth c24.2.2 g71.t74.toNat).Fine))))])), (3, some (true, .arr false 2 (c24.2.2.map eCall)))], 4, 186⟩) ?_ ?_
                        · try simp (disch := assumption) only [go_sem, Nat.reduceAdd, Nat.reduceMul, Nat.reduceSub, Nat.reduceEqDiff, ↓reduceIte, Nat.reduceLT, reduceCtorEq, Nat.reduceLeDiff, Int.reduceToNat, Int.reduceEq, Int.reduceLE, Int.reduceLT, Nat.reduceBEq]
                          refine Sp_splitC ((decide (g71.t15 ≥ 0))) (by first | rfl | (simp only [beq_iff_eq]; done) | simp) (fun hc25 => ?_) (fun hc25 => ?_)
                          · rw [if_pos hc25] at hq24
                            try simp (disch := assumption) only [go_sem, Nat.reduceAdd, Nat.reduceMul, Nat.reduceSub, Nat.reduceEqDiff, ↓reduceIte, Nat.reduceLT, reduceCtorEq, Nat.reduceLeDiff, Int.reduceToNat, Int.reduceEq, Int.reduceLE, Int.reduceLT, Nat.reduceBEq]
                            cases hq24
                            refine X_cut rfl ?_
                            refine weak_of (m := 0) [some 0, some 1, some 2, some 3] rfl rfl rfl (by simp [injR]) ?_ ?_
                            all_goals ((try simp (disch := assumption) only [go_sem, Nat.reduceAdd, Nat.reduceMul, Nat.reduceSub, Nat.reduceEqDiff, ↓reduceIte, Nat.reduceLT, reduceCtorEq, Nat.reduceLeDiff, Int.reduceToNat, Int.reduceEq, Int.reduceLE, Int.reduceLT, Nat.reduceBEq]); (repeat' first | done | rfl | omega | refine And.intro ?_ ?_ | (simp; done) | (simp; omega)))
                          · rw [if_neg (nt hc25)] at hq24
                            try simp (disch := assumption) only [go_sem, Nat.reduceAdd, Nat.reduceMul, Nat.reduceSub, Nat.reduceEqDiff, ↓reduceIte, Nat.reduceLT, reduceCtorEq, Nat.reduceLeDiff, Int.reduceToNat, Int.reduceEq, Int.reduceLE, Int.reduceLT, Nat.reduceBEq]
                            cases hq24
                            refine X_cut rfl ?_
                            refine weak_of (m := 0) [some 0, some 1, some 2, some 3] rfl rfl rfl (by simp [injR]) ?_ ?_
                            all_goals ((try simp (disch := assumption) only [go_sem, Nat.reduceAdd, Nat.reduceMul, Nat.reduceSub, Nat.reduceEqDiff, ↓reduceIte, Nat.reduceLT, reduceCtorEq, Nat.reduceLeDiff, Int.reduceToNat, Int.reduceEq, Int.reduceLE, Int.reduceLT, Nat.reduceBEq]); (repeat' first | done | rfl | omega | refine And.intro ?_ ?_ | (simp; done) | (simp; omega)))
                        · intro s2 hJ; subst hJ
                          try dsimp only at hs1
                          try simp (disch := assumption) only [go_sem, Nat.reduceAdd, Nat.reduceMul, Nat.reduceSub, Nat.reduceEqDiff, ↓reduceIte, Nat.reduceLT, reduceCtorEq, Nat.reduceLeDiff, Int.reduceToNat, Int.reduceEq, Int.reduceLE, Int.reduceLT, Nat.reduceBEq]
                          refine Bs_splitC (p75.t107) (by first | rfl | (simp only [beq_iff_eq]; done) | simp) (fun hc26 => ?_) (fun hc26 => ?_)
                          · rw [if_pos hc26] at hs1
                            try simp (disch := assumption) only [go_sem, Nat.reduceAdd, Nat.reduceMul, Nat.reduceSub, Nat.reduceEqDiff, ↓reduceIte, Nat.reduceLT, reduceCtorEq, Nat.reduceLeDiff, Int.reduceToNat, Int.reduceEq, Int.reduceLE, Int.reduceLT, Nat.reduceBEq]
                            cases hs1
                            refine X_backP hk1 ?_
                            refine weak_of (m := 0) [some 0, some 1, some 3] rfl rfl rfl (by simp [injR]) ?_ ?_
                            all_goals ((try simp (disch := assumption) only [go_sem, Nat.reduceAdd, Nat.reduceMul, Nat.reduceSub, Nat.reduceEqDiff, ↓reduceIte, Nat.reduceLT, reduceCtorEq, Nat.reduceLeDiff, Int.reduceToNat, Int.reduceEq, Int.reduceLE, Int.reduceLT, Nat.reduceBEq]); (repeat' first | done | rfl | omega | refine And.intro ?_ ?_ | (simp; done) | (simp; omega)))
                          · rw [if_neg (nt hc26)] at hs1
                            try simp (disch := assumption) only [go_sem, Nat.reduceAdd, Nat.reduceMul, Nat.reduceSub, Nat.reduceEqDiff, ↓reduceIte, Nat.reduceLT, reduceCtorEq, Nat.reduceLeDiff, Int.reduceToNat, Int.reduceEq, Int.reduceLE, Int.reduceLT, Nat.reduceBEq]
                            cases hs1
                            refine X_backP hk1 ?_
                            refine weak_of (m := 0) [some 0, some 1, some 3] rfl rfl rfl (by simp [injR]) ?_ ?_
                            all_goals ((try simp (disch := assumption) only [go_sem, Nat.reduceAdd, Nat.reduceMul, Nat.reduceSub, Nat.reduceEqDiff, ↓reduceIte, Nat.reduceLT, reduceCtorEq, Nat.reduceLeDiff, Int.reduceToNat, Int.reduceEq, Int.reduceLE, Int.reduceLT, Nat.reduceBEq]); (repeat' first | done | rfl | omega | refine And.intro ?_ ?_ | (simp; done) | (simp; omega)))
              · rw [if_neg (nt hc14)] at hs1
                try simp (disch := assumption) only [go_sem, Nat.reduceAdd, Nat.reduceMul, Nat.reduceSub, Nat.reduceEqDiff, ↓reduceIte, Nat.reduceLT, reduceCtorEq, Nat.reduceLeDiff, Int.reduceToNat, Int.reduceEq, Int.reduceLE, Int.reduceLT, Nat.reduceBEq]
                cases hs1
                cases hk1
                try dsimp only at hq11
                try simp (disch := assumption) only [go_sem, Nat.reduceAdd, Nat.reduceMul, Nat.reduceSub, Nat.reduceEqDiff, ↓reduceIte, Nat.reduceLT, reduceCtorEq, Nat.reduceLeDiff, Int.reduceToNat, Int.reduceEq, Int.reduceLE, Int.reduceLT, Nat.reduceBEq]
                obtain ⟨p82, hq27, hq11⟩ := bind_ok hq11
                refine Sq_cut (fun s2 => s2 = ⟨[(1, (.lf true (.sl (a1.map eU8)))), (122, (.lf false (.sc (.bool p82.t122))))], [], 0, 186⟩) ?_ ?_
                · try simp (disch := assumption) only [go_sem, Nat.reduceAdd, Nat.reduceMul, Nat.reduceSub, Nat.reduceEqDiff, ↓reduceIte, Nat.reduceLT, reduceCtorEq, Nat.reduceLeDiff, Int.reduceToNat, Int.reduceEq, Int.reduceLE, Int.reduceLT, Nat.reduceBEq]
                  refine Sp_splitC ((!((c47.1.State == 1) == (decide (g71.t15 ≥ 0))))) (by first | rfl | (simp only [beq_iff_eq]; done) | simp) (fun hc28 => ?_) (fun hc28 => ?_)
                  · rw [if_pos hc28] at hq27
                    try simp (disch := assumption) only [go_sem, Nat.reduceAdd, Nat.reduceMul, Nat.reduceSub, Nat.reduceEqDiff, ↓reduceIte, Nat.reduceLT, reduceCtorEq, Nat.reduceLeDiff, Int.reduceToNat, Int.reduceEq, Int.reduceLE, Int.reduceLT, Nat.reduceBEq]
                    cases hq27
                    refine X_cut rfl ?_
                    refine weak_of (m := 0) [] rfl rfl rfl (by simp [injR]) ?_ ?_
                    all_goals ((try simp (disch := assumption) only [go_sem, Nat.reduceAdd, Nat.reduceMul, Nat.reduceSub, Nat.reduceEqDiff, ↓reduceIte, Nat.reduceLT, reduceCtorEq, Nat.reduceLeDiff, Int.reduceToNat, Int.reduceEq, Int.reduceLE, Int.reduceLT, Nat.reduceBEq]); (repeat' first | done | rfl | omega | refine And.intro ?_ ?_ | (simp; done) | (simp; omega)))
                  · rw [if_neg (nt hc28)] at hq27
                    try simp (disch := assumption) only [go_sem, Nat.reduceAdd, Nat.reduceMul, Nat.reduceSub, Nat.reduceEqDiff, ↓reduceIte, Nat.reduceLT, reduceCtorEq, Nat.reduceLeDiff, Int.reduceToNat, Int.reduceEq, Int.reduceLE, Int.reduceLT, Nat.reduceBEq]
                    obtain ⟨c81, hr29, hq27⟩ := bind_ok hq27
                    refine Cl_shown (w_impl_GoodBreaker hr29) (by first | rfl | (simp (disch := assumption) only [go_sem, Nat.reduceAdd, Nat.reduceMul, Nat.reduceSub, Nat.reduceEqDiff, ↓reduceIte, Nat.reduceLT, reduceCtorEq, Nat.reduceLeDiff, Int.reduceToNat, Int.reduceEq, Int.reduceLE, Int.reduceLT, Nat.reduceBEq]; first | done | rfl)) (FitAll.refl _) (.inl (by first | rfl | (simp (disch := assumption) only [go_sem, Nat.reduceAdd, Nat.reduceMul, Nat.reduceSub, Nat.reduceEqDiff, ↓reduceIte, Nat.reduceLT, reduceCtorEq, Nat.reduceLeDiff, Int.reduceToNat, Int.reduceEq, Int.reduceLE, Int.reduceLT, Nat.reduceBEq]; done))) ?_
                    try simp (disch := assumption) only [go_sem, Nat.reduceAdd, Nat.reduceMul, Nat.reduceSub, Nat.reduceEqDiff, ↓reduceIte, Nat.reduceLT, reduceCtorEq, Nat.reduceLeDiff, Int.reduceToNat, Int.reduceEq, Int.reduceLE, Int.reduceLT, Nat.reduceBEq]
                    cases hq27
                    refine X_cut rfl ?_
                    refine weak_of (m := 0) [] rfl rfl rfl (by simp [injR]) ?_ ?_
                    all_goals ((try simp (disch := assumption) only [go_sem, Nat.reduceAdd, Nat.reduceMul, Nat.reduceSub, Nat.reduceEqDiff, ↓reduceIte, Nat.reduceLT, reduceCtorEq, Nat.reduceLeDiff, Int.reduceToNat, Int.reduceEq, Int.reduceLE, Int.reduceLT, Nat.reduceBEq]); (repeat' first | done | rfl | omega | refine And.intro ?_ ?_ | (simp; done) | (simp; omega)))
                · intro s2 hJ; subst hJ
                  try dsimp only at hq11
                  try simp (disch := assumption) only [go_sem, Nat.reduceAdd, Nat.reduceMul, Nat.reduceSub, Nat.reduceEqDiff, ↓reduceIte, Nat.reduceLT, reduceCtorEq, Nat.reduceLeDiff, Int.reduceToNat, Int.reduceEq, Int.reduceLE, Int.reduceLT, Nat.reduceBEq]
                  refine Bs_splitC (p82.t122) (by first | rfl | (simp only [beq_iff_eq]; done) | simp) (fun hc30 => ?_) (fun hc30 => ?_)
                  · rw [if_pos hc30] at hq11
                    try simp (disch := assumption) only [go_sem, Nat.reduceAdd, Nat.reduceMul, Nat.reduceSub, Nat.reduceEqDiff, ↓reduceIte, Nat.reduceLT, reduceCtorEq, Nat.reduceLeDiff, Int.reduceToNat, Int.reduceEq, Int.reduceLE, Int.reduceLT, Nat.reduceBEq]
                    cases hq11
                    try dsimp only at h
                    have he := Option.some.inj h
                    subst he
                    refine ends_weak ⟨[(4, (.lf false (.sc (.bool false))))], [], 0, 186⟩ (weak_of (m := 0) [] rfl rfl rfl (by simp [injR]) ?_ ?_) ?_
                    all_goals ((try simp (disch := assumption) only [go_sem, Nat.reduceAdd, Nat.reduceMul, Nat.reduceSub, Nat.reduceEqDiff, ↓reduceIte, Nat.reduceLT, reduceCtorEq, Nat.reduceLeDiff, Int.reduceToNat, Int.reduceEq, Int.reduceLE, Int.reduceLT, Nat.reduceBEq]); (repeat' first | done | rfl | omega | refine And.intro ?_ ?_ | (simp; done) | (simp; omega)))
                  · rw [if_neg (nt hc30)] at hq11
                    try simp (disch := assumption) only [go_sem, Nat.reduceAdd, Nat.reduceMul, Nat.reduceSub, Nat.reduceEqDiff, ↓reduceIte, Nat.reduceLT, reduceCtorEq, Nat.reduceLeDiff, Int.reduceToNat, Int.reduceEq, Int.reduceLE, Int.reduceLT, Nat.reduceBEq]
                    cases hq11
                    refine X_cut ⟨_, rfl, rfl⟩ ?_
                    refine weak_of (m := 0) [] rfl rfl rfl (by simp [injR]) ?_ ?_
                    all_goals ((try simp (disch := assumption) only [go_sem, Nat.reduceAdd, Nat.reduceMul, Nat.reduceSub, Nat.reduceEqDiff, ↓reduceIte, Nat.reduceLT, reduceCtorEq, Nat.reduceLeDiff, Int.reduceToNat, Int.reduceEq, Int.reduceLE, Int.reduceLT, Nat.reduceBEq]); (repeat' first | done | rfl | omega | refine And.intro ?_ ?_ | (simp; done) | (simp; omega)))
            all_goals ((try simp (disch := assumption) only [go_sem, Nat.reduceAdd, Nat.reduceMul, Nat.reduceSub, Nat.reduceEqDiff, ↓reduceIte, Nat.reduceLT, reduceCtorEq, Nat.reduceLeDiff, Int.reduceToNat, Int.reduceEq, Int.reduceLE, Int.reduceLT, Nat.reduceBEq]); (repeat' first | done | rfl | omega | refine And.intro ?_ ?_ | (simp; done) | (simp; omega)))
          · rw [if_neg (nt hc12)] at hq11
            try simp (disch := assumption) only [go_sem, Nat.reduceAdd, Nat.reduceMul, Nat.reduceSub, Nat.reduceEqDiff, ↓reduceIte, Nat.reduceLT, reduceCtorEq, Nat.reduceLeDiff, Int.reduceToNat, Int.reduceEq, Int.reduceLE, Int.reduceLT, Nat.reduceBEq]
            cases hq11
            refine X_cut ⟨_, rfl, rfl⟩ ?_
            refine weak_of (m := 0) [] rfl rfl rfl (by simp [injR]) ?_ ?_
            all_goals ((try simp (disch := assumption) only [go_sem, Nat.reduceAdd, Nat.reduceMul, Nat.reduceSub, Nat.reduceEqDiff, ↓reduceIte, Nat.reduceLT, reduceCtorEq, Nat.reduceLeDiff, Int.reduceToNat, Int.reduceEq, Int.reduceLE, Int.reduceLT, Nat.reduceBEq]); (repeat' first | done | rfl | omega | refine And.intro ?_ ?_ | (simp; done) | (simp; omega)))
        · intro s2 hJ; obtain ⟨p83, e, rfl⟩ := hJ; subst e
          try dsimp only at h
          try simp (disch := assumption) only [go_sem, Nat.reduceAdd, Nat.reduceMul, Nat.reduceSub, Nat.reduceEqDiff, ↓reduceIte, Nat.reduceLT, reduceCtorEq, Nat.reduceLeDiff, Int.reduceToNat, Int.reduceEq, Int.reduceLE, Int.reduceLT, Nat.reduceBEq]
          obtain ⟨c109, hr31, h⟩ := bind_ok h
          refine Cl_shown (w_spec_DrawCallBreaker hr31) (by first | rfl | (simp (disch := assumption) only [go_sem, Nat.reduceAdd, Nat.reduceMul, Nat.reduceSub, Nat.reduceEqDiff, ↓reduceIte, Nat.reduceLT, reduceCtorEq, Nat.reduceLeDiff, Int.reduceToNat, Int.reduceEq, Int.reduceLE, Int.reduceLT, Nat.reduceBEq]; first | done | rfl)) (FitAll.refl _) (.inl (by first | rfl | (simp (disch := assumption) only [go_sem, Nat.reduceAdd, Nat.reduceMul, Nat.reduceSub, Nat.reduceEqDiff, ↓reduceIte, Nat.reduceLT, reduceCtorEq, Nat.reduceLeDiff, Int.reduceToNat, Int.reduceEq, Int.reduceLE, Int.reduceLT, Nat.reduceBEq]; done))) ?_
          try simp (disch := assumption) only [go_sem, Nat.reduceAdd, Nat.reduceMul, Nat.reduceSub, Nat.reduceEqDiff, ↓reduceIte, Nat.reduceLT, reduceCtorEq, Nat.reduceLeDiff, Int.reduceToNat, Int.reduceEq, Int.reduceLE, Int.reduceLT, Nat.reduceBEq]
          obtain ⟨c114, hr32, h⟩ := bind_ok h
          refine Cl_shown (w_impl_CallBreaker hr32) (by first | rfl | (simp (disch := assumption) only [go_sem, Nat.reduceAdd, Nat.reduceMul, Nat.reduceSub, Nat.reduceEqDiff, ↓reduceIte, Nat.reduceLT, reduceCtorEq, Nat.reduceLeDiff, Int.reduceToNat, Int.reduceEq, Int.reduceLE, Int.reduceLT, Nat.reduceBEq]; first | done | rfl)) (FitAll.refl _) (.inl (by first | rfl | (simp (disch := assumption) only [go_sem, Nat.reduceAdd, Nat.reduceMul, Nat.reduceSub, Nat.reduceEqDiff, ↓reduceIte, Nat.reduceLT, reduceCtorEq, Nat.reduceLeDiff, Int.reduceToNat, Int.reduceEq, Int.reduceLE, Int.reduceLT, Nat.reduceBEq]; done))) ?_
          try simp (disch := assumption) only [go_sem, Nat.reduceAdd, Nat.reduceMul, Nat.reduceSub, Nat.reduceEqDiff, ↓reduceIte, Nat.reduceLT, reduceCtorEq, Nat.reduceLeDiff, Int.reduceToNat, Int.reduceEq, Int.reduceLE, Int.reduceLT, Nat.reduceBEq]
          obtain ⟨c125, hr33, h⟩ := bind_ok h
          refine Cl_shown (w_spec_CallBreaker hr33) (by first | rfl | (simp (disch := assumption) only [go_sem, Nat.reduceAdd, Nat.reduceMul, Nat.reduceSub, Nat.reduceEqDiff, ↓reduceIte, Nat.reduceLT, reduceCtorEq, Nat.reduceLeDiff, Int.reduceToNat, Int.reduceEq, Int.reduceLE, Int.reduceLT, Nat.reduceBEq]; first | done | rfl)) (FitAll.refl _) (.inl (by first | rfl | (simp (disch := assumption) only [go_sem, Nat.reduceAdd, Nat.reduceMul, Nat.reduceSub, Nat.reduceEqDiff, ↓reduceIte, Nat.reduceLT, reduceCtorEq, Nat.reduceLeDiff, Int.reduceToNat, Int.reduceEq, Int.reduceLE, Int.reduceLT, Nat.reduceBEq]; done))) ?_
          try simp (disch := assumption) only [go_sem, Nat.reduceAdd, Nat.reduceMul, Nat.reduceSub, Nat.reduceEqDiff, ↓reduceIte, Nat.reduceLT, reduceCtorEq, Nat.reduceLeDiff, Int.reduceToNat, Int.reduceEq, Int.reduceLE, Int.reduceLT, Nat.reduceBEq]
          obtain ⟨c130, hr34, h⟩ := bind_ok h
          refine Cl_shown (w_impl_AllowsAt hr34) (by first | rfl | (simp (disch := assumption) only [go_sem, Nat.reduceAdd, Nat.reduceMul, Nat.reduceSub, Nat.reduceEqDiff, ↓reduceIte, Nat.reduceLT, reduceCtorEq, Nat.reduceLeDiff, Int.reduceToNat, Int.reduceEq, Int.reduceLE, Int.reduceLT, Nat.reduceBEq]; first | done | rfl)) (FitAll.refl _) (.inl (by first | rfl | (simp (disch := assumption) only [go_sem, Nat.reduceAdd, Nat.reduceMul, Nat.reduceSub, Nat.reduceEqDiff, ↓reduceIte, Nat.reduceLT, reduceCtorEq, Nat.reduceLeDiff, Int.reduceToNat, Int.reduceEq, Int.reduceLE, Int.reduceLT, Nat.reduceBEq]; done))) ?_
          try simp (disch := assumption) only [go_sem, Nat.reduceAdd, Nat.reduceMul, Nat.reduceSub, Nat.reduceEqDiff, ↓reduceIte, Nat.reduceLT, reduceCtorEq, Nat.reduceLeDiff, Int.reduceToNat, Int.reduceEq, Int.reduceLE, Int.reduceLT, Nat.reduceBEq]
          obtain ⟨p131, hq35, h⟩ := bind_ok h
          refine Sq_cut (fun s2 => s2 = ⟨[(19, (.pb 0 0)), (21, (.pb 1 0)), (22, (.lf false (.sc (.bool c114.2.1)))), (23, (.lf false (.sc (.bool c114.2.2)))), (27, (.lf false (.sc (.bool c130.1)))), (166, (.lf false (.sc (.bool p131.t166))))], [(0, some (true, .box [(.lf false (.sc (.int .i64 c109.1.Limit))), (.lf false (.sc (.int .i64 c109.1.Cool))), (.lf false (.sc (.int .i64 c109.1.State))), (.lf false (.sc (.int .i64 c109.1.Fails))), (.lf false (.sc (.int .i64 c109.1.Opened)))])), (1, some (true, .box [(.lf false (.sc (.int .i64 c114.1.Limit))), (.lf false (.sc (.int .i64 c114.1.Cool))), (.lf false (.sc (.int .i64 c114.1.State))), (.lf false (.sc (.int .i64 c114.1.Fails))), (.lf false (.sc (.int .i64 c114.1.Opened)))]))], 2, 186⟩) ?_ ?_
          · try simp (disch := assumption) only [go_sem, Nat.reduceAdd, Nat.reduceMul, Nat.reduceSub, Nat.reduceEqDiff, ↓reduceIte, Nat.reduceLT, reduceCtorEq, Nat.reduceLeDiff, Int.reduceToNat, Int.reduceEq, Int.reduceLE, Int.reduceLT, Nat.reduceBEq]
            refine Sp_splitC ((!(c114.2.2 == c125.2.2))) (by first | rfl | (simp only [beq_iff_eq]; done) | simp) (fun hc36 => ?_) (fun hc36 => ?_)
            · rw [if_pos hc36] at hq35
              try simp (disch := assumption) only [go_sem, Nat.reduceAdd, Nat.reduceMul, Nat.reduceSub, Nat.reduceEqDiff, ↓reduceIte, Nat.reduceLT, reduceCtorEq, Nat.reduceLeDiff, Int.reduceToNat, Int.reduceEq, Int.reduceLE, Int.reduceLT, Nat.reduceBEq]
              cases hq35
              refine X_cut rfl ?_
              refine weak_of (m := 0) [some 2, some 5] rfl rfl rfl (by simp [injR]) ?_ ?_
              all_goals ((try simp (disch := assumption) only [go_sem, Nat.reduceAdd, Nat.reduceMul, Nat.reduceSub, Nat.reduceEqDiff, ↓reduceIte, Nat.reduceLT, reduceCtorEq, Nat.reduceLeDiff, Int.reduceToNat, Int.reduceEq, Int.reduceLE, Int.reduceLT, Nat.reduceBEq]); (repeat' first | done | rfl | omega | refine And.intro ?_ ?_ | (simp; done) | (simp; omega)))
            · rw [if_neg (nt hc36)] at hq35
              try simp (disch := assumption) only [go_sem, Nat.reduceAdd, Nat.reduceMul, Nat.reduceSub, Nat.reduceEqDiff, ↓reduceIte, Nat.reduceLT, reduceCtorEq, Nat.reduceLeDiff, Int.reduceToNat, Int.reduceEq, Int.reduceLE, Int.reduceLT, Nat.reduceBEq]
              first | refine And.intro ⟨by kernel_rfl, by kernel_rfl, by kernel_rfl⟩ ?_ | skip
              try simp (disch := assumption) only [go_sem, Nat.reduceAdd, Nat.reduceMul, Nat.reduceSub, Nat.reduceEqDiff, ↓reduceIte, Nat.reduceLT, reduceCtorEq, Nat.reduceLeDiff, Int.reduceToNat, Int.reduceEq, Int.reduceLE, Int.reduceLT, Nat.reduceBEq]
              refine Sp_splitC ((!((c114.1.Limit == c125.1.Limit) && ((c114.1.Cool == c125.1.Cool) && ((c114.1.State == c125.1.State) && ((c114.1.Fails == c125.1.Fails) && (c114.1.Opened == c125.1.Opened))))))) (by first | rfl | (simp only [beq_iff_eq]; done) | simp) (fun hc38 => ?_) (fun hc38 => ?_)
              · rw [if_pos hc38] at hq35
                try simp (disch := assumption) only [go_sem, Nat.reduceAdd, Nat.reduceMul, Nat.reduceSub, Nat.reduceEqDiff, ↓reduceIte, Nat.reduceLT, reduceCtorEq, Nat.reduceLeDiff, Int.reduceToNat, Int.reduceEq, Int.reduceLE, Int.reduceLT, Nat.reduceBEq]
                cases hq35
                refine X_cut rfl ?_
                refine weak_of (m := 0) [some 2, some 5] rfl rfl rfl (by simp [injR]) ?_ ?_
                all_goals ((try simp (disch := assumption) only [go_sem, Nat.reduceAdd, Nat.reduceMul, Nat.reduceSub, Nat.reduceEqDiff, ↓reduceIte, Nat.reduceLT, reduceCtorEq, Nat.reduceLeDiff, Int.reduceToNat, Int.reduceEq, Int.reduceLE, Int.reduceLT, Nat.reduceBEq]); (repeat' first | done | rfl | omega | refine And.intro ?_ ?_ | (simp; done) | (simp; omega)))
              · rw [if_neg (nt hc38)] at hq35
                try simp (disch := assumption) only [go_sem, Nat.reduceAdd, Nat.reduceMul, Nat.reduceSub, Nat.reduceEqDiff, ↓reduceIte, Nat.reduceLT, reduceCtorEq, Nat.reduceLeDiff, Int.reduceToNat, Int.reduceEq, Int.reduceLE, Int.reduceLT, Nat.reduceBEq]
                refine Sp_splitC ((!(c114.2.1 == c125.2.1))) (by first | rfl | (simp only [beq_iff_eq]; done) | simp) (fun hc39 => ?_) (fun hc39 => ?_)
                · rw [if_pos hc39] at hq35
                  try simp (disch := assumption) only [go_sem, Nat.reduceAdd, Nat.reduceMul, Nat.reduceSub, Nat.reduceEqDiff, ↓reduceIte, Nat.reduceLT, reduceCtorEq, Nat.reduceLeDiff, Int.reduceToNat, Int.reduceEq, Int.reduceLE, Int.reduceLT, Nat.reduceBEq]
                  cases hq35
                  refine X_cut rfl ?_
                  refine weak_of (m := 0) [some 2, some 5] rfl rfl rfl (by simp [injR]) ?_ ?_
                  all_goals ((try simp (disch := assumption) only [go_sem, Nat.reduceAdd, Nat.reduceMul, Nat.reduceSub, Nat.reduceEqDiff, ↓reduceIte, Nat.reduceLT, reduceCtorEq, Nat.reduceLeDiff, Int.reduceToNat, Int.reduceEq, Int.reduceLE, Int.reduceLT, Nat.reduceBEq]); (repeat' first | done | rfl | omega | refine And.intro ?_ ?_ | (simp; done) | (simp; omega)))
                · rw [if_neg (nt hc39)] at hq35
                  try simp (disch := assumption) only [go_sem, Nat.reduceAdd, Nat.reduceMul, Nat.reduceSub, Nat.reduceEqDiff, ↓reduceIte, Nat.reduceLT, reduceCtorEq, Nat.reduceLeDiff, Int.reduceToNat, Int.reduceEq, Int.reduceLE, Int.reduceLT, Nat.reduceBEq]
                  cases hq35
                  refine X_cut rfl ?_
                  refine weak_of (m := 0) [some 2, some 5] rfl rfl rfl (by simp [injR]) ?_ ?_
                  all_goals ((try simp (disch := assumption) only [go_sem, Nat.reduceAdd, Nat.reduceMul, Nat.reduceSub, Nat.reduceEqDiff, ↓reduceIte, Nat.reduceLT, reduceCtorEq, Nat.reduceLeDiff, Int.reduceToNat, Int.reduceEq, Int.reduceLE, Int.reduceLT, Nat.reduceBEq]); (repeat' first | done | rfl | omega | refine And.intro ?_ ?_ | (simp; done) | (simp; omega)))
          · intro s2 hJ; subst hJ
            try dsimp only at h
            try simp (disch := assumption) only [go_sem, Nat.reduceAdd, Nat.reduceMul, Nat.reduceSub, Nat.reduceEqDiff, ↓reduceIte, Nat.reduceLT, reduceCtorEq, Nat.reduceLeDiff, Int.reduceToNat, Int.reduceEq, Int.reduceLE, Int.reduceLT, Nat.reduceBEq]
            refine Bs_splitC (p131.t166) (by first | rfl | (simp only [beq_iff_eq]; done) | simp) (fun hc40 => ?_) (fun hc40 => ?_)
            · rw [if_pos hc40] at h
              try simp (disch := assumption) only [go_sem, Nat.reduceAdd, Nat.reduceMul, Nat.reduceSub, Nat.reduceEqDiff, ↓reduceIte, Nat.reduceLT, reduceCtorEq, Nat.reduceLeDiff, Int.reduceToNat, Int.reduceEq, Int.reduceLE, Int.reduceLT, Nat.reduceBEq]
              have he := Option.some.inj h
              subst he
              refine ends_weak ⟨[(4, (.lf false (.sc (.bool false))))], [], 0, 186⟩ (weak_of (m := 0) [] rfl rfl rfl (by simp [injR]) ?_ ?_) ?_
              all_goals ((try simp (disch := assumption) only [go_sem, Nat.reduceAdd, Nat.reduceMul, Nat.reduceSub, Nat.reduceEqDiff, ↓reduceIte, Nat.reduceLT, reduceCtorEq, Nat.reduceLeDiff, Int.reduceToNat, Int.reduceEq, Int.reduceLE, Int.reduceLT, Nat.reduceBEq]); (repeat' first | done | rfl | omega | refine And.intro ?_ ?_ | (simp; done) | (simp; omega)))
            · rw [if_neg (nt hc40)] at h
              try simp (disch := assumption) only [go_sem, Nat.reduceAdd, Nat.reduceMul, Nat.reduceSub, Nat.reduceEqDiff, ↓reduceIte, Nat.reduceLT, reduceCtorEq, Nat.reduceLeDiff, Int.reduceToNat, Int.reduceEq, Int.reduceLE, Int.reduceLT, Nat.reduceBEq]
              refine Sp_splitC ((!c114.2.2)) (by first | rfl | (simp only [beq_iff_eq]; done) | simp) (fun hc41 => ?_) (fun hc41 => ?_)
              · rw [if_pos hc41] at h
                try simp (disch := assumption) only [go_sem, Nat.reduceAdd, Nat.reduceMul, Nat.reduceSub, Nat.reduceEqDiff, ↓reduceIte, Nat.reduceLT, reduceCtorEq, Nat.reduceLeDiff, Int.reduceToNat, Int.reduceEq, Int.reduceLE, Int.reduceLT, Nat.reduceBEq]
                have he := Option.some.inj h
                subst he
                refine ends_weak ⟨[(4, (.lf false (.sc (.bool true))))], [], 0, 186⟩ (weak_of (m := 0) [] rfl rfl rfl (by simp [injR]) ?_ ?_) ?_
                all_goals ((try simp (disch := assumption) only [go_sem, Nat.reduceAdd, Nat.reduceMul, Nat.reduceSub, Nat.reduceEqDiff, ↓reduceIte, Nat.reduceLT, reduceCtorEq, Nat.reduceLeDiff, Int.reduceToNat, Int.reduceEq, Int.reduceLE, Int.reduceLT, Nat.reduceBEq]); (repeat' first | done | rfl | omega | refine And.intro ?_ ?_ | (simp; done) | (simp; omega)))
              · rw [if_neg (nt hc41)] at h
                try simp (disch := assumption) only [go_sem, Nat.reduceAdd, Nat.reduceMul, Nat.reduceSub, Nat.reduceEqDiff, ↓reduceIte, Nat.reduceLT, reduceCtorEq, Nat.reduceLeDiff, Int.reduceToNat, Int.reduceEq, Int.reduceLE, Int.reduceLT, Nat.reduceBEq]
                refine Sp_splitC ((c114.2.1 == c130.1)) (by first | rfl | (simp only [beq_iff_eq]; done) | simp) (fun hc42 => ?_) (fun hc42 => ?_)
                · rw [if_pos hc42] at h
                  try simp (disch := assumption) only [go_sem, Nat.reduceAdd, Nat.reduceMul, Nat.reduceSub, Nat.reduceEqDiff, ↓reduceIte, Nat.reduceLT, reduceCtorEq, Nat.reduceLeDiff, Int.reduceToNat, Int.reduceEq, Int.reduceLE, Int.reduceLT, Nat.reduceBEq]
                  obtain ⟨c132, hr43, h⟩ := bind_ok h
                  refine Cl_shown (w_impl_GoodBreaker hr43) (by first | rfl | (simp (disch := assumption) only [go_sem, Nat.reduceAdd, Nat.reduceMul, Nat.reduceSub, Nat.reduceEqDiff, ↓reduceIte, Nat.reduceLT, reduceCtorEq, Nat.reduceLeDiff, Int.reduceToNat, Int.reduceEq, Int.reduceLE, Int.reduceLT, Nat.reduceBEq]; first | done | rfl)) (FitAll.refl _) (.inl (by first | rfl | (simp (disch := assumption) only [go_sem, Nat.reduceAdd, Nat.reduceMul, Nat.reduceSub, Nat.reduceEqDiff, ↓reduceIte, Nat.reduceLT, reduceCtorEq, Nat.reduceLeDiff, Int.reduceToNat, Int.reduceEq, Int.reduceLE, Int.reduceLT, Nat.reduceBEq]; done))) ?_
                  try simp (disch := assumption) only [go_sem, Nat.reduceAdd, Nat.reduceMul, Nat.reduceSub, Nat.reduceEqDiff, ↓reduceIte, Nat.reduceLT, reduceCtorEq, Nat.reduceLeDiff, Int.reduceToNat, Int.reduceEq, Int.reduceLE, Int.reduceLT, Nat.reduceBEq]
                  refine Sp_splitC (c132) (by first | rfl | (simp only [beq_iff_eq]; done) | simp) (fun hc44 => ?_) (fun hc44 => ?_)
                  · rw [if_pos hc44] at h
                    try simp (disch := assumption) only [go_sem, Nat.reduceAdd, Nat.reduceMul, Nat.reduceSub, Nat.reduceEqDiff, ↓reduceIte, Nat.reduceLT, reduceCtorEq, Nat.reduceLeDiff, Int.reduceToNat, Int.reduceEq, Int.reduceLE, Int.reduceLT, Nat.reduceBEq]
                    refine Sp_splitC (c114.2.1) (by first | rfl | (simp only [beq_iff_eq]; done) | simp) (fun hc45 => ?_) (fun hc45 => ?_)
                    · rw [if_pos hc45] at h
                      try simp (disch := assumption) only [go_sem, Nat.reduceAdd, Nat.reduceMul, Nat.reduceSub, Nat.reduceEqDiff, ↓reduceIte, Nat.reduceLT, reduceCtorEq, Nat.reduceLeDiff, Int.reduceToNat, Int.reduceEq, Int.reduceLE, Int.reduceLT, Nat.reduceBEq]
                      have he := Option.some.inj h
                      subst he
                      refine ends_weak ⟨[(4, (.lf false (.sc (.bool true))))], [], 0, 186⟩ (weak_of (m := 0) [] rfl rfl rfl (by simp [injR]) ?_ ?_) ?_
                      all_goals ((try simp (disch := assumption) only [go_sem, Nat.reduceAdd, Nat.reduceMul, Nat.reduceSub, Nat.reduceEqDiff, ↓reduceIte, Nat.reduceLT, reduceCtorEq, Nat.reduceLeDiff, Int.reduceToNat, Int.reduceEq, Int.reduceLE, Int.reduceLT, Nat.reduceBEq]); (repeat' first | done | rfl | omega | refine And.intro ?_ ?_ | (simp; done) | (simp; omega)))
                    · rw [if_neg (nt hc45)] at h
                      try simp (disch := assumption) only [go_sem, Nat.reduceAdd, Nat.reduceMul, Nat.reduceSub, Nat.reduceEqDiff, ↓reduceIte, Nat.reduceLT, reduceCtorEq, Nat.reduceLeDiff, Int.reduceToNat, Int.reduceEq, Int.reduceLE, Int.reduceLT, Nat.reduceBEq]
                      first | refine And.intro ⟨by kernel_rfl, by kernel_rfl, by kernel_rfl⟩ ?_ | skip
                      try simp (disch := assumption) only [go_sem, Nat.reduceAdd, Nat.reduceMul, Nat.reduceSub, Nat.reduceEqDiff, ↓reduceIte, Nat.reduceLT, reduceCtorEq, Nat.reduceLeDiff, Int.reduceToNat, Int.reduceEq, Int.reduceLE, Int.reduceLT, Nat.reduceBEq]
                      have he := Option.some.inj h
                      subst he
                      refine ends_weak ⟨[(4, (.lf false (.sc (.bool ((c114.1.Limit == c109.1.Limit) && ((c114.1.Cool == c109.1.Cool) && ((c114.1.State == c109.1.State) && ((c114.1.Fails == c109.1.Fails) && (c114.1.Opened == c109.1.Opened)))))))))], [], 0, 186⟩ (weak_of (m := 0) [] rfl rfl rfl (by simp [injR]) ?_ ?_) ?_
                      all_goals ((try simp (disch := assumption) only [go_sem, Nat.reduceAdd, Nat.reduceMul, Nat.reduceSub, Nat.reduceEqDiff, ↓reduceIte, Nat.reduceLT, reduceCtorEq, Nat.reduceLeDiff, Int.reduceToNat, Int.reduceEq, Int.reduceLE, Int.reduceLT, Nat.reduceBEq]); (repeat' first | done | rfl | omega | refine And.intro ?_ ?_ | (simp; done) | (simp; omega)))
                  · rw [if_neg (nt hc44)] at h
                    try simp (disch := assumption) only [go_sem, Nat.reduceAdd, Nat.reduceMul, Nat.reduceSub, Nat.reduceEqDiff, ↓reduceIte, Nat.reduceLT, reduceCtorEq, Nat.reduceLeDiff, Int.reduceToNat, Int.reduceEq, Int.reduceLE, Int.reduceLT, Nat.reduceBEq]
                    have he := Option.some.inj h
                    subst he
                    refine ends_weak ⟨[(4, (.lf false (.sc (.bool false))))], [], 0, 186⟩ (weak_of (m := 0) [] rfl rfl rfl (by simp [injR]) ?_ ?_) ?_
                    all_goals ((try simp (disch := assumption) only [go_sem, Nat.reduceAdd, Nat.reduceMul, Nat.reduceSub, Nat.reduceEqDiff, ↓reduceIte, Nat.reduceLT, reduceCtorEq, Nat.reduceLeDiff, Int.reduceToNat, Int.reduceEq, Int.reduceLE, Int.reduceLT, Nat.reduceBEq]); (repeat' first | done | rfl | omega | refine And.intro ?_ ?_ | (simp; done) | (simp; omega)))
                · rw [if_neg (nt hc42)] at h
                  try simp (disch := assumption) only [go_sem, Nat.reduceAdd, Nat.reduceMul, Nat.reduceSub, Nat.reduceEqDiff, ↓reduceIte, Nat.reduceLT, reduceCtorEq, Nat.reduceLeDiff, Int.reduceToNat, Int.reduceEq, Int.reduceLE, Int.reduceLT, Nat.reduceBEq]
                  have he := Option.some.inj h
                  subst he
                  refine ends_weak ⟨[(4, (.lf false (.sc (.bool false))))], [], 0, 186⟩ (weak_of (m := 0) [] rfl rfl rfl (by simp [injR]) ?_ ?_) ?_
                  all_goals ((try simp (disch := assumption) only [go_sem, Nat.reduceAdd, Nat.reduceMul, Nat.reduceSub, Nat.reduceEqDiff, ↓reduceIte, Nat.reduceLT, reduceCtorEq, Nat.reduceLeDiff, Int.reduceToNat, Int.reduceEq, Int.reduceLE, Int.reduceLT, Nat.reduceBEq]); (repeat' first | done | rfl | omega | refine And.intro ?_ ?_ | (simp; done) | (simp; omega)))
end Go.TL.Ytmmhgioeoikgbaa

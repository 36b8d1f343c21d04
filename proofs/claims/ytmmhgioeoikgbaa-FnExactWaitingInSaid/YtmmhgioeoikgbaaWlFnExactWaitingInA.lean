import Derived.Test.YtmmhgioeoikgbaaTlTabr1
import Derived.Test.YtmmhgioeoikgbaaEnR1
set_option linter.unusedVariables false
set_option linter.unusedSimpArgs false
set_option maxRecDepth 8000
set_option maxHeartbeats 0
namespace Go.TL.Ytmmhgioeoikgbaa
open Go Go.Proofs Go.TL
theorem w_laws_szStringS {a0 : (List ByteArray)} {a1 : Int} {r : Int} (h : laws_szStringS a0 a1 = some r) : Fn Try.prog 88 [(.lf true (.sl (a0.map eS))), (.lf false (.sc (.int .i64 a1)))] [] 0 (.lf false (.sc (.int .i64 r))) [] 0 := by
  unfold laws_szStringS at h
  refine fn_code tab_ok mixed [(1000, [(0, 0), (1, 0)]), (1001, [(0, 0), (1, 0)]), (1002, [(0, 0), (1, 0), (11, 0)]), (1003, [(4, 0)]), (1004, [(0, 0), (1, 0), (5, 0)]), (1005, [(0, 0), (1, 0), (5, 0), (15, 0)]), (1006, [(0, 0), (1, 0), (5, 0)]), (1007, [(0, 0), (1, 0), (5, 0)]), (1008, [(0, 0), (1, 0), (5, 0), (26, 0)]), (1009, [(4, 0)]), (1010, [(4, 0)])] Try.func88 rfl rfl (by simp [Try.f88]) (by kernel_rfl) ?_
  simp only [Try.f88]
  simp (disch := assumption) only [go_sem, Nat.reduceAdd, Nat.reduceMul, Nat.reduceSub, Nat.reduceEqDiff, ↓reduceIte, Nat.reduceLT, reduceCtorEq, Nat.reduceLeDiff, Int.reduceToNat, Int.reduceEq, Int.reduceLE, Int.reduceLT, Nat.reduceBEq]
  refine Bs_splitC ((decide ((wI (a1 - ((a0.length : Nat) : Int))) < 0))) (by first | rfl | (simp only [beq_iff_eq]; done) | simp) (fun hc1 => ?_) (fun hc1 => ?_)
  · rw [if_pos hc1] at h
    try simp (disch := assumption) only [go_sem, Nat.reduceAdd, Nat.reduceMul, Nat.reduceSub, Nat.reduceEqDiff, ↓reduceIte, Nat.reduceLT, reduceCtorEq, Nat.reduceLeDiff, Int.reduceToNat, Int.reduceEq, Int.reduceLE, Int.reduceLT, Nat.reduceBEq]
    have he := Option.some.inj h
    subst he
    refine ends_weak ⟨[(4, (.lf false (.sc (.int .i64 (-1)))))], [], 0, 28⟩ (weak_of (m := 0) [] rfl rfl rfl (by simp [injR]) ?_ ?_) ?_
    all_goals ((try simp (disch := assumption) only [go_sem, Nat.reduceAdd, Nat.reduceMul, Nat.reduceSub, Nat.reduceEqDiff, ↓reduceIte, Nat.reduceLT, reduceCtorEq, Nat.reduceLeDiff, Int.reduceToNat, Int.reduceEq, Int.reduceLE, Int.reduceLT, Nat.reduceBEq]); (repeat' first | done | rfl | omega | refine And.intro ?_ ?_ | (simp; done) | (simp; omega)))
  · rw [if_neg (nt hc1)] at h
    try simp (disch := assumption) only [go_sem, Nat.reduceAdd, Nat.reduceMul, Nat.reduceSub, Nat.reduceEqDiff, ↓reduceIte, Nat.reduceLT, reduceCtorEq, Nat.reduceLeDiff, Int.reduceToNat, Int.reduceEq, Int.reduceLE, Int.reduceLT, Nat.reduceBEq]
    obtain ⟨y2, hl2, h⟩ := bind_ok h
    refine W_loopP (fun g1 : laws_szStringS_G1 => ⟨[(0, (.lf true (.sl (a0.map eS)))), (1, (.lf false (.sc (.int .i64 g1.t1)))), (5, (.lf false (.sc (.int .i64 g1.t5))))], [], 0, 28⟩) (laws_szStringS_L1 a0) _ _ hl2 (weak_of (m := 0) [] rfl rfl rfl (by simp [injR]) ?_ ?_) ?_
    rotate_left 2
    · intro n1 g1 z1 hs1 hk1
      unfold laws_szStringS_L1 at hs1
      try dsimp only at hs1
      simp (disch := assumption) only [go_sem, Nat.reduceAdd, Nat.reduceMul, Nat.reduceSub, Nat.reduceEqDiff, ↓reduceIte, Nat.reduceLT, reduceCtorEq, Nat.reduceLeDiff, Int.reduceToNat, Int.reduceEq, Int.reduceLE, Int.reduceLT, Nat.reduceBEq]
      refine Bs_splitC ((decide (g1.t5 < ((a0.length : Nat) : Int)))) (by first | rfl | (simp only [beq_iff_eq]; done) | simp) (fun hc3 => ?_) (fun hc3 => ?_)
      · rw [if_pos hc3] at hs1
        try simp (disch := assumption) only [go_sem, Nat.reduceAdd, Nat.reduceMul, Nat.reduceSub, Nat.reduceEqDiff, ↓reduceIte, Nat.reduceLT, reduceCtorEq, Nat.reduceLeDiff, Int.reduceToNat, Int.reduceEq, Int.reduceLE, Int.reduceLT, Nat.reduceBEq]
        obtain ⟨hp4, hs1⟩ := guard_some hs1
        have hn4 : g1.t5.toNat < a0.length := by first | omega | (simp only [List.length_set, List.length_append, List.length_replicate, List.length_map]; omega)
        try simp (disch := assumption) only [go_sem, Nat.reduceAdd, Nat.reduceMul, Nat.reduceSub, Nat.reduceEqDiff, ↓reduceIte, Nat.reduceLT, reduceCtorEq, Nat.reduceLeDiff, Int.reduceToNat, Int.reduceEq, Int.reduceLE, Int.reduceLT, Nat.reduceBEq]
        first | refine And.intro (by first | omega | exact ⟨by omega, fun _ => mapLen fun _ => rfl⟩ | (refine ⟨by omega, ?_, by omega⟩; first | exact mapLen fun _ => rfl | simp) | (refine ⟨?_, by omega⟩; first | exact mapLen fun _ => rfl | simp)) ?_ | skip
        refine Bs_splitC ((decide ((wI (g1.t1 - ((nth a0 g1.t5.toNat).size : Int))) < 0))) (by first | rfl | (simp only [beq_iff_eq]; done) | simp) (fun hc5 => ?_) (fun hc5 => ?_)
        · rw [if_pos hc5] at hs1
          try simp (disch := assumption) only [go_sem, Nat.reduceAdd, Nat.reduceMul, Nat.reduceSub, Nat.reduceEqDiff, ↓reduceIte, Nat.reduceLT, reduceCtorEq, Nat.reduceLeDiff, Int.reduceToNat, Int.reduceEq, Int.reduceLE, Int.reduceLT, Nat.reduceBEq]
          cases hs1
          cases hk1
          try dsimp only at h
          try simp (disch := assumption) only [go_sem, Nat.reduceAdd, Nat.reduceMul, Nat.reduceSub, Nat.reduceEqDiff, ↓reduceIte, Nat.reduceLT, reduceCtorEq, Nat.reduceLeDiff, Int.reduceToNat, Int.reduceEq, Int.reduceLE, Int.reduceLT, Nat.reduceBEq]
          have he := Option.some.inj h
          subst he
          refine ends_weak ⟨[(4, (.lf false (.sc (.int .i64 (-1)))))], [], 0, 28⟩ (weak_of (m := 0) [] rfl rfl rfl (by simp [injR]) ?_ ?_) ?_
          all_goals ((try simp (disch := assumption) only [go_sem, Nat.reduceAdd, Nat.reduceMul, Nat.reduceSub, Nat.reduceEqDiff, ↓reduceIte, Nat.reduceLT, reduceCtorEq, Nat.reduceLeDiff, Int.reduceToNat, Int.reduceEq, Int.reduceLE, Int.reduceLT, Nat.reduceBEq]); (repeat' first | done | rfl | omega | refine And.intro ?_ ?_ | (simp; done) | (simp; omega)))
        · rw [if_neg (nt hc5)] at hs1
          try simp (disch := assumption) only [go_sem, Nat.reduceAdd, Nat.reduceMul, Nat.reduceSub, Nat.reduceEqDiff, ↓reduceIte, Nat.reduceLT, reduceCtorEq, Nat.reduceLeDiff, Int.reduceToNat, Int.reduceEq, Int.reduceLE, Int.reduceLT, Nat.reduceBEq]
          cases hs1
          refine X_backP hk1 ?_
          refine weak_of (m := 0) [] rfl rfl rfl (by simp [injR]) ?_ ?_
          all_goals ((try simp (disch := assumption) only [go_sem, Nat.reduceAdd, Nat.reduceMul, Nat.reduceSub, Nat.reduceEqDiff, ↓reduceIte, Nat.reduceLT, reduceCtorEq, Nat.reduceLeDiff, Int.reduceToNat, Int.reduceEq, Int.reduceLE, Int.reduceLT, Nat.reduceBEq]); (repeat' first | done | rfl | omega | refine And.intro ?_ ?_ | (simp; done) | (simp; omega)))
      · rw [if_neg (nt hc3)] at hs1
        try simp (disch := assumption) only [go_sem, Nat.reduceAdd, Nat.reduceMul, Nat.reduceSub, Nat.reduceEqDiff, ↓reduceIte, Nat.reduceLT, reduceCtorEq, Nat.reduceLeDiff, Int.reduceToNat, Int.reduceEq, Int.reduceLE, Int.reduceLT, Nat.reduceBEq]
        cases hs1
        cases hk1
        try dsimp only at h
        try simp (disch := assumption) only [go_sem, Nat.reduceAdd, Nat.reduceMul, Nat.reduceSub, Nat.reduceEqDiff, ↓reduceIte, Nat.reduceLT, reduceCtorEq, Nat.reduceLeDiff, Int.reduceToNat, Int.reduceEq, Int.reduceLE, Int.reduceLT, Nat.reduceBEq]
        have he := Option.some.inj h
        subst he
        refine ends_weak ⟨[(4, (.lf false (.sc (.int .i64 g1.t1))))], [], 0, 28⟩ (weak_of (m := 0) [] rfl rfl rfl (by simp [injR]) ?_ ?_) ?_
        all_goals ((try simp (disch := assumption) only [go_sem, Nat.reduceAdd, Nat.reduceMul, Nat.reduceSub, Nat.reduceEqDiff, ↓reduceIte, Nat.reduceLT, reduceCtorEq, Nat.reduceLeDiff, Int.reduceToNat, Int.reduceEq, Int.reduceLE, Int.reduceLT, Nat.reduceBEq]); (repeat' first | done | rfl | omega | refine And.intro ?_ ?_ | (simp; done) | (simp; omega)))
    all_goals ((try simp (disch := assumption) only [go_sem, Nat.reduceAdd, Nat.reduceMul, Nat.reduceSub, Nat.reduceEqDiff, ↓reduceIte, Nat.reduceLT, reduceCtorEq, Nat.reduceLeDiff, Int.reduceToNat, Int.reduceEq, Int.reduceLE, Int.reduceLT, Nat.reduceBEq]); (repeat' first | done | rfl | omega | refine And.intro ?_ ?_ | (simp; done) | (simp; omega)))
theorem w_laws_szPacket {a0 : PacketT} {a1 : Int} {r : Int} (h : laws_szPacket a0 a1 = some r) : Fn Try.prog 114 [(.ag [(.lf false (.sc (.bool a0.Ack))), (.lf false (.sc (.int .i64 a0.No))), (.lf false (.sc (.string a0.Text)))]), (.lf false (.sc (.int .i64 a1)))] [] 0 (.lf false (.sc (.int .i64 r))) [] 0 := by
  unfold laws_szPacket at h
  refine fn_code tab_ok mixed [(1000, [(1, 0), (2, 0)]), (1001, [(1, 0)]), (1002, [(1, 0), (11, 0)]), (1003, [(4, 0)]), (1004, [(4, 0)])] Try.func114 rfl rfl (by simp [Try.f114]) (by kernel_rfl) ?_
  simp only [Try.f114]
  simp (disch := assumption) only [go_sem, Nat.reduceAdd, Nat.reduceMul, Nat.reduceSub, Nat.reduceEqDiff, ↓reduceIte, Nat.reduceLT, reduceCtorEq, Nat.reduceLeDiff, Int.reduceToNat, Int.reduceEq, Int.reduceLE, Int.reduceLT, Nat.reduceBEq]
  refine Bs_splitC ((decide ((wI (a1 - (a0.Text.size : Int))) < 0))) (by first | rfl | (simp only [beq_iff_eq]; done) | simp) (fun hc1 => ?_) (fun hc1 => ?_)
  · rw [if_pos hc1] at h
    try simp (disch := assumption) only [go_sem, Nat.reduceAdd, Nat.reduceMul, Nat.reduceSub, Nat.reduceEqDiff, ↓reduceIte, Nat.reduceLT, reduceCtorEq, Nat.reduceLeDiff, Int.reduceToNat, Int.reduceEq, Int.reduceLE, Int.reduceLT, Nat.reduceBEq]
    have he := Option.some.inj h
    subst he
    refine ends_weak ⟨[(4, (.lf false (.sc (.int .i64 (-1)))))], [], 0, 13⟩ (weak_of (m := 0) [] rfl rfl rfl (by simp [injR]) ?_ ?_) ?_
    all_goals ((try simp (disch := assumption) only [go_sem, Nat.reduceAdd, Nat.reduceMul, Nat.reduceSub, Nat.reduceEqDiff, ↓reduceIte, Nat.reduceLT, reduceCtorEq, Nat.reduceLeDiff, Int.reduceToNat, Int.reduceEq, Int.reduceLE, Int.reduceLT, Nat.reduceBEq]); (repeat' first | done | rfl | omega | refine And.intro ?_ ?_ | (simp; done) | (simp; omega)))
  · rw [if_neg (nt hc1)] at h
    try simp (disch := assumption) only [go_sem, Nat.reduceAdd, Nat.reduceMul, Nat.reduceSub, Nat.reduceEqDiff, ↓reduceIte, Nat.reduceLT, reduceCtorEq, Nat.reduceLeDiff, Int.reduceToNat, Int.reduceEq, Int.reduceLE, Int.reduceLT, Nat.reduceBEq]
    have he := Option.some.inj h
    subst he
    refine ends_weak ⟨[(4, (.lf false (.sc (.int .i64 (wI (a1 - (a0.Text.size : Int)))))))], [], 0, 13⟩ (weak_of (m := 0) [] rfl rfl rfl (by simp [injR]) ?_ ?_) ?_
    all_goals ((try simp (disch := assumption) only [go_sem, Nat.reduceAdd, Nat.reduceMul, Nat.reduceSub, Nat.reduceEqDiff, ↓reduceIte, Nat.reduceLT, reduceCtorEq, Nat.reduceLeDiff, Int.reduceToNat, Int.reduceEq, Int.reduceLE, Int.reduceLT, Nat.reduceBEq]); (repeat' first | done | rfl | omega | refine And.intro ?_ ?_ | (simp; done) | (simp; omega)))
theorem w_laws_szPacketS {a0 : (List PacketT)} {a1 : Int} {r : Int} (h : laws_szPacketS a0 a1 = some r) : Fn Try.prog 89 [(.lf true (.sl (a0.map ePacket))), (.lf false (.sc (.int .i64 a1)))] [] 0 (.lf false (.sc (.int .i64 r))) [] 0 := by
  unfold laws_szPacketS at h
  refine fn_code tab_ok mixed [(1000, [(0, 0), (1, 0)]), (1001, [(0, 0), (1, 0)]), (1002, [(0, 0), (1, 0), (11, 0)]), (1003, [(4, 0)]), (1004, [(0, 0), (1, 0), (5, 0)]), (1005, [(0, 0), (1, 0), (5, 0), (15, 0)]), (1006, [(0, 0), (1, 0), (5, 0)]), (1007, [(0, 0), (1, 0), (5, 0)]), (1008, [(0, 0), (1, 0), (5, 0), (25, 0)]), (1009, [(4, 0)]), (1010, [(4, 0)])] Try.func89 rfl rfl (by simp [Try.f89]) (by kernel_rfl) ?_
  simp only [Try.f89]
  simp (disch := assumption) only [go_sem, Nat.reduceAdd, Nat.reduceMul, Nat.reduceSub, Nat.reduceEqDiff, ↓reduceIte, Nat.reduceLT, reduceCtorEq, Nat.reduceLeDiff, Int.reduceToNat, Int.reduceEq, Int.reduceLE, Int.reduceLT, Nat.reduceBEq]
  refine Bs_splitC ((decide ((wI (a1 - ((a0.length : Nat) : Int))) < 0))) (by first | rfl | (simp only [beq_iff_eq]; done) | simp) (fun hc1 => ?_) (fun hc1 => ?_)
  · rw [if_pos hc1] at h
    try simp (disch := assumption) only [go_sem, Nat.reduceAdd, Nat.reduceMul, Nat.reduceSub, Nat.reduceEqDiff, ↓reduceIte, Nat.reduceLT, reduceCtorEq, Nat.reduceLeDiff, Int.reduceToNat, Int.reduceEq, Int.reduceLE, Int.reduceLT, Nat.reduceBEq]
    have he := Option.some.inj h
    subst he
    refine ends_weak ⟨[(4, (.lf false (.sc (.int .i64 (-1)))))], [], 0, 27⟩ (weak_of (m := 0) [] rfl rfl rfl (by simp [injR]) ?_ ?_) ?_
    all_goals ((try simp (disch := assumption) only [go_sem, Nat.reduceAdd, Nat.reduceMul, Nat.reduceSub, Nat.reduceEqDiff, ↓reduceIte, Nat.reduceLT, reduceCtorEq, Nat.reduceLeDiff, Int.reduceToNat, Int.reduceEq, Int.reduceLE, Int.reduceLT, Nat.reduceBEq]); (repeat' first | done | rfl | omega | refine And.intro ?_ ?_ | (simp; done) | (simp; omega)))
  · rw [if_neg (nt hc1)] at h
    try simp (disch := assumption) only [go_sem, Nat.reduceAdd, Nat.reduceMul, Nat.reduceSub, Nat.reduceEqDiff, ↓reduceIte, Nat.reduceLT, reduceCtorEq, Nat.reduceLeDiff, Int.reduceToNat, Int.reduceEq, Int.reduceLE, Int.reduceLT, Nat.reduceBEq]
    obtain ⟨y10, hl2, h⟩ := bind_ok h
    refine W_loopP (fun g7 : laws_szPacketS_G1 => ⟨[(0, (.lf true (.sl (a0.map ePacket)))), (1, (.lf false (.sc (.int .i64 g7.t1)))), (5, (.lf false (.sc (.int .i64 g7.t5))))], [], 0, 27⟩) (laws_szPacketS_L1 a0) _ _ hl2 (weak_of (m := 0) [] rfl rfl rfl (by simp [injR]) ?_ ?_) ?_
    rotate_left 2
    · intro n1 g7 z1 hs1 hk1
      unfold laws_szPacketS_L1 at hs1
      try dsimp only at hs1
      simp (disch := assumption) only [go_sem, Nat.reduceAdd, Nat.reduceMul, Nat.reduceSub, Nat.reduceEqDiff, ↓reduceIte, Nat.reduceLT, reduceCtorEq, Nat.reduceLeDiff, Int.reduceToNat, Int.reduceEq, Int.reduceLE, Int.reduceLT, Nat.reduceBEq]
      refine Bs_splitC ((decide (g7.t5 < ((a0.length : Nat) : Int)))) (by first | rfl | (simp only [beq_iff_eq]; done) | simp) (fun hc3 => ?_) (fun hc3 => ?_)
      · rw [if_pos hc3] at hs1
        try simp (disch := assumption) only [go_sem, Nat.reduceAdd, Nat.reduceMul, Nat.reduceSub, Nat.reduceEqDiff, ↓reduceIte, Nat.reduceLT, reduceCtorEq, Nat.reduceLeDiff, Int.reduceToNat, Int.reduceEq, Int.reduceLE, Int.reduceLT, Nat.reduceBEq]
        obtain ⟨hp4, hs1⟩ := guard_some hs1
        have hn4 : g7.t5.toNat < a0.length := by first | omega | (simp only [List.length_set, List.length_append, List.length_replicate, List.length_map]; omega)
        try simp (disch := assumption) only [go_sem, Nat.reduceAdd, Nat.reduceMul, Nat.reduceSub, Nat.reduceEqDiff, ↓reduceIte, Nat.reduceLT, reduceCtorEq, Nat.reduceLeDiff, Int.reduceToNat, Int.reduceEq, Int.reduceLE, Int.reduceLT, Nat.reduceBEq]
        first | refine And.intro (by first | omega | exact ⟨by omega, fun _ => mapLen fun _ => rfl⟩ | (refine ⟨by omega, ?_, by omega⟩; first | exact mapLen fun _ => rfl | simp) | (refine ⟨?_, by omega⟩; first | exact mapLen fun _ => rfl | simp)) ?_ | skip
        obtain ⟨c9, hr5, hs1⟩ := bind_ok hs1
        refine Cl_shown (w_laws_szPacket hr5) (by first | rfl | (simp (disch := assumption) only [go_sem, Nat.reduceAdd, Nat.reduceMul, Nat.reduceSub, Nat.reduceEqDiff, ↓reduceIte, Nat.reduceLT, reduceCtorEq, Nat.reduceLeDiff, Int.reduceToNat, Int.reduceEq, Int.reduceLE, Int.reduceLT, Nat.reduceBEq]; first | done | rfl)) (FitAll.refl _) (.inl (by first | rfl | (simp (disch := assumption) only [go_sem, Nat.reduceAdd, Nat.reduceMul, Nat.reduceSub, Nat.reduceEqDiff, ↓reduceIte, Nat.reduceLT, reduceCtorEq, Nat.reduceLeDiff, Int.reduceToNat, Int.reduceEq, Int.reduceLE, Int.reduceLT, Nat.reduceBEq]; done))) ?_
        try simp (disch := assumption) only [go_sem, Nat.reduceAdd, Nat.reduceMul, Nat.reduceSub, Nat.reduceEqDiff, ↓reduceIte, Nat.reduceLT, reduceCtorEq, Nat.reduceLeDiff, Int.reduceToNat, Int.reduceEq, Int.reduceLE, Int.reduceLT, Nat.reduceBEq]
        refine Bs_splitC ((decide (c9 < 0))) (by first | rfl | (simp only [beq_iff_eq]; done) | simp) (fun hc6 => ?_) (fun hc6 => ?_)
        · rw [if_pos hc6] at hs1
          try simp (disch := assumption) only [go_sem, Nat.reduceAdd, Nat.reduceMul, Nat.reduceSub, Nat.reduceEqDiff, ↓reduceIte, Nat.reduceLT, reduceCtorEq, Nat.reduceLeDiff, Int.reduceToNat, Int.reduceEq, Int.reduceLE, Int.reduceLT, Nat.reduceBEq]
          cases hs1
          cases hk1
          try dsimp only at h
          try simp (disch := assumption) only [go_sem, Nat.reduceAdd, Nat.reduceMul, Nat.reduceSub, Nat.reduceEqDiff, ↓reduceIte, Nat.reduceLT, reduceCtorEq, Nat.reduceLeDiff, Int.reduceToNat, Int.reduceEq, Int.reduceLE, Int.reduceLT, Nat.reduceBEq]
          have he := Option.some.inj h
          subst he
          refine ends_weak ⟨[(4, (.lf false (.sc (.int .i64 (-1)))))], [], 0, 27⟩ (weak_of (m := 0) [] rfl rfl rfl (by simp [injR]) ?_ ?_) ?_
          all_goals ((try simp (disch := assumption) only [go_sem, Nat.reduceAdd, Nat.reduceMul, Nat.reduceSub, Nat.reduceEqDiff, ↓reduceIte, Nat.reduceLT, reduceCtorEq, Nat.reduceLeDiff, Int.reduceToNat, Int.reduceEq, Int.reduceLE, Int.reduceLT, Nat.reduceBEq]); (repeat' first | done | rfl | omega | refine And.intro ?_ ?_ | (simp; done) | (simp; omega)))
        · rw [if_neg (nt hc6)] at hs1
          try simp (disch := assumption) only [go_sem, Nat.reduceAdd, Nat.reduceMul, Nat.reduceSub, Nat.reduceEqDiff, ↓reduceIte, Nat.reduceLT, reduceCtorEq, Nat.reduceLeDiff, Int.reduceToNat, Int.reduceEq, Int.reduceLE, Int.reduceLT, Nat.reduceBEq]
          cases hs1
          refine X_backP hk1 ?_
          refine weak_of (m := 0) [] rfl rfl rfl (by simp [injR]) ?_ ?_
          all_goals ((try simp (disch := assumption) only [go_sem, Nat.reduceAdd, Nat.reduceMul, Nat.reduceSub, Nat.reduceEqDiff, ↓reduceIte, Nat.reduceLT, reduceCtorEq, Nat.reduceLeDiff, Int.reduceToNat, Int.reduceEq, Int.reduceLE, Int.reduceLT, Nat.reduceBEq]); (repeat' first | done | rfl | omega | refine And.intro ?_ ?_ | (simp; done) | (simp; omega)))
      · rw [if_neg (nt hc3)] at hs1
        try simp (disch := assumption) only [go_sem, Nat.reduceAdd, Nat.reduceMul, Nat.reduceSub, Nat.reduceEqDiff, ↓reduceIte, Nat.reduceLT, reduceCtorEq, Nat.reduceLeDiff, Int.reduceToNat, Int.reduceEq, Int.reduceLE, Int.reduceLT, Nat.reduceBEq]
        cases hs1
        cases hk1
        try dsimp only at h
        try simp (disch := assumption) only [go_sem, Nat.reduceAdd, Nat.reduceMul, Nat.reduceSub, Nat.reduceEqDiff, ↓reduceIte, Nat.reduceLT, reduceCtorEq, Nat.reduceLeDiff, Int.reduceToNat, Int.reduceEq, Int.reduceLE, Int.reduceLT, Nat.reduceBEq]
        have he := Option.some.inj h
        subst he
        refine ends_weak ⟨[(4, (.lf false (.sc (.int .i64 g7.t1))))], [], 0, 27⟩ (weak_of (m := 0) [] rfl rfl rfl (by simp [injR]) ?_ ?_) ?_
        all_goals ((try simp (disch := assumption) only [go_sem, Nat.reduceAdd, Nat.reduceMul, Nat.reduceSub, Nat.reduceEqDiff, ↓reduceIte, Nat.reduceLT, reduceCtorEq, Nat.reduceLeDiff, Int.reduceToNat, Int.reduceEq, Int.reduceLE, Int.reduceLT, Nat.reduceBEq]); (repeat' first | done | rfl | omega | refine And.intro ?_ ?_ | (simp; done) | (simp; omega)))
    all_goals ((try simp (disch := assumption) only [go_sem, Nat.reduceAdd, Nat.reduceMul, Nat.reduceSub, Nat.reduceEqDiff, ↓reduceIte, Nat.reduceLT, reduceCtorEq, Nat.reduceLeDiff, Int.reduceToNat, Int.reduceEq, Int.reduceLE, Int.reduceLT, Nat.reduceBEq]); (repeat' first | done | rfl | omega | refine And.intro ?_ ?_ | (simp; done) | (simp; omega)))
theorem w_laws_szQueue {a0 : QueueT} {a1 : Int} {r : Int} (h : laws_szQueue a0 a1 = some r) : Fn Try.prog 47 [(.ag [(.lf false (.sc (.int .i64 a0.Window))), (.lf true (.sl (a0.Sent.map eS))), (.lf false (.sc (.int .i64 a0.Base))), (.lf true (.sl (a0.Got.map eS))), (.lf true (.sl (a0.Line.map ePacket)))]), (.lf false (.sc (.int .i64 a1)))] [] 0 (.lf false (.sc (.int .i64 r))) [] 0 := by
  unfold laws_szQueue at h
  refine fn_code tab_ok mixed [(1000, [(1, 0), (2, 0)]), (1001, [(1, 0), (2, 0)]), (1002, [(1, 0), (2, 0), (10, 0)]), (1003, [(4, 0)]), (1004, [(1, 0), (2, 0)]), (1005, [(1, 0), (2, 0), (16, 0)]), (1006, [(4, 0)]), (1007, [(1, 0)]), (1008, [(1, 0), (22, 0)]), (1009, [(4, 0)]), (1010, [(4, 0)])] Try.func47 rfl rfl (by simp [Try.f47]) (by kernel_rfl) ?_
  simp only [Try.f47]
  simp (disch := assumption) only [go_sem, Nat.reduceAdd, Nat.reduceMul, Nat.reduceSub, Nat.reduceEqDiff, ↓reduceIte, Nat.reduceLT, reduceCtorEq, Nat.reduceLeDiff, Int.reduceToNat, Int.reduceEq, Int.reduceLE, Int.reduceLT, Nat.reduceBEq]
  obtain ⟨c5, hr1, h⟩ := bind_ok h
  refine Cl_shown (w_laws_szStringS hr1) (by first | rfl | (simp (disch := assumption) only [go_sem, Nat.reduceAdd, Nat.reduceMul, Nat.reduceSub, Nat.reduceEqDiff, ↓reduceIte, Nat.reduceLT, reduceCtorEq, Nat.reduceLeDiff, Int.reduceToNat, Int.reduceEq, Int.reduceLE, Int.reduceLT, Nat.reduceBEq]; first | done | rfl)) (FitAll.refl _) (.inl (by first | rfl | (simp (disch := assumption) only [go_sem, Nat.reduceAdd, Nat.reduceMul, Nat.reduceSub, Nat.reduceEqDiff, ↓reduceIte, Nat.reduceLT, reduceCtorEq, Nat.reduceLeDiff, Int.reduceToNat, Int.reduceEq, Int.reduceLE, Int.reduceLT, Nat.reduceBEq]; done))) ?_
  try simp (disch := assumption) only [go_sem, Nat.reduceAdd, Nat.reduceMul, Nat.reduceSub, Nat.reduceEqDiff, ↓reduceIte, Nat.reduceLT, reduceCtorEq, Nat.reduceLeDiff, Int.reduceToNat, Int.reduceEq, Int.reduceLE, Int.reduceLT, Nat.reduceBEq]
  refine Bs_splitC ((decide (c5 < 0))) (by first | rfl | (simp only [beq_iff_eq]; done) | simp) (fun hc2 => ?_) (fun hc2 => ?_)
  · rw [if_pos hc2] at h
    try simp (disch := assumption) only [go_sem, Nat.reduceAdd, Nat.reduceMul, Nat.reduceSub, Nat.reduceEqDiff, ↓reduceIte, Nat.reduceLT, reduceCtorEq, Nat.reduceLeDiff, Int.reduceToNat, Int.reduceEq, Int.reduceLE, Int.reduceLT, Nat.reduceBEq]
    have he := Option.some.inj h
    subst he
    refine ends_weak ⟨[(4, (.lf false (.sc (.int .i64 (-1)))))], [], 0, 24⟩ (weak_of (m := 0) [] rfl rfl rfl (by simp [injR]) ?_ ?_) ?_
    all_goals ((try simp (disch := assumption) only [go_sem, Nat.reduceAdd, Nat.reduceMul, Nat.reduceSub, Nat.reduceEqDiff, ↓reduceIte, Nat.reduceLT, reduceCtorEq, Nat.reduceLeDiff, Int.reduceToNat, Int.reduceEq, Int.reduceLE, Int.reduceLT, Nat.reduceBEq]); (repeat' first | done | rfl | omega | refine And.intro ?_ ?_ | (simp; done) | (simp; omega)))
  · rw [if_neg (nt hc2)] at h
    try simp (disch := assumption) only [go_sem, Nat.reduceAdd, Nat.reduceMul, Nat.reduceSub, Nat.reduceEqDiff, ↓reduceIte, Nat.reduceLT, reduceCtorEq, Nat.reduceLeDiff, Int.reduceToNat, Int.reduceEq, Int.reduceLE, Int.reduceLT, Nat.reduceBEq]
    obtain ⟨c6, hr3, h⟩ := bind_ok h
    refine Cl_shown (w_laws_szStringS hr3) (by first | rfl | (simp (disch := assumption) only [go_sem, Nat.reduceAdd, Nat.reduceMul, Nat.reduceSub, Nat.reduceEqDiff, ↓reduceIte, Nat.reduceLT, reduceCtorEq, Nat.reduceLeDiff, Int.reduceToNat, Int.reduceEq, Int.reduceLE, Int.reduceLT, Nat.reduceBEq]; first | done | rfl)) (FitAll.refl _) (.inl (by first | rfl | (simp (disch := assumption) only [go_sem, Nat.reduceAdd, Nat.reduceMul, Nat.reduceSub, Nat.reduceEqDiff, ↓reduceIte, Nat.reduceLT, reduceCtorEq, Nat.reduceLeDiff, Int.reduceToNat, Int.reduceEq, Int.reduceLE, Int.reduceLT, Nat.reduceBEq]; done))) ?_
    try simp (disch := assumption) only [go_sem, Nat.reduceAdd, Nat.reduceMul, Nat.reduceSub, Nat.reduceEqDiff, ↓reduceIte, Nat.reduceLT, reduceCtorEq, Nat.reduceLeDiff, Int.reduceToNat, Int.reduceEq, Int.reduceLE, Int.reduceLT, Nat.reduceBEq]
    refine Bs_splitC ((decide (c6 < 0))) (by first | rfl | (simp only [beq_iff_eq]; done) | simp) (fun hc4 => ?_) (fun hc4 => ?_)
    · rw [if_pos hc4] at h
      try simp (disch := assumption) only [go_sem, Nat.reduceAdd, Nat.reduceMul, Nat.reduceSub, Nat.reduceEqDiff, ↓reduceIte, Nat.reduceLT, reduceCtorEq, Nat.reduceLeDiff, Int.reduceToNat, Int.reduceEq, Int.reduceLE, Int.reduceLT, Nat.reduceBEq]
      have he := Option.some.inj h
      subst he
      refine ends_weak ⟨[(4, (.lf false (.sc (.int .i64 (-1)))))], [], 0, 24⟩ (weak_of (m := 0) [] rfl rfl rfl (by simp [injR]) ?_ ?_) ?_
      all_goals ((try simp (disch := assumption) only [go_sem, Nat.reduceAdd, Nat.reduceMul, Nat.reduceSub, Nat.reduceEqDiff, ↓reduceIte, Nat.reduceLT, reduceCtorEq, Nat.reduceLeDiff, Int.reduceToNat, Int.reduceEq, Int.reduceLE, Int.reduceLT, Nat.reduceBEq]); (repeat' first | done | rfl | omega | refine And.intro ?_ ?_ | (simp; done) | (simp; omega)))
    · rw [if_neg (nt hc4)] at h
      try simp (disch := assumption) only [go_sem, Nat.reduceAdd, Nat.reduceMul, Nat.reduceSub, Nat.reduceEqDiff, ↓reduceIte, Nat.reduceLT, reduceCtorEq, Nat.reduceLeDiff, Int.reduceToNat, Int.reduceEq, Int.reduceLE, Int.reduceLT, Nat.reduceBEq]
      obtain ⟨c13, hr5, h⟩ := bind_ok h
      refine Cl_shown (w_laws_szPacketS hr5) (by first | rfl | (simp (disch := assumption) only [go_sem, Nat.reduceAdd, Nat.reduceMul, Nat.reduceSub, Nat.reduceEqDiff, ↓reduceIte, Nat.reduceLT, reduceCtorEq, Nat.reduceLeDiff, Int.reduceToNat, Int.reduceEq, Int.reduceLE, Int.reduceLT, Nat.reduceBEq]; first | done | rfl)) (FitAll.refl _) (.inl (by first | rfl | (simp (disch := assumption) only [go_sem, Nat.reduceAdd, Nat.reduceMul, Nat.reduceSub, Nat.reduceEqDiff, ↓reduceIte, Nat.reduceLT, reduceCtorEq, Nat.reduceLeDiff, Int.reduceToNat, Int.reduceEq, Int.reduceLE, Int.reduceLT, Nat.reduceBEq]; done))) ?_
      try simp (disch := assumption) only [go_sem, Nat.reduceAdd, Nat.reduceMul, Nat.reduceSub, Nat.reduceEqDiff, ↓reduceIte, Nat.reduceLT, reduceCtorEq, Nat.reduceLeDiff, Int.reduceToNat, Int.reduceEq, Int.reduceLE, Int.reduceLT, Nat.reduceBEq]
      refine Bs_splitC ((decide (c13 < 0))) (by first | rfl | (simp only [beq_iff_eq]; done) | simp) (fun hc6 => ?_) (fun hc6 => ?_)
      · rw [if_pos hc6] at h
        try simp (disch := assumption) only [go_sem, Nat.reduceAdd, Nat.reduceMul, Nat.reduceSub, Nat.reduceEqDiff, ↓reduceIte, Nat.reduceLT, reduceCtorEq, Nat.reduceLeDiff, Int.reduceToNat, Int.reduceEq, Int.reduceLE, Int.reduceLT, Nat.reduceBEq]
        have he := Option.some.inj h
        subst he
        refine ends_weak ⟨[(4, (.lf false (.sc (.int .i64 (-1)))))], [], 0, 24⟩ (weak_of (m := 0) [] rfl rfl rfl (by simp [injR]) ?_ ?_) ?_
        all_goals ((try simp (disch := assumption) only [go_sem, Nat.reduceAdd, Nat.reduceMul, Nat.reduceSub, Nat.reduceEqDiff, ↓reduceIte, Nat.reduceLT, reduceCtorEq, Nat.reduceLeDiff, Int.reduceToNat, Int.reduceEq, Int.reduceLE, Int.reduceLT, Nat.reduceBEq]); (repeat' first | done | rfl | omega | refine And.intro ?_ ?_ | (simp; done) | (simp; omega)))
      · rw [if_neg (nt hc6)] at h
        try simp (disch := assumption) only [go_sem, Nat.reduceAdd, Nat.reduceMul, Nat.reduceSub, Nat.reduceEqDiff, ↓reduceIte, Nat.reduceLT, reduceCtorEq, Nat.reduceLeDiff, Int.reduceToNat, Int.reduceEq, Int.reduceLE, Int.reduceLT, Nat.reduceBEq]
        have he := Option.some.inj h
        subst he
        refine ends_weak ⟨[(4, (.lf false (.sc (.int .i64 c13))))], [], 0, 24⟩ (weak_of (m := 0) [] rfl rfl rfl (by simp [injR]) ?_ ?_) ?_
        all_goals ((try simp (disch := assumption) only [go_sem, Nat.reduceAdd, Nat.reduceMul, Nat.reduceSub, Nat.reduceEqDiff, ↓reduceIte, Nat.reduceLT, reduceCtorEq, Nat.reduceLeDiff, Int.reduceToNat, Int.reduceEq, Int.reduceLE, Int.reduceLT, Nat.reduceBEq]); (repeat' first | done | rfl | omega | refine And.intro ?_ ?_ | (simp; done) | (simp; omega)))
theorem w_laws_toStringS {a0 : (List ByteArray)} {r : (List ByteArray)} (h : laws_toStringS a0 = some r) : Fn Try.prog 90 [(.lf true (.sl (a0.map eS)))] [] 0 (.os 0 1 0 r.length r.length false) [(0, some (true, .arr false 1 (r.map eS)))] 1 := by
  unfold laws_toStringS at h
  refine fn_code tab_ok mixed [(1000, [(0, 0)]), (1001, [(0, 0), (3, 0)]), (1002, [(0, 0), (3, 0), (4, 0)]), (1003, [(0, 0), (3, 0), (4, 0), (11, 0)]), (1004, [(0, 0), (3, 0), (4, 0)]), (1005, [(0, 0), (3, 0), (4, 0)]), (1006, [(2, 0)])] Try.func90 rfl rfl (by simp [Try.f90]) (by kernel_rfl) ?_
  simp only [Try.f90]
  simp (disch := assumption) only [go_sem, Nat.reduceAdd, Nat.reduceMul, Nat.reduceSub, Nat.reduceEqDiff, ↓reduceIte, Nat.reduceLT, reduceCtorEq, Nat.reduceLeDiff, Int.reduceToNat, Int.reduceEq, Int.reduceLE, Int.reduceLT, Nat.reduceBEq, fold_eS_rep]
  obtain ⟨hp1, h⟩ := guard_some h
  try simp (disch := assumption) only [go_sem, Nat.reduceAdd, Nat.reduceMul, Nat.reduceSub, Nat.reduceEqDiff, ↓reduceIte, Nat.reduceLT, reduceCtorEq, Nat.reduceLeDiff, Int.reduceToNat, Int.reduceEq, Int.reduceLE, Int.reduceLT, Nat.reduceBEq, fold_eS_rep]
  first | refine And.intro (by first | omega | exact ⟨by omega, fun _ => mapLen fun _ => rfl⟩ | (refine ⟨by omega, ?_, by omega⟩; first | exact mapLen fun _ => rfl | simp) | (refine ⟨?_, by omega⟩; first | exact mapLen fun _ => rfl | simp)) ?_ | skip
  obtain ⟨y16, hl2, h⟩ := bind_ok h
  refine W_loopP (fun g15 : laws_toStringS_G1 => ⟨[(0, (.lf true (.sl (a0.map eS)))), (3, (.os 0 1 0 g15.c0.length g15.c0.length false)), (4, (.lf false (.sc (.int .i64 g15.t4))))], [(0, some (true, .arr false 1 (g15.c0.map eS)))], 1, 22⟩) (laws_toStringS_L1 a0) _ _ hl2 (weak_of (m := 0) [some 0] rfl rfl rfl (by simp [injR]) ?_ ?_) ?_
  rotate_left 2
  · intro n1 g15 z1 hs1 hk1
    unfold laws_toStringS_L1 at hs1
    try dsimp only at hs1
    simp (disch := assumption) only [go_sem, Nat.reduceAdd, Nat.reduceMul, Nat.reduceSub, Nat.reduceEqDiff, ↓reduceIte, Nat.reduceLT, reduceCtorEq, Nat.reduceLeDiff, Int.reduceToNat, Int.reduceEq, Int.reduceLE, Int.reduceLT, Nat.reduceBEq, fold_eS_rep]
    refine Bs_splitC ((decide (g15.t4 < ((a0.length : Nat) : Int)))) (by first | rfl | (simp only [beq_iff_eq]; done) | simp) (fun hc3 => ?_) (fun hc3 => ?_)
    · rw [if_pos hc3] at hs1
      try simp (disch := assumption) only [go_sem, Nat.reduceAdd, Nat.reduceMul, Nat.reduceSub, Nat.reduceEqDiff, ↓reduceIte, Nat.reduceLT, reduceCtorEq, Nat.reduceLeDiff, Int.reduceToNat, Int.reduceEq, Int.reduceLE, Int.reduceLT, Nat.reduceBEq, fold_eS_rep]
      obtain ⟨hp4, hs1⟩ := guard_some hs1
      have hn4 : g15.t4.toNat < a0.length := by first | omega | (simp only [List.length_set, List.length_append, List.length_replicate, List.length_map]; omega)
      try simp (disch := assumption) only [go_sem, Nat.reduceAdd, Nat.reduceMul, Nat.reduceSub, Nat.reduceEqDiff, ↓reduceIte, Nat.reduceLT, reduceCtorEq, Nat.reduceLeDiff, Int.reduceToNat, Int.reduceEq, Int.reduceLE, Int.reduceLT, Nat.reduceBEq, fold_eS_rep]
      first | refine And.intro (by first | omega | exact ⟨by omega, fun _ => mapLen fun _ => rfl⟩ | (refine ⟨by omega, ?_, by omega⟩; first | exact mapLen fun _ => rfl | simp) | (refine ⟨?_, by omega⟩; first | exact mapLen fun _ => rfl | simp)) ?_ | skip
      obtain ⟨hp5, hs1⟩ := guard_some hs1
      have hn5 : g15.t4.toNat < g15.c0.length := by first | omega | (simp only [List.length_set, List.length_append, List.length_replicate, List.length_map]; omega)
      try simp (disch := assumption) only [go_sem, Nat.reduceAdd, Nat.reduceMul, Nat.reduceSub, Nat.reduceEqDiff, ↓reduceIte, Nat.reduceLT, reduceCtorEq, Nat.reduceLeDiff, Int.reduceToNat, Int.reduceEq, Int.reduceLE, Int.reduceLT, Nat.reduceBEq, fold_eS_rep]
      first | refine And.intro (by first | omega | exact ⟨by omega, fun _ => mapLen fun _ => rfl⟩ | (refine ⟨by omega, ?_, by omega⟩; first | exact mapLen fun _ => rfl | simp) | (refine ⟨?_, by omega⟩; first | exact mapLen fun _ => rfl | simp)) ?_ | skip
      first | refine And.intro (by first | omega | (simp only [List.length_set, List.length_append, List.length_replicate, List.length_map]; omega)) ?_ | skip
      try simp (disch := assumption) only [go_sem, Nat.reduceAdd, Nat.reduceMul, Nat.reduceSub, Nat.reduceEqDiff, ↓reduceIte, Nat.reduceLT, reduceCtorEq, Nat.reduceLeDiff, Int.reduceToNat, Int.reduceEq, Int.reduceLE, Int.reduceLT, Nat.reduceBEq, fold_eS_rep]
      cases hs1
      refine X_backP hk1 ?_
      refine weak_of (m := 0) [some 0] rfl rfl rfl (by simp [injR]) ?_ ?_
      all_goals ((try simp (disch := assumption) only [go_sem, Nat.reduceAdd, Nat.reduceMul, Nat.reduceSub, Nat.reduceEqDiff, ↓reduceIte, Nat.reduceLT, reduceCtorEq, Nat.reduceLeDiff, Int.reduceToNat, Int.reduceEq, Int.reduceLE, Int.reduceLT, Nat.reduceBEq, fold_eS_rep]); (repeat' first | done | rfl | omega | refine And.intro ?_ ?_ | (simp; done) | (simp; omega)))
    · rw [if_neg (nt hc3)] at hs1
      try simp (disch := assumption) only [go_sem, Nat.reduceAdd, Nat.reduceMul, Nat.reduceSub, Nat.reduceEqDiff, ↓reduceIte, Nat.reduceLT, reduceCtorEq, Nat.reduceLeDiff, Int.reduceToNat, Int.reduceEq, Int.reduceLE, Int.reduceLT, Nat.reduceBEq, fold_eS_rep]
      cases hs1
      cases hk1
      try dsimp only at h
      try simp (disch := assumption) only [go_sem, Nat.reduceAdd, Nat.reduceMul, Nat.reduceSub, Nat.reduceEqDiff, ↓reduceIte, Nat.reduceLT, reduceCtorEq, Nat.reduceLeDiff, Int.reduceToNat, Int.reduceEq, Int.reduceLE, Int.reduceLT, Nat.reduceBEq, fold_eS_rep]
      have he := Option.some.inj h
      subst he
      refine ends_weak ⟨[(2, (.os 0 1 0 g15.c0.length g15.c0.length false))], [(0, some (true, .arr false 1 (g15.c0.map eS)))], 1, 22⟩ (weak_of (m := 0) [some 0] rfl rfl rfl (by simp [injR]) ?_ ?_) ?_
      all_goals ((try simp (disch := assumption) only [go_sem, Nat.reduceAdd, Nat.reduceMul, Nat.reduceSub, Nat.reduceEqDiff, ↓reduceIte, Nat.reduceLT, reduceCtorEq, Nat.reduceLeDiff, Int.reduceToNat, Int.reduceEq, Int.reduceLE, Int.reduceLT, Nat.reduceBEq, fold_eS_rep]); (repeat' first | done | rfl | omega | refine And.intro ?_ ?_ | (simp; done) | (simp; omega)))
  all_goals ((try simp (disch := assumption) only [go_sem, Nat.reduceAdd, Nat.reduceMul, Nat.reduceSub, Nat.reduceEqDiff, ↓reduceIte, Nat.reduceLT, reduceCtorEq, Nat.reduceLeDiff, Int.reduceToNat, Int.reduceEq, Int.reduceLE, Int.reduceLT, Nat.reduceBEq, fold_eS_rep]); (repeat' first | done | rfl | omega | refine And.intro ?_ ?_ | (simp; done) | (simp; omega)))
theorem w_laws_toPacket {a0 : PacketT} {r : PacketT} (h : laws_toPacket a0 = some r) : Fn Try.prog 115 [(.ag [(.lf false (.sc (.bool a0.Ack))), (.lf false (.sc (.int .i64 a0.No))), (.lf false (.sc (.string a0.Text)))])] [] 0 (.ag [(.lf false (.sc (.bool r.Ack))), (.lf false (.sc (.int .i64 r.No))), (.lf false (.sc (.string r.Text)))]) [] 1 := by
  unfold laws_toPacket at h
  refine fn_code tab_ok mixed [(1000, [(1, 0), (2, 0)]), (1001, [(1, 0), (2, 0), (3, 0)]), (1002, [(1, 0), (2, 0), (3, 0)]), (1003, [(1, 0), (2, 0), (3, 0)]), (1004, [(2, 0), (3, 0)]), (1005, [(2, 0)])] Try.func115 rfl rfl (by simp [Try.f115]) (by kernel_rfl) ?_
  simp only [Try.f115]
  simp (disch := assumption) only [go_sem, Nat.reduceAdd, Nat.reduceMul, Nat.reduceSub, Nat.reduceEqDiff, ↓reduceIte, Nat.reduceLT, reduceCtorEq, Nat.reduceLeDiff, Int.reduceToNat, Int.reduceEq, Int.reduceLE, Int.reduceLT, Nat.reduceBEq]
  have he := Option.some.inj h
  subst he
  refine ends_weak ⟨[(2, (.pb 0 0))], [(0, some (true, .box [(.lf false (.sc (.bool a0.Ack))), (.lf false (.sc (.int .i64 a0.No))), (.lf false (.sc (.string a0.Text)))]))], 1, 14⟩ (weak_of (m := 0) [some 1] rfl rfl rfl (by simp [injR]) ?_ ?_) ?_
  all_goals ((try simp (disch := assumption) only [go_sem, Nat.reduceAdd, Nat.reduceMul, Nat.reduceSub, Nat.reduceEqDiff, ↓reduceIte, Nat.reduceLT, reduceCtorEq, Nat.reduceLeDiff, Int.reduceToNat, Int.reduceEq, Int.reduceLE, Int.reduceLT, Nat.reduceBEq]); (repeat' first | done | rfl | omega | refine And.intro ?_ ?_ | (simp; done) | (simp; omega)))
theorem w_laws_toPacketS {a0 : (List PacketT)} {r : (List PacketT)} (h : laws_toPacketS a0 = some r) : Fn Try.prog 91 [(.lf true (.sl (a0.map ePacket)))] [] 0 (.os 0 3 0 r.length r.length false) [(0, some (true, .arr false 3 (r.map ePacket)))] 1 := by
  unfold laws_toPacketS at h
  refine fn_code tab_ok mixed [(1000, [(0, 0)]), (1001, [(0, 0), (3, 0)]), (1002, [(0, 0), (3, 0), (4, 0)]), (1003, [(0, 0), (3, 0), (4, 0), (11, 0)]), (1004, [(0, 0), (3, 0), (4, 0)]), (1005, [(0, 0), (3, 0), (4, 0)]), (1006, [(2, 0)])] Try.func91 rfl rfl (by simp [Try.f91]) (by kernel_rfl) ?_
  simp only [Try.f91]
  simp (disch := assumption) only [go_sem, Nat.reduceAdd, Nat.reduceMul, Nat.reduceSub, Nat.reduceEqDiff, ↓reduceIte, Nat.reduceLT, reduceCtorEq, Nat.reduceLeDiff, Int.reduceToNat, Int.reduceEq, Int.reduceLE, Int.reduceLT, Nat.reduceBEq, fold_ePacket_rep]
  obtain ⟨hp1, h⟩ := guard_some h
  try simp (disch := assumption) only [go_sem, Nat.reduceAdd, Nat.reduceMul, Nat.reduceSub, Nat.reduceEqDiff, ↓reduceIte, Nat.reduceLT, reduceCtorEq, Nat.reduceLeDiff, Int.reduceToNat, Int.reduceEq, Int.reduceLE, Int.reduceLT, Nat.reduceBEq, fold_ePacket_rep]
  first | refine And.intro (by first | omega | exact ⟨by omega, fun _ => mapLen fun _ => rfl⟩ | (refine ⟨by omega, ?_, by omega⟩; first | exact mapLen fun _ => rfl | simp) | (refine ⟨?_, by omega⟩; first | exact mapLen fun _ => rfl | simp)) ?_ | skip
  obtain ⟨y22, hl2, h⟩ := bind_ok h
  refine W_loopP (fun g19 : laws_toPacketS_G1 => ⟨[(0, (.lf true (.sl (a0.map ePacket)))), (3, (.os 0 3 0 g19.c0.length g19.c0.length false)), (4, (.lf false (.sc (.int .i64 g19.t4))))], [(0, some (true, .arr false 3 (g19.c0.map ePacket)))], 1, 23⟩) (laws_toPacketS_L1 a0) _ _ hl2 (weak_of (m := 0) [some 0] rfl rfl rfl (by simp [injR]) ?_ ?_) ?_
  rotate_left 2
  · intro n1 g19 z1 hs1 hk1
    unfold laws_toPacketS_L1 at hs1
    try dsimp only at hs1
    simp (disch := assumption) only [go_sem, Nat.reduceAdd, Nat.reduceMul, Nat.reduceSub, Nat.reduceEqDiff, ↓reduceIte, Nat.reduceLT, reduceCtorEq, Nat.reduceLeDiff, Int.reduceToNat, Int.reduceEq, Int.reduceLE, Int.reduceLT, Nat.reduceBEq, fold_ePacket_rep]
    refine Bs_splitC ((decide (g19.t4 < ((a0.length : Nat) : Int)))) (by first | rfl | (simp only [beq_iff_eq]; done) | simp) (fun hc3 => ?_) (fun hc3 => ?_)
    · rw [if_pos hc3] at hs1
      try simp (disch := assumption) only [go_sem, Nat.reduceAdd, Nat.reduceMul, Nat.reduceSub, Nat.reduceEqDiff, ↓reduceIte, Nat.reduceLT, reduceCtorEq, Nat.reduceLeDiff, Int.reduceToNat, Int.reduceEq, Int.reduceLE, Int.reduceLT, Nat.reduceBEq, fold_ePacket_rep]
      obtain ⟨hp4, hs1⟩ := guard_some hs1
      have hn4 : g19.t4.toNat < a0.length := by first | omega | (simp only [List.length_set, List.length_append, List.length_replicate, List.length_map]; omega)
      try simp (disch := assumption) only [go_sem, Nat.reduceAdd, Nat.reduceMul, Nat.reduceSub, Nat.reduceEqDiff, ↓reduceIte, Nat.reduceLT, reduceCtorEq, Nat.reduceLeDiff, Int.reduceToNat, Int.reduceEq, Int.reduceLE, Int.reduceLT, Nat.reduceBEq, fold_ePacket_rep]
      first | refine And.intro (by first | omega | exact ⟨by omega, fun _ => mapLen fun _ => rfl⟩ | (refine ⟨by omega, ?_, by omega⟩; first | exact mapLen fun _ => rfl | simp) | (refine ⟨?_, by omega⟩; first | exact mapLen fun _ => rfl | simp)) ?_ | skip
      obtain ⟨c21, hr5, hs1⟩ := bind_ok hs1
      refine Cl_shown (w_laws_toPacket hr5) (by first | rfl | (simp (disch := assumption) only [go_sem, Nat.reduceAdd, Nat.reduceMul, Nat.reduceSub, Nat.reduceEqDiff, ↓reduceIte, Nat.reduceLT, reduceCtorEq, Nat.reduceLeDiff, Int.reduceToNat, Int.reduceEq, Int.reduceLE, Int.reduceLT, Nat.reduceBEq, fold_ePacket_rep]; first | done | rfl)) (FitAll.refl _) (.inl (by first | rfl | (simp (disch := assumption) only [go_sem, Nat.reduceAdd, Nat.reduceMul, Nat.reduceSub, Nat.reduceEqDiff, ↓reduceIte, Nat.reduceLT, reduceCtorEq, Nat.reduceLeDiff, Int.reduceToNat, Int.reduceEq, Int.reduceLE, Int.reduceLT, Nat.reduceBEq, fold_ePacket_rep]; done))) ?_
      try simp (disch := assumption) only [go_sem, Nat.reduceAdd, Nat.reduceMul, Nat.reduceSub, Nat.reduceEqDiff, ↓reduceIte, Nat.reduceLT, reduceCtorEq, Nat.reduceLeDiff, Int.reduceToNat, Int.reduceEq, Int.reduceLE, Int.reduceLT, Nat.reduceBEq, fold_ePacket_rep]
      obtain ⟨hp6, hs1⟩ := guard_some hs1
      have hn6 : g19.t4.toNat < g19.c0.length := by first | omega | (simp only [List.length_set, List.length_append, List.length_replicate, List.length_map]; omega)
      try simp (disch := assumption) only [go_sem, Nat.reduceAdd, Nat.reduceMul, Nat.reduceSub, Nat.reduceEqDiff, ↓reduceIte, Nat.reduceLT, reduceCtorEq, Nat.reduceLeDiff, Int.reduceToNat, Int.reduceEq, Int.reduceLE, Int.reduceLT, Nat.reduceBEq, fold_ePacket_rep]
      first | refine And.intro (by first | omega | exact ⟨by omega, fun _ => mapLen fun _ => rfl⟩ | (refine ⟨by omega, ?_, by omega⟩; first | exact mapLen fun _ => rfl | simp) | (refine ⟨?_, by omega⟩; first | exact mapLen fun _ => rfl | simp)) ?_ | skip
      first | refine And.intro (by first | omega | (simp only [List.length_set, List.length_append, List.length_replicate, List.length_map]; omega)) ?_ | skip
      try simp (disch := assumption) only [go_sem, Nat.reduceAdd, Nat.reduceMul, Nat.reduceSub, Nat.reduceEqDiff, ↓reduceIte, Nat.reduceLT, reduceCtorEq, Nat.reduceLeDiff, Int.reduceToNat, Int.reduceEq, Int.reduceLE, Int.reduceLT, Nat.reduceBEq, fold_ePacket_rep]
      cases hs1
      refine X_backP hk1 ?_
      refine weak_of (m := 0) [some 0] rfl rfl rfl (by simp [injR]) ?_ ?_
      all_goals ((try simp (disch := assumption) only [go_sem, Nat.reduceAdd, Nat.reduceMul, Nat.reduceSub, Nat.reduceEqDiff, ↓reduceIte, Nat.reduceLT, reduceCtorEq, Nat.reduceLeDiff, Int.reduceToNat, Int.reduceEq, Int.reduceLE, Int.reduceLT, Nat.reduceBEq, fold_ePacket_rep]); (repeat' first | done | rfl | omega | refine And.intro ?_ ?_ | (simp; done) | (simp; omega)))
    · rw [if_neg (nt hc3)] at hs1
      try simp (disch := assumption) only [go_sem, Nat.reduceAdd, Nat.reduceMul, Nat.reduceSub, Nat.reduceEqDiff, ↓reduceIte, Nat.reduceLT, reduceCtorEq, Nat.reduceLeDiff, Int.reduceToNat, Int.reduceEq, Int.reduceLE, Int.reduceLT, Nat.reduceBEq, fold_ePacket_rep]
      cases hs1
      cases hk1
      try dsimp only at h
      try simp (disch := assumption) only [go_sem, Nat.reduceAdd, Nat.reduceMul, Nat.reduceSub, Nat.reduceEqDiff, ↓reduceIte, Nat.reduceLT, reduceCtorEq, Nat.reduceLeDiff, Int.reduceToNat, Int.reduceEq, Int.reduceLE, Int.reduceLT, Nat.reduceBEq, fold_ePacket_rep]
      have he := Option.some.inj h
      subst he
      refine ends_weak ⟨[(2, (.os 0 3 0 g19.c0.length g19.c0.length false))], [(0, some (true, .arr false 3 (g19.c0.map ePacket)))], 1, 23⟩ (weak_of (m := 0) [some 0] rfl rfl rfl (by simp [injR]) ?_ ?_) ?_
      all_goals ((try simp (disch := assumption) only [go_sem, Nat.reduceAdd, Nat.reduceMul, Nat.reduceSub, Nat.reduceEqDiff, ↓reduceIte, Nat.reduceLT, reduceCtorEq, Nat.reduceLeDiff, Int.reduceToNat, Int.reduceEq, Int.reduceLE, Int.reduceLT, Nat.reduceBEq, fold_ePacket_rep]); (repeat' first | done | rfl | omega | refine And.intro ?_ ?_ | (simp; done) | (simp; omega)))
  all_goals ((try simp (disch := assumption) only [go_sem, Nat.reduceAdd, Nat.reduceMul, Nat.reduceSub, Nat.reduceEqDiff, ↓reduceIte, Nat.reduceLT, reduceCtorEq, Nat.reduceLeDiff, Int.reduceToNat, Int.reduceEq, Int.reduceLE, Int.reduceLT, Nat.reduceBEq, fold_ePacket_rep]); (repeat' first | done | rfl | omega | refine And.intro ?_ ?_ | (simp; done) | (simp; omega)))
theorem w_laws_toQueue {a0 : QueueT} {r : QueueT} (h : laws_toQueue a0 = some r) : Fn Try.prog 49 [(.ag [(.lf false (.sc (.int .i64 a0.Window))), (.lf true (.sl (a0.Sent.map eS))), (.lf false (.sc (.int .i64 a0.Base))), (.lf true (.sl (a0.Got.map eS))), (.lf true (.sl (a0.Line.map ePacket)))])] [] 0 (.ag [(.lf false (.sc (.int .i64 r.Window))), (.os 0 1 0 r.Sent.length r.Sent.length false), (.lf false (.sc (.int .i64 r.Base))), (.os 1 1 0 r.Got.length r.Got.length false), (.os 2 3 0 r.Line.length r.Line.length false)]) [(0, some (true, .arr false 1 (r.Sent.map eS))), (1, some (true, .arr false 1 (r.Got.map eS))), (2, some (true, .arr false 3 (r.Line.map ePacket)))] 4 := by
  unfold laws_toQueue at h
  refine fn_code tab_ok mixed [(1000, [(1, 0), (2, 0)]), (1001, [(1, 0), (2, 0), (3, 0)]), (1002, [(1, 0), (2, 0), (3, 0)]), (1003, [(1, 0), (2, 0), (3, 0)]), (1004, [(1, 0), (2, 0), (3, 0)]), (1005, [(1, 0), (2, 0), (3, 0)]), (1006, [(2, 0), (3, 0)]), (1007, [(2, 0)])] Try.func49 rfl rfl (by simp [Try.f49]) (by kernel_rfl) ?_
  simp only [Try.f49]
  simp (disch := assumption) only [go_sem, Nat.reduceAdd, Nat.reduceMul, Nat.reduceSub, Nat.reduceEqDiff, ↓reduceIte, Nat.reduceLT, reduceCtorEq, Nat.reduceLeDiff, Int.reduceToNat, Int.reduceEq, Int.reduceLE, Int.reduceLT, Nat.reduceBEq]
  obtain ⟨c17, hr1, h⟩ := bind_ok h
  refine Cl_shown (w_laws_toStringS hr1) (by first | rfl | (simp (disch := assumption) only [go_sem, Nat.reduceAdd, Nat.reduceMul, Nat.reduceSub, Nat.reduceEqDiff, ↓reduceIte, Nat.reduceLT, reduceCtorEq, Nat.reduceLeDiff, Int.reduceToNat, Int.reduceEq, Int.reduceLE, Int.reduceLT, Nat.reduceBEq]; first | done | rfl)) (FitAll.refl _) (.inl (by first | rfl | (simp (disch := assumption) only [go_sem, Nat.reduceAdd, Nat.reduceMul, Nat.reduceSub, Nat.reduceEqDiff, ↓reduceIte, Nat.reduceLT, reduceCtorEq, Nat.reduceLeDiff, Int.reduceToNat, Int.reduceEq, Int.reduceLE, Int.reduceLT, Nat.reduceBEq]; done))) ?_
  try simp (disch := assumption) only [go_sem, Nat.reduceAdd, Nat.reduceMul, Nat.reduceSub, Nat.reduceEqDiff, ↓reduceIte, Nat.reduceLT, reduceCtorEq, Nat.reduceLeDiff, Int.reduceToNat, Int.reduceEq, Int.reduceLE, Int.reduceLT, Nat.reduceBEq]
  obtain ⟨c18, hr2, h⟩ := bind_ok h
  refine Cl_shown (w_laws_toStringS hr2) (by first | rfl | (simp (disch := assumption) only [go_sem, Nat.reduceAdd, Nat.reduceMul, Nat.reduceSub, Nat.reduceEqDiff, ↓reduceIte, Nat.reduceLT, reduceCtorEq, Nat.reduceLeDiff, Int.reduceToNat, Int.reduceEq, Int.reduceLE, Int.reduceLT, Nat.reduceBEq]; first | done | rfl)) (FitAll.refl _) (.inl (by first | rfl | (simp (disch := assumption) only [go_sem, Nat.reduceAdd, Nat.reduceMul, Nat.reduceSub, Nat.reduceEqDiff, ↓reduceIte, Nat.reduceLT, reduceCtorEq, Nat.reduceLeDiff, Int.reduceToNat, Int.reduceEq, Int.reduceLE, Int.reduceLT, Nat.reduceBEq]; done))) ?_
  try simp (disch := assumption) only [go_sem, Nat.reduceAdd, Nat.reduceMul, Nat.reduceSub, Nat.reduceEqDiff, ↓reduceIte, Nat.reduceLT, reduceCtorEq, Nat.reduceLeDiff, Int.reduceToNat, Int.reduceEq, Int.reduceLE, Int.reduceLT, Nat.reduceBEq]
  obtain ⟨c23, hr3, h⟩ := bind_ok h
  refine Cl_shown (w_laws_toPacketS hr3) (by first | rfl | (simp (disch := assumption) only [go_sem, Nat.reduceAdd, Nat.reduceMul, Nat.reduceSub, Nat.reduceEqDiff, ↓reduceIte, Nat.reduceLT, reduceCtorEq, Nat.reduceLeDiff, Int.reduceToNat, Int.reduceEq, Int.reduceLE, Int.reduceLT, Nat.reduceBEq]; first | done | rfl)) (FitAll.refl _) (.inl (by first | rfl | (simp (disch := assumption) only [go_sem, Nat.reduceAdd, Nat.reduceMul, Nat.reduceSub, Nat.reduceEqDiff, ↓reduceIte, Nat.reduceLT, reduceCtorEq, Nat.reduceLeDiff, Int.reduceToNat, Int.reduceEq, Int.reduceLE, Int.reduceLT, Nat.reduceBEq]; done))) ?_
  try simp (disch := assumption) only [go_sem, Nat.reduceAdd, Nat.reduceMul, Nat.reduceSub, Nat.reduceEqDiff, ↓reduceIte, Nat.reduceLT, reduceCtorEq, Nat.reduceLeDiff, Int.reduceToNat, Int.reduceEq, Int.reduceLE, Int.reduceLT, Nat.reduceBEq]
  have he := Option.some.inj h
  subst he
  refine ends_weak ⟨[(2, (.pb 3 0))], [(0, some (true, .arr false 1 (c17.map eS))), (1, some (true, .arr false 1 (c18.map eS))), (2, some (true, .arr false 3 (c23.map ePacket))), (3, some (true, .box [(.lf false (.sc (.int .i64 a0.Window))), (.os 0 1 0 c17.length c17.length false), (.lf false (.sc (.int .i64 a0.Base))), (.os 1 1 0 c18.length c18.length false), (.os 2 3 0 c23.length c23.length false)]))], 4, 23⟩ (weak_of (m := 0) [some 3, some 4, some 5, some 1] rfl rfl rfl (by simp [injR]) ?_ ?_) ?_
  all_goals ((try simp (disch := assumption) only [go_sem, Nat.reduceAdd, Nat.reduceMul, Nat.reduceSub, Nat.reduceEqDiff, ↓reduceIte, Nat.reduceLT, reduceCtorEq, Nat.reduceLeDiff, Int.reduceToNat, Int.reduceEq, Int.reduceLE, Int.reduceLT, Nat.reduceBEq]); (repeat' first | done | rfl | omega | refine And.intro ?_ ?_ | (simp; done) | (simp; omega)))
theorem w_spec_l1In {a0 : Int} {a1 : Int} {a2 : Int} {r : Bool} (h : spec_l1In a0 a1 a2 = some r) : Fn Try.prog 65 [(.lf false (.sc (.int .i64 a0))), (.lf false (.sc (.int .i64 a1))), (.lf false (.sc (.int .i64 a2)))] [] 0 (.lf false (.sc (.bool r))) [] 0 := by
  unfold spec_l1In at h
  refine fn_code tab_ok mixed [] Try.func65 rfl rfl (by simp [Try.f65]) (by kernel_rfl) ?_
  simp only [Try.f65]
  simp (disch := assumption) only [go_sem, Nat.reduceAdd, Nat.reduceMul, Nat.reduceSub, Nat.reduceEqDiff, ↓reduceIte, Nat.reduceLT, reduceCtorEq, Nat.reduceLeDiff, Int.reduceToNat, Int.reduceEq, Int.reduceLE, Int.reduceLT, Nat.reduceBEq]
  refine Sp_splitC ((decide (a0 ≥ a1))) (by first | rfl | (simp only [beq_iff_eq]; done) | simp) (fun hc1 => ?_) (fun hc1 => ?_)
  · rw [if_pos hc1] at h
    try simp (disch := assumption) only [go_sem, Nat.reduceAdd, Nat.reduceMul, Nat.reduceSub, Nat.reduceEqDiff, ↓reduceIte, Nat.reduceLT, reduceCtorEq, Nat.reduceLeDiff, Int.reduceToNat, Int.reduceEq, Int.reduceLE, Int.reduceLT, Nat.reduceBEq]
    have he := Option.some.inj h
    subst he
    refine ends_weak ⟨[(6, (.lf false (.sc (.bool (decide (a0 ≤ a2))))))], [], 0, 15⟩ (weak_of (m := 0) [] rfl rfl rfl (by simp [injR]) ?_ ?_) ?_
    all_goals ((try simp (disch := assumption) only [go_sem, Nat.reduceAdd, Nat.reduceMul, Nat.reduceSub, Nat.reduceEqDiff, ↓reduceIte, Nat.reduceLT, reduceCtorEq, Nat.reduceLeDiff, Int.reduceToNat, Int.reduceEq, Int.reduceLE, Int.reduceLT, Nat.reduceBEq]); (repeat' first | done | rfl | omega | refine And.intro ?_ ?_ | (simp; done) | (simp; omega)))
  · rw [if_neg (nt hc1)] at h
    try simp (disch := assumption) only [go_sem, Nat.reduceAdd, Nat.reduceMul, Nat.reduceSub, Nat.reduceEqDiff, ↓reduceIte, Nat.reduceLT, reduceCtorEq, Nat.reduceLeDiff, Int.reduceToNat, Int.reduceEq, Int.reduceLE, Int.reduceLT, Nat.reduceBEq]
    have he := Option.some.inj h
    subst he
    refine ends_weak ⟨[(6, (.lf false (.sc (.bool false))))], [], 0, 15⟩ (weak_of (m := 0) [] rfl rfl rfl (by simp [injR]) ?_ ?_) ?_
    all_goals ((try simp (disch := assumption) only [go_sem, Nat.reduceAdd, Nat.reduceMul, Nat.reduceSub, Nat.reduceEqDiff, ↓reduceIte, Nat.reduceLT, reduceCtorEq, Nat.reduceLeDiff, Int.reduceToNat, Int.reduceEq, Int.reduceLE, Int.reduceLT, Nat.reduceBEq]); (repeat' first | done | rfl | omega | refine And.intro ?_ ?_ | (simp; done) | (simp; omega)))
theorem w_spec_GoodQueue {a0 : QueueT} {r : Bool} (h : spec_GoodQueue a0 = some r) : Fn Try.prog 48 [(.ag [(.lf false (.sc (.int .i64 a0.Window))), (.lf true (.sl (a0.Sent.map eS))), (.lf false (.sc (.int .i64 a0.Base))), (.lf true (.sl (a0.Got.map eS))), (.lf true (.sl (a0.Line.map ePacket)))])] [] 0 (.lf false (.sc (.bool r))) [] 0 := by
  unfold spec_GoodQueue at h
  refine fn_code tab_ok mixed [(1000, [(1, 0)]), (1001, [(1, 0), (40, 0)]), (1002, [(2, 0)]), (1003, [(1, 0), (42, 0), (43, 0), (44, 0)]), (1004, [(1, 0), (42, 0), (43, 0), (44, 0), (45, 0)]), (1005, [(1, 0), (3, 0), (4, 0), (42, 0), (43, 0), (44, 0)]), (1006, [(1, 0), (42, 0), (43, 0), (44, 0), (67, 0)]), (1007, [(2, 0)]), (1008, [(1, 0), (42, 0), (43, 0), (44, 0)]), (1009, [(1, 0), (70, 0), (71, 0), (72, 0)]), (1010, [(1, 0), (70, 0), (71, 0), (72, 0), (73, 0)]), (1011, [(1, 0), (6, 0), (70, 0), (71, 0), (72, 0)]), (1012, [(1, 0), (6, 0), (70, 0), (71, 0), (72, 0), (77, 0)]), (1013, [(1, 0), (70, 0), (71, 0), (72, 0), (89, 0)]), (1014, [(2, 0)]), (1015, [(1, 0), (70, 0), (71, 0), (72, 0), (118, 0)]), (1016, [(2, 0)]), (1017, [(1, 0), (70, 0), (71, 0), (72, 0)]), (1018, [(2, 0)])] Try.func48 rfl rfl (by simp [Try.f48]) (by kernel_rfl) ?_
  simp only [Try.f48]
  simp (disch := assumption) only [go_sem, Nat.reduceAdd, Nat.reduceMul, Nat.reduceSub, Nat.reduceEqDiff, ↓reduceIte, Nat.reduceLT, reduceCtorEq, Nat.reduceLeDiff, Int.reduceToNat, Int.reduceEq, Int.reduceLE, Int.reduceLT, Nat.reduceBEq]
  obtain ⟨c25, hr1, h⟩ := bind_ok h
  refine Cl_shown (w_spec_l1In hr1) (by first | rfl | (simp (disch := assumption) only [go_sem, Nat.reduceAdd, Nat.reduceMul, Nat.reduceSub, Nat.reduceEqDiff, ↓reduceIte, Nat.reduceLT, reduceCtorEq, Nat.reduceLeDiff, Int.reduceToNat, Int.reduceEq, Int.reduceLE, Int.reduceLT, Nat.reduceBEq]; first | done | rfl)) (FitAll.refl _) (.inl (by first | rfl | (simp (disch := assumption) only [go_sem, Nat.reduceAdd, Nat.reduceMul, Nat.reduceSub, Nat.reduceEqDiff, ↓reduceIte, Nat.reduceLT, reduceCtorEq, Nat.reduceLeDiff, Int.reduceToNat, Int.reduceEq, Int.reduceLE, Int.reduceLT, Nat.reduceBEq]; done))) ?_
  try simp (disch := assumption) only [go_sem, Nat.reduceAdd, Nat.reduceMul, Nat.reduceSub, Nat.reduceEqDiff, ↓reduceIte, Nat.reduceLT, reduceCtorEq, Nat.reduceLeDiff, Int.reduceToNat, Int.reduceEq, Int.reduceLE, Int.reduceLT, Nat.reduceBEq]
  refine Sp_splitC ((!c25)) (by first | rfl | (simp only [beq_iff_eq]; done) | simp) (fun hc2 => ?_) (fun hc2 => ?_)
  · rw [if_pos hc2] at h
    try simp (disch := assumption) only [go_sem, Nat.reduceAdd, Nat.reduceMul, Nat.reduceSub, Nat.reduceEqDiff, ↓reduceIte, Nat.reduceLT, reduceCtorEq, Nat.reduceLeDiff, Int.reduceToNat, Int.reduceEq, Int.reduceLE, Int.reduceLT, Nat.reduceBEq]
    have he := Option.some.inj h
    subst he
    refine ends_weak ⟨[(2, (.lf false (.sc (.bool false))))], [], 0, 120⟩ (weak_of (m := 0) [] rfl rfl rfl (by simp [injR]) ?_ ?_) ?_
    all_goals ((try simp (disch := assumption) only [go_sem, Nat.reduceAdd, Nat.reduceMul, Nat.reduceSub, Nat.reduceEqDiff, ↓reduceIte, Nat.reduceLT, reduceCtorEq, Nat.reduceLeDiff, Int.reduceToNat, Int.reduceEq, Int.reduceLE, Int.reduceLT, Nat.reduceBEq]); (repeat' first | done | rfl | omega | refine And.intro ?_ ?_ | (simp; done) | (simp; omega)))
  · rw [if_neg (nt hc2)] at h
    try simp (disch := assumption) only [go_sem, Nat.reduceAdd, Nat.reduceMul, Nat.reduceSub, Nat.reduceEqDiff, ↓reduceIte, Nat.reduceLT, reduceCtorEq, Nat.reduceLeDiff, Int.reduceToNat, Int.reduceEq, Int.reduceLE, Int.reduceLT, Nat.reduceBEq]
    refine Sp_splitC ((decide (((a0.Sent.length : Nat) : Int) > 40))) (by first | rfl | (simp only [beq_iff_eq]; done) | simp) (fun hc3 => ?_) (fun hc3 => ?_)
    · rw [if_pos hc3] at h
      try simp (disch := assumption) only [go_sem, Nat.reduceAdd, Nat.reduceMul, Nat.reduceSub, Nat.reduceEqDiff, ↓reduceIte, Nat.reduceLT, reduceCtorEq, Nat.reduceLeDiff, Int.reduceToNat, Int.reduceEq, Int.reduceLE, Int.reduceLT, Nat.reduceBEq]
      have he := Option.some.inj h
      subst he
      refine ends_weak ⟨[(2, (.lf false (.sc (.bool false))))], [], 0, 120⟩ (weak_of (m := 0) [] rfl rfl rfl (by simp [injR]) ?_ ?_) ?_
      all_goals ((try simp (disch := assumption) only [go_sem, Nat.reduceAdd, Nat.reduceMul, Nat.reduceSub, Nat.reduceEqDiff, ↓reduceIte, Nat.reduceLT, reduceCtorEq, Nat.reduceLeDiff, Int.reduceToNat, Int.reduceEq, Int.reduceLE, Int.reduceLT, Nat.reduceBEq]); (repeat' first | done | rfl | omega | refine And.intro ?_ ?_ | (simp; done) | (simp; omega)))
    · rw [if_neg (nt hc3)] at h
      try simp (disch := assumption) only [go_sem, Nat.reduceAdd, Nat.reduceMul, Nat.reduceSub, Nat.reduceEqDiff, ↓reduceIte, Nat.reduceLT, reduceCtorEq, Nat.reduceLeDiff, Int.reduceToNat, Int.reduceEq, Int.reduceLE, Int.reduceLT, Nat.reduceBEq]
      refine Sp_splitC ((decide (((a0.Got.length : Nat) : Int) > ((a0.Sent.length : Nat) : Int)))) (by first | rfl | (simp only [beq_iff_eq]; done) | simp) (fun hc4 => ?_) (fun hc4 => ?_)
      · rw [if_pos hc4] at h
        try simp (disch := assumption) only [go_sem, Nat.reduceAdd, Nat.reduceMul, Nat.reduceSub, Nat.reduceEqDiff, ↓reduceIte, Nat.reduceLT, reduceCtorEq, Nat.reduceLeDiff, Int.reduceToNat, Int.reduceEq, Int.reduceLE, Int.reduceLT, Nat.reduceBEq]
        have he := Option.some.inj h
        subst he
        refine ends_weak ⟨[(2, (.lf false (.sc (.bool false))))], [], 0, 120⟩ (weak_of (m := 0) [] rfl rfl rfl (by simp [injR]) ?_ ?_) ?_
        all_goals ((try simp (disch := assumption) only [go_sem, Nat.reduceAdd, Nat.reduceMul, Nat.reduceSub, Nat.reduceEqDiff, ↓reduceIte, Nat.reduceLT, reduceCtorEq, Nat.reduceLeDiff, Int.reduceToNat, Int.reduceEq, Int.reduceLE, Int.reduceLT, Nat.reduceBEq]); (repeat' first | done | rfl | omega | refine And.intro ?_ ?_ | (simp; done) | (simp; omega)))
      · rw [if_neg (nt hc4)] at h
        try simp (disch := assumption) only [go_sem, Nat.reduceAdd, Nat.reduceMul, Nat.reduceSub, Nat.reduceEqDiff, ↓reduceIte, Nat.reduceLT, reduceCtorEq, Nat.reduceLeDiff, Int.reduceToNat, Int.reduceEq, Int.reduceLE, Int.reduceLT, Nat.reduceBEq]
        obtain ⟨c26, hr5, h⟩ := bind_ok h
        refine Cl_shown (w_spec_l1In hr5) (by first | rfl | (simp (disch := assumption) only [go_sem, Nat.reduceAdd, Nat.reduceMul, Nat.reduceSub, Nat.reduceEqDiff, ↓reduceIte, Nat.reduceLT, reduceCtorEq, Nat.reduceLeDiff, Int.reduceToNat, Int.reduceEq, Int.reduceLE, Int.reduceLT, Nat.reduceBEq]; first | done | rfl)) (FitAll.refl _) (.inl (by first | rfl | (simp (disch := assumption) only [go_sem, Nat.reduceAdd, Nat.reduceMul, Nat.reduceSub, Nat.reduceEqDiff, ↓reduceIte, Nat.reduceLT, reduceCtorEq, Nat.reduceLeDiff, Int.reduceToNat, Int.reduceEq, Int.reduceLE, Int.reduceLT, Nat.reduceBEq]; done))) ?_
        try simp (disch := assumption) only [go_sem, Nat.reduceAdd, Nat.reduceMul, Nat.reduceSub, Nat.reduceEqDiff, ↓reduceIte, Nat.reduceLT, reduceCtorEq, Nat.reduceLeDiff, Int.reduceToNat, Int.reduceEq, Int.reduceLE, Int.reduceLT, Nat.reduceBEq]
        refine Sp_splitC ((!c26)) (by first | rfl | (simp only [beq_iff_eq]; done) | simp) (fun hc6 => ?_) (fun hc6 => ?_)
        · rw [if_pos hc6] at h
          try simp (disch := assumption) only [go_sem, Nat.reduceAdd, Nat.reduceMul, Nat.reduceSub, Nat.reduceEqDiff, ↓reduceIte, Nat.reduceLT, reduceCtorEq, Nat.reduceLeDiff, Int.reduceToNat, Int.reduceEq, Int.reduceLE, Int.reduceLT, Nat.reduceBEq]
          have he := Option.some.inj h
          subst he
          refine ends_weak ⟨[(2, (.lf false (.sc (.bool false))))], [], 0, 120⟩ (weak_of (m := 0) [] rfl rfl rfl (by simp [injR]) ?_ ?_) ?_
          all_goals ((try simp (disch := assumption) only [go_sem, Nat.reduceAdd, Nat.reduceMul, Nat.reduceSub, Nat.reduceEqDiff, ↓reduceIte, Nat.reduceLT, reduceCtorEq, Nat.reduceLeDiff, Int.reduceToNat, Int.reduceEq, Int.reduceLE, Int.reduceLT, Nat.reduceBEq]); (repeat' first | done | rfl | omega | refine And.intro ?_ ?_ | (simp; done) | (simp; omega)))
        · rw [if_neg (nt hc6)] at h
          try simp (disch := assumption) only [go_sem, Nat.reduceAdd, Nat.reduceMul, Nat.reduceSub, Nat.reduceEqDiff, ↓reduceIte, Nat.reduceLT, reduceCtorEq, Nat.reduceLeDiff, Int.reduceToNat, Int.reduceEq, Int.reduceLE, Int.reduceLT, Nat.reduceBEq]
          refine Bs_splitC ((decide (((a0.Line.length : Nat) : Int) > 40))) (by first | rfl | (simp only [beq_iff_eq]; done) | simp) (fun hc7 => ?_) (fun hc7 => ?_)
          · rw [if_pos hc7] at h
            try simp (disch := assumption) only [go_sem, Nat.reduceAdd, Nat.reduceMul, Nat.reduceSub, Nat.reduceEqDiff, ↓reduceIte, Nat.reduceLT, reduceCtorEq, Nat.reduceLeDiff, Int.reduceToNat, Int.reduceEq, Int.reduceLE, Int.reduceLT, Nat.reduceBEq]
            have he := Option.some.inj h
            subst he
            refine ends_weak ⟨[(2, (.lf false (.sc (.bool false))))], [], 0, 120⟩ (weak_of (m := 0) [] rfl rfl rfl (by simp [injR]) ?_ ?_) ?_
            all_goals ((try simp (disch := assumption) only [go_sem, Nat.reduceAdd, Nat.reduceMul, Nat.reduceSub, Nat.reduceEqDiff, ↓reduceIte, Nat.reduceLT, reduceCtorEq, Nat.reduceLeDiff, Int.reduceToNat, Int.reduceEq, Int.reduceLE, Int.reduceLT, Nat.reduceBEq]); (repeat' first | done | rfl | omega | refine And.intro ?_ ?_ | (simp; done) | (simp; omega)))
          · rw [if_neg (nt hc7)] at h
            try simp (disch := assumption) only [go_sem, Nat.reduceAdd, Nat.reduceMul, Nat.reduceSub, Nat.reduceEqDiff, ↓reduceIte, Nat.reduceLT, reduceCtorEq, Nat.reduceLeDiff, Int.reduceToNat, Int.reduceEq, Int.reduceLE, Int.reduceLT, Nat.reduceBEq]
            obtain ⟨y28, hl8, h⟩ := bind_ok h
            refine W_loopP (fun g27 : spec_GoodQueue_G1 => ⟨[(1, (.pb 0 0)), (42, (.lf true (.sl (a0.Sent.map eS)))), (43, (.lf false (.sc (.int .i64 ((a0.Sent.length : Nat) : Int))))), (44, (.lf false (.sc (.int .i64 g27.t44))))], [(0, some (true, .box [(.lf false (.sc (.int .i64 a0.Window))), (.lf true (.sl (a0.Sent.map eS))), (.lf false (.sc (.int .i64 a0.Base))), (.lf true (.sl (a0.Got.map eS))), (.lf true (.sl (a0.Line.map ePacket)))]))], 1, 120⟩) (spec_GoodQueue_L1 a0) _ _ hl8 (weak_of (m := 0) [some 0] rfl rfl rfl (by simp [injR]) ?_ ?_) ?_
            rotate_left 2
            · intro n1 g27 z1 hs1 hk1
              unfold spec_GoodQueue_L1 at hs1
              try dsimp only at hs1
              simp (disch := assumption) only [go_sem, Nat.reduceAdd, Nat.reduceMul, Nat.reduceSub, Nat.reduceEqDiff, ↓reduceIte, Nat.reduceLT, reduceCtorEq, Nat.reduceLeDiff, Int.reduceToNat, Int.reduceEq, Int.reduceLE, Int.reduceLT, Nat.reduceBEq]
              refine Bs_splitC ((decide (g27.t44 < ((a0.Sent.length : Nat) : Int)))) (by first | rfl | (simp only [beq_iff_eq]; done) | simp) (fun hc9 => ?_) (fun hc9 => ?_)
              · rw [if_pos hc9] at hs1
                try simp (disch := assumption) only [go_sem, Nat.reduceAdd, Nat.reduceMul, Nat.reduceSub, Nat.reduceEqDiff, ↓reduceIte, Nat.reduceLT, reduceCtorEq, Nat.reduceLeDiff, Int.reduceToNat, Int.reduceEq, Int.reduceLE, Int.reduceLT, Nat.reduceBEq]
                obtain ⟨hp10, hs1⟩ := guard_some hs1
                have hn10 : g27.t44.toNat < a0.Sent.length := by first | omega | (simp only [List.length_set, List.length_append, List.length_replicate, List.length_map]; omega)
                try simp (disch := assumption) only [go_sem, Nat.reduceAdd, Nat.reduceMul, Nat.reduceSub, Nat.reduceEqDiff, ↓reduceIte, Nat.reduceLT, reduceCtorEq, Nat.reduceLeDiff, Int.reduceToNat, Int.reduceEq, Int.reduceLE, Int.reduceLT, Nat.reduceBEq]
                first | refine And.intro (by first | omega | exact ⟨by omega, fun _ => mapLen fun _ => rfl⟩ | (refine ⟨by omega, ?_, by omega⟩; first | exact mapLen fun _ => rfl | simp) | (refine ⟨?_, by omega⟩; first | exact mapLen fun _ => rfl | simp)) ?_ | skip
                refine Sp_splitC ((decide (((nth a0.Sent g27.t44.toNat).size : Int) > 12))) (by first | rfl | (simp only [beq_iff_eq]; done) | simp) (fun hc11 => ?_) (fun hc11 => ?_)
                · rw [if_pos hc11] at hs1
                  try simp (disch := assumption) only [go_sem, Nat.reduceAdd, Nat.reduceMul, Nat.reduceSub, Nat.reduceEqDiff, ↓reduceIte, Nat.reduceLT, reduceCtorEq, Nat.reduceLeDiff, Int.reduceToNat, Int.reduceEq, Int.reduceLE, Int.reduceLT, Nat.reduceBEq]
                  cases hs1
                  cases hk1
                  try dsimp only at h
                  try simp (disch := assumption) only [go_sem, Nat.reduceAdd, Nat.reduceMul, Nat.reduceSub, Nat.reduceEqDiff, ↓reduceIte, Nat.reduceLT, reduceCtorEq, Nat.reduceLeDiff, Int.reduceToNat, Int.reduceEq, Int.reduceLE, Int.reduceLT, Nat.reduceBEq]
                  have he := Option.some.inj h
                  subst he
                  refine ends_weak ⟨[(2, (.lf false (.sc (.bool false))))], [], 0, 120⟩ (weak_of (m := 0) [] rfl rfl rfl (by simp [injR]) ?_ ?_) ?_
                  all_goals ((try simp (disch := assumption) only [go_sem, Nat.reduceAdd, Nat.reduceMul, Nat.reduceSub, Nat.reduceEqDiff, ↓reduceIte, Nat.reduceLT, reduceCtorEq, Nat.reduceLeDiff, Int.reduceToNat, Int.reduceEq, Int.reduceLE, Int.reduceLT, Nat.reduceBEq]); (repeat' first | done | rfl | omega | refine And.intro ?_ ?_ | (simp; done) | (simp; omega)))
                · rw [if_neg (nt hc11)] at hs1
                  try simp (disch := assumption) only [go_sem, Nat.reduceAdd, Nat.reduceMul, Nat.reduceSub, Nat.reduceEqDiff, ↓reduceIte, Nat.reduceLT, reduceCtorEq, Nat.reduceLeDiff, Int.reduceToNat, Int.reduceEq, Int.reduceLE, Int.reduceLT, Nat.reduceBEq]
                  refine Sp_splitC ((decide (g27.t44 < ((a0.Got.length : Nat) : Int)))) (by first | rfl | (simp only [beq_iff_eq]; done) | simp) (fun hc12 => ?_) (fun hc12 => ?_)
                  · rw [if_pos hc12] at hs1
                    try simp (disch := assumption) only [go_sem, Nat.reduceAdd, Nat.reduceMul, Nat.reduceSub, Nat.reduceEqDiff, ↓reduceIte, Nat.reduceLT, reduceCtorEq, Nat.reduceLeDiff, Int.reduceToNat, Int.reduceEq, Int.reduceLE, Int.reduceLT, Nat.reduceBEq]
                    obtain ⟨hp13, hs1⟩ := guard_some hs1
                    have hn13 : g27.t44.toNat < a0.Got.length := by first | omega | (simp only [List.length_set, List.length_append, List.length_replicate, List.length_map]; omega)
                    try simp (disch := assumption) only [go_sem, Nat.reduceAdd, Nat.reduceMul, Nat.reduceSub, Nat.reduceEqDiff, ↓reduceIte, Nat.reduceLT, reduceCtorEq, Nat.reduceLeDiff, Int.reduceToNat, Int.reduceEq, Int.reduceLE, Int.reduceLT, Nat.reduceBEq]
                    first | refine And.intro (by first | omega | exact ⟨by omega, fun _ => mapLen fun _ => rfl⟩ | (refine ⟨by omega, ?_, by omega⟩; first | exact mapLen fun _ => rfl | simp) | (refine ⟨?_, by omega⟩; first | exact mapLen fun _ => rfl | simp)) ?_ | skip
                    refine Bs_splitC ((!((nth a0.Got g27.t44.toNat).toList == (nth a0.Sent g27.t44.toNat).toList))) (by first | rfl | (simp only [beq_iff_eq]; done) | simp) (fun hc14 => ?_) (fun hc14 => ?_)
                    · rw [if_pos hc14] at hs1
                      try simp (disch := assumption) only [go_sem, Nat.reduceAdd, Nat.reduceMul, Nat.reduceSub, Nat.reduceEqDiff, ↓reduceIte, Nat.reduceLT, reduceCtorEq, Nat.reduceLeDiff, Int.reduceToNat, Int.reduceEq, Int.reduceLE, Int.reduceLT, Nat.reduceBEq]
                      cases hs1
                      cases hk1
                      try dsimp only at h
                      try simp (disch := assumption) only [go_sem, Nat.reduceAdd, Nat.reduceMul, Nat.reduceSub, Nat.reduceEqDiff, ↓reduceIte, Nat.reduceLT, reduceCtorEq, Nat.reduceLeDiff, Int.reduceToNat, Int.reduceEq, Int.reduceLE, Int.reduceLT, Nat.reduceBEq]
                      have he := Option.some.inj h
                      subst he
                      refine ends_weak ⟨[(2, (.lf false (.sc (.bool false))))], [], 0, 120⟩ (weak_of (m := 0) [] rfl rfl rfl (by simp [injR]) ?_ ?_) ?_
                      all_goals ((try simp (disch := assumption) only [go_sem, Nat.reduceAdd, Nat.reduceMul, Nat.reduceSub, Nat.reduceEqDiff, ↓reduceIte, Nat.reduceLT, reduceCtorEq, Nat.reduceLeDiff, Int.reduceToNat, Int.reduceEq, Int.reduceLE, Int.reduceLT, Nat.reduceBEq]); (repeat' first | done | rfl | omega | refine And.intro ?_ ?_ | (simp; done) | (simp; omega)))
                    · rw [if_neg (nt hc14)] at hs1
                      try simp (disch := assumption) only [go_sem, Nat.reduceAdd, Nat.reduceMul, Nat.reduceSub, Nat.reduceEqDiff, ↓reduceIte, Nat.reduceLT, reduceCtorEq, Nat.reduceLeDiff, Int.reduceToNat, Int.reduceEq, Int.reduceLE, Int.reduceLT, Nat.reduceBEq]
                      cases hs1
                      refine X_backP hk1 ?_
                      refine weak_of (m := 0) [some 0] rfl rfl rfl (by simp [injR]) ?_ ?_
                      all_goals ((try simp (disch := assumption) only [go_sem, Nat.reduceAdd, Nat.reduceMul, Nat.reduceSub, Nat.reduceEqDiff, ↓reduceIte, Nat.reduceLT, reduceCtorEq, Nat.reduceLeDiff, Int.reduceToNat, Int.reduceEq, Int.reduceLE, Int.reduceLT, Nat.reduceBEq]); (repeat' first | done | rfl | omega | refine And.intro ?_ ?_ | (simp; done) | (simp; omega)))
                  · rw [if_neg (nt hc12)] at hs1
                    try simp (disch := assumption) only [go_sem, Nat.reduceAdd, Nat.reduceMul, Nat.reduceSub, Nat.reduceEqDiff, ↓reduceIte, Nat.reduceLT, reduceCtorEq, Nat.reduceLeDiff, Int.reduceToNat, Int.reduceEq, Int.reduceLE, Int.reduceLT, Nat.reduceBEq]
                    cases hs1
                    refine X_backP hk1 ?_
                    refine weak_of (m := 0) [some 0] rfl rfl rfl (by simp [injR]) ?_ ?_
                    all_goals ((try simp (disch := assumption) only [go_sem, Nat.reduceAdd, Nat.reduceMul, Nat.reduceSub, Nat.reduceEqDiff, ↓reduceIte, Nat.reduceLT, reduceCtorEq, Nat.reduceLeDiff, Int.reduceToNat, Int.reduceEq, Int.reduceLE, Int.reduceLT, Nat.reduceBEq]); (repeat' first | done | rfl | omega | refine And.intro ?_ ?_ | (simp; done) | (simp; omega)))
              · rw [if_neg (nt hc9)] at hs1
                try simp (disch := assumption) only [go_sem, Nat.reduceAdd, Nat.reduceMul, Nat.reduceSub, Nat.reduceEqDiff, ↓reduceIte, Nat.reduceLT, reduceCtorEq, Nat.reduceLeDiff, Int.reduceToNat, Int.reduceEq, Int.reduceLE, Int.reduceLT, Nat.reduceBEq]
                cases hs1
                cases hk1
                try dsimp only at h
                try simp (disch := assumption) only [go_sem, Nat.reduceAdd, Nat.reduceMul, Nat.reduceSub, Nat.reduceEqDiff, ↓reduceIte, Nat.reduceLT, reduceCtorEq, Nat.reduceLeDiff, Int.reduceToNat, Int.reduceEq, Int.reduceLE, Int.reduceLT, Nat.reduceBEq]
                obtain ⟨y44, hl15, h⟩ := bind_ok h
                refine W_loopP (fun g39 : spec_GoodQueue_G2 => ⟨[(1, (.pb 0 0)), (70, (.lf true (.sl (a0.Line.map ePacket)))), (71, (.lf false (.sc (.int .i64 ((a0.Line.length : Nat) : Int))))), (72, (.lf false (.sc (.int .i64 g39.t72))))], [(0, some (true, .box [(.lf false (.sc (.int .i64 a0.Window))), (.lf true (.sl (a0.Sent.map eS))), (.lf false (.sc (.int .i64 a0.Base))), (.lf true (.sl (a0.Got.map eS))), (.lf true (.sl (a0.Line.map ePacket)))]))], 1, 120⟩) (_) _ _ hl15 (weak_of (m := 0) [some 0] rfl rfl rfl (by simp [injR]) ?_ ?_) ?_
                rotate_left 2
                · intro n3 g39 z3 hs3 hk3
                  unfold spec_GoodQueue_L2 at hs3
                  try dsimp only at hs3
                  simp (disch := assumption) only [go_sem, Nat.reduceAdd, Nat.reduceMul, Nat.reduceSub, Nat.reduceEqDiff, ↓reduceIte, Nat.reduceLT, reduceCtorEq, Nat.reduceLeDiff, Int.reduceToNat, Int.reduceEq, Int.reduceLE, Int.reduceLT, Nat.reduceBEq]
                  refine Bs_splitC ((decide (g39.t72 < ((a0.Line.length : Nat) : Int)))) (by first | rfl | (simp only [beq_iff_eq]; done) | simp) (fun hc16 => ?_) (fun hc16 => ?_)
                  · rw [if_pos hc16] at hs3
                    try simp (disch := assumption) only [go_sem, Nat.reduceAdd, Nat.reduceMul, Nat.reduceSub, Nat.reduceEqDiff, ↓reduceIte, Nat.reduceLT, reduceCtorEq, Nat.reduceLeDiff, Int.reduceToNat, Int.reduceEq, Int.reduceLE, Int.reduceLT, Nat.reduceBEq]
                    obtain ⟨hp17, hs3⟩ := guard_some hs3
                    have hn17 : g39.t72.toNat < a0.Line.length := by first | omega | (simp only [List.length_set, List.length_append, List.length_replicate, List.length_map]; omega)
                    try simp (disch := assumption) only [go_sem, Nat.reduceAdd, Nat.reduceMul, Nat.reduceSub, Nat.reduceEqDiff, ↓reduceIte, Nat.reduceLT, reduceCtorEq, Nat.reduceLeDiff, Int.reduceToNat, Int.reduceEq, Int.reduceLE, Int.reduceLT, Nat.reduceBEq]
                    first | refine And.intro (by first | omega | exact ⟨by omega, fun _ => mapLen fun _ => rfl⟩ | (refine ⟨by omega, ?_, by omega⟩; first | exact mapLen fun _ => rfl | simp) | (refine ⟨?_, by omega⟩; first | exact mapLen fun _ => rfl | simp)) ?_ | skip
                    refine Bs_splitC ((nth a0.Line g39.t72.toNat).Ack) (by first | rfl | (simp only [beq_iff_eq]; done) | simp) (fun hc18 => ?_) (fun hc18 => ?_)
                    · rw [if_pos hc18] at hs3
                      try simp (disch := assumption) only [go_sem, Nat.reduceAdd, Nat.reduceMul, Nat.reduceSub, Nat.reduceEqDiff, ↓reduceIte, Nat.reduceLT, reduceCtorEq, Nat.reduceLeDiff, Int.reduceToNat, Int.reduceEq, Int.reduceLE, Int.reduceLT, Nat.reduceBEq]
                      obtain ⟨c42, hr19, hs3⟩ := bind_ok hs3
                      refine Cl_shown (w_spec_l1In hr19) (by first | rfl | (simp (disch := assumption) only [go_sem, Nat.reduceAdd, Nat.reduceMul, Nat.reduceSub, Nat.reduceEqDiff, ↓reduceIte, Nat.reduceLT, reduceCtorEq, Nat.reduceLeDiff, Int.reduceToNat, Int.reduceEq, Int.reduceLE, Int.reduceLT, Nat.reduceBEq]; first | done | rfl)) (FitAll.refl _) (.inl (by first | rfl | (simp (disch := assumption) only [go_sem, Nat.reduceAdd, Nat.reduceMul, Nat.reduceSub, Nat.reduceEqDiff, ↓reduceIte, Nat.reduceLT, reduceCtorEq, Nat.reduceLeDiff, Int.reduceToNat, Int.reduceEq, Int.reduceLE, Int.reduceLT, Nat.reduceBEq]; done))) ?_
                      try simp (disch := assumption) only [go_sem, Nat.reduceAdd, Nat.reduceMul, Nat.reduceSub, Nat.reduceEqDiff, ↓reduceIte, Nat.reduceLT, reduceCtorEq, Nat.reduceLeDiff, Int.reduceToNat, Int.reduceEq, Int.reduceLE, Int.reduceLT, Nat.reduceBEq]
                      refine Sp_splitC ((!c42)) (by first | rfl | (simp only [beq_iff_eq]; done) | simp) (fun hc20 => ?_) (fun hc20 => ?_)
                      · rw [if_pos hc20] at hs3
                        try simp (disch := assumption) only [go_sem, Nat.reduceAdd, Nat.reduceMul, Nat.reduceSub, Nat.reduceEqDiff, ↓reduceIte, Nat.reduceLT, reduceCtorEq, Nat.reduceLeDiff, Int.reduceToNat, Int.reduceEq, Int.reduceLE, Int.reduceLT, Nat.reduceBEq]
                        cases hs3
                        cases hk3
                        try dsimp only at h
                        try simp (disch := assumption) only [go_sem, Nat.reduceAdd, Nat.reduceMul, Nat.reduceSub, Nat.reduceEqDiff, ↓reduceIte, Nat.reduceLT, reduceCtorEq, Nat.reduceLeDiff, Int.reduceToNat, Int.reduceEq, Int.reduceLE, Int.reduceLT, Nat.reduceBEq]
                        have he := Option.some.inj h
                        subst he
                        refine ends_weak ⟨[(2, (.lf false (.sc (.bool false))))], [], 0, 120⟩ (weak_of (m := 0) [] rfl rfl rfl (by simp [injR]) ?_ ?_) ?_
                        all_goals ((try simp (disch := assumption) only [go_sem, Nat.reduceAdd, Nat.reduceMul, Nat.reduceSub, Nat.reduceEqDiff, ↓reduceIte, Nat.reduceLT, reduceCtorEq, Nat.reduceLeDiff, Int.reduceToNat, Int.reduceEq, Int.reduceLE, Int.reduceLT, Nat.reduceBEq]); (repeat' first | done | rfl | omega | refine And.intro ?_ ?_ | (simp; done) | (simp; omega)))
                      · rw [if_neg (nt hc20)] at hs3
                        try simp (disch := assumption) only [go_sem, Nat.reduceAdd, Nat.reduceMul, Nat.reduceSub, Nat.reduceEqDiff, ↓reduceIte, Nat.reduceLT, reduceCtorEq, Nat.reduceLeDiff, Int.reduceToNat, Int.reduceEq, Int.reduceLE, Int.reduceLT, Nat.reduceBEq]
                        refine Bs_splitC ((!(((nth a0.Line g39.t72.toNat).Text).toList == ByteArray.empty.toList))) (by first | rfl | (simp only [beq_iff_eq]; done) | simp) (fun hc21 => ?_) (fun hc21 => ?_)
                        · rw [if_pos hc21] at hs3
                          try simp (disch := assumption) only [go_sem, Nat.reduceAdd, Nat.reduceMul, Nat.reduceSub, Nat.reduceEqDiff, ↓reduceIte, Nat.reduceLT, reduceCtorEq, Nat.reduceLeDiff, Int.reduceToNat, Int.reduceEq, Int.reduceLE, Int.reduceLT, Nat.reduceBEq]
                          cases hs3
                          cases hk3
                          try dsimp only at h
                          try simp (disch := assumption) only [go_sem, Nat.reduceAdd, Nat.reduceMul, Nat.reduceSub, Nat.reduceEqDiff, ↓reduceIte, Nat.reduceLT, reduceCtorEq, Nat.reduceLeDiff, Int.reduceToNat, Int.reduceEq, Int.reduceLE, Int.reduceLT, Nat.reduceBEq]
                          have he := Option.some.inj h
                          subst he
                          refine ends_weak ⟨[(2, (.lf false (.sc (.bool false))))], [], 0, 120⟩ (weak_of (m := 0) [] rfl rfl rfl (by simp [injR]) ?_ ?_) ?_
                          all_goals ((try simp (disch := assumption) only [go_sem, Nat.reduceAdd, Nat.reduceMul, Nat.reduceSub, Nat.reduceEqDiff, ↓reduceIte, Nat.reduceLT, reduceCtorEq, Nat.reduceLeDiff, Int.reduceToNat, Int.reduceEq, Int.reduceLE, Int.reduceLT, Nat.reduceBEq]); (repeat' first | done | rfl | omega | refine And.intro ?_ ?_ | (simp; done) | (simp; omega)))
                        · rw [if_neg (nt hc21)] at hs3
                          try simp (disch := assumption) only [go_sem, Nat.reduceAdd, Nat.reduceMul, Nat.reduceSub, Nat.reduceEqDiff, ↓reduceIte, Nat.reduceLT, reduceCtorEq, Nat.reduceLeDiff, Int.reduceToNat, Int.reduceEq, Int.reduceLE, Int.reduceLT, Nat.reduceBEq]
                          cases hs3
                          refine X_backP hk3 ?_
                          refine weak_of (m := 0) [some 0] rfl rfl rfl (by simp [injR]) ?_ ?_
                          all_goals ((try simp (disch := assumption) only [go_sem, Nat.reduceAdd, Nat.reduceMul, Nat.reduceSub, Nat.reduceEqDiff, ↓reduceIte, Nat.reduceLT, reduceCtorEq, Nat.reduceLeDiff, Int.reduceToNat, Int.reduceEq, Int.reduceLE, Int.reduceLT, Nat.reduceBEq]); (repeat' first | done | rfl | omega | refine And.intro ?_ ?_ | (simp; done) | (simp; omega)))
                    · rw [if_neg (nt hc18)] at hs3
                      try simp (disch := assumption) only [go_sem, Nat.reduceAdd, Nat.reduceMul, Nat.reduceSub, Nat.reduceEqDiff, ↓reduceIte, Nat.reduceLT, reduceCtorEq, Nat.reduceLeDiff, Int.reduceToNat, Int.reduceEq, Int.reduceLE, Int.reduceLT, Nat.reduceBEq]
                      obtain ⟨c43, hr22, hs3⟩ := bind_ok hs3
                      refine Cl_shown (w_spec_l1In hr22) (by first | rfl | (simp (disch := assumption) only [go_sem, Nat.reduceAdd, Nat.reduceMul, Nat.reduceSub, Nat.reduceEqDiff, ↓reduceIte, Nat.reduceLT, reduceCtorEq, Nat.reduceLeDiff, Int.reduceToNat, Int.reduceEq, Int.reduceLE, Int.reduceLT, Nat.reduceBEq]; first | done | rfl)) (FitAll.refl _) (.inl (by first | rfl | (simp (disch := assumption) only [go_sem, Nat.reduceAdd, Nat.reduceMul, Nat.reduceSub, Nat.reduceEqDiff, ↓reduceIte, Nat.reduceLT, reduceCtorEq, Nat.reduceLeDiff, Int.reduceToNat, Int.reduceEq, Int.reduceLE, Int.reduceLT, Nat.reduceBEq]; done))) ?_
                      try simp (disch := assumption) only [go_sem, Nat.reduceAdd, Nat.reduceMul, Nat.reduceSub, Nat.reduceEqDiff, ↓reduceIte, Nat.reduceLT, reduceCtorEq, Nat.reduceLeDiff, Int.reduceToNat, Int.reduceEq, Int.reduceLE, Int.reduceLT, Nat.reduceBEq]
                      refine Sp_splitC ((!c43)) (by first | rfl | (simp only [beq_iff_eq]; done) | simp) (fun hc23 => ?_) (fun hc23 => ?_)
                      · rw [if_pos hc23] at hs3
                        try simp (disch := assumption) only [go_sem, Nat.reduceAdd, Nat.reduceMul, Nat.reduceSub, Nat.reduceEqDiff, ↓reduceIte, Nat.reduceLT, reduceCtorEq, Nat.reduceLeDiff, Int.reduceToNat, Int.reduceEq, Int.reduceLE, Int.reduceLT, Nat.reduceBEq]
                        cases hs3
                        cases hk3
                        try dsimp only at h
                        try simp (disch := assumption) only [go_sem, Nat.reduceAdd, Nat.reduceMul, Nat.reduceSub, Nat.reduceEqDiff, ↓reduceIte, Nat.reduceLT, reduceCtorEq, Nat.reduceLeDiff, Int.reduceToNat, Int.reduceEq, Int.reduceLE, Int.reduceLT, Nat.reduceBEq]
                        have he := Option.some.inj h
                        subst he
                        refine ends_weak ⟨[(2, (.lf false (.sc (.bool false))))], [], 0, 120⟩ (weak_of (m := 0) [] rfl rfl rfl (by simp [injR]) ?_ ?_) ?_
                        all_goals ((try simp (disch := assumption) only [go_sem, Nat.reduceAdd, Nat.reduceMul, Nat.reduceSub, Nat.reduceEqDiff, ↓reduceIte, Nat.reduceLT, reduceCtorEq, Nat.reduceLeDiff, Int.reduceToNat, Int.reduceEq, Int.reduceLE, Int.reduceLT, Nat.reduceBEq]); (repeat' first | done | rfl | omega | refine And.intro ?_ ?_ | (simp; done) | (simp; omega)))
                      · rw [if_neg (nt hc23)] at hs3
                        try simp (disch := assumption) only [go_sem, Nat.reduceAdd, Nat.reduceMul, Nat.reduceSub, Nat.reduceEqDiff, ↓reduceIte, Nat.reduceLT, reduceCtorEq, Nat.reduceLeDiff, Int.reduceToNat, Int.reduceEq, Int.reduceLE, Int.reduceLT, Nat.reduceBEq]
                        refine Sp_splitC ((decide (((nth a0.Line g39.t72.toNat).No) ≥ (wI (a0.Base + a0.Window))))) (by first | rfl | (simp only [beq_iff_eq]; done) | simp) (fun hc24 => ?_) (fun hc24 => ?_)
                        · rw [if_pos hc24] at hs3
                          try simp (disch := assumption) only [go_sem, Nat.reduceAdd, Nat.reduceMul, Nat.reduceSub, Nat.reduceEqDiff, ↓reduceIte, Nat.reduceLT, reduceCtorEq, Nat.reduceLeDiff, Int.reduceToNat, Int.reduceEq, Int.reduceLE, Int.reduceLT, Nat.reduceBEq]
                          cases hs3
                          cases hk3
                          try dsimp only at h
                          try simp (disch := assumption) only [go_sem, Nat.reduceAdd, Nat.reduceMul, Nat.reduceSub, Nat.reduceEqDiff, ↓reduceIte, Nat.reduceLT, reduceCtorEq, Nat.reduceLeDiff, Int.reduceToNat, Int.reduceEq, Int.reduceLE, Int.reduceLT, Nat.reduceBEq]
                          have he := Option.some.inj h
                          subst he
                          refine ends_weak ⟨[(2, (.lf false (.sc (.bool false))))], [], 0, 120⟩ (weak_of (m := 0) [] rfl rfl rfl (by simp [injR]) ?_ ?_) ?_
                          all_goals ((try simp (disch := assumption) only [go_sem, Nat.reduceAdd, Nat.reduceMul, Nat.reduceSub, Nat.reduceEqDiff, ↓reduceIte, Nat.reduceLT, reduceCtorEq, Nat.reduceLeDiff, Int.reduceToNat, Int.reduceEq, Int.reduceLE, Int.reduceLT, Nat.reduceBEq]); (repeat' first | done | rfl | omega | refine And.intro ?_ ?_ | (simp; done) | (simp; omega)))
                        · rw [if_neg (nt hc24)] at hs3
                          try simp (disch := assumption) only [go_sem, Nat.reduceAdd, Nat.reduceMul, Nat.reduceSub, Nat.reduceEqDiff, ↓reduceIte, Nat.reduceLT, reduceCtorEq, Nat.reduceLeDiff, Int.reduceToNat, Int.reduceEq, Int.reduceLE, Int.reduceLT, Nat.reduceBEq]
                          obtain ⟨hp25, hs3⟩ := guard_some hs3
                          have hn25 : ((nth a0.Line g39.t72.toNat).No).toNat < a0.Sent.length := by first | omega | (simp only [List.length_set, List.length_append, List.length_replicate, List.length_map]; omega)
                          try simp (disch := assumption) only [go_sem, Nat.reduceAdd, Nat.reduceMul, Nat.reduceSub, Nat.reduceEqDiff, ↓reduceIte, Nat.reduceLT, reduceCtorEq, Nat.reduceLeDiff, Int.reduceToNat, Int.reduceEq, Int.reduceLE, Int.reduceLT, Nat.reduceBEq]
                          first | refine And.intro (by first | omega | exact ⟨by omega, fun _ => mapLen fun _ => rfl⟩ | (refine ⟨by omega, ?_, by omega⟩; first | exact mapLen fun _ => rfl | simp) | (refine ⟨?_, by omega⟩; first | exact mapLen fun _ => rfl | simp)) ?_ | skip
                          refine Bs_splitC ((!(((nth a0.Line g39.t72.toNat).Text).toList == (nth a0.Sent (((nth a0.Line g39.t72.toNat).No).toNat)).toList))) (by first | rfl | (simp only [beq_iff_eq]; done) | simp) (fun hc26 => ?_) (fun hc26 => ?_)
                          · rw [if_pos hc26] at hs3
                            try simp (disch := assumption) only [go_sem, Nat.reduceAdd, Nat.reduceMul, Nat.reduceSub, Nat.reduceEqDiff, ↓reduceIte, Nat.reduceLT, reduceCtorEq, Nat.reduceLeDiff, Int.reduceToNat, Int.reduceEq, Int.reduceLE, Int.reduceLT, Nat.reduceBEq]
                            cases hs3
                            cases hk3
                            try dsimp only at h
                            try simp (disch := assumption) only [go_sem, Nat.reduceAdd, Nat.reduceMul, Nat.reduceSub, Nat.reduceEqDiff, ↓reduceIte, Nat.reduceLT, reduceCtorEq, Nat.reduceLeDiff, Int.reduceToNat, Int.reduceEq, Int.reduceLE, Int.reduceLT, Nat.reduceBEq]
                            have he := Option.some.inj h
                            subst he
                            refine ends_weak ⟨[(2, (.lf false (.sc (.bool false))))], [], 0, 120⟩ (weak_of (m := 0) [] rfl rfl rfl (by simp [injR]) ?_ ?_) ?_
                            all_goals ((try simp (disch := assumption) only [go_sem, Nat.reduceAdd, Nat.reduceMul, Nat.reduceSub, Nat.reduceEqDiff, ↓reduceIte, Nat.reduceLT, reduceCtorEq, Nat.reduceLeDiff, Int.reduceToNat, Int.reduceEq, Int.reduceLE, Int.reduceLT, Nat.reduceBEq]); (repeat' first | done | rfl | omega | refine And.intro ?_ ?_ | (simp; done) | (simp; omega)))
                          · rw [if_neg (nt hc26)] at hs3
                            try simp (disch := assumption) only [go_sem, Nat.reduceAdd, Nat.reduceMul, Nat.reduceSub, Nat.reduceEqDiff, ↓reduceIte, Nat.reduceLT, reduceCtorEq, Nat.reduceLeDiff, Int.reduceToNat, Int.reduceEq, Int.reduceLE, Int.reduceLT, Nat.reduceBEq]
                            cases hs3
                            refine X_backP hk3 ?_
                            refine weak_of (m := 0) [some 0] rfl rfl rfl (by simp [injR]) ?_ ?_
                            all_goals ((try simp (disch := assumption) only [go_sem, Nat.reduceAdd, Nat.reduceMul, Nat.reduceSub, Nat.reduceEqDiff, ↓reduceIte, Nat.reduceLT, reduceCtorEq, Nat.reduceLeDiff, Int.reduceToNat, Int.reduceEq, Int.reduceLE, Int.reduceLT, Nat.reduceBEq]); (repeat' first | done | rfl | omega | refine And.intro ?_ ?_ | (simp; done) | (simp; omega)))
                  · rw [if_neg (nt hc16)] at hs3
                    try simp (disch := assumption) only [go_sem, Nat.reduceAdd, Nat.reduceMul, Nat.reduceSub, Nat.reduceEqDiff, ↓reduceIte, Nat.reduceLT, reduceCtorEq, Nat.reduceLeDiff, Int.reduceToNat, Int.reduceEq, Int.reduceLE, Int.reduceLT, Nat.reduceBEq]
                    cases hs3
                    cases hk3
                    try dsimp only at h
                    try simp (disch := assumption) only [go_sem, Nat.reduceAdd, Nat.reduceMul, Nat.reduceSub, Nat.reduceEqDiff, ↓reduceIte, Nat.reduceLT, reduceCtorEq, Nat.reduceLeDiff, Int.reduceToNat, Int.reduceEq, Int.reduceLE, Int.reduceLT, Nat.reduceBEq]
                    have he := Option.some.inj h
                    subst he
                    refine ends_weak ⟨[(2, (.lf false (.sc (.bool true))))], [], 0, 120⟩ (weak_of (m := 0) [] rfl rfl rfl (by simp [injR]) ?_ ?_) ?_
                    all_goals ((try simp (disch := assumption) only [go_sem, Nat.reduceAdd, Nat.reduceMul, Nat.reduceSub, Nat.reduceEqDiff, ↓reduceIte, Nat.reduceLT, reduceCtorEq, Nat.reduceLeDiff, Int.reduceToNat, Int.reduceEq, Int.reduceLE, Int.reduceLT, Nat.reduceBEq]); (repeat' first | done | rfl | omega | refine And.intro ?_ ?_ | (simp; done) | (simp; omega)))
                all_goals ((try simp (disch := assumption) only [go_sem, Nat.reduceAdd, Nat.reduceMul, Nat.reduceSub, Nat.reduceEqDiff, ↓reduceIte, Nat.reduceLT, reduceCtorEq, Nat.reduceLeDiff, Int.reduceToNat, Int.reduceEq, Int.reduceLE, Int.reduceLT, Nat.reduceBEq]); (repeat' first | done | rfl | omega | refine And.intro ?_ ?_ | (simp; done) | (simp; omega)))
            all_goals ((try simp (disch := assumption) only [go_sem, Nat.reduceAdd, Nat.reduceMul, Nat.reduceSub, Nat.reduceEqDiff, ↓reduceIte, Nat.reduceLT, reduceCtorEq, Nat.reduceLeDiff, Int.reduceToNat, Int.reduceEq, Int.reduceLE, Int.reduceLT, Nat.reduceBEq]); (repeat' first | done | rfl | omega | refine And.intro ?_ ?_ | (simp; done) | (simp; omega)))
theorem w_spec_WaitingIn {a0 : QueueT} {r : (Int × Bool)} (h : spec_WaitingIn a0 = some r) : Fn Try.prog 56 [(.ag [(.lf false (.sc (.int .i64 a0.Window))), (.lf true (.sl (a0.Sent.map eS))), (.lf false (.sc (.int .i64 a0.Base))), (.lf true (.sl (a0.Got.map eS))), (.lf true (.sl (a0.Line.map ePacket)))])] [] 0 (.tu [(.lf false (.sc (.int .i64 r.1))), (.lf false (.sc (.bool r.2)))]) [] 0 := by
  unfold spec_WaitingIn at h
  refine fn_code tab_ok mixed [(1000, [(1, 0)]), (1001, [(1, 0), (6, 0)]), (1002, [(2, 0), (3, 0)]), (1003, [(2, 0), (3, 0)])] Try.func56 rfl rfl (by simp [Try.f56]) (by kernel_rfl) ?_
  simp only [Try.f56]
  simp (disch := assumption) only [go_sem, Nat.reduceAdd, Nat.reduceMul, Nat.reduceSub, Nat.reduceEqDiff, ↓reduceIte, Nat.reduceLT, reduceCtorEq, Nat.reduceLeDiff, Int.reduceToNat, Int.reduceEq, Int.reduceLE, Int.reduceLT, Nat.reduceBEq]
  obtain ⟨c47, hr1, h⟩ := bind_ok h
  refine Cl_shown (w_spec_GoodQueue hr1) (by first | rfl | (simp (disch := assumption) only [go_sem, Nat.reduceAdd, Nat.reduceMul, Nat.reduceSub, Nat.reduceEqDiff, ↓reduceIte, Nat.reduceLT, reduceCtorEq, Nat.reduceLeDiff, Int.reduceToNat, Int.reduceEq, Int.reduceLE, Int.reduceLT, Nat.reduceBEq]; first | done | rfl)) (FitAll.refl _) (.inl (by first | rfl | (simp (disch := assumption) only [go_sem, Nat.reduceAdd, Nat.reduceMul, Nat.reduceSub, Nat.reduceEqDiff, ↓reduceIte, Nat.reduceLT, reduceCtorEq, Nat.reduceLeDiff, Int.reduceToNat, Int.reduceEq, Int.reduceLE, Int.reduceLT, Nat.reduceBEq]; done))) ?_
  try simp (disch := assumption) only [go_sem, Nat.reduceAdd, Nat.reduceMul, Nat.reduceSub, Nat.reduceEqDiff, ↓reduceIte, Nat.reduceLT, reduceCtorEq, Nat.reduceLeDiff, Int.reduceToNat, Int.reduceEq, Int.reduceLE, Int.reduceLT, Nat.reduceBEq]
  refine Bs_splitC ((!c47)) (by first | rfl | (simp only [beq_iff_eq]; done) | simp) (fun hc2 => ?_) (fun hc2 => ?_)
  · rw [if_pos hc2] at h
    try simp (disch := assumption) only [go_sem, Nat.reduceAdd, Nat.reduceMul, Nat.reduceSub, Nat.reduceEqDiff, ↓reduceIte, Nat.reduceLT, reduceCtorEq, Nat.reduceLeDiff, Int.reduceToNat, Int.reduceEq, Int.reduceLE, Int.reduceLT, Nat.reduceBEq]
    have he := Option.some.inj h
    subst he
    refine ends_weak ⟨[(2, (.lf false (.sc (.int .i64 0)))), (3, (.lf false (.sc (.bool false))))], [], 0, 14⟩ (weak_of (m := 0) [] rfl rfl rfl (by simp [injR]) ?_ ?_) ?_
    all_goals ((try simp (disch := assumption) only [go_sem, Nat.reduceAdd, Nat.reduceMul, Nat.reduceSub, Nat.reduceEqDiff, ↓reduceIte, Nat.reduceLT, reduceCtorEq, Nat.reduceLeDiff, Int.reduceToNat, Int.reduceEq, Int.reduceLE, Int.reduceLT, Nat.reduceBEq]); (repeat' first | done | rfl | omega | refine And.intro ?_ ?_ | (simp; done) | (simp; omega)))
  · rw [if_neg (nt hc2)] at h
    try simp (disch := assumption) only [go_sem, Nat.reduceAdd, Nat.reduceMul, Nat.reduceSub, Nat.reduceEqDiff, ↓reduceIte, Nat.reduceLT, reduceCtorEq, Nat.reduceLeDiff, Int.reduceToNat, Int.reduceEq, Int.reduceLE, Int.reduceLT, Nat.reduceBEq]
    have he := Option.some.inj h
    subst he
    refine ends_weak ⟨[(2, (.lf false (.sc (.int .i64 (wI (((a0.Sent.length : Nat) : Int) - ((a0.Got.length : Nat) : Int))))))), (3, (.lf false (.sc (.bool true))))], [], 0, 14⟩ (weak_of (m := 0) [] rfl rfl rfl (by simp [injR]) ?_ ?_) ?_
    all_goals ((try simp (disch := assumption) only [go_sem, Nat.reduceAdd, Nat.reduceMul, Nat.reduceSub, Nat.reduceEqDiff, ↓reduceIte, Nat.reduceLT, reduceCtorEq, Nat.reduceLeDiff, Int.reduceToNat, Int.reduceEq, Int.reduceLE, Int.reduceLT, Nat.reduceBEq]); (repeat' first | done | rfl | omega | refine And.intro ?_ ?_ | (simp; done) | (simp; omega)))
theorem w_impl_in {a0 : Int} {a1 : Int} {a2 : Int} {r : Bool} (h : impl_in a0 a1 a2 = some r) : Fn Try.prog 75 [(.lf false (.sc (.int .i64 a0))), (.lf false (.sc (.int .i64 a1))), (.lf false (.sc (.int .i64 a2)))] [] 0 (.lf false (.sc (.bool r))) [] 0 := by
  unfold impl_in at h
  refine fn_code tab_ok mixed [] Try.func75 rfl rfl (by simp [Try.f75]) (by kernel_rfl) ?_
  simp only [Try.f75]
  simp (disch := assumption) only [go_sem, Nat.reduceAdd, Nat.reduceMul, Nat.reduceSub, Nat.reduceEqDiff, ↓reduceIte, Nat.reduceLT, reduceCtorEq, Nat.reduceLeDiff, Int.reduceToNat, Int.reduceEq, Int.reduceLE, Int.reduceLT, Nat.reduceBEq]
  refine Sp_splitC ((decide (a0 ≥ a1))) (by first | rfl | (simp only [beq_iff_eq]; done) | simp) (fun hc1 => ?_) (fun hc1 => ?_)
  · rw [if_pos hc1] at h
    try simp (disch := assumption) only [go_sem, Nat.reduceAdd, Nat.reduceMul, Nat.reduceSub, Nat.reduceEqDiff, ↓reduceIte, Nat.reduceLT, reduceCtorEq, Nat.reduceLeDiff, Int.reduceToNat, Int.reduceEq, Int.reduceLE, Int.reduceLT, Nat.reduceBEq]
    have he := Option.some.inj h
    subst he
    refine ends_weak ⟨[(6, (.lf false (.sc (.bool (decide (a0 ≤ a2))))))], [], 0, 15⟩ (weak_of (m := 0) [] rfl rfl rfl (by simp [injR]) ?_ ?_) ?_
    all_goals ((try simp (disch := assumption) only [go_sem, Nat.reduceAdd, Nat.reduceMul, Nat.reduceSub, Nat.reduceEqDiff, ↓reduceIte, Nat.reduceLT, reduceCtorEq, Nat.reduceLeDiff, Int.reduceToNat, Int.reduceEq, Int.reduceLE, Int.reduceLT, Nat.reduceBEq]); (repeat' first | done | rfl | omega | refine And.intro ?_ ?_ | (simp; done) | (simp; omega)))
  · rw [if_neg (nt hc1)] at h
    try simp (disch := assumption) only [go_sem, Nat.reduceAdd, Nat.reduceMul, Nat.reduceSub, Nat.reduceEqDiff, ↓reduceIte, Nat.reduceLT, reduceCtorEq, Nat.reduceLeDiff, Int.reduceToNat, Int.reduceEq, Int.reduceLE, Int.reduceLT, Nat.reduceBEq]
    have he := Option.some.inj h
    subst he
    refine ends_weak ⟨[(6, (.lf false (.sc (.bool false))))], [], 0, 15⟩ (weak_of (m := 0) [] rfl rfl rfl (by simp [injR]) ?_ ?_) ?_
    all_goals ((try simp (disch := assumption) only [go_sem, Nat.reduceAdd, Nat.reduceMul, Nat.reduceSub, Nat.reduceEqDiff, ↓reduceIte, Nat.reduceLT, reduceCtorEq, Nat.reduceLeDiff, Int.reduceToNat, Int.reduceEq, Int.reduceLE, Int.reduceLT, Nat.reduceBEq]); (repeat' first | done | rfl | omega | refine And.intro ?_ ?_ | (simp; done) | (simp; omega)))
theorem w_impl_GoodQueue_c1 {a0 : ByteArray} {r : Bool} (h : impl_GoodQueue_c1 a0 = some r) : Fn Try.prog 93 [(.lf false (.sc (.string a0)))] [] 0 (.lf false (.sc (.bool r))) [] 0 := by
  unfold impl_GoodQueue_c1 at h
  refine fn_code tab_ok mixed [] Try.func93 rfl rfl (by simp [Try.f93]) (by kernel_rfl) ?_
  simp only [Try.f93]
  simp (disch := assumption) only [go_sem, Nat.reduceAdd, Nat.reduceMul, Nat.reduceSub, Nat.reduceEqDiff, ↓reduceIte, Nat.reduceLT, reduceCtorEq, Nat.reduceLeDiff, Int.reduceToNat, Int.reduceEq, Int.reduceLE, Int.reduceLT, Nat.reduceBEq]
  have he := Option.some.inj h
  subst he
  refine ends_weak ⟨[(2, (.lf false (.sc (.bool (decide ((a0.size : Int) > 12))))))], [], 0, 6⟩ (weak_of (m := 0) [] rfl rfl rfl (by simp [injR]) ?_ ?_) ?_
  all_goals ((try simp (disch := assumption) only [go_sem, Nat.reduceAdd, Nat.reduceMul, Nat.reduceSub, Nat.reduceEqDiff, ↓reduceIte, Nat.reduceLT, reduceCtorEq, Nat.reduceLeDiff, Int.reduceToNat, Int.reduceEq, Int.reduceLE, Int.reduceLT, Nat.reduceBEq]); (repeat' first | done | rfl | omega | refine And.intro ?_ ?_ | (simp; done) | (simp; omega)))
theorem w_slices_IndexFunc_string_impl_GoodQueue_c1 {a0 : (List ByteArray)} {r : Int} (h : slices_IndexFunc_string_impl_GoodQueue_c1 a0 = some r) : Fn Try.prog 116 [(.lf true (.sl (a0.map eS))), (.fn 93 [])] [] 0 (.lf false (.sc (.int .i64 r))) [] 0 := by
  unfold slices_IndexFunc_string_impl_GoodQueue_c1 at h
  refine fn_code tab_ok mixed [(1000, [(0, 0), (1, 0)]), (1001, [(0, 0), (1, 0), (7, 0), (8, 0)]), (1002, [(0, 0), (1, 0), (7, 0), (8, 0), (9, 0)]), (1003, [(0, 0), (1, 0), (5, 0), (7, 0), (8, 0)]), (1004, [(0, 0), (1, 0), (5, 0), (7, 0), (8, 0), (16, 0)]), (1005, [(4, 0)]), (1006, [(0, 0), (1, 0), (7, 0), (8, 0)]), (1007, [(4, 0)])] Try.func116 rfl rfl (by simp [Try.f116]) (by kernel_rfl) ?_
  simp only [Try.f116]
  simp (disch := assumption) only [go_sem, Nat.reduceAdd, Nat.reduceMul, Nat.reduceSub, Nat.reduceEqDiff, ↓reduceIte, Nat.reduceLT, reduceCtorEq, Nat.reduceLeDiff, Int.reduceToNat, Int.reduceEq, Int.reduceLE, Int.reduceLT, Nat.reduceBEq]
  obtain ⟨y54, hl1, h⟩ := bind_ok h
  refine W_loopP (fun g51 : slices_IndexFunc_string_impl_GoodQueue_c1_G1 => ⟨[(0, (.lf true (.sl (a0.map eS)))), (1, (.fn 93 [])), (7, (.lf false (.sc (.int .i64 ((a0.length : Nat) : Int))))), (8, (.lf false (.sc (.int .i64 g51.t8))))], [], 0, 19⟩) (slices_IndexFunc_string_impl_GoodQueue_c1_L1 a0) _ _ hl1 (weak_of (m := 0) [] rfl rfl rfl (by simp [injR]) ?_ ?_) ?_
  rotate_left 2
  · intro n1 g51 z1 hs1 hk1
    unfold slices_IndexFunc_string_impl_GoodQueue_c1_L1 at hs1
    try dsimp only at hs1
    simp (disch := assumption) only [go_sem, Nat.reduceAdd, Nat.reduceMul, Nat.reduceSub, Nat.reduceEqDiff, ↓reduceIte, Nat.reduceLT, reduceCtorEq, Nat.reduceLeDiff, Int.reduceToNat, Int.reduceEq, Int.reduceLE, Int.reduceLT, Nat.reduceBEq]
    refine Bs_splitC ((decide (g51.t8 < ((a0.length : Nat) : Int)))) (by first | rfl | (simp only [beq_iff_eq]; done) | simp) (fun hc2 => ?_) (fun hc2 => ?_)
    · rw [if_pos hc2] at hs1
      try simp (disch := assumption) only [go_sem, Nat.reduceAdd, Nat.reduceMul, Nat.reduceSub, Nat.reduceEqDiff, ↓reduceIte, Nat.reduceLT, reduceCtorEq, Nat.reduceLeDiff, Int.reduceToNat, Int.reduceEq, Int.reduceLE, Int.reduceLT, Nat.reduceBEq]
      obtain ⟨hp3, hs1⟩ := guard_some hs1
      have hn3 : g51.t8.toNat < a0.length := by first | omega | (simp only [List.length_set, List.length_append, List.length_replicate, List.length_map]; omega)
      try simp (disch := assumption) only [go_sem, Nat.reduceAdd, Nat.reduceMul, Nat.reduceSub, Nat.reduceEqDiff, ↓reduceIte, Nat.reduceLT, reduceCtorEq, Nat.reduceLeDiff, Int.reduceToNat, Int.reduceEq, Int.reduceLE, Int.reduceLT, Nat.reduceBEq]
      first | refine And.intro (by first | omega | exact ⟨by omega, fun _ => mapLen fun _ => rfl⟩ | (refine ⟨by omega, ?_, by omega⟩; first | exact mapLen fun _ => rfl | simp) | (refine ⟨?_, by omega⟩; first | exact mapLen fun _ => rfl | simp)) ?_ | skip
      obtain ⟨c53, hr4, hs1⟩ := bind_ok hs1
      refine Cl_shown (w_impl_GoodQueue_c1 hr4) (by first | rfl | (simp (disch := assumption) only [go_sem, Nat.reduceAdd, Nat.reduceMul, Nat.reduceSub, Nat.reduceEqDiff, ↓reduceIte, Nat.reduceLT, reduceCtorEq, Nat.reduceLeDiff, Int.reduceToNat, Int.reduceEq, Int.reduceLE, Int.reduceLT, Nat.reduceBEq]; first | done | rfl)) (FitAll.refl _) (.inl (by first | rfl | (simp (disch := assumption) only [go_sem, Nat.reduceAdd, Nat.reduceMul, Nat.reduceSub, Nat.reduceEqDiff, ↓reduceIte, Nat.reduceLT, reduceCtorEq, Nat.reduceLeDiff, Int.reduceToNat, Int.reduceEq, Int.reduceLE, Int.reduceLT, Nat.reduceBEq]; done))) ?_
      try simp (disch := assumption) only [go_sem, Nat.reduceAdd, Nat.reduceMul, Nat.reduceSub, Nat.reduceEqDiff, ↓reduceIte, Nat.reduceLT, reduceCtorEq, Nat.reduceLeDiff, Int.reduceToNat, Int.reduceEq, Int.reduceLE, Int.reduceLT, Nat.reduceBEq]
      refine Bs_splitC (c53) (by first | rfl | (simp only [beq_iff_eq]; done) | simp) (fun hc5 => ?_) (fun hc5 => ?_)
      · rw [if_pos hc5] at hs1
        try simp (disch := assumption) only [go_sem, Nat.reduceAdd, Nat.reduceMul, Nat.reduceSub, Nat.reduceEqDiff, ↓reduceIte, Nat.reduceLT, reduceCtorEq, Nat.reduceLeDiff, Int.reduceToNat, Int.reduceEq, Int.reduceLE, Int.reduceLT, Nat.reduceBEq]
        cases hs1
        cases hk1
        try dsimp only at h
        try simp (disch := assumption) only [go_sem, Nat.reduceAdd, Nat.reduceMul, Nat.reduceSub, Nat.reduceEqDiff, ↓reduceIte, Nat.reduceLT, reduceCtorEq, Nat.reduceLeDiff, Int.reduceToNat, Int.reduceEq, Int.reduceLE, Int.reduceLT, Nat.reduceBEq]
        have he := Option.some.inj h
        subst he
        refine ends_weak ⟨[(4, (.lf false (.sc (.int .i64 g51.t8))))], [], 0, 19⟩ (weak_of (m := 0) [] rfl rfl rfl (by simp [injR]) ?_ ?_) ?_
        all_goals ((try simp (disch := assumption) only [go_sem, Nat.reduceAdd, Nat.reduceMul, Nat.reduceSub, Nat.reduceEqDiff, ↓reduceIte, Nat.reduceLT, reduceCtorEq, Nat.reduceLeDiff, Int.reduceToNat, Int.reduceEq, Int.reduceLE, Int.reduceLT, Nat.reduceBEq]); (repeat' first | done | rfl | omega | refine And.intro ?_ ?_ | (simp; done) | (simp; omega)))
      · rw [if_neg (nt hc5)] at hs1
        try simp (disch := assumption) only [go_sem, Nat.reduceAdd, Nat.reduceMul, Nat.reduceSub, Nat.reduceEqDiff, ↓reduceIte, Nat.reduceLT, reduceCtorEq, Nat.reduceLeDiff, Int.reduceToNat, Int.reduceEq, Int.reduceLE, Int.reduceLT, Nat.reduceBEq]
        cases hs1
        refine X_backP hk1 ?_
        refine weak_of (m := 0) [] rfl rfl rfl (by simp [injR]) ?_ ?_
        all_goals ((try simp (disch := assumption) only [go_sem, Nat.reduceAdd, Nat.reduceMul, Nat.reduceSub, Nat.reduceEqDiff, ↓reduceIte, Nat.reduceLT, reduceCtorEq, Nat.reduceLeDiff, Int.reduceToNat, Int.reduceEq, Int.reduceLE, Int.reduceLT, Nat.reduceBEq]); (repeat' first | done | rfl | omega | refine And.intro ?_ ?_ | (simp; done) | (simp; omega)))
    · rw [if_neg (nt hc2)] at hs1
      try simp (disch := assumption) only [go_sem, Nat.reduceAdd, Nat.reduceMul, Nat.reduceSub, Nat.reduceEqDiff, ↓reduceIte, Nat.reduceLT, reduceCtorEq, Nat.reduceLeDiff, Int.reduceToNat, Int.reduceEq, Int.reduceLE, Int.reduceLT, Nat.reduceBEq]
      cases hs1
      cases hk1
      try dsimp only at h
      try simp (disch := assumption) only [go_sem, Nat.reduceAdd, Nat.reduceMul, Nat.reduceSub, Nat.reduceEqDiff, ↓reduceIte, Nat.reduceLT, reduceCtorEq, Nat.reduceLeDiff, Int.reduceToNat, Int.reduceEq, Int.reduceLE, Int.reduceLT, Nat.reduceBEq]
      have he := Option.some.inj h
      subst he
      refine ends_weak ⟨[(4, (.lf false (.sc (.int .i64 (-1)))))], [], 0, 19⟩ (weak_of (m := 0) [] rfl rfl rfl (by simp [injR]) ?_ ?_) ?_
      all_goals ((try simp (disch := assumption) only [go_sem, Nat.reduceAdd, Nat.reduceMul, Nat.reduceSub, Nat.reduceEqDiff, ↓reduceIte, Nat.reduceLT, reduceCtorEq, Nat.reduceLeDiff, Int.reduceToNat, Int.reduceEq, Int.reduceLE, Int.reduceLT, Nat.reduceBEq]); (repeat' first | done | rfl | omega | refine And.intro ?_ ?_ | (simp; done) | (simp; omega)))
  all_goals ((try simp (disch := assumption) only [go_sem, Nat.reduceAdd, Nat.reduceMul, Nat.reduceSub, Nat.reduceEqDiff, ↓reduceIte, Nat.reduceLT, reduceCtorEq, Nat.reduceLeDiff, Int.reduceToNat, Int.reduceEq, Int.reduceLE, Int.reduceLT, Nat.reduceBEq]); (repeat' first | done | rfl | omega | refine And.intro ?_ ?_ | (simp; done) | (simp; omega)))
theorem w_slices_ContainsFunc_string_impl_GoodQueue_c1 {a0 : (List ByteArray)} {r : Bool} (h : slices_ContainsFunc_string_impl_GoodQueue_c1 a0 = some r) : Fn Try.prog 92 [(.lf true (.sl (a0.map eS))), (.fn 93 [])] [] 0 (.lf false (.sc (.bool r))) [] 0 := by
  unfold slices_ContainsFunc_string_impl_GoodQueue_c1 at h
  refine fn_code tab_ok mixed [] Try.func92 rfl rfl (by simp [Try.f92]) (by kernel_rfl) ?_
  simp only [Try.f92]
  simp (disch := assumption) only [go_sem, Nat.reduceAdd, Nat.reduceMul, Nat.reduceSub, Nat.reduceEqDiff, ↓reduceIte, Nat.reduceLT, reduceCtorEq, Nat.reduceLeDiff, Int.reduceToNat, Int.reduceEq, Int.reduceLE, Int.reduceLT, Nat.reduceBEq]
  obtain ⟨c57, hr1, h⟩ := bind_ok h
  refine Cl_shown (w_slices_IndexFunc_string_impl_GoodQueue_c1 hr1) (by first | rfl | (simp (disch := assumption) only [go_sem, Nat.reduceAdd, Nat.reduceMul, Nat.reduceSub, Nat.reduceEqDiff, ↓reduceIte, Nat.reduceLT, reduceCtorEq, Nat.reduceLeDiff, Int.reduceToNat, Int.reduceEq, Int.reduceLE, Int.reduceLT, Nat.reduceBEq]; first | done | rfl)) (FitAll.refl _) (.inl (by first | rfl | (simp (disch := assumption) only [go_sem, Nat.reduceAdd, Nat.reduceMul, Nat.reduceSub, Nat.reduceEqDiff, ↓reduceIte, Nat.reduceLT, reduceCtorEq, Nat.reduceLeDiff, Int.reduceToNat, Int.reduceEq, Int.reduceLE, Int.reduceLT, Nat.reduceBEq]; done))) ?_
  try simp (disch := assumption) only [go_sem, Nat.reduceAdd, Nat.reduceMul, Nat.reduceSub, Nat.reduceEqDiff, ↓reduceIte, Nat.reduceLT, reduceCtorEq, Nat.reduceLeDiff, Int.reduceToNat, Int.reduceEq, Int.reduceLE, Int.reduceLT, Nat.reduceBEq]
  have he := Option.some.inj h
  subst he
  refine ends_weak ⟨[(4, (.lf false (.sc (.bool (decide (c57 ≥ 0))))))], [], 0, 9⟩ (weak_of (m := 0) [] rfl rfl rfl (by simp [injR]) ?_ ?_) ?_
  all_goals ((try simp (disch := assumption) only [go_sem, Nat.reduceAdd, Nat.reduceMul, Nat.reduceSub, Nat.reduceEqDiff, ↓reduceIte, Nat.reduceLT, reduceCtorEq, Nat.reduceLeDiff, Int.reduceToNat, Int.reduceEq, Int.reduceLE, Int.reduceLT, Nat.reduceBEq]); (repeat' first | done | rfl | omega | refine And.intro ?_ ?_ | (simp; done) | (simp; omega)))
theorem w_slices_Equal_string {a0 : (List ByteArray)} {a1 : (List ByteArray)} {r : Bool} (h : slices_Equal_string a0 a1 = some r) : Fn Try.prog 94 [(.lf true (.sl (a0.map eS))), (.lf true (.sl (a1.map eS)))] [] 0 (.lf false (.sc (.bool r))) [] 0 := by
  unfold slices_Equal_string at h
  refine fn_code tab_ok mixed [(1000, [(0, 0), (1, 0)]), (1001, [(0, 0), (1, 0), (10, 0)]), (1002, [(4, 0)]), (1003, [(0, 0), (1, 0), (12, 0), (13, 0)]), (1004, [(0, 0), (1, 0), (12, 0), (13, 0), (14, 0)]), (1005, [(0, 0), (1, 0), (5, 0), (12, 0), (13, 0)]), (1006, [(0, 0), (1, 0), (12, 0), (13, 0), (24, 0)]), (1007, [(4, 0)]), (1008, [(0, 0), (1, 0), (12, 0), (13, 0)]), (1009, [(4, 0)])] Try.func94 rfl rfl (by simp [Try.f94]) (by kernel_rfl) ?_
  simp only [Try.f94]
  simp (disch := assumption) only [go_sem, Nat.reduceAdd, Nat.reduceMul, Nat.reduceSub, Nat.reduceEqDiff, ↓reduceIte, Nat.reduceLT, reduceCtorEq, Nat.reduceLeDiff, Int.reduceToNat, Int.reduceEq, Int.reduceLE, Int.reduceLT, Nat.reduceBEq]
  refine Bs_splitC ((((a0.length : Nat) : Int) != ((a1.length : Nat) : Int))) (by first | rfl | (simp only [beq_iff_eq]; done) | simp) (fun hc1 => ?_) (fun hc1 => ?_)
  · rw [if_pos hc1] at h
    try simp (disch := assumption) only [go_sem, Nat.reduceAdd, Nat.reduceMul, Nat.reduceSub, Nat.reduceEqDiff, ↓reduceIte, Nat.reduceLT, reduceCtorEq, Nat.reduceLeDiff, Int.reduceToNat, Int.reduceEq, Int.reduceLE, Int.reduceLT, Nat.reduceBEq]
    have he := Option.some.inj h
    subst he
    refine ends_weak ⟨[(4, (.lf false (.sc (.bool false))))], [], 0, 26⟩ (weak_of (m := 0) [] rfl rfl rfl (by simp [injR]) ?_ ?_) ?_
    all_goals ((try simp (disch := assumption) only [go_sem, Nat.reduceAdd, Nat.reduceMul, Nat.reduceSub, Nat.reduceEqDiff, ↓reduceIte, Nat.reduceLT, reduceCtorEq, Nat.reduceLeDiff, Int.reduceToNat, Int.reduceEq, Int.reduceLE, Int.reduceLT, Nat.reduceBEq]); (repeat' first | done | rfl | omega | refine And.intro ?_ ?_ | (simp; done) | (simp; omega)))
  · rw [if_neg (nt hc1)] at h
    try simp (disch := assumption) only [go_sem, Nat.reduceAdd, Nat.reduceMul, Nat.reduceSub, Nat.reduceEqDiff, ↓reduceIte, Nat.reduceLT, reduceCtorEq, Nat.reduceLeDiff, Int.reduceToNat, Int.reduceEq, Int.reduceLE, Int.reduceLT, Nat.reduceBEq]
    obtain ⟨y60, hl2, h⟩ := bind_ok h
    refine W_loopP (fun g59 : slices_Equal_string_G1 => ⟨[(0, (.lf true (.sl (a0.map eS)))), (1, (.lf true (.sl (a1.map eS)))), (12, (.lf false (.sc (.int .i64 ((a0.length : Nat) : Int))))), (13, (.lf false (.sc (.int .i64 g59.t13))))], [], 0, 26⟩) (slices_Equal_string_L1 a0 a1) _ _ hl2 (weak_of (m := 0) [] rfl rfl rfl (by simp [injR]) ?_ ?_) ?_
    rotate_left 2
    · intro n1 g59 z1 hs1 hk1
      unfold slices_Equal_string_L1 at hs1
      try dsimp only at hs1
      simp (disch := assumption) only [go_sem, Nat.reduceAdd, Nat.reduceMul, Nat.reduceSub, Nat.reduceEqDiff, ↓reduceIte, Nat.reduceLT, reduceCtorEq, Nat.reduceLeDiff, Int.reduceToNat, Int.reduceEq, Int.reduceLE, Int.reduceLT, Nat.reduceBEq]
      refine Bs_splitC ((decide (g59.t13 < ((a0.length : Nat) : Int)))) (by first | rfl | (simp only [beq_iff_eq]; done) | simp) (fun hc3 => ?_) (fun hc3 => ?_)
      · rw [if_pos hc3] at hs1
        try simp (disch := assumption) only [go_sem, Nat.reduceAdd, Nat.reduceMul, Nat.reduceSub, Nat.reduceEqDiff, ↓reduceIte, Nat.reduceLT, reduceCtorEq, Nat.reduceLeDiff, Int.reduceToNat, Int.reduceEq, Int.reduceLE, Int.reduceLT, Nat.reduceBEq]
        obtain ⟨hp4, hs1⟩ := guard_some hs1
        have hn4 : g59.t13.toNat < a0.length := by first | omega | (simp only [List.length_set, List.length_append, List.length_replicate, List.length_map]; omega)
        try simp (disch := assumption) only [go_sem, Nat.reduceAdd, Nat.reduceMul, Nat.reduceSub, Nat.reduceEqDiff, ↓reduceIte, Nat.reduceLT, reduceCtorEq, Nat.reduceLeDiff, Int.reduceToNat, Int.reduceEq, Int.reduceLE, Int.reduceLT, Nat.reduceBEq]
        first | refine And.intro (by first | omega | exact ⟨by omega, fun _ => mapLen fun _ => rfl⟩ | (refine ⟨by omega, ?_, by omega⟩; first | exact mapLen fun _ => rfl | simp) | (refine ⟨?_, by omega⟩; first | exact mapLen fun _ => rfl | simp)) ?_ | skip
        obtain ⟨hp5, hs1⟩ := guard_some hs1
        have hn5 : g59.t13.toNat < a1.length := by first | omega | (simp only [List.length_set, List.length_append, List.length_replicate, List.length_map]; omega)
        try simp (disch := assumption) only [go_sem, Nat.reduceAdd, Nat.reduceMul, Nat.reduceSub, Nat.reduceEqDiff, ↓reduceIte, Nat.reduceLT, reduceCtorEq, Nat.reduceLeDiff, Int.reduceToNat, Int.reduceEq, Int.reduceLE, Int.reduceLT, Nat.reduceBEq]
        first | refine And.intro (by first | omega | exact ⟨by omega, fun _ => mapLen fun _ => rfl⟩ | (refine ⟨by omega, ?_, by omega⟩; first | exact mapLen fun _ => rfl | simp) | (refine ⟨?_, by omega⟩; first | exact mapLen fun _ => rfl | simp)) ?_ | skip
        refine Bs_splitC ((!((nth a0 g59.t13.toNat).toList == (nth a1 g59.t13.toNat).toList))) (by first | rfl | (simp only [beq_iff_eq]; done) | simp) (fun hc6 => ?_) (fun hc6 => ?_)
        · rw [if_pos hc6] at hs1
          try simp (disch := assumption) only [go_sem, Nat.reduceAdd, Nat.reduceMul, Nat.reduceSub, Nat.reduceEqDiff, ↓reduceIte, Nat.reduceLT, reduceCtorEq, Nat.reduceLeDiff, Int.reduceToNat, Int.reduceEq, Int.reduceLE, Int.reduceLT, Nat.reduceBEq]
          cases hs1
          cases hk1
          try dsimp only at h
          try simp (disch := assumption) only [go_sem, Nat.reduceAdd, Nat.reduceMul, Nat.reduceSub, Nat.reduceEqDiff, ↓reduceIte, Nat.reduceLT, reduceCtorEq, Nat.reduceLeDiff, Int.reduceToNat, Int.reduceEq, Int.reduceLE, Int.reduceLT, Nat.reduceBEq]
          have he := Option.some.inj h
          subst he
          refine ends_weak ⟨[(4, (.lf false (.sc (.bool false))))], [], 0, 26⟩ (weak_of (m := 0) [] rfl rfl rfl (by simp [injR]) ?_ ?_) ?_
          all_goals ((try simp (disch := assumption) only [go_sem, Nat.reduceAdd, Nat.reduceMul, Nat.reduceSub, Nat.reduceEqDiff, ↓reduceIte, Nat.reduceLT, reduceCtorEq, Nat.reduceLeDiff, Int.reduceToNat, Int.reduceEq, Int.reduceLE, Int.reduceLT, Nat.reduceBEq]); (repeat' first | done | rfl | omega | refine And.intro ?_ ?_ | (simp; done) | (simp; omega)))
        · rw [if_neg (nt hc6)] at hs1
          try simp (disch := assumption) only [go_sem, Nat.reduceAdd, Nat.reduceMul, Nat.reduceSub, Nat.reduceEqDiff, ↓reduceIte, Nat.reduceLT, reduceCtorEq, Nat.reduceLeDiff, Int.reduceToNat, Int.reduceEq, Int.reduceLE, Int.reduceLT, Nat.reduceBEq]
          cases hs1
          refine X_backP hk1 ?_
          refine weak_of (m := 0) [] rfl rfl rfl (by simp [injR]) ?_ ?_
          all_goals ((try simp (disch := assumption) only [go_sem, Nat.reduceAdd, Nat.reduceMul, Nat.reduceSub, Nat.reduceEqDiff, ↓reduceIte, Nat.reduceLT, reduceCtorEq, Nat.reduceLeDiff, Int.reduceToNat, Int.reduceEq, Int.reduceLE, Int.reduceLT, Nat.reduceBEq]); (repeat' first | done | rfl | omega | refine And.intro ?_ ?_ | (simp; done) | (simp; omega)))
      · rw [if_neg (nt hc3)] at hs1
        try simp (disch := assumption) only [go_sem, Nat.reduceAdd, Nat.reduceMul, Nat.reduceSub, Nat.reduceEqDiff, ↓reduceIte, Nat.reduceLT, reduceCtorEq, Nat.reduceLeDiff, Int.reduceToNat, Int.reduceEq, Int.reduceLE, Int.reduceLT, Nat.reduceBEq]
        cases hs1
        cases hk1
        try dsimp only at h
        try simp (disch := assumption) only [go_sem, Nat.reduceAdd, Nat.reduceMul, Nat.reduceSub, Nat.reduceEqDiff, ↓reduceIte, Nat.reduceLT, reduceCtorEq, Nat.reduceLeDiff, Int.reduceToNat, Int.reduceEq, Int.reduceLE, Int.reduceLT, Nat.reduceBEq]
        have he := Option.some.inj h
        subst he
        refine ends_weak ⟨[(4, (.lf false (.sc (.bool true))))], [], 0, 26⟩ (weak_of (m := 0) [] rfl rfl rfl (by simp [injR]) ?_ ?_) ?_
        all_goals ((try simp (disch := assumption) only [go_sem, Nat.reduceAdd, Nat.reduceMul, Nat.reduceSub, Nat.reduceEqDiff, ↓reduceIte, Nat.reduceLT, reduceCtorEq, Nat.reduceLeDiff, Int.reduceToNat, Int.reduceEq, Int.reduceLE, Int.reduceLT, Nat.reduceBEq]); (repeat' first | done | rfl | omega | refine And.intro ?_ ?_ | (simp; done) | (simp; omega)))
    all_goals ((try simp (disch := assumption) only [go_sem, Nat.reduceAdd, Nat.reduceMul, Nat.reduceSub, Nat.reduceEqDiff, ↓reduceIte, Nat.reduceLT, reduceCtorEq, Nat.reduceLeDiff, Int.reduceToNat, Int.reduceEq, Int.reduceLE, Int.reduceLT, Nat.reduceBEq]); (repeat' first | done | rfl | omega | refine And.intro ?_ ?_ | (simp; done) | (simp; omega)))
theorem w_impl_Queue_packetOk_r {a0 : QueueT} {a1 : PacketT} {r : Bool} (h : impl_Queue_packetOk_r a0 a1 = some r) : Fn Try.prog 97 [(.ra true [.sc (.int .i64 a0.Window), .sl (a0.Sent.map eS), .sc (.int .i64 a0.Base), .sl (a0.Got.map eS), .sl (a0.Line.map ePacket)]), (.ag [(.lf false (.sc (.bool a1.Ack))), (.lf false (.sc (.int .i64 a1.No))), (.lf false (.sc (.string a1.Text)))])] [] 0 (.lf false (.sc (.bool r))) [] 0 := by
  unfold impl_Queue_packetOk_r at h
  refine fn_code tab_ok mixed [(1000, [(0, 0), (3, 0)]), (1001, [(0, 0), (3, 0), (6, 0)]), (1002, [(4, 0)]), (1003, [(4, 0)])] Try.func97 rfl rfl (by simp [Try.f97]) (by kernel_rfl) ?_
  simp only [Try.f97]
  simp (disch := assumption) only [go_sem, Nat.reduceAdd, Nat.reduceMul, Nat.reduceSub, Nat.reduceEqDiff, ↓reduceIte, Nat.reduceLT, reduceCtorEq, Nat.reduceLeDiff, Int.reduceToNat, Int.reduceEq, Int.reduceLE, Int.reduceLT, Nat.reduceBEq]
  refine Bs_splitC (a1.Ack) (by first | rfl | (simp only [beq_iff_eq]; done) | simp) (fun hc1 => ?_) (fun hc1 => ?_)
  · rw [if_pos hc1] at h
    try simp (disch := assumption) only [go_sem, Nat.reduceAdd, Nat.reduceMul, Nat.reduceSub, Nat.reduceEqDiff, ↓reduceIte, Nat.reduceLT, reduceCtorEq, Nat.reduceLeDiff, Int.reduceToNat, Int.reduceEq, Int.reduceLE, Int.reduceLT, Nat.reduceBEq]
    obtain ⟨c66, hr2, h⟩ := bind_ok h
    refine Cl_shown (w_impl_in hr2) (by first | rfl | (simp (disch := assumption) only [go_sem, Nat.reduceAdd, Nat.reduceMul, Nat.reduceSub, Nat.reduceEqDiff, ↓reduceIte, Nat.reduceLT, reduceCtorEq, Nat.reduceLeDiff, Int.reduceToNat, Int.reduceEq, Int.reduceLE, Int.reduceLT, Nat.reduceBEq]; first | done | rfl)) (FitAll.refl _) (.inl (by first | rfl | (simp (disch := assumption) only [go_sem, Nat.reduceAdd, Nat.reduceMul, Nat.reduceSub, Nat.reduceEqDiff, ↓reduceIte, Nat.reduceLT, reduceCtorEq, Nat.reduceLeDiff, Int.reduceToNat, Int.reduceEq, Int.reduceLE, Int.reduceLT, Nat.reduceBEq]; done))) ?_
    try simp (disch := assumption) only [go_sem, Nat.reduceAdd, Nat.reduceMul, Nat.reduceSub, Nat.reduceEqDiff, ↓reduceIte, Nat.reduceLT, reduceCtorEq, Nat.reduceLeDiff, Int.reduceToNat, Int.reduceEq, Int.reduceLE, Int.reduceLT, Nat.reduceBEq]
    refine Sp_splitC (c66) (by first | rfl | (simp only [beq_iff_eq]; done) | simp) (fun hc3 => ?_) (fun hc3 => ?_)
    · rw [if_pos hc3] at h
      try simp (disch := assumption) only [go_sem, Nat.reduceAdd, Nat.reduceMul, Nat.reduceSub, Nat.reduceEqDiff, ↓reduceIte, Nat.reduceLT, reduceCtorEq, Nat.reduceLeDiff, Int.reduceToNat, Int.reduceEq, Int.reduceLE, Int.reduceLT, Nat.reduceBEq]
      have he := Option.some.inj h
      subst he
      refine ends_weak ⟨[(4, (.lf false (.sc (.bool (a1.Text.toList == ByteArray.empty.toList)))))], [], 0, 52⟩ (weak_of (m := 0) [] rfl rfl rfl (by simp [injR]) ?_ ?_) ?_
      all_goals ((try simp (disch := assumption) only [go_sem, Nat.reduceAdd, Nat.reduceMul, Nat.reduceSub, Nat.reduceEqDiff, ↓reduceIte, Nat.reduceLT, reduceCtorEq, Nat.reduceLeDiff, Int.reduceToNat, Int.reduceEq, Int.reduceLE, Int.reduceLT, Nat.reduceBEq]); (repeat' first | done | rfl | omega | refine And.intro ?_ ?_ | (simp; done) | (simp; omega)))
    · rw [if_neg (nt hc3)] at h
      try simp (disch := assumption) only [go_sem, Nat.reduceAdd, Nat.reduceMul, Nat.reduceSub, Nat.reduceEqDiff, ↓reduceIte, Nat.reduceLT, reduceCtorEq, Nat.reduceLeDiff, Int.reduceToNat, Int.reduceEq, Int.reduceLE, Int.reduceLT, Nat.reduceBEq]
      have he := Option.some.inj h
      subst he
      refine ends_weak ⟨[(4, (.lf false (.sc (.bool false))))], [], 0, 52⟩ (weak_of (m := 0) [] rfl rfl rfl (by simp [injR]) ?_ ?_) ?_
      all_goals ((try simp (disch := assumption) only [go_sem, Nat.reduceAdd, Nat.reduceMul, Nat.reduceSub, Nat.reduceEqDiff, ↓reduceIte, Nat.reduceLT, reduceCtorEq, Nat.reduceLeDiff, Int.reduceToNat, Int.reduceEq, Int.reduceLE, Int.reduceLT, Nat.reduceBEq]); (repeat' first | done | rfl | omega | refine And.intro ?_ ?_ | (simp; done) | (simp; omega)))
  · rw [if_neg (nt hc1)] at h
    try simp (disch := assumption) only [go_sem, Nat.reduceAdd, Nat.reduceMul, Nat.reduceSub, Nat.reduceEqDiff, ↓reduceIte, Nat.reduceLT, reduceCtorEq, Nat.reduceLeDiff, Int.reduceToNat, Int.reduceEq, Int.reduceLE, Int.reduceLT, Nat.reduceBEq]
    obtain ⟨c67, hr4, h⟩ := bind_ok h
    refine Cl_shown (w_impl_in hr4) (by first | rfl | (simp (disch := assumption) only [go_sem, Nat.reduceAdd, Nat.reduceMul, Nat.reduceSub, Nat.reduceEqDiff, ↓reduceIte, Nat.reduceLT, reduceCtorEq, Nat.reduceLeDiff, Int.reduceToNat, Int.reduceEq, Int.reduceLE, Int.reduceLT, Nat.reduceBEq]; first | done | rfl)) (FitAll.refl _) (.inl (by first | rfl | (simp (disch := assumption) only [go_sem, Nat.reduceAdd, Nat.reduceMul, Nat.reduceSub, Nat.reduceEqDiff, ↓reduceIte, Nat.reduceLT, reduceCtorEq, Nat.reduceLeDiff, Int.reduceToNat, Int.reduceEq, Int.reduceLE, Int.reduceLT, Nat.reduceBEq]; done))) ?_
    try simp (disch := assumption) only [go_sem, Nat.reduceAdd, Nat.reduceMul, Nat.reduceSub, Nat.reduceEqDiff, ↓reduceIte, Nat.reduceLT, reduceCtorEq, Nat.reduceLeDiff, Int.reduceToNat, Int.reduceEq, Int.reduceLE, Int.reduceLT, Nat.reduceBEq]
    refine Sp_splitC (c67) (by first | rfl | (simp only [beq_iff_eq]; done) | simp) (fun hc5 => ?_) (fun hc5 => ?_)
    · rw [if_pos hc5] at h
      try simp (disch := assumption) only [go_sem, Nat.reduceAdd, Nat.reduceMul, Nat.reduceSub, Nat.reduceEqDiff, ↓reduceIte, Nat.reduceLT, reduceCtorEq, Nat.reduceLeDiff, Int.reduceToNat, Int.reduceEq, Int.reduceLE, Int.reduceLT, Nat.reduceBEq]
      obtain ⟨hp6, h⟩ := guard_some h
      have hn6 : a1.No.toNat < a0.Sent.length := by first | omega | (simp only [List.length_set, List.length_append, List.length_replicate, List.length_map]; omega)
      try simp (disch := assumption) only [go_sem, Nat.reduceAdd, Nat.reduceMul, Nat.reduceSub, Nat.reduceEqDiff, ↓reduceIte, Nat.reduceLT, reduceCtorEq, Nat.reduceLeDiff, Int.reduceToNat, Int.reduceEq, Int.reduceLE, Int.reduceLT, Nat.reduceBEq]
      first | refine And.intro (by first | omega | exact ⟨by omega, fun _ => mapLen fun _ => rfl⟩ | (refine ⟨by omega, ?_, by omega⟩; first | exact mapLen fun _ => rfl | simp) | (refine ⟨?_, by omega⟩; first | exact mapLen fun _ => rfl | simp)) ?_ | skip
      have he := Option.some.inj h
      subst he
      refine ends_weak ⟨[(4, (.lf false (.sc (.bool (a1.Text.toList == (nth a0.Sent a1.No.toNat).toList)))))], [], 0, 52⟩ (weak_of (m := 0) [] rfl rfl rfl (by simp [injR]) ?_ ?_) ?_
      all_goals ((try simp (disch := assumption) only [go_sem, Nat.reduceAdd, Nat.reduceMul, Nat.reduceSub, Nat.reduceEqDiff, ↓reduceIte, Nat.reduceLT, reduceCtorEq, Nat.reduceLeDiff, Int.reduceToNat, Int.reduceEq, Int.reduceLE, Int.reduceLT, Nat.reduceBEq]); (repeat' first | done | rfl | omega | refine And.intro ?_ ?_ | (simp; done) | (simp; omega)))
    · rw [if_neg (nt hc5)] at h
      try simp (disch := assumption) only [go_sem, Nat.reduceAdd, Nat.reduceMul, Nat.reduceSub, Nat.reduceEqDiff, ↓reduceIte, Nat.reduceLT, reduceCtorEq, Nat.reduceLeDiff, Int.reduceToNat, Int.reduceEq, Int.reduceLE, Int.reduceLT, Nat.reduceBEq]
      have he := Option.some.inj h
      subst he
      refine ends_weak ⟨[(4, (.lf false (.sc (.bool false))))], [], 0, 52⟩ (weak_of (m := 0) [] rfl rfl rfl (by simp [injR]) ?_ ?_) ?_
      all_goals ((try simp (disch := assumption) only [go_sem, Nat.reduceAdd, Nat.reduceMul, Nat.reduceSub, Nat.reduceEqDiff, ↓reduceIte, Nat.reduceLT, reduceCtorEq, Nat.reduceLeDiff, Int.reduceToNat, Int.reduceEq, Int.reduceLE, Int.reduceLT, Nat.reduceBEq]); (repeat' first | done | rfl | omega | refine And.intro ?_ ?_ | (simp; done) | (simp; omega)))
theorem w_impl_GoodQueue_c2_r {a0 : PacketT} {a1 : QueueT} {r : Bool} (h : impl_GoodQueue_c2_r a0 a1 = some r) : Fn Try.prog 96 [(.ag [(.lf false (.sc (.bool a0.Ack))), (.lf false (.sc (.int .i64 a0.No))), (.lf false (.sc (.string a0.Text)))]), (.ra true [.sc (.int .i64 a1.Window), .sl (a1.Sent.map eS), .sc (.int .i64 a1.Base), .sl (a1.Got.map eS), .sl (a1.Line.map ePacket)])] [] 0 (.lf false (.sc (.bool r))) [] 0 := by
  unfold impl_GoodQueue_c2_r at h
  refine fn_code tab_ok mixed [] Try.func96 rfl rfl (by simp [Try.f96]) (by kernel_rfl) ?_
  simp only [Try.f96]
  simp (disch := assumption) only [go_sem, Nat.reduceAdd, Nat.reduceMul, Nat.reduceSub, Nat.reduceEqDiff, ↓reduceIte, Nat.reduceLT, reduceCtorEq, Nat.reduceLeDiff, Int.reduceToNat, Int.reduceEq, Int.reduceLE, Int.reduceLT, Nat.reduceBEq]
  obtain ⟨c68, hr1, h⟩ := bind_ok h
  refine Cl_shown (w_impl_Queue_packetOk_r hr1) (by first | rfl | (simp (disch := assumption) only [go_sem, Nat.reduceAdd, Nat.reduceMul, Nat.reduceSub, Nat.reduceEqDiff, ↓reduceIte, Nat.reduceLT, reduceCtorEq, Nat.reduceLeDiff, Int.reduceToNat, Int.reduceEq, Int.reduceLE, Int.reduceLT, Nat.reduceBEq]; first | done | rfl)) (FitAll.refl _) (.inl (by first | rfl | (simp (disch := assumption) only [go_sem, Nat.reduceAdd, Nat.reduceMul, Nat.reduceSub, Nat.reduceEqDiff, ↓reduceIte, Nat.reduceLT, reduceCtorEq, Nat.reduceLeDiff, Int.reduceToNat, Int.reduceEq, Int.reduceLE, Int.reduceLT, Nat.reduceBEq]; done))) ?_
  try simp (disch := assumption) only [go_sem, Nat.reduceAdd, Nat.reduceMul, Nat.reduceSub, Nat.reduceEqDiff, ↓reduceIte, Nat.reduceLT, reduceCtorEq, Nat.reduceLeDiff, Int.reduceToNat, Int.reduceEq, Int.reduceLE, Int.reduceLT, Nat.reduceBEq]
  have he := Option.some.inj h
  subst he
  refine ends_weak ⟨[(3, (.lf false (.sc (.bool (!c68)))))], [], 0, 7⟩ (weak_of (m := 0) [] rfl rfl rfl (by simp [injR]) ?_ ?_) ?_
  all_goals ((try simp (disch := assumption) only [go_sem, Nat.reduceAdd, Nat.reduceMul, Nat.reduceSub, Nat.reduceEqDiff, ↓reduceIte, Nat.reduceLT, reduceCtorEq, Nat.reduceLeDiff, Int.reduceToNat, Int.reduceEq, Int.reduceLE, Int.reduceLT, Nat.reduceBEq]); (repeat' first | done | rfl | omega | refine And.intro ?_ ?_ | (simp; done) | (simp; omega)))
theorem w_slices_IndexFunc_impl_Packet_impl_GoodQueue_c2r {a0 : (List PacketT)} {a1 : QueueT} {r : Int} (h : slices_IndexFunc_impl_Packet_impl_GoodQueue_c2r a0 a1 = some r) : Fn Try.prog 117 [(.lf true (.sl (a0.map ePacket))), (.fn 96 [(.ra true [.sc (.int .i64 a1.Window), .sl (a1.Sent.map eS), .sc (.int .i64 a1.Base), .sl (a1.Got.map eS), .sl (a1.Line.map ePacket)])])] [] 0 (.lf false (.sc (.int .i64 r))) [] 0 := by
  unfold slices_IndexFunc_impl_Packet_impl_GoodQueue_c2r at h
  refine fn_code tab_ok mixed [(1000, [(0, 0), (1, 0)]), (1001, [(0, 0), (1, 0), (7, 0), (8, 0)]), (1002, [(0, 0), (1, 0), (7, 0), (8, 0), (9, 0)]), (1003, [(0, 0), (1, 0), (5, 0), (7, 0), (8, 0)]), (1004, [(0, 0), (1, 0), (5, 0), (7, 0), (8, 0), (16, 0)]), (1005, [(4, 0)]), (1006, [(0, 0), (1, 0), (7, 0), (8, 0)]), (1007, [(4, 0)])] Try.func117 rfl rfl (by simp [Try.f117]) (by kernel_rfl) ?_
  simp only [Try.f117]
  simp (disch := assumption) only [go_sem, Nat.reduceAdd, Nat.reduceMul, Nat.reduceSub, Nat.reduceEqDiff, ↓reduceIte, Nat.reduceLT, reduceCtorEq, Nat.reduceLeDiff, Int.reduceToNat, Int.reduceEq, Int.reduceLE, Int.reduceLT, Nat.reduceBEq]
  obtain ⟨y71, hl1, h⟩ := bind_ok h
  refine W_loopP (fun g65 : slices_IndexFunc_impl_Packet_impl_GoodQueue_c2r_G1 => ⟨[(0, (.lf true (.sl (a0.map ePacket)))), (1, (.fn 96 [(.ra true [.sc (.int .i64 a1.Window), .sl (a1.Sent.map eS), .sc (.int .i64 a1.Base), .sl (a1.Got.map eS), .sl (a1.Line.map ePacket)])])), (7, (.lf false (.sc (.int .i64 ((a0.length : Nat) : Int))))), (8, (.lf false (.sc (.int .i64 g65.t8))))], [], 0, 19⟩) (slices_IndexFunc_impl_Packet_impl_GoodQueue_c2r_L1 a0 a1) _ _ hl1 (weak_of (m := 0) [] rfl rfl rfl (by simp [injR]) ?_ ?_) ?_
  rotate_left 2
  · intro n1 g65 z1 hs1 hk1
    unfold slices_IndexFunc_impl_Packet_impl_GoodQueue_c2r_L1 at hs1
    try dsimp only at hs1
    simp (disch := assumption) only [go_sem, Nat.reduceAdd, Nat.reduceMul, Nat.reduceSub, Nat.reduceEqDiff, ↓reduceIte, Nat.reduceLT, reduceCtorEq, Nat.reduceLeDiff, Int.reduceToNat, Int.reduceEq, Int.reduceLE, Int.reduceLT, Nat.reduceBEq]
    refine Bs_splitC ((decide (g65.t8 < ((a0.length : Nat) : Int)))) (by first | rfl | (simp only [beq_iff_eq]; done) | simp) (fun hc2 => ?_) (fun hc2 => ?_)
    · rw [if_pos hc2] at hs1
      try simp (disch := assumption) only [go_sem, Nat.reduceAdd, Nat.reduceMul, Nat.reduceSub, Nat.reduceEqDiff, ↓reduceIte, Nat.reduceLT, reduceCtorEq, Nat.reduceLeDiff, Int.reduceToNat, Int.reduceEq, Int.reduceLE, Int.reduceLT, Nat.reduceBEq]
      obtain ⟨hp3, hs1⟩ := guard_some hs1
      have hn3 : g65.t8.toNat < a0.length := by first | omega | (simp only [List.length_set, List.length_append, List.length_replicate, List.length_map]; omega)
      try simp (disch := assumption) only [go_sem, Nat.reduceAdd, Nat.reduceMul, Nat.reduceSub, Nat.reduceEqDiff, ↓reduceIte, Nat.reduceLT, reduceCtorEq, Nat.reduceLeDiff, Int.reduceToNat, Int.reduceEq, Int.reduceLE, Int.reduceLT, Nat.reduceBEq]
      first | refine And.intro (by first | omega | exact ⟨by omega, fun _ => mapLen fun _ => rfl⟩ | (refine ⟨by omega, ?_, by omega⟩; first | exact mapLen fun _ => rfl | simp) | (refine ⟨?_, by omega⟩; first | exact mapLen fun _ => rfl | simp)) ?_ | skip
      obtain ⟨c70, hr4, hs1⟩ := bind_ok hs1
      refine Cl_shown (w_impl_GoodQueue_c2_r hr4) (by first | rfl | (simp (disch := assumption) only [go_sem, Nat.reduceAdd, Nat.reduceMul, Nat.reduceSub, Nat.reduceEqDiff, ↓reduceIte, Nat.reduceLT, reduceCtorEq, Nat.reduceLeDiff, Int.reduceToNat, Int.reduceEq, Int.reduceLE, Int.reduceLT, Nat.reduceBEq]; first | done | rfl)) (FitAll.refl _) (.inl (by first | rfl | (simp (disch := assumption) only [go_sem, Nat.reduceAdd, Nat.reduceMul, Nat.reduceSub, Nat.reduceEqDiff, ↓reduceIte, Nat.reduceLT, reduceCtorEq, Nat.reduceLeDiff, Int.reduceToNat, Int.reduceEq, Int.reduceLE, Int.reduceLT, Nat.reduceBEq]; done))) ?_
      try simp (disch := assumption) only [go_sem, Nat.reduceAdd, Nat.reduceMul, Nat.reduceSub, Nat.reduceEqDiff, ↓reduceIte, Nat.reduceLT, reduceCtorEq, Nat.reduceLeDiff, Int.reduceToNat, Int.reduceEq, Int.reduceLE, Int.reduceLT, Nat.reduceBEq]
      refine Bs_splitC (c70) (by first | rfl | (simp only [beq_iff_eq]; done) | simp) (fun hc5 => ?_) (fun hc5 => ?_)
      · rw [if_pos hc5] at hs1
        try simp (disch := assumption) only [go_sem, Nat.reduceAdd, Nat.reduceMul, Nat.reduceSub, Nat.reduceEqDiff, ↓reduceIte, Nat.reduceLT, reduceCtorEq, Nat.reduceLeDiff, Int.reduceToNat, Int.reduceEq, Int.reduceLE, Int.reduceLT, Nat.reduceBEq]
        cases hs1
        cases hk1
        try dsimp only at h
        try simp (disch := assumption) only [go_sem, Nat.reduceAdd, Nat.reduceMul, Nat.reduceSub, Nat.reduceEqDiff, ↓reduceIte, Nat.reduceLT, reduceCtorEq, Nat.reduceLeDiff, Int.reduceToNat, Int.reduceEq, Int.reduceLE, Int.reduceLT, Nat.reduceBEq]
        have he := Option.some.inj h
        subst he
        refine ends_weak ⟨[(4, (.lf false (.sc (.int .i64 g65.t8))))], [], 0, 19⟩ (weak_of (m := 0) [] rfl rfl rfl (by simp [injR]) ?_ ?_) ?_
        all_goals ((try simp (disch := assumption) only [go_sem, Nat.reduceAdd, Nat.reduceMul, Nat.reduceSub, Nat.reduceEqDiff, ↓reduceIte, Nat.reduceLT, reduceCtorEq, Nat.reduceLeDiff, Int.reduceToNat, Int.reduceEq, Int.reduceLE, Int.reduceLT, Nat.reduceBEq]); (repeat' first | done | rfl | omega | refine And.intro ?_ ?_ | (simp; done) | (simp; omega)))
      · rw [if_neg (nt hc5)] at hs1
        try simp (disch := assumption) only [go_sem, Nat.reduceAdd, Nat.reduceMul, Nat.reduceSub, Nat.reduceEqDiff, ↓reduceIte, Nat.reduceLT, reduceCtorEq, Nat.reduceLeDiff, Int.reduceToNat, Int.reduceEq, Int.reduceLE, Int.reduceLT, Nat.reduceBEq]
        cases hs1
        refine X_backP hk1 ?_
        refine weak_of (m := 0) [] rfl rfl rfl (by simp [injR]) ?_ ?_
        all_goals ((try simp (disch := assumption) only [go_sem, Nat.reduceAdd, Nat.reduceMul, Nat.reduceSub, Nat.reduceEqDiff, ↓reduceIte, Nat.reduceLT, reduceCtorEq, Nat.reduceLeDiff, Int.reduceToNat, Int.reduceEq, Int.reduceLE, Int.reduceLT, Nat.reduceBEq]); (repeat' first | done | rfl | omega | refine And.intro ?_ ?_ | (simp; done) | (simp; omega)))
    · rw [if_neg (nt hc2)] at hs1
      try simp (disch := assumption) only [go_sem, Nat.reduceAdd, Nat.reduceMul, Nat.reduceSub, Nat.reduceEqDiff, ↓reduceIte, Nat.reduceLT, reduceCtorEq, Nat.reduceLeDiff, Int.reduceToNat, Int.reduceEq, Int.reduceLE, Int.reduceLT, Nat.reduceBEq]
      cases hs1
      cases hk1
      try dsimp only at h
      try simp (disch := assumption) only [go_sem, Nat.reduceAdd, Nat.reduceMul, Nat.reduceSub, Nat.reduceEqDiff, ↓reduceIte, Nat.reduceLT, reduceCtorEq, Nat.reduceLeDiff, Int.reduceToNat, Int.reduceEq, Int.reduceLE, Int.reduceLT, Nat.reduceBEq]
      have he := Option.some.inj h
      subst he
      refine ends_weak ⟨[(4, (.lf false (.sc (.int .i64 (-1)))))], [], 0, 19⟩ (weak_of (m := 0) [] rfl rfl rfl (by simp [injR]) ?_ ?_) ?_
      all_goals ((try simp (disch := assumption) only [go_sem, Nat.reduceAdd, Nat.reduceMul, Nat.reduceSub, Nat.reduceEqDiff, ↓reduceIte, Nat.reduceLT, reduceCtorEq, Nat.reduceLeDiff, Int.reduceToNat, Int.reduceEq, Int.reduceLE, Int.reduceLT, Nat.reduceBEq]); (repeat' first | done | rfl | omega | refine And.intro ?_ ?_ | (simp; done) | (simp; omega)))
  all_goals ((try simp (disch := assumption) only [go_sem, Nat.reduceAdd, Nat.reduceMul, Nat.reduceSub, Nat.reduceEqDiff, ↓reduceIte, Nat.reduceLT, reduceCtorEq, Nat.reduceLeDiff, Int.reduceToNat, Int.reduceEq, Int.reduceLE, Int.reduceLT, Nat.reduceBEq]); (repeat' first | done | rfl | omega | refine And.intro ?_ ?_ | (simp; done) | (simp; omega)))
theorem w_slices_ContainsFunc_impl_Packet_impl_GoodQueue_c2r {a0 : (List PacketT)} {a1 : QueueT} {r : Bool} (h : slices_ContainsFunc_impl_Packet_impl_GoodQueue_c2r a0 a1 = some r) : Fn Try.prog 95 [(.lf true (.sl (a0.map ePacket))), (.fn 96 [(.ra true [.sc (.int .i64 a1.Window), .sl (a1.Sent.map eS), .sc (.int .i64 a1.Base), .sl (a1.Got.map eS), .sl (a1.Line.map ePacket)])])] [] 0 (.lf false (.sc (.bool r))) [] 0 := by
  unfold slices_ContainsFunc_impl_Packet_impl_GoodQueue_c2r at h
  refine fn_code tab_ok mixed [] Try.func95 rfl rfl (by simp [Try.f95]) (by kernel_rfl) ?_
  simp only [Try.f95]
  simp (disch := assumption) only [go_sem, Nat.reduceAdd, Nat.reduceMul, Nat.reduceSub, Nat.reduceEqDiff, ↓reduceIte, Nat.reduceLT, reduceCtorEq, Nat.reduceLeDiff, Int.reduceToNat, Int.reduceEq, Int.reduceLE, Int.reduceLT, Nat.reduceBEq]
  obtain ⟨c74, hr1, h⟩ := bind_ok h
  refine Cl_shown (w_slices_IndexFunc_impl_Packet_impl_GoodQueue_c2r hr1) (by first | rfl | (simp (disch := assumption) only [go_sem, Nat.reduceAdd, Nat.reduceMul, Nat.reduceSub, Nat.reduceEqDiff, ↓reduceIte, Nat.reduceLT, reduceCtorEq, Nat.reduceLeDiff, Int.reduceToNat, Int.reduceEq, Int.reduceLE, Int.reduceLT, Nat.reduceBEq]; first | done | rfl)) (FitAll.refl _) (.inl (by first | rfl | (simp (disch := assumption) only [go_sem, Nat.reduceAdd, Nat.reduceMul, Nat.reduceSub, Nat.reduceEqDiff, ↓reduceIte, Nat.reduceLT, reduceCtorEq, Nat.reduceLeDiff, Int.reduceToNat, Int.reduceEq, Int.reduceLE, Int.reduceLT, Nat.reduceBEq]; done))) ?_
  try simp (disch := assumption) only [go_sem, Nat.reduceAdd, Nat.reduceMul, Nat.reduceSub, Nat.reduceEqDiff, ↓reduceIte, Nat.reduceLT, reduceCtorEq, Nat.reduceLeDiff, Int.reduceToNat, Int.reduceEq, Int.reduceLE, Int.reduceLT, Nat.reduceBEq]
  have he := Option.some.inj h
  subst he
  refine ends_weak ⟨[(4, (.lf false (.sc (.bool (decide (c74 ≥ 0))))))], [], 0, 9⟩ (weak_of (m := 0) [] rfl rfl rfl (by simp [injR]) ?_ ?_) ?_
  all_goals ((try simp (disch := assumption) only [go_sem, Nat.reduceAdd, Nat.reduceMul, Nat.reduceSub, Nat.reduceEqDiff, ↓reduceIte, Nat.reduceLT, reduceCtorEq, Nat.reduceLeDiff, Int.reduceToNat, Int.reduceEq, Int.reduceLE, Int.reduceLT, Nat.reduceBEq]); (repeat' first | done | rfl | omega | refine And.intro ?_ ?_ | (simp; done) | (simp; omega)))
theorem w_impl_GoodQueue {a0 : QueueT} {r : Bool} (h : impl_GoodQueue a0 = some r) : Fn Try.prog 50 [(.ag [(.lf false (.sc (.int .i64 a0.Window))), (.lf true (.sl (a0.Sent.map eS))), (.lf false (.sc (.int .i64 a0.Base))), (.lf true (.sl (a0.Got.map eS))), (.lf true (.sl (a0.Line.map ePacket)))])] [] 0 (.lf false (.sc (.bool r))) [] 0 := by
  unfold impl_GoodQueue at h
  refine fn_code tab_ok mixed [(1000, [(1, 0)]), (1001, [(1, 0), (17, 0)]), (1002, [(2, 0)]), (1003, [(1, 0), (51, 0)]), (1004, [(2, 0)]), (1005, [(2, 0)])] Try.func50 rfl rfl (by simp [Try.f50]) (by kernel_rfl) ?_
  simp only [Try.f50]
  simp (disch := assumption) only [go_sem, Nat.reduceAdd, Nat.reduceMul, Nat.reduceSub, Nat.reduceEqDiff, ↓reduceIte, Nat.reduceLT, reduceCtorEq, Nat.reduceLeDiff, Int.reduceToNat, Int.reduceEq, Int.reduceLE, Int.reduceLT, Nat.reduceBEq]
  obtain ⟨c50, hr1, h⟩ := bind_ok h
  refine Cl_shown (w_impl_in hr1) (by first | rfl | (simp (disch := assumption) only [go_sem, Nat.reduceAdd, Nat.reduceMul, Nat.reduceSub, Nat.reduceEqDiff, ↓reduceIte, Nat.reduceLT, reduceCtorEq, Nat.reduceLeDiff, Int.reduceToNat, Int.reduceEq, Int.reduceLE, Int.reduceLT, Nat.reduceBEq]; first | done | rfl)) (FitAll.refl _) (.inl (by first | rfl | (simp (disch := assumption) only [go_sem, Nat.reduceAdd, Nat.reduceMul, Nat.reduceSub, Nat.reduceEqDiff, ↓reduceIte, Nat.reduceLT, reduceCtorEq, Nat.reduceLeDiff, Int.reduceToNat, Int.reduceEq, Int.reduceLE, Int.reduceLT, Nat.reduceBEq]; done))) ?_
  try simp (disch := assumption) only [go_sem, Nat.reduceAdd, Nat.reduceMul, Nat.reduceSub, Nat.reduceEqDiff, ↓reduceIte, Nat.reduceLT, reduceCtorEq, Nat.reduceLeDiff, Int.reduceToNat, Int.reduceEq, Int.reduceLE, Int.reduceLT, Nat.reduceBEq]
  refine Sp_splitC ((!c50)) (by first | rfl | (simp only [beq_iff_eq]; done) | simp) (fun hc2 => ?_) (fun hc2 => ?_)
  · rw [if_pos hc2] at h
    try simp (disch := assumption) only [go_sem, Nat.reduceAdd, Nat.reduceMul, Nat.reduceSub, Nat.reduceEqDiff, ↓reduceIte, Nat.reduceLT, reduceCtorEq, Nat.reduceLeDiff, Int.reduceToNat, Int.reduceEq, Int.reduceLE, Int.reduceLT, Nat.reduceBEq]
    have he := Option.some.inj h
    subst he
    refine ends_weak ⟨[(2, (.lf false (.sc (.bool false))))], [], 0, 57⟩ (weak_of (m := 0) [] rfl rfl rfl (by simp [injR]) ?_ ?_) ?_
    all_goals ((try simp (disch := assumption) only [go_sem, Nat.reduceAdd, Nat.reduceMul, Nat.reduceSub, Nat.reduceEqDiff, ↓reduceIte, Nat.reduceLT, reduceCtorEq, Nat.reduceLeDiff, Int.reduceToNat, Int.reduceEq, Int.reduceLE, Int.reduceLT, Nat.reduceBEq]); (repeat' first | done | rfl | omega | refine And.intro ?_ ?_ | (simp; done) | (simp; omega)))
  · rw [if_neg (nt hc2)] at h
    try simp (disch := assumption) only [go_sem, Nat.reduceAdd, Nat.reduceMul, Nat.reduceSub, Nat.reduceEqDiff, ↓reduceIte, Nat.reduceLT, reduceCtorEq, Nat.reduceLeDiff, Int.reduceToNat, Int.reduceEq, Int.reduceLE, Int.reduceLT, Nat.reduceBEq]
    refine Sp_splitC ((decide (((a0.Sent.length : Nat) : Int) > 40))) (by first | rfl | (simp only [beq_iff_eq]; done) | simp) (fun hc3 => ?_) (fun hc3 => ?_)
    · rw [if_pos hc3] at h
      try simp (disch := assumption) only [go_sem, Nat.reduceAdd, Nat.reduceMul, Nat.reduceSub, Nat.reduceEqDiff, ↓reduceIte, Nat.reduceLT, reduceCtorEq, Nat.reduceLeDiff, Int.reduceToNat, Int.reduceEq, Int.reduceLE, Int.reduceLT, Nat.reduceBEq]
      have he := Option.some.inj h
      subst he
      refine ends_weak ⟨[(2, (.lf false (.sc (.bool false))))], [], 0, 57⟩ (weak_of (m := 0) [] rfl rfl rfl (by simp [injR]) ?_ ?_) ?_
      all_goals ((try simp (disch := assumption) only [go_sem, Nat.reduceAdd, Nat.reduceMul, Nat.reduceSub, Nat.reduceEqDiff, ↓reduceIte, Nat.reduceLT, reduceCtorEq, Nat.reduceLeDiff, Int.reduceToNat, Int.reduceEq, Int.reduceLE, Int.reduceLT, Nat.reduceBEq]); (repeat' first | done | rfl | omega | refine And.intro ?_ ?_ | (simp; done) | (simp; omega)))
    · rw [if_neg (nt hc3)] at h
      try simp (disch := assumption) only [go_sem, Nat.reduceAdd, Nat.reduceMul, Nat.reduceSub, Nat.reduceEqDiff, ↓reduceIte, Nat.reduceLT, reduceCtorEq, Nat.reduceLeDiff, Int.reduceToNat, Int.reduceEq, Int.reduceLE, Int.reduceLT, Nat.reduceBEq]
      obtain ⟨c58, hr4, h⟩ := bind_ok h
      refine Cl_shown (w_slices_ContainsFunc_string_impl_GoodQueue_c1 hr4) (by first | rfl | (simp (disch := assumption) only [go_sem, Nat.reduceAdd, Nat.reduceMul, Nat.reduceSub, Nat.reduceEqDiff, ↓reduceIte, Nat.reduceLT, reduceCtorEq, Nat.reduceLeDiff, Int.reduceToNat, Int.reduceEq, Int.reduceLE, Int.reduceLT, Nat.reduceBEq]; first | done | rfl)) (FitAll.refl _) (.inl (by first | rfl | (simp (disch := assumption) only [go_sem, Nat.reduceAdd, Nat.reduceMul, Nat.reduceSub, Nat.reduceEqDiff, ↓reduceIte, Nat.reduceLT, reduceCtorEq, Nat.reduceLeDiff, Int.reduceToNat, Int.reduceEq, Int.reduceLE, Int.reduceLT, Nat.reduceBEq]; done))) ?_
      try simp (disch := assumption) only [go_sem, Nat.reduceAdd, Nat.reduceMul, Nat.reduceSub, Nat.reduceEqDiff, ↓reduceIte, Nat.reduceLT, reduceCtorEq, Nat.reduceLeDiff, Int.reduceToNat, Int.reduceEq, Int.reduceLE, Int.reduceLT, Nat.reduceBEq]
      refine Bs_splitC (c58) (by first | rfl | (simp only [beq_iff_eq]; done) | simp) (fun hc5 => ?_) (fun hc5 => ?_)
      · rw [if_pos hc5] at h
        try simp (disch := assumption) only [go_sem, Nat.reduceAdd, Nat.reduceMul, Nat.reduceSub, Nat.reduceEqDiff, ↓reduceIte, Nat.reduceLT, reduceCtorEq, Nat.reduceLeDiff, Int.reduceToNat, Int.reduceEq, Int.reduceLE, Int.reduceLT, Nat.reduceBEq]
        have he := Option.some.inj h
        subst he
        refine ends_weak ⟨[(2, (.lf false (.sc (.bool false))))], [], 0, 57⟩ (weak_of (m := 0) [] rfl rfl rfl (by simp [injR]) ?_ ?_) ?_
        all_goals ((try simp (disch := assumption) only [go_sem, Nat.reduceAdd, Nat.reduceMul, Nat.reduceSub, Nat.reduceEqDiff, ↓reduceIte, Nat.reduceLT, reduceCtorEq, Nat.reduceLeDiff, Int.reduceToNat, Int.reduceEq, Int.reduceLE, Int.reduceLT, Nat.reduceBEq]); (repeat' first | done | rfl | omega | refine And.intro ?_ ?_ | (simp; done) | (simp; omega)))
      · rw [if_neg (nt hc5)] at h
        try simp (disch := assumption) only [go_sem, Nat.reduceAdd, Nat.reduceMul, Nat.reduceSub, Nat.reduceEqDiff, ↓reduceIte, Nat.reduceLT, reduceCtorEq, Nat.reduceLeDiff, Int.reduceToNat, Int.reduceEq, Int.reduceLE, Int.reduceLT, Nat.reduceBEq]
        refine Sp_splitC ((decide (((a0.Got.length : Nat) : Int) > ((a0.Sent.length : Nat) : Int)))) (by first | rfl | (simp only [beq_iff_eq]; done) | simp) (fun hc6 => ?_) (fun hc6 => ?_)
        · rw [if_pos hc6] at h
          try simp (disch := assumption) only [go_sem, Nat.reduceAdd, Nat.reduceMul, Nat.reduceSub, Nat.reduceEqDiff, ↓reduceIte, Nat.reduceLT, reduceCtorEq, Nat.reduceLeDiff, Int.reduceToNat, Int.reduceEq, Int.reduceLE, Int.reduceLT, Nat.reduceBEq]
          have he := Option.some.inj h
          subst he
          refine ends_weak ⟨[(2, (.lf false (.sc (.bool false))))], [], 0, 57⟩ (weak_of (m := 0) [] rfl rfl rfl (by simp [injR]) ?_ ?_) ?_
          all_goals ((try simp (disch := assumption) only [go_sem, Nat.reduceAdd, Nat.reduceMul, Nat.reduceSub, Nat.reduceEqDiff, ↓reduceIte, Nat.reduceLT, reduceCtorEq, Nat.reduceLeDiff, Int.reduceToNat, Int.reduceEq, Int.reduceLE, Int.reduceLT, Nat.reduceBEq]); (repeat' first | done | rfl | omega | refine And.intro ?_ ?_ | (simp; done) | (simp; omega)))
        · rw [if_neg (nt hc6)] at h
          try simp (disch := assumption) only [go_sem, Nat.reduceAdd, Nat.reduceMul, Nat.reduceSub, Nat.reduceEqDiff, ↓reduceIte, Nat.reduceLT, reduceCtorEq, Nat.reduceLeDiff, Int.reduceToNat, Int.reduceEq, Int.reduceLE, Int.reduceLT, Nat.reduceBEq]
          obtain ⟨hp7, h⟩ := guard_some h
          try simp (disch := assumption) only [go_sem, Nat.reduceAdd, Nat.reduceMul, Nat.reduceSub, Nat.reduceEqDiff, ↓reduceIte, Nat.reduceLT, reduceCtorEq, Nat.reduceLeDiff, Int.reduceToNat, Int.reduceEq, Int.reduceLE, Int.reduceLT, Nat.reduceBEq]
          first | refine And.intro (by first | omega | exact ⟨by omega, fun _ => mapLen fun _ => rfl⟩ | (refine ⟨by omega, ?_, by omega⟩; first | exact mapLen fun _ => rfl | simp) | (refine ⟨?_, by omega⟩; first | exact mapLen fun _ => rfl | simp)) ?_ | skip
          obtain ⟨c63, hr8, h⟩ := bind_ok h
          refine Cl_shown (w_slices_Equal_string hr8) (by first | rfl | (simp (disch := assumption) only [go_sem, Nat.reduceAdd, Nat.reduceMul, Nat.reduceSub, Nat.reduceEqDiff, ↓reduceIte, Nat.reduceLT, reduceCtorEq, Nat.reduceLeDiff, Int.reduceToNat, Int.reduceEq, Int.reduceLE, Int.reduceLT, Nat.reduceBEq]; first | done | rfl)) (FitAll.refl _) (.inl (by first | rfl | (simp (disch := assumption) only [go_sem, Nat.reduceAdd, Nat.reduceMul, Nat.reduceSub, Nat.reduceEqDiff, ↓reduceIte, Nat.reduceLT, reduceCtorEq, Nat.reduceLeDiff, Int.reduceToNat, Int.reduceEq, Int.reduceLE, Int.reduceLT, Nat.reduceBEq]; done))) ?_
          try simp (disch := assumption) only [go_sem, Nat.reduceAdd, Nat.reduceMul, Nat.reduceSub, Nat.reduceEqDiff, ↓reduceIte, Nat.reduceLT, reduceCtorEq, Nat.reduceLeDiff, Int.reduceToNat, Int.reduceEq, Int.reduceLE, Int.reduceLT, Nat.reduceBEq]
          refine Sp_splitC ((!c63)) (by first | rfl | (simp only [beq_iff_eq]; done) | simp) (fun hc9 => ?_) (fun hc9 => ?_)
          · rw [if_pos hc9] at h
            try simp (disch := assumption) only [go_sem, Nat.reduceAdd, Nat.reduceMul, Nat.reduceSub, Nat.reduceEqDiff, ↓reduceIte, Nat.reduceLT, reduceCtorEq, Nat.reduceLeDiff, Int.reduceToNat, Int.reduceEq, Int.reduceLE, Int.reduceLT, Nat.reduceBEq]
            have he := Option.some.inj h
            subst he
            refine ends_weak ⟨[(2, (.lf false (.sc (.bool false))))], [], 0, 57⟩ (weak_of (m := 0) [] rfl rfl rfl (by simp [injR]) ?_ ?_) ?_
            all_goals ((try simp (disch := assumption) only [go_sem, Nat.reduceAdd, Nat.reduceMul, Nat.reduceSub, Nat.reduceEqDiff, ↓reduceIte, Nat.reduceLT, reduceCtorEq, Nat.reduceLeDiff, Int.reduceToNat, Int.reduceEq, Int.reduceLE, Int.reduceLT, Nat.reduceBEq]); (repeat' first | done | rfl | omega | refine And.intro ?_ ?_ | (simp; done) | (simp; omega)))
          · rw [if_neg (nt hc9)] at h
            try simp (disch := assumption) only [go_sem, Nat.reduceAdd, Nat.reduceMul, Nat.reduceSub, Nat.reduceEqDiff, ↓reduceIte, Nat.reduceLT, reduceCtorEq, Nat.reduceLeDiff, Int.reduceToNat, Int.reduceEq, Int.reduceLE, Int.reduceLT, Nat.reduceBEq]
            obtain ⟨c64, hr10, h⟩ := bind_ok h
            refine Cl_shown (w_impl_in hr10) (by first | rfl | (simp (disch := assumption) only [go_sem, Nat.reduceAdd, Nat.reduceMul, Nat.reduceSub, Nat.reduceEqDiff, ↓reduceIte, Nat.reduceLT, reduceCtorEq, Nat.reduceLeDiff, Int.reduceToNat, Int.reduceEq, Int.reduceLE, Int.reduceLT, Nat.reduceBEq]; first | done | rfl)) (FitAll.refl _) (.inl (by first | rfl | (simp (disch := assumption) only [go_sem, Nat.reduceAdd, Nat.reduceMul, Nat.reduceSub, Nat.reduceEqDiff, ↓reduceIte, Nat.reduceLT, reduceCtorEq, Nat.reduceLeDiff, Int.reduceToNat, Int.reduceEq, Int.reduceLE, Int.reduceLT, Nat.reduceBEq]; done))) ?_
            try simp (disch := assumption) only [go_sem, Nat.reduceAdd, Nat.reduceMul, Nat.reduceSub, Nat.reduceEqDiff, ↓reduceIte, Nat.reduceLT, reduceCtorEq, Nat.reduceLeDiff, Int.reduceToNat, Int.reduceEq, Int.reduceLE, Int.reduceLT, Nat.reduceBEq]
            refine Sp_splitC ((!c64)) (by first | rfl | (simp only [beq_iff_eq]; done) | simp) (fun hc11 => ?_) (fun hc11 => ?_)
            · rw [if_pos hc11] at h
              try simp (disch := assumption) only [go_sem, Nat.reduceAdd, Nat.reduceMul, Nat.reduceSub, Nat.reduceEqDiff, ↓reduceIte, Nat.reduceLT, reduceCtorEq, Nat.reduceLeDiff, Int.reduceToNat, Int.reduceEq, Int.reduceLE, Int.reduceLT, Nat.reduceBEq]
              have he := Option.some.inj h
              subst he
              refine ends_weak ⟨[(2, (.lf false (.sc (.bool false))))], [], 0, 57⟩ (weak_of (m := 0) [] rfl rfl rfl (by simp [injR]) ?_ ?_) ?_
              all_goals ((try simp (disch := assumption) only [go_sem, Nat.reduceAdd, Nat.reduceMul, Nat.reduceSub, Nat.reduceEqDiff, ↓reduceIte, Nat.reduceLT, reduceCtorEq, Nat.reduceLeDiff, Int.reduceToNat, Int.reduceEq, Int.reduceLE, Int.reduceLT, Nat.reduceBEq]); (repeat' first | done | rfl | omega | refine And.intro ?_ ?_ | (simp; done) | (simp; omega)))
            · rw [if_neg (nt hc11)] at h
              try simp (disch := assumption) only [go_sem, Nat.reduceAdd, Nat.reduceMul, Nat.reduceSub, Nat.reduceEqDiff, ↓reduceIte, Nat.reduceLT, reduceCtorEq, Nat.reduceLeDiff, Int.reduceToNat, Int.reduceEq, Int.reduceLE, Int.reduceLT, Nat.reduceBEq]
              refine Bs_splitC ((decide (((a0.Line.length : Nat) : Int) > 40))) (by first | rfl | (simp only [beq_iff_eq]; done) | simp) (fun hc12 => ?_) (fun hc12 => ?_)
              · rw [if_pos hc12] at h
                try simp (disch := assumption) only [go_sem, Nat.reduceAdd, Nat.reduceMul, Nat.reduceSub, Nat.reduceEqDiff, ↓reduceIte, Nat.reduceLT, reduceCtorEq, Nat.reduceLeDiff, Int.reduceToNat, Int.reduceEq, Int.reduceLE, Int.reduceLT, Nat.reduceBEq]
                have he := Option.some.inj h
                subst he
                refine ends_weak ⟨[(2, (.lf false (.sc (.bool false))))], [], 0, 57⟩ (weak_of (m := 0) [] rfl rfl rfl (by simp [injR]) ?_ ?_) ?_
                all_goals ((try simp (disch := assumption) only [go_sem, Nat.reduceAdd, Nat.reduceMul, Nat.reduceSub, Nat.reduceEqDiff, ↓reduceIte, Nat.reduceLT, reduceCtorEq, Nat.reduceLeDiff, Int.reduceToNat, Int.reduceEq, Int.reduceLE, Int.reduceLT, Nat.reduceBEq]); (repeat' first | done | rfl | omega | refine And.intro ?_ ?_ | (simp; done) | (simp; omega)))
              · rw [if_neg (nt hc12)] at h
                try simp (disch := assumption) only [go_sem, Nat.reduceAdd, Nat.reduceMul, Nat.reduceSub, Nat.reduceEqDiff, ↓reduceIte, Nat.reduceLT, reduceCtorEq, Nat.reduceLeDiff, Int.reduceToNat, Int.reduceEq, Int.reduceLE, Int.reduceLT, Nat.reduceBEq]
                obtain ⟨c75, hr13, h⟩ := bind_ok h
                refine Cl_shown (w_slices_ContainsFunc_impl_Packet_impl_GoodQueue_c2r hr13) (by first | rfl | (simp (disch := assumption) only [go_sem, Nat.reduceAdd, Nat.reduceMul, Nat.reduceSub, Nat.reduceEqDiff, ↓reduceIte, Nat.reduceLT, reduceCtorEq, Nat.reduceLeDiff, Int.reduceToNat, Int.reduceEq, Int.reduceLE, Int.reduceLT, Nat.reduceBEq]; first | done | rfl)) (FitAll.refl _) (.inr ⟨rfl, by simp [freeOb, free1]⟩) ?_
                try simp (disch := assumption) only [go_sem, Nat.reduceAdd, Nat.reduceMul, Nat.reduceSub, Nat.reduceEqDiff, ↓reduceIte, Nat.reduceLT, reduceCtorEq, Nat.reduceLeDiff, Int.reduceToNat, Int.reduceEq, Int.reduceLE, Int.reduceLT, Nat.reduceBEq]
                have he := Option.some.inj h
                subst he
                refine ends_weak ⟨[(2, (.lf false (.sc (.bool (!c75)))))], [], 0, 57⟩ (weak_of (m := 0) [] rfl rfl rfl (by simp [injR]) ?_ ?_) ?_
                all_goals ((try simp (disch := assumption) only [go_sem, Nat.reduceAdd, Nat.reduceMul, Nat.reduceSub, Nat.reduceEqDiff, ↓reduceIte, Nat.reduceLT, reduceCtorEq, Nat.reduceLeDiff, Int.reduceToNat, Int.reduceEq, Int.reduceLE, Int.reduceLT, Nat.reduceBEq]); (repeat' first | done | rfl | omega | refine And.intro ?_ ?_ | (simp; done) | (simp; omega)))
theorem w_impl_WaitingIn {a0 : QueueT} {r : (Int × Bool)} (h : impl_WaitingIn a0 = some r) : Fn Try.prog 57 [(.ag [(.lf false (.sc (.int .i64 a0.Window))), (.lf true (.sl (a0.Sent.map eS))), (.lf false (.sc (.int .i64 a0.Base))), (.lf true (.sl (a0.Got.map eS))), (.lf true (.sl (a0.Line.map ePacket)))])] [] 0 (.tu [(.lf false (.sc (.int .i64 r.1))), (.lf false (.sc (.bool r.2)))]) [] 0 := by
  unfold impl_WaitingIn at h
  refine fn_code tab_ok mixed [(1000, [(1, 0)]), (1001, [(1, 0), (6, 0)]), (1002, [(2, 0), (3, 0)]), (1003, [(2, 0), (3, 0)])] Try.func57 rfl rfl (by simp [Try.f57]) (by kernel_rfl) ?_
  simp only [Try.f57]
  simp (disch := assumption) only [go_sem, Nat.reduceAdd, Nat.reduceMul, Nat.reduceSub, Nat.reduceEqDiff, ↓reduceIte, Nat.reduceLT, reduceCtorEq, Nat.reduceLeDiff, Int.reduceToNat, Int.reduceEq, Int.reduceLE, Int.reduceLT, Nat.reduceBEq]
  obtain ⟨c76, hr1, h⟩ := bind_ok h
  refine Cl_shown (w_impl_GoodQueue hr1) (by first | rfl | (simp (disch := assumption) only [go_sem, Nat.reduceAdd, Nat.reduceMul, Nat.reduceSub, Nat.reduceEqDiff, ↓reduceIte, Nat.reduceLT, reduceCtorEq, Nat.reduceLeDiff, Int.reduceToNat, Int.reduceEq, Int.reduceLE, Int.reduceLT, Nat.reduceBEq]; first | done | rfl)) (FitAll.refl _) (.inl (by first | rfl | (simp (disch := assumption) only [go_sem, Nat.reduceAdd, Nat.reduceMul, Nat.reduceSub, Nat.reduceEqDiff, ↓reduceIte, Nat.reduceLT, reduceCtorEq, Nat.reduceLeDiff, Int.reduceToNat, Int.reduceEq, Int.reduceLE, Int.reduceLT, Nat.reduceBEq]; done))) ?_
  try simp (disch := assumption) only [go_sem, Nat.reduceAdd, Nat.reduceMul, Nat.reduceSub, Nat.reduceEqDiff, ↓reduceIte, Nat.reduceLT, reduceCtorEq, Nat.reduceLeDiff, Int.reduceToNat, Int.reduceEq, Int.reduceLE, Int.reduceLT, Nat.reduceBEq]
  refine Bs_splitC ((!c76)) (by first | rfl | (simp only [beq_iff_eq]; done) | simp) (fun hc2 => ?_) (fun hc2 => ?_)
  · rw [if_pos hc2] at h
    try simp (disch := assumption) only [go_sem, Nat.reduceAdd, Nat.reduceMul, Nat.reduceSub, Nat.reduceEqDiff, ↓reduceIte, Nat.reduceLT, reduceCtorEq, Nat.reduceLeDiff, Int.reduceToNat, Int.reduceEq, Int.reduceLE, Int.reduceLT, Nat.reduceBEq]
    have he := Option.some.inj h
    subst he
    refine ends_weak ⟨[(2, (.lf false (.sc (.int .i64 0)))), (3, (.lf false (.sc (.bool false))))], [], 0, 14⟩ (weak_of (m := 0) [] rfl rfl rfl (by simp [injR]) ?_ ?_) ?_
    all_goals ((try simp (disch := assumption) only [go_sem, Nat.reduceAdd, Nat.reduceMul, Nat.reduceSub, Nat.reduceEqDiff, ↓reduceIte, Nat.reduceLT, reduceCtorEq, Nat.reduceLeDiff, Int.reduceToNat, Int.reduceEq, Int.reduceLE, Int.reduceLT, Nat.reduceBEq]); (repeat' first | done | rfl | omega | refine And.intro ?_ ?_ | (simp; done) | (simp; omega)))
  · rw [if_neg (nt hc2)] at h
    try simp (disch := assumption) only [go_sem, Nat.reduceAdd, Nat.reduceMul, Nat.reduceSub, Nat.reduceEqDiff, ↓reduceIte, Nat.reduceLT, reduceCtorEq, Nat.reduceLeDiff, Int.reduceToNat, Int.reduceEq, Int.reduceLE, Int.reduceLT, Nat.reduceBEq]
    have he := Option.some.inj h
    subst he
    refine ends_weak ⟨[(2, (.lf false (.sc (.int .i64 (wI (((a0.Sent.length : Nat) : Int) - ((a0.Got.length : Nat) : Int))))))), (3, (.lf false (.sc (.bool true))))], [], 0, 14⟩ (weak_of (m := 0) [] rfl rfl rfl (by simp [injR]) ?_ ?_) ?_
    all_goals ((try simp (disch := assumption) only [go_sem, Nat.reduceAdd, Nat.reduceMul, Nat.reduceSub, Nat.reduceEqDiff, ↓reduceIte, Nat.reduceLT, reduceCtorEq, Nat.reduceLeDiff, Int.reduceToNat, Int.reduceEq, Int.reduceLE, Int.reduceLT, Nat.reduceBEq]); (repeat' first | done | rfl | omega | refine And.intro ?_ ?_ | (simp; done) | (simp; omega)))
theorem w_laws_eqStringS {a0 : (List ByteArray)} {a1 : (List ByteArray)} {r : Bool} (h : laws_eqStringS a0 a1 = some r) : Fn Try.prog 76 [(.lf true (.sl (a0.map eS))), (.lf true (.sl (a1.map eS)))] [] 0 (.lf false (.sc (.bool r))) [] 0 := by
  unfold laws_eqStringS at h
  refine fn_code tab_ok mixed [(1000, [(0, 0), (1, 0)]), (1001, [(0, 0), (1, 0), (10, 0)]), (1002, [(4, 0)]), (1003, [(0, 0), (1, 0), (5, 0)]), (1004, [(0, 0), (1, 0), (5, 0), (14, 0)]), (1005, [(0, 0), (1, 0), (5, 0)]), (1006, [(0, 0), (1, 0), (5, 0), (25, 0)]), (1007, [(4, 0)]), (1008, [(4, 0)])] Try.func76 rfl rfl (by simp [Try.f76]) (by kernel_rfl) ?_
  simp only [Try.f76]
  simp (disch := assumption) only [go_sem, Nat.reduceAdd, Nat.reduceMul, Nat.reduceSub, Nat.reduceEqDiff, ↓reduceIte, Nat.reduceLT, reduceCtorEq, Nat.reduceLeDiff, Int.reduceToNat, Int.reduceEq, Int.reduceLE, Int.reduceLT, Nat.reduceBEq]
  refine Bs_splitC ((((a0.length : Nat) : Int) != ((a1.length : Nat) : Int))) (by first | rfl | (simp only [beq_iff_eq]; done) | simp) (fun hc1 => ?_) (fun hc1 => ?_)
  · rw [if_pos hc1] at h
    try simp (disch := assumption) only [go_sem, Nat.reduceAdd, Nat.reduceMul, Nat.reduceSub, Nat.reduceEqDiff, ↓reduceIte, Nat.reduceLT, reduceCtorEq, Nat.reduceLeDiff, Int.reduceToNat, Int.reduceEq, Int.reduceLE, Int.reduceLT, Nat.reduceBEq]
    have he := Option.some.inj h
    subst he
    refine ends_weak ⟨[(4, (.lf false (.sc (.bool false))))], [], 0, 26⟩ (weak_of (m := 0) [] rfl rfl rfl (by simp [injR]) ?_ ?_) ?_
    all_goals ((try simp (disch := assumption) only [go_sem, Nat.reduceAdd, Nat.reduceMul, Nat.reduceSub, Nat.reduceEqDiff, ↓reduceIte, Nat.reduceLT, reduceCtorEq, Nat.reduceLeDiff, Int.reduceToNat, Int.reduceEq, Int.reduceLE, Int.reduceLT, Nat.reduceBEq]); (repeat' first | done | rfl | omega | refine And.intro ?_ ?_ | (simp; done) | (simp; omega)))
  · rw [if_neg (nt hc1)] at h
    try simp (disch := assumption) only [go_sem, Nat.reduceAdd, Nat.reduceMul, Nat.reduceSub, Nat.reduceEqDiff, ↓reduceIte, Nat.reduceLT, reduceCtorEq, Nat.reduceLeDiff, Int.reduceToNat, Int.reduceEq, Int.reduceLE, Int.reduceLT, Nat.reduceBEq]
    obtain ⟨y80, hl2, h⟩ := bind_ok h
    refine W_loopP (fun g79 : laws_eqStringS_G1 => ⟨[(0, (.lf true (.sl (a0.map eS)))), (1, (.lf true (.sl (a1.map eS)))), (5, (.lf false (.sc (.int .i64 g79.t5))))], [], 0, 26⟩) (laws_eqStringS_L1 a0 a1) _ _ hl2 (weak_of (m := 0) [] rfl rfl rfl (by simp [injR]) ?_ ?_) ?_
    rotate_left 2
    · intro n1 g79 z1 hs1 hk1
      unfold laws_eqStringS_L1 at hs1
      try dsimp only at hs1
      simp (disch := assumption) only [go_sem, Nat.reduceAdd, Nat.reduceMul, Nat.reduceSub, Nat.reduceEqDiff, ↓reduceIte, Nat.reduceLT, reduceCtorEq, Nat.reduceLeDiff, Int.reduceToNat, Int.reduceEq, Int.reduceLE, Int.reduceLT, Nat.reduceBEq]
      refine Bs_splitC ((decide (g79.t5 < ((a0.length : Nat) : Int)))) (by first | rfl | (simp only [beq_iff_eq]; done) | simp) (fun hc3 => ?_) (fun hc3 => ?_)
      · rw [if_pos hc3] at hs1
        try simp (disch := assumption) only [go_sem, Nat.reduceAdd, Nat.reduceMul, Nat.reduceSub, Nat.reduceEqDiff, ↓reduceIte, Nat.reduceLT, reduceCtorEq, Nat.reduceLeDiff, Int.reduceToNat, Int.reduceEq, Int.reduceLE, Int.reduceLT, Nat.reduceBEq]
        obtain ⟨hp4, hs1⟩ := guard_some hs1
        have hn4 : g79.t5.toNat < a0.length := by first | omega | (simp only [List.length_set, List.length_append, List.length_replicate, List.length_map]; omega)
        try simp (disch := assumption) only [go_sem, Nat.reduceAdd, Nat.reduceMul, Nat.reduceSub, Nat.reduceEqDiff, ↓reduceIte, Nat.reduceLT, reduceCtorEq, Nat.reduceLeDiff, Int.reduceToNat, Int.reduceEq, Int.reduceLE, Int.reduceLT, Nat.reduceBEq]
        first | refine And.intro (by first | omega | exact ⟨by omega, fun _ => mapLen fun _ => rfl⟩ | (refine ⟨by omega, ?_, by omega⟩; first | exact mapLen fun _ => rfl | simp) | (refine ⟨?_, by omega⟩; first | exact mapLen fun _ => rfl | simp)) ?_ | skip
        obtain ⟨hp5, hs1⟩ := guard_some hs1
        have hn5 : g79.t5.toNat < a1.length := by first | omega | (simp only [List.length_set, List.length_append, List.length_replicate, List.length_map]; omega)
        try simp (disch := assumption) only [go_sem, Nat.reduceAdd, Nat.reduceMul, Nat.reduceSub, Nat.reduceEqDiff, ↓reduceIte, Nat.reduceLT, reduceCtorEq, Nat.reduceLeDiff, Int.reduceToNat, Int.reduceEq, Int.reduceLE, Int.reduceLT, Nat.reduceBEq]
        first | refine And.intro (by first | omega | exact ⟨by omega, fun _ => mapLen fun _ => rfl⟩ | (refine ⟨by omega, ?_, by omega⟩; first | exact mapLen fun _ => rfl | simp) | (refine ⟨?_, by omega⟩; first | exact mapLen fun _ => rfl | simp)) ?_ | skip
        refine Bs_splitC ((!((nth a0 g79.t5.toNat).toList == (nth a1 g79.t5.toNat).toList))) (by first | rfl | (simp only [beq_iff_eq]; done) | simp) (fun hc6 => ?_) (fun hc6 => ?_)
        · rw [if_pos hc6] at hs1
          try simp (disch := assumption) only [go_sem, Nat.reduceAdd, Nat.reduceMul, Nat.reduceSub, Nat.reduceEqDiff, ↓reduceIte, Nat.reduceLT, reduceCtorEq, Nat.reduceLeDiff, Int.reduceToNat, Int.reduceEq, Int.reduceLE, Int.reduceLT, Nat.reduceBEq]
          cases hs1
          cases hk1
          try dsimp only at h
          try simp (disch := assumption) only [go_sem, Nat.reduceAdd, Nat.reduceMul, Nat.reduceSub, Nat.reduceEqDiff, ↓reduceIte, Nat.reduceLT, reduceCtorEq, Nat.reduceLeDiff, Int.reduceToNat, Int.reduceEq, Int.reduceLE, Int.reduceLT, Nat.reduceBEq]
          have he := Option.some.inj h
          subst he
          refine ends_weak ⟨[(4, (.lf false (.sc (.bool false))))], [], 0, 26⟩ (weak_of (m := 0) [] rfl rfl rfl (by simp [injR]) ?_ ?_) ?_
          all_goals ((try simp (disch := assumption) only [go_sem, Nat.reduceAdd, Nat.reduceMul, Nat.reduceSub, Nat.reduceEqDiff, ↓reduceIte, Nat.reduceLT, reduceCtorEq, Nat.reduceLeDiff, Int.reduceToNat, Int.reduceEq, Int.reduceLE, Int.reduceLT, Nat.reduceBEq]); (repeat' first | done | rfl | omega | refine And.intro ?_ ?_ | (simp; done) | (simp; omega)))
        · rw [if_neg (nt hc6)] at hs1
          try simp (disch := assumption) only [go_sem, Nat.reduceAdd, Nat.reduceMul, Nat.reduceSub, Nat.reduceEqDiff, ↓reduceIte, Nat.reduceLT, reduceCtorEq, Nat.reduceLeDiff, Int.reduceToNat, Int.reduceEq, Int.reduceLE, Int.reduceLT, Nat.reduceBEq]
          cases hs1
          refine X_backP hk1 ?_
          refine weak_of (m := 0) [] rfl rfl rfl (by simp [injR]) ?_ ?_
          all_goals ((try simp (disch := assumption) only [go_sem, Nat.reduceAdd, Nat.reduceMul, Nat.reduceSub, Nat.reduceEqDiff, ↓reduceIte, Nat.reduceLT, reduceCtorEq, Nat.reduceLeDiff, Int.reduceToNat, Int.reduceEq, Int.reduceLE, Int.reduceLT, Nat.reduceBEq]); (repeat' first | done | rfl | omega | refine And.intro ?_ ?_ | (simp; done) | (simp; omega)))
      · rw [if_neg (nt hc3)] at hs1
        try simp (disch := assumption) only [go_sem, Nat.reduceAdd, Nat.reduceMul, Nat.reduceSub, Nat.reduceEqDiff, ↓reduceIte, Nat.reduceLT, reduceCtorEq, Nat.reduceLeDiff, Int.reduceToNat, Int.reduceEq, Int.reduceLE, Int.reduceLT, Nat.reduceBEq]
        cases hs1
        cases hk1
        try dsimp only at h
        try simp (disch := assumption) only [go_sem, Nat.reduceAdd, Nat.reduceMul, Nat.reduceSub, Nat.reduceEqDiff, ↓reduceIte, Nat.reduceLT, reduceCtorEq, Nat.reduceLeDiff, Int.reduceToNat, Int.reduceEq, Int.reduceLE, Int.reduceLT, Nat.reduceBEq]
        have he := Option.some.inj h
        subst he
        refine ends_weak ⟨[(4, (.lf false (.sc (.bool true))))], [], 0, 26⟩ (weak_of (m := 0) [] rfl rfl rfl (by simp [injR]) ?_ ?_) ?_
        all_goals ((try simp (disch := assumption) only [go_sem, Nat.reduceAdd, Nat.reduceMul, Nat.reduceSub, Nat.reduceEqDiff, ↓reduceIte, Nat.reduceLT, reduceCtorEq, Nat.reduceLeDiff, Int.reduceToNat, Int.reduceEq, Int.reduceLE, Int.reduceLT, Nat.reduceBEq]); (repeat' first | done | rfl | omega | refine And.intro ?_ ?_ | (simp; done) | (simp; omega)))
    all_goals ((try simp (disch := assumption) only [go_sem, Nat.reduceAdd, Nat.reduceMul, Nat.reduceSub, Nat.reduceEqDiff, ↓reduceIte, Nat.reduceLT, reduceCtorEq, Nat.reduceLeDiff, Int.reduceToNat, Int.reduceEq, Int.reduceLE, Int.reduceLT, Nat.reduceBEq]); (repeat' first | done | rfl | omega | refine And.intro ?_ ?_ | (simp; done) | (simp; omega)))
theorem w_laws_eqPacket {a0 : PacketT} {a1 : PacketT} {r : Bool} (h : laws_eqPacket a0 a1 = some r) : Fn Try.prog 109 [(.ag [(.lf false (.sc (.bool a0.Ack))), (.lf false (.sc (.int .i64 a0.No))), (.lf false (.sc (.string a0.Text)))]), (.ag [(.lf false (.sc (.bool a1.Ack))), (.lf false (.sc (.int .i64 a1.No))), (.lf false (.sc (.string a1.Text)))])] [] 0 (.lf false (.sc (.bool r))) [] 0 := by
  unfold laws_eqPacket at h
  refine fn_code tab_ok mixed [(1000, [(2, 0), (3, 0)]), (1001, [(2, 0), (3, 0), (9, 0)]), (1002, [(4, 0)]), (1003, [(2, 0), (3, 0), (14, 0)]), (1004, [(4, 0)]), (1005, [(19, 0)]), (1006, [(4, 0)]), (1007, [(4, 0)])] Try.func109 rfl rfl (by simp [Try.f109]) (by kernel_rfl) ?_
  simp only [Try.f109]
  simp (disch := assumption) only [go_sem, Nat.reduceAdd, Nat.reduceMul, Nat.reduceSub, Nat.reduceEqDiff, ↓reduceIte, Nat.reduceLT, reduceCtorEq, Nat.reduceLeDiff, Int.reduceToNat, Int.reduceEq, Int.reduceLE, Int.reduceLT, Nat.reduceBEq]
  refine Bs_splitC ((!(a0.Ack == a1.Ack))) (by first | rfl | (simp only [beq_iff_eq]; done) | simp) (fun hc1 => ?_) (fun hc1 => ?_)
  · rw [if_pos hc1] at h
    try simp (disch := assumption) only [go_sem, Nat.reduceAdd, Nat.reduceMul, Nat.reduceSub, Nat.reduceEqDiff, ↓reduceIte, Nat.reduceLT, reduceCtorEq, Nat.reduceLeDiff, Int.reduceToNat, Int.reduceEq, Int.reduceLE, Int.reduceLT, Nat.reduceBEq]
    have he := Option.some.inj h
    subst he
    refine ends_weak ⟨[(4, (.lf false (.sc (.bool false))))], [], 0, 20⟩ (weak_of (m := 0) [] rfl rfl rfl (by simp [injR]) ?_ ?_) ?_
    all_goals ((try simp (disch := assumption) only [go_sem, Nat.reduceAdd, Nat.reduceMul, Nat.reduceSub, Nat.reduceEqDiff, ↓reduceIte, Nat.reduceLT, reduceCtorEq, Nat.reduceLeDiff, Int.reduceToNat, Int.reduceEq, Int.reduceLE, Int.reduceLT, Nat.reduceBEq]); (repeat' first | done | rfl | omega | refine And.intro ?_ ?_ | (simp; done) | (simp; omega)))
  · rw [if_neg (nt hc1)] at h
    try simp (disch := assumption) only [go_sem, Nat.reduceAdd, Nat.reduceMul, Nat.reduceSub, Nat.reduceEqDiff, ↓reduceIte, Nat.reduceLT, reduceCtorEq, Nat.reduceLeDiff, Int.reduceToNat, Int.reduceEq, Int.reduceLE, Int.reduceLT, Nat.reduceBEq]
    refine Bs_splitC ((a0.No != a1.No)) (by first | rfl | (simp only [beq_iff_eq]; done) | simp) (fun hc2 => ?_) (fun hc2 => ?_)
    · rw [if_pos hc2] at h
      try simp (disch := assumption) only [go_sem, Nat.reduceAdd, Nat.reduceMul, Nat.reduceSub, Nat.reduceEqDiff, ↓reduceIte, Nat.reduceLT, reduceCtorEq, Nat.reduceLeDiff, Int.reduceToNat, Int.reduceEq, Int.reduceLE, Int.reduceLT, Nat.reduceBEq]
      have he := Option.some.inj h
      subst he
      refine ends_weak ⟨[(4, (.lf false (.sc (.bool false))))], [], 0, 20⟩ (weak_of (m := 0) [] rfl rfl rfl (by simp [injR]) ?_ ?_) ?_
      all_goals ((try simp (disch := assumption) only [go_sem, Nat.reduceAdd, Nat.reduceMul, Nat.reduceSub, Nat.reduceEqDiff, ↓reduceIte, Nat.reduceLT, reduceCtorEq, Nat.reduceLeDiff, Int.reduceToNat, Int.reduceEq, Int.reduceLE, Int.reduceLT, Nat.reduceBEq]); (repeat' first | done | rfl | omega | refine And.intro ?_ ?_ | (simp; done) | (simp; omega)))
    · rw [if_neg (nt hc2)] at h
      try simp (disch := assumption) only [go_sem, Nat.reduceAdd, Nat.reduceMul, Nat.reduceSub, Nat.reduceEqDiff, ↓reduceIte, Nat.reduceLT, reduceCtorEq, Nat.reduceLeDiff, Int.reduceToNat, Int.reduceEq, Int.reduceLE, Int.reduceLT, Nat.reduceBEq]
      refine Bs_splitC ((!(a0.Text.toList == a1.Text.toList))) (by first | rfl | (simp only [beq_iff_eq]; done) | simp) (fun hc3 => ?_) (fun hc3 => ?_)
      · rw [if_pos hc3] at h
        try simp (disch := assumption) only [go_sem, Nat.reduceAdd, Nat.reduceMul, Nat.reduceSub, Nat.reduceEqDiff, ↓reduceIte, Nat.reduceLT, reduceCtorEq, Nat.reduceLeDiff, Int.reduceToNat, Int.reduceEq, Int.reduceLE, Int.reduceLT, Nat.reduceBEq]
        have he := Option.some.inj h
        subst he
        refine ends_weak ⟨[(4, (.lf false (.sc (.bool false))))], [], 0, 20⟩ (weak_of (m := 0) [] rfl rfl rfl (by simp [injR]) ?_ ?_) ?_
        all_goals ((try simp (disch := assumption) only [go_sem, Nat.reduceAdd, Nat.reduceMul, Nat.reduceSub, Nat.reduceEqDiff, ↓reduceIte, Nat.reduceLT, reduceCtorEq, Nat.reduceLeDiff, Int.reduceToNat, Int.reduceEq, Int.reduceLE, Int.reduceLT, Nat.reduceBEq]); (repeat' first | done | rfl | omega | refine And.intro ?_ ?_ | (simp; done) | (simp; omega)))
      · rw [if_neg (nt hc3)] at h
        try simp (disch := assumption) only [go_sem, Nat.reduceAdd, Nat.reduceMul, Nat.reduceSub, Nat.reduceEqDiff, ↓reduceIte, Nat.reduceLT, reduceCtorEq, Nat.reduceLeDiff, Int.reduceToNat, Int.reduceEq, Int.reduceLE, Int.reduceLT, Nat.reduceBEq]
        have he := Option.some.inj h
        subst he
        refine ends_weak ⟨[(4, (.lf false (.sc (.bool true))))], [], 0, 20⟩ (weak_of (m := 0) [] rfl rfl rfl (by simp [injR]) ?_ ?_) ?_
        all_goals ((try simp (disch := assumption) only [go_sem, Nat.reduceAdd, Nat.reduceMul, Nat.reduceSub, Nat.reduceEqDiff, ↓reduceIte, Nat.reduceLT, reduceCtorEq, Nat.reduceLeDiff, Int.reduceToNat, Int.reduceEq, Int.reduceLE, Int.reduceLT, Nat.reduceBEq]); (repeat' first | done | rfl | omega | refine And.intro ?_ ?_ | (simp; done) | (simp; omega)))
theorem w_laws_eqPacketS {a0 : (List PacketT)} {a1 : (List PacketT)} {r : Bool} (h : laws_eqPacketS a0 a1 = some r) : Fn Try.prog 77 [(.lf true (.sl (a0.map ePacket))), (.lf true (.sl (a1.map ePacket)))] [] 0 (.lf false (.sc (.bool r))) [] 0 := by
  unfold laws_eqPacketS at h
  refine fn_code tab_ok mixed [(1000, [(0, 0), (1, 0)]), (1001, [(0, 0), (1, 0), (10, 0)]), (1002, [(4, 0)]), (1003, [(0, 0), (1, 0), (5, 0)]), (1004, [(0, 0), (1, 0), (5, 0), (14, 0)]), (1005, [(0, 0), (1, 0), (5, 0)]), (1006, [(0, 0), (1, 0), (5, 0), (26, 0)]), (1007, [(4, 0)]), (1008, [(4, 0)])] Try.func77 rfl rfl (by simp [Try.f77]) (by kernel_rfl) ?_
  simp only [Try.f77]
  simp (disch := assumption) only [go_sem, Nat.reduceAdd, Nat.reduceMul, Nat.reduceSub, Nat.reduceEqDiff, ↓reduceIte, Nat.reduceLT, reduceCtorEq, Nat.reduceLeDiff, Int.reduceToNat, Int.reduceEq, Int.reduceLE, Int.reduceLT, Nat.reduceBEq]
  refine Bs_splitC ((((a0.length : Nat) : Int) != ((a1.length : Nat) : Int))) (by first | rfl | (simp only [beq_iff_eq]; done) | simp) (fun hc1 => ?_) (fun hc1 => ?_)
  · rw [if_pos hc1] at h
    try simp (disch := assumption) only [go_sem, Nat.reduceAdd, Nat.reduceMul, Nat.reduceSub, Nat.reduceEqDiff, ↓reduceIte, Nat.reduceLT, reduceCtorEq, Nat.reduceLeDiff, Int.reduceToNat, Int.reduceEq, Int.reduceLE, Int.reduceLT, Nat.reduceBEq]
    have he := Option.some.inj h
    subst he
    refine ends_weak ⟨[(4, (.lf false (.sc (.bool false))))], [], 0, 27⟩ (weak_of (m := 0) [] rfl rfl rfl (by simp [injR]) ?_ ?_) ?_
    all_goals ((try simp (disch := assumption) only [go_sem, Nat.reduceAdd, Nat.reduceMul, Nat.reduceSub, Nat.reduceEqDiff, ↓reduceIte, Nat.reduceLT, reduceCtorEq, Nat.reduceLeDiff, Int.reduceToNat, Int.reduceEq, Int.reduceLE, Int.reduceLT, Nat.reduceBEq]); (repeat' first | done | rfl | omega | refine And.intro ?_ ?_ | (simp; done) | (simp; omega)))
  · rw [if_neg (nt hc1)] at h
    try simp (disch := assumption) only [go_sem, Nat.reduceAdd, Nat.reduceMul, Nat.reduceSub, Nat.reduceEqDiff, ↓reduceIte, Nat.reduceLT, reduceCtorEq, Nat.reduceLeDiff, Int.reduceToNat, Int.reduceEq, Int.reduceLE, Int.reduceLT, Nat.reduceBEq]
    obtain ⟨y88, hl2, h⟩ := bind_ok h
    refine W_loopP (fun g85 : laws_eqPacketS_G1 => ⟨[(0, (.lf true (.sl (a0.map ePacket)))), (1, (.lf true (.sl (a1.map ePacket)))), (5, (.lf false (.sc (.int .i64 g85.t5))))], [], 0, 27⟩) (laws_eqPacketS_L1 a0 a1) _ _ hl2 (weak_of (m := 0) [] rfl rfl rfl (by simp [injR]) ?_ ?_) ?_
    rotate_left 2
    · intro n1 g85 z1 hs1 hk1
      unfold laws_eqPacketS_L1 at hs1
      try dsimp only at hs1
      simp (disch := assumption) only [go_sem, Nat.reduceAdd, Nat.reduceMul, Nat.reduceSub, Nat.reduceEqDiff, ↓reduceIte, Nat.reduceLT, reduceCtorEq, Nat.reduceLeDiff, Int.reduceToNat, Int.reduceEq, Int.reduceLE, Int.reduceLT, Nat.reduceBEq]
      refine Bs_splitC ((decide (g85.t5 < ((a0.length : Nat) : Int)))) (by first | rfl | (simp only [beq_iff_eq]; done) | simp) (fun hc3 => ?_) (fun hc3 => ?_)
      · rw [if_pos hc3] at hs1
        try simp (disch := assumption) only [go_sem, Nat.reduceAdd, Nat.reduceMul, Nat.reduceSub, Nat.reduceEqDiff, ↓reduceIte, Nat.reduceLT, reduceCtorEq, Nat.reduceLeDiff, Int.reduceToNat, Int.reduceEq, Int.reduceLE, Int.reduceLT, Nat.reduceBEq]
        obtain ⟨hp4, hs1⟩ := guard_some hs1
        have hn4 : g85.t5.toNat < a0.length := by first | omega | (simp only [List.length_set, List.length_append, List.length_replicate, List.length_map]; omega)
        try simp (disch := assumption) only [go_sem, Nat.reduceAdd, Nat.reduceMul, Nat.reduceSub, Nat.reduceEqDiff, ↓reduceIte, Nat.reduceLT, reduceCtorEq, Nat.reduceLeDiff, Int.reduceToNat, Int.reduceEq, Int.reduceLE, Int.reduceLT, Nat.reduceBEq]
        first | refine And.intro (by first | omega | exact ⟨by omega, fun _ => mapLen fun _ => rfl⟩ | (refine ⟨by omega, ?_, by omega⟩; first | exact mapLen fun _ => rfl | simp) | (refine ⟨?_, by omega⟩; first | exact mapLen fun _ => rfl | simp)) ?_ | skip
        obtain ⟨hp5, hs1⟩ := guard_some hs1
        have hn5 : g85.t5.toNat < a1.length := by first | omega | (simp only [List.length_set, List.length_append, List.length_replicate, List.length_map]; omega)
        try simp (disch := assumption) only [go_sem, Nat.reduceAdd, Nat.reduceMul, Nat.reduceSub, Nat.reduceEqDiff, ↓reduceIte, Nat.reduceLT, reduceCtorEq, Nat.reduceLeDiff, Int.reduceToNat, Int.reduceEq, Int.reduceLE, Int.reduceLT, Nat.reduceBEq]
        first | refine And.intro (by first | omega | exact ⟨by omega, fun _ => mapLen fun _ => rfl⟩ | (refine ⟨by omega, ?_, by omega⟩; first | exact mapLen fun _ => rfl | simp) | (refine ⟨?_, by omega⟩; first | exact mapLen fun _ => rfl | simp)) ?_ | skip
        obtain ⟨c87, hr6, hs1⟩ := bind_ok hs1
        refine Cl_shown (w_laws_eqPacket hr6) (by first | rfl | (simp (disch := assumption) only [go_sem, Nat.reduceAdd, Nat.reduceMul, Nat.reduceSub, Nat.reduceEqDiff, ↓reduceIte, Nat.reduceLT, reduceCtorEq, Nat.reduceLeDiff, Int.reduceToNat, Int.reduceEq, Int.reduceLE, Int.reduceLT, Nat.reduceBEq]; first | done | rfl)) (FitAll.refl _) (.inl (by first | rfl | (simp (disch := assumption) only [go_sem, Nat.reduceAdd, Nat.reduceMul, Nat.reduceSub, Nat.reduceEqDiff, ↓reduceIte, Nat.reduceLT, reduceCtorEq, Nat.reduceLeDiff, Int.reduceToNat, Int.reduceEq, Int.reduceLE, Int.reduceLT, Nat.reduceBEq]; done))) ?_
        try simp (disch := assumption) only [go_sem, Nat.reduceAdd, Nat.reduceMul, Nat.reduceSub, Nat.reduceEqDiff, ↓reduceIte, Nat.reduceLT, reduceCtorEq, Nat.reduceLeDiff, Int.reduceToNat, Int.reduceEq, Int.reduceLE, Int.reduceLT, Nat.reduceBEq]
        refine Bs_splitC ((!c87)) (by first | rfl | (simp only [beq_iff_eq]; done) | simp) (fun hc7 => ?_) (fun hc7 => ?_)
        · rw [if_pos hc7] at hs1
          try simp (disch := assumption) only [go_sem, Nat.reduceAdd, Nat.reduceMul, Nat.reduceSub, Nat.reduceEqDiff, ↓reduceIte, Nat.reduceLT, reduceCtorEq, Nat.reduceLeDiff, Int.reduceToNat, Int.reduceEq, Int.reduceLE, Int.reduceLT, Nat.reduceBEq]
          cases hs1
          cases hk1
          try dsimp only at h
          try simp (disch := assumption) only [go_sem, Nat.reduceAdd, Nat.reduceMul, Nat.reduceSub, Nat.reduceEqDiff, ↓reduceIte, Nat.reduceLT, reduceCtorEq, Nat.reduceLeDiff, Int.reduceToNat, Int.reduceEq, Int.reduceLE, Int.reduceLT, Nat.reduceBEq]
          have he := Option.some.inj h
          subst he
          refine ends_weak ⟨[(4, (.lf false (.sc (.bool false))))], [], 0, 27⟩ (weak_of (m := 0) [] rfl rfl rfl (by simp [injR]) ?_ ?_) ?_
          all_goals ((try simp (disch := assumption) only [go_sem, Nat.reduceAdd, Nat.reduceMul, Nat.reduceSub, Nat.reduceEqDiff, ↓reduceIte, Nat.reduceLT, reduceCtorEq, Nat.reduceLeDiff, Int.reduceToNat, Int.reduceEq, Int.reduceLE, Int.reduceLT, Nat.reduceBEq]); (repeat' first | done | rfl | omega | refine And.intro ?_ ?_ | (simp; done) | (simp; omega)))
        · rw [if_neg (nt hc7)] at hs1
          try simp (disch := assumption) only [go_sem, Nat.reduceAdd, Nat.reduceMul, Nat.reduceSub, Nat.reduceEqDiff, ↓reduceIte, Nat.reduceLT, reduceCtorEq, Nat.reduceLeDiff, Int.reduceToNat, Int.reduceEq, Int.reduceLE, Int.reduceLT, Nat.reduceBEq]
          cases hs1
          refine X_backP hk1 ?_
          refine weak_of (m := 0) [] rfl rfl rfl (by simp [injR]) ?_ ?_
          all_goals ((try simp (disch := assumption) only [go_sem, Nat.reduceAdd, Nat.reduceMul, Nat.reduceSub, Nat.reduceEqDiff, ↓reduceIte, Nat.reduceLT, reduceCtorEq, Nat.reduceLeDiff, Int.reduceToNat, Int.reduceEq, Int.reduceLE, Int.reduceLT, Nat.reduceBEq]); (repeat' first | done | rfl | omega | refine And.intro ?_ ?_ | (simp; done) | (simp; omega)))
      · rw [if_neg (nt hc3)] at hs1
        try simp (disch := assumption) only [go_sem, Nat.reduceAdd, Nat.reduceMul, Nat.reduceSub, Nat.reduceEqDiff, ↓reduceIte, Nat.reduceLT, reduceCtorEq, Nat.reduceLeDiff, Int.reduceToNat, Int.reduceEq, Int.reduceLE, Int.reduceLT, Nat.reduceBEq]
        cases hs1
        cases hk1
        try dsimp only at h
        try simp (disch := assumption) only [go_sem, Nat.reduceAdd, Nat.reduceMul, Nat.reduceSub, Nat.reduceEqDiff, ↓reduceIte, Nat.reduceLT, reduceCtorEq, Nat.reduceLeDiff, Int.reduceToNat, Int.reduceEq, Int.reduceLE, Int.reduceLT, Nat.reduceBEq]
        have he := Option.some.inj h
        subst he
        refine ends_weak ⟨[(4, (.lf false (.sc (.bool true))))], [], 0, 27⟩ (weak_of (m := 0) [] rfl rfl rfl (by simp [injR]) ?_ ?_) ?_
        all_goals ((try simp (disch := assumption) only [go_sem, Nat.reduceAdd, Nat.reduceMul, Nat.reduceSub, Nat.reduceEqDiff, ↓reduceIte, Nat.reduceLT, reduceCtorEq, Nat.reduceLeDiff, Int.reduceToNat, Int.reduceEq, Int.reduceLE, Int.reduceLT, Nat.reduceBEq]); (repeat' first | done | rfl | omega | refine And.intro ?_ ?_ | (simp; done) | (simp; omega)))
    all_goals ((try simp (disch := assumption) only [go_sem, Nat.reduceAdd, Nat.reduceMul, Nat.reduceSub, Nat.reduceEqDiff, ↓reduceIte, Nat.reduceLT, reduceCtorEq, Nat.reduceLeDiff, Int.reduceToNat, Int.reduceEq, Int.reduceLE, Int.reduceLT, Nat.reduceBEq]); (repeat' first | done | rfl | omega | refine And.intro ?_ ?_ | (simp; done) | (simp; omega)))
theorem w_laws_eqQueue {a0 : QueueT} {a1 : QueueT} {r : Bool} (h : laws_eqQueue a0 a1 = some r) : Fn Try.prog 30 [(.ag [(.lf false (.sc (.int .i64 a0.Window))), (.lf true (.sl (a0.Sent.map eS))), (.lf false (.sc (.int .i64 a0.Base))), (.lf true (.sl (a0.Got.map eS))), (.lf true (.sl (a0.Line.map ePacket)))]), (.ag [(.lf false (.sc (.int .i64 a1.Window))), (.lf true (.sl (a1.Sent.map eS))), (.lf false (.sc (.int .i64 a1.Base))), (.lf true (.sl (a1.Got.map eS))), (.lf true (.sl (a1.Line.map ePacket)))])] [] 0 (.lf false (.sc (.bool r))) [] 0 := by
  unfold laws_eqQueue at h
  refine fn_code tab_ok mixed [(1000, [(2, 0), (3, 0)]), (1001, [(2, 0), (3, 0), (9, 0)]), (1002, [(4, 0)]), (1003, [(2, 0), (3, 0), (15, 0)]), (1004, [(4, 0)]), (1005, [(2, 0), (3, 0), (20, 0)]), (1006, [(4, 0)]), (1007, [(2, 0), (3, 0), (26, 0)]), (1008, [(4, 0)]), (1009, [(32, 0)]), (1010, [(4, 0)]), (1011, [(4, 0)])] Try.func30 rfl rfl (by simp [Try.f30]) (by kernel_rfl) ?_
  simp only [Try.f30]
  simp (disch := assumption) only [go_sem, Nat.reduceAdd, Nat.reduceMul, Nat.reduceSub, Nat.reduceEqDiff, ↓reduceIte, Nat.reduceLT, reduceCtorEq, Nat.reduceLeDiff, Int.reduceToNat, Int.reduceEq, Int.reduceLE, Int.reduceLT, Nat.reduceBEq]
  refine Bs_splitC ((a0.Window != a1.Window)) (by first | rfl | (simp only [beq_iff_eq]; done) | simp) (fun hc1 => ?_) (fun hc1 => ?_)
  · rw [if_pos hc1] at h
    try simp (disch := assumption) only [go_sem, Nat.reduceAdd, Nat.reduceMul, Nat.reduceSub, Nat.reduceEqDiff, ↓reduceIte, Nat.reduceLT, reduceCtorEq, Nat.reduceLeDiff, Int.reduceToNat, Int.reduceEq, Int.reduceLE, Int.reduceLT, Nat.reduceBEq]
    have he := Option.some.inj h
    subst he
    refine ends_weak ⟨[(4, (.lf false (.sc (.bool false))))], [], 0, 33⟩ (weak_of (m := 0) [] rfl rfl rfl (by simp [injR]) ?_ ?_) ?_
    all_goals ((try simp (disch := assumption) only [go_sem, Nat.reduceAdd, Nat.reduceMul, Nat.reduceSub, Nat.reduceEqDiff, ↓reduceIte, Nat.reduceLT, reduceCtorEq, Nat.reduceLeDiff, Int.reduceToNat, Int.reduceEq, Int.reduceLE, Int.reduceLT, Nat.reduceBEq]); (repeat' first | done | rfl | omega | refine And.intro ?_ ?_ | (simp; done) | (simp; omega)))
  · rw [if_neg (nt hc1)] at h
    try simp (disch := assumption) only [go_sem, Nat.reduceAdd, Nat.reduceMul, Nat.reduceSub, Nat.reduceEqDiff, ↓reduceIte, Nat.reduceLT, reduceCtorEq, Nat.reduceLeDiff, Int.reduceToNat, Int.reduceEq, Int.reduceLE, Int.reduceLT, Nat.reduceBEq]
    obtain ⟨c83, hr2, h⟩ := bind_ok h
    refine Cl_shown (w_laws_eqStringS hr2) (by first | rfl | (simp (disch := assumption) only [go_sem, Nat.reduceAdd, Nat.reduceMul, Nat.reduceSub, Nat.reduceEqDiff, ↓reduceIte, Nat.reduceLT, reduceCtorEq, Nat.reduceLeDiff, Int.reduceToNat, Int.reduceEq, Int.reduceLE, Int.reduceLT, Nat.reduceBEq]; first | done | rfl)) (FitAll.refl _) (.inl (by first | rfl | (simp (disch := assumption) only [go_sem, Nat.reduceAdd, Nat.reduceMul, Nat.reduceSub, Nat.reduceEqDiff, ↓reduceIte, Nat.reduceLT, reduceCtorEq, Nat.reduceLeDiff, Int.reduceToNat, Int.reduceEq, Int.reduceLE, Int.reduceLT, Nat.reduceBEq]; done))) ?_
    try simp (disch := assumption) only [go_sem, Nat.reduceAdd, Nat.reduceMul, Nat.reduceSub, Nat.reduceEqDiff, ↓reduceIte, Nat.reduceLT, reduceCtorEq, Nat.reduceLeDiff, Int.reduceToNat, Int.reduceEq, Int.reduceLE, Int.reduceLT, Nat.reduceBEq]
    refine Bs_splitC ((!c83)) (by first | rfl | (simp only [beq_iff_eq]; done) | simp) (fun hc3 => ?_) (fun hc3 => ?_)
    · rw [if_pos hc3] at h
      try simp (disch := assumption) only [go_sem, Nat.reduceAdd, Nat.reduceMul, Nat.reduceSub, Nat.reduceEqDiff, ↓reduceIte, Nat.reduceLT, reduceCtorEq, Nat.reduceLeDiff, Int.reduceToNat, Int.reduceEq, Int.reduceLE, Int.reduceLT, Nat.reduceBEq]
      have he := Option.some.inj h
      subst he
      refine ends_weak ⟨[(4, (.lf false (.sc (.bool false))))], [], 0, 33⟩ (weak_of (m := 0) [] rfl rfl rfl (by simp [injR]) ?_ ?_) ?_
      all_goals ((try simp (disch := assumption) only [go_sem, Nat.reduceAdd, Nat.reduceMul, Nat.reduceSub, Nat.reduceEqDiff, ↓reduceIte, Nat.reduceLT, reduceCtorEq, Nat.reduceLeDiff, Int.reduceToNat, Int.reduceEq, Int.reduceLE, Int.reduceLT, Nat.reduceBEq]); (repeat' first | done | rfl | omega | refine And.intro ?_ ?_ | (simp; done) | (simp; omega)))
    · rw [if_neg (nt hc3)] at h
      try simp (disch := assumption) only [go_sem, Nat.reduceAdd, Nat.reduceMul, Nat.reduceSub, Nat.reduceEqDiff, ↓reduceIte, Nat.reduceLT, reduceCtorEq, Nat.reduceLeDiff, Int.reduceToNat, Int.reduceEq, Int.reduceLE, Int.reduceLT, Nat.reduceBEq]
      refine Bs_splitC ((a0.Base != a1.Base)) (by first | rfl | (simp only [beq_iff_eq]; done) | simp) (fun hc4 => ?_) (fun hc4 => ?_)
      · rw [if_pos hc4] at h
        try simp (disch := assumption) only [go_sem, Nat.reduceAdd, Nat.reduceMul, Nat.reduceSub, Nat.reduceEqDiff, ↓reduceIte, Nat.reduceLT, reduceCtorEq, Nat.reduceLeDiff, Int.reduceToNat, Int.reduceEq, Int.reduceLE, Int.reduceLT, Nat.reduceBEq]
        have he := Option.some.inj h
        subst he
        refine ends_weak ⟨[(4, (.lf false (.sc (.bool false))))], [], 0, 33⟩ (weak_of (m := 0) [] rfl rfl rfl (by simp [injR]) ?_ ?_) ?_
        all_goals ((try simp (disch := assumption) only [go_sem, Nat.reduceAdd, Nat.reduceMul, Nat.reduceSub, Nat.reduceEqDiff, ↓reduceIte, Nat.reduceLT, reduceCtorEq, Nat.reduceLeDiff, Int.reduceToNat, Int.reduceEq, Int.reduceLE, Int.reduceLT, Nat.reduceBEq]); (repeat' first | done | rfl | omega | refine And.intro ?_ ?_ | (simp; done) | (simp; omega)))
      · rw [if_neg (nt hc4)] at h
        try simp (disch := assumption) only [go_sem, Nat.reduceAdd, Nat.reduceMul, Nat.reduceSub, Nat.reduceEqDiff, ↓reduceIte, Nat.reduceLT, reduceCtorEq, Nat.reduceLeDiff, Int.reduceToNat, Int.reduceEq, Int.reduceLE, Int.reduceLT, Nat.reduceBEq]
        obtain ⟨c84, hr5, h⟩ := bind_ok h
        refine Cl_shown (w_laws_eqStringS hr5) (by first | rfl | (simp (disch := assumption) only [go_sem, Nat.reduceAdd, Nat.reduceMul, Nat.reduceSub, Nat.reduceEqDiff, ↓reduceIte, Nat.reduceLT, reduceCtorEq, Nat.reduceLeDiff, Int.reduceToNat, Int.reduceEq, Int.reduceLE, Int.reduceLT, Nat.reduceBEq]; first | done | rfl)) (FitAll.refl _) (.inl (by first | rfl | (simp (disch := assumption) only [go_sem, Nat.reduceAdd, Nat.reduceMul, Nat.reduceSub, Nat.reduceEqDiff, ↓reduceIte, Nat.reduceLT, reduceCtorEq, Nat.reduceLeDiff, Int.reduceToNat, Int.reduceEq, Int.reduceLE, Int.reduceLT, Nat.reduceBEq]; done))) ?_
        try simp (disch := assumption) only [go_sem, Nat.reduceAdd, Nat.reduceMul, Nat.reduceSub, Nat.reduceEqDiff, ↓reduceIte, Nat.reduceLT, reduceCtorEq, Nat.reduceLeDiff, Int.reduceToNat, Int.reduceEq, Int.reduceLE, Int.reduceLT, Nat.reduceBEq]
        refine Bs_splitC ((!c84)) (by first | rfl | (simp only [beq_iff_eq]; done) | simp) (fun hc6 => ?_) (fun hc6 => ?_)
        · rw [if_pos hc6] at h
          try simp (disch := assumption) only [go_sem, Nat.reduceAdd, Nat.reduceMul, Nat.reduceSub, Nat.reduceEqDiff, ↓reduceIte, Nat.reduceLT, reduceCtorEq, Nat.reduceLeDiff, Int.reduceToNat, Int.reduceEq, Int.reduceLE, Int.reduceLT, Nat.reduceBEq]
          have he := Option.some.inj h
          subst he
          refine ends_weak ⟨[(4, (.lf false (.sc (.bool false))))], [], 0, 33⟩ (weak_of (m := 0) [] rfl rfl rfl (by simp [injR]) ?_ ?_) ?_
          all_goals ((try simp (disch := assumption) only [go_sem, Nat.reduceAdd, Nat.reduceMul, Nat.reduceSub, Nat.reduceEqDiff, ↓reduceIte, Nat.reduceLT, reduceCtorEq, Nat.reduceLeDiff, Int.reduceToNat, Int.reduceEq, Int.reduceLE, Int.reduceLT, Nat.reduceBEq]); (repeat' first | done | rfl | omega | refine And.intro ?_ ?_ | (simp; done) | (simp; omega)))
        · rw [if_neg (nt hc6)] at h
          try simp (disch := assumption) only [go_sem, Nat.reduceAdd, Nat.reduceMul, Nat.reduceSub, Nat.reduceEqDiff, ↓reduceIte, Nat.reduceLT, reduceCtorEq, Nat.reduceLeDiff, Int.reduceToNat, Int.reduceEq, Int.reduceLE, Int.reduceLT, Nat.reduceBEq]
          obtain ⟨c91, hr7, h⟩ := bind_ok h
          refine Cl_shown (w_laws_eqPacketS hr7) (by first | rfl | (simp (disch := assumption) only [go_sem, Nat.reduceAdd, Nat.reduceMul, Nat.reduceSub, Nat.reduceEqDiff, ↓reduceIte, Nat.reduceLT, reduceCtorEq, Nat.reduceLeDiff, Int.reduceToNat, Int.reduceEq, Int.reduceLE, Int.reduceLT, Nat.reduceBEq]; first | done | rfl)) (FitAll.refl _) (.inl (by first | rfl | (simp (disch := assumption) only [go_sem, Nat.reduceAdd, Nat.reduceMul, Nat.reduceSub, Nat.reduceEqDiff, ↓reduceIte, Nat.reduceLT, reduceCtorEq, Nat.reduceLeDiff, Int.reduceToNat, Int.reduceEq, Int.reduceLE, Int.reduceLT, Nat.reduceBEq]; done))) ?_
          try simp (disch := assumption) only [go_sem, Nat.reduceAdd, Nat.reduceMul, Nat.reduceSub, Nat.reduceEqDiff, ↓reduceIte, Nat.reduceLT, reduceCtorEq, Nat.reduceLeDiff, Int.reduceToNat, Int.reduceEq, Int.reduceLE, Int.reduceLT, Nat.reduceBEq]
          refine Bs_splitC ((!c91)) (by first | rfl | (simp only [beq_iff_eq]; done) | simp) (fun hc8 => ?_) (fun hc8 => ?_)
          · rw [if_pos hc8] at h
            try simp (disch := assumption) only [go_sem, Nat.reduceAdd, Nat.reduceMul, Nat.reduceSub, Nat.reduceEqDiff, ↓reduceIte, Nat.reduceLT, reduceCtorEq, Nat.reduceLeDiff, Int.reduceToNat, Int.reduceEq, Int.reduceLE, Int.reduceLT, Nat.reduceBEq]
            have he := Option.some.inj h
            subst he
            refine ends_weak ⟨[(4, (.lf false (.sc (.bool false))))], [], 0, 33⟩ (weak_of (m := 0) [] rfl rfl rfl (by simp [injR]) ?_ ?_) ?_
            all_goals ((try simp (disch := assumption) only [go_sem, Nat.reduceAdd, Nat.reduceMul, Nat.reduceSub, Nat.reduceEqDiff, ↓reduceIte, Nat.reduceLT, reduceCtorEq, Nat.reduceLeDiff, Int.reduceToNat, Int.reduceEq, Int.reduceLE, Int.reduceLT, Nat.reduceBEq]); (repeat' first | done | rfl | omega | refine And.intro ?_ ?_ | (simp; done) | (simp; omega)))
          · rw [if_neg (nt hc8)] at h
            try simp (disch := assumption) only [go_sem, Nat.reduceAdd, Nat.reduceMul, Nat.reduceSub, Nat.reduceEqDiff, ↓reduceIte, Nat.reduceLT, reduceCtorEq, Nat.reduceLeDiff, Int.reduceToNat, Int.reduceEq, Int.reduceLE, Int.reduceLT, Nat.reduceBEq]
            have he := Option.some.inj h
            subst he
            refine ends_weak ⟨[(4, (.lf false (.sc (.bool true))))], [], 0, 33⟩ (weak_of (m := 0) [] rfl rfl rfl (by simp [injR]) ?_ ?_) ?_
            all_goals ((try simp (disch := assumption) only [go_sem, Nat.reduceAdd, Nat.reduceMul, Nat.reduceSub, Nat.reduceEqDiff, ↓reduceIte, Nat.reduceLT, reduceCtorEq, Nat.reduceLeDiff, Int.reduceToNat, Int.reduceEq, Int.reduceLE, Int.reduceLT, Nat.reduceBEq]); (repeat' first | done | rfl | omega | refine And.intro ?_ ?_ | (simp; done) | (simp; omega)))
theorem w_laws_FnExactWaitingIn {a0 : QueueT} {r : Bool} (h : laws_FnExactWaitingIn a0 = some r) : Fn Try.prog 13 [(.ag [(.lf false (.sc (.int .i64 a0.Window))), (.lf true (.sl (a0.Sent.map eS))), (.lf false (.sc (.int .i64 a0.Base))), (.lf true (.sl (a0.Got.map eS))), (.lf true (.sl (a0.Line.map ePacket)))])] [] 0 (.lf false (.sc (.bool r))) [] 0 := by
  unfold laws_FnExactWaitingIn at h
  refine fn_code tab_ok mixed [(10, [(0, 2)]), (1000, [(1, 0)]), (1001, [(1, 0), (3, 0)]), (1002, [(1, 0), (3, 0)]), (1003, [(1, 0), (13, 0)]), (1004, [(2, 0)]), (1005, [(1, 0), (4, 0), (5, 0)]), (1006, [(1, 0), (4, 0), (5, 0), (6, 0)]), (1007, [(1, 0), (4, 0), (5, 0), (6, 0), (7, 0), (8, 0)]), (1008, [(1, 0), (6, 0), (34, 0)]), (1009, [(2, 0)]), (1010, [(39, 0)]), (1011, [(2, 0)]), (1012, [(2, 0)])] Try.func13 rfl rfl (by simp [Try.f13]) (by kernel_rfl) ?_
  simp only [Try.f13]
  simp (disch := assumption) only [go_sem, Nat.reduceAdd, Nat.reduceMul, Nat.reduceSub, Nat.reduceEqDiff, ↓reduceIte, Nat.reduceLT, reduceCtorEq, Nat.reduceLeDiff, Int.reduceToNat, Int.reduceEq, Int.reduceLE, Int.reduceLT, Nat.reduceBEq]
  obtain ⟨c14, hr1, h⟩ := bind_ok h
  refine Cl_shown (w_laws_szQueue hr1) (by first | rfl | (simp (disch := assumption) only [go_sem, Nat.reduceAdd, Nat.reduceMul, Nat.reduceSub, Nat.reduceEqDiff, ↓reduceIte, Nat.reduceLT, reduceCtorEq, Nat.reduceLeDiff, Int.reduceToNat, Int.reduceEq, Int.reduceLE, Int.reduceLT, Nat.reduceBEq]; first | done | rfl)) (FitAll.refl _) (.inl (by first | rfl | (simp (disch := assumption) only [go_sem, Nat.reduceAdd, Nat.reduceMul, Nat.reduceSub, Nat.reduceEqDiff, ↓reduceIte, Nat.reduceLT, reduceCtorEq, Nat.reduceLeDiff, Int.reduceToNat, Int.reduceEq, Int.reduceLE, Int.reduceLT, Nat.reduceBEq]; done))) ?_
  try simp (disch := assumption) only [go_sem, Nat.reduceAdd, Nat.reduceMul, Nat.reduceSub, Nat.reduceEqDiff, ↓reduceIte, Nat.reduceLT, reduceCtorEq, Nat.reduceLeDiff, Int.reduceToNat, Int.reduceEq, Int.reduceLE, Int.reduceLT, Nat.reduceBEq]
  refine Bs_splitC ((decide (c14 < 0))) (by first | rfl | (simp only [beq_iff_eq]; done) | simp) (fun hc2 => ?_) (fun hc2 => ?_)
  · rw [if_pos hc2] at h
    try simp (disch := assumption) only [go_sem, Nat.reduceAdd, Nat.reduceMul, Nat.reduceSub, Nat.reduceEqDiff, ↓reduceIte, Nat.reduceLT, reduceCtorEq, Nat.reduceLeDiff, Int.reduceToNat, Int.reduceEq, Int.reduceLE, Int.reduceLT, Nat.reduceBEq]
    have he := Option.some.inj h
    subst he
    refine ends_weak ⟨[(2, (.lf false (.sc (.bool true))))], [], 0, 40⟩ (weak_of (m := 0) [] rfl rfl rfl (by simp [injR]) ?_ ?_) ?_
    all_goals ((try simp (disch := assumption) only [go_sem, Nat.reduceAdd, Nat.reduceMul, Nat.reduceSub, Nat.reduceEqDiff, ↓reduceIte, Nat.reduceLT, reduceCtorEq, Nat.reduceLeDiff, Int.reduceToNat, Int.reduceEq, Int.reduceLE, Int.reduceLT, Nat.reduceBEq]); (repeat' first | done | rfl | omega | refine And.intro ?_ ?_ | (simp; done) | (simp; omega)))
  · rw [if_neg (nt hc2)] at h
    try simp (disch := assumption) only [go_sem, Nat.reduceAdd, Nat.reduceMul, Nat.reduceSub, Nat.reduceEqDiff, ↓reduceIte, Nat.reduceLT, reduceCtorEq, Nat.reduceLeDiff, Int.reduceToNat, Int.reduceEq, Int.reduceLE, Int.reduceLT, Nat.reduceBEq]
    obtain ⟨c24, hr3, h⟩ := bind_ok h
    refine Cl_shown (w_laws_toQueue hr3) (by first | rfl | (simp (disch := assumption) only [go_sem, Nat.reduceAdd, Nat.reduceMul, Nat.reduceSub, Nat.reduceEqDiff, ↓reduceIte, Nat.reduceLT, reduceCtorEq, Nat.reduceLeDiff, Int.reduceToNat, Int.reduceEq, Int.reduceLE, Int.reduceLT, Nat.reduceBEq]; first | done | rfl)) (FitAll.refl _) (.inl (by first | rfl | (simp (disch := assumption) only [go_sem, Nat.reduceAdd, Nat.reduceMul, Nat.reduceSub, Nat.reduceEqDiff, ↓reduceIte, Nat.reduceLT, reduceCtorEq, Nat.reduceLeDiff, Int.reduceToNat, Int.reduceEq, Int.reduceLE, Int.reduceLT, Nat.reduceBEq]; done))) ?_
    try simp (disch := assumption) only [go_sem, Nat.reduceAdd, Nat.reduceMul, Nat.reduceSub, Nat.reduceEqDiff, ↓reduceIte, Nat.reduceLT, reduceCtorEq, Nat.reduceLeDiff, Int.reduceToNat, Int.reduceEq, Int.reduceLE, Int.reduceLT, Nat.reduceBEq]
    obtain ⟨c48, hr4, h⟩ := bind_ok h
    refine Cl_shown (w_spec_WaitingIn hr4) (by first | rfl | (simp (disch := assumption) only [go_sem, Nat.reduceAdd, Nat.reduceMul, Nat.reduceSub, Nat.reduceEqDiff, ↓reduceIte, Nat.reduceLT, reduceCtorEq, Nat.reduceLeDiff, Int.reduceToNat, Int.reduceEq, Int.reduceLE, Int.reduceLT, Nat.reduceBEq]; first | done | rfl)) (FitAll.refl _) (.inr ⟨rfl, by simp [freeOb, free1]⟩) ?_
    try simp (disch := assumption) only [go_sem, Nat.reduceAdd, Nat.reduceMul, Nat.reduceSub, Nat.reduceEqDiff, ↓reduceIte, Nat.reduceLT, reduceCtorEq, Nat.reduceLeDiff, Int.reduceToNat, Int.reduceEq, Int.reduceLE, Int.reduceLT, Nat.reduceBEq]
    obtain ⟨c49, hr5, h⟩ := bind_ok h
    refine Cl_shown (w_laws_toQueue hr5) (by first | rfl | (simp (disch := assumption) only [go_sem, Nat.reduceAdd, Nat.reduceMul, Nat.reduceSub, Nat.reduceEqDiff, ↓reduceIte, Nat.reduceLT, reduceCtorEq, Nat.reduceLeDiff, Int.reduceToNat, Int.reduceEq, Int.reduceLE, Int.reduceLT, Nat.reduceBEq]; first | done | rfl)) (FitAll.refl _) (.inl (by first | rfl | (simp (disch := assumption) only [go_sem, Nat.reduceAdd, Nat.reduceMul, Nat.reduceSub, Nat.reduceEqDiff, ↓reduceIte, Nat.reduceLT, reduceCtorEq, Nat.reduceLeDiff, Int.reduceToNat, Int.reduceEq, Int.reduceLE, Int.reduceLT, Nat.reduceBEq]; done))) ?_
    try simp (disch := assumption) only [go_sem, Nat.reduceAdd, Nat.reduceMul, Nat.reduceSub, Nat.reduceEqDiff, ↓reduceIte, Nat.reduceLT, reduceCtorEq, Nat.reduceLeDiff, Int.reduceToNat, Int.reduceEq, Int.reduceLE, Int.reduceLT, Nat.reduceBEq]
    obtain ⟨c77, hr6, h⟩ := bind_ok h
    refine Cl_shown (w_impl_WaitingIn hr6) (by first | rfl | (simp (disch := assumption) only [go_sem, Nat.reduceAdd, Nat.reduceMul, Nat.reduceSub, Nat.reduceEqDiff, ↓reduceIte, Nat.reduceLT, reduceCtorEq, Nat.reduceLeDiff, Int.reduceToNat, Int.reduceEq, Int.reduceLE, Int.reduceLT, Nat.reduceBEq]; first | done | rfl)) (FitAll.refl _) (.inr ⟨rfl, by simp [freeOb, free1]⟩) ?_
    try simp (disch := assumption) only [go_sem, Nat.reduceAdd, Nat.reduceMul, Nat.reduceSub, Nat.reduceEqDiff, ↓reduceIte, Nat.reduceLT, reduceCtorEq, Nat.reduceLeDiff, Int.reduceToNat, Int.reduceEq, Int.reduceLE, Int.reduceLT, Nat.reduceBEq]
    refine Sp_splitC ((c77.1 != c48.1)) (by first | rfl | (simp only [beq_iff_eq]; done) | simp) (fun hc7 => ?_) (fun hc7 => ?_)
    · rw [if_pos hc7] at h
      try simp (disch := assumption) only [go_sem, Nat.reduceAdd, Nat.reduceMul, Nat.reduceSub, Nat.reduceEqDiff, ↓reduceIte, Nat.reduceLT, reduceCtorEq, Nat.reduceLeDiff, Int.reduceToNat, Int.reduceEq, Int.reduceLE, Int.reduceLT, Nat.reduceBEq]
      have he := Option.some.inj h
      subst he
      refine ends_weak ⟨[(2, (.lf false (.sc (.bool false))))], [], 0, 40⟩ (weak_of (m := 0) [] rfl rfl rfl (by simp [injR]) ?_ ?_) ?_
      all_goals ((try simp (disch := assumption) only [go_sem, Nat.reduceAdd, Nat.reduceMul, Nat.reduceSub, Nat.reduceEqDiff, ↓reduceIte, Nat.reduceLT, reduceCtorEq, Nat.reduceLeDiff, Int.reduceToNat, Int.reduceEq, Int.reduceLE, Int.reduceLT, Nat.reduceBEq]); (repeat' first | done | rfl | omega | refine And.intro ?_ ?_ | (simp; done) | (simp; omega)))
    · rw [if_neg (nt hc7)] at h
      try simp (disch := assumption) only [go_sem, Nat.reduceAdd, Nat.reduceMul, Nat.reduceSub, Nat.reduceEqDiff, ↓reduceIte, Nat.reduceLT, reduceCtorEq, Nat.reduceLeDiff, Int.reduceToNat, Int.reduceEq, Int.reduceLE, Int.reduceLT, Nat.reduceBEq]
      refine Bs_splitC ((!(c77.2 == c48.2))) (by first | rfl | (simp only [beq_iff_eq]; done) | simp) (fun hc8 => ?_) (fun hc8 => ?_)
      · rw [if_pos hc8] at h
        try simp (disch := assumption) only [go_sem, Nat.reduceAdd, Nat.reduceMul, Nat.reduceSub, Nat.reduceEqDiff, ↓reduceIte, Nat.reduceLT, reduceCtorEq, Nat.reduceLeDiff, Int.reduceToNat, Int.reduceEq, Int.reduceLE, Int.reduceLT, Nat.reduceBEq]
        have he := Option.some.inj h
        subst he
        refine ends_weak ⟨[(2, (.lf false (.sc (.bool false))))], [], 0, 40⟩ (weak_of (m := 0) [] rfl rfl rfl (by simp [injR]) ?_ ?_) ?_
        all_goals ((try simp (disch := assumption) only [go_sem, Nat.reduceAdd, Nat.reduceMul, Nat.reduceSub, Nat.reduceEqDiff, ↓reduceIte, Nat.reduceLT, reduceCtorEq, Nat.reduceLeDiff, Int.reduceToNat, Int.reduceEq, Int.reduceLE, Int.reduceLT, Nat.reduceBEq]); (repeat' first | done | rfl | omega | refine And.intro ?_ ?_ | (simp; done) | (simp; omega)))
      · rw [if_neg (nt hc8)] at h
        try simp (disch := assumption) only [go_sem, Nat.reduceAdd, Nat.reduceMul, Nat.reduceSub, Nat.reduceEqDiff, ↓reduceIte, Nat.reduceLT, reduceCtorEq, Nat.reduceLeDiff, Int.reduceToNat, Int.reduceEq, Int.reduceLE, Int.reduceLT, Nat.reduceBEq]
        obtain ⟨c78, hr9, h⟩ := bind_ok h
        refine Cl_shown (w_laws_toQueue hr9) (by first | rfl | (simp (disch := assumption) only [go_sem, Nat.reduceAdd, Nat.reduceMul, Nat.reduceSub, Nat.reduceEqDiff, ↓reduceIte, Nat.reduceLT, reduceCtorEq, Nat.reduceLeDiff, Int.reduceToNat, Int.reduceEq, Int.reduceLE, Int.reduceLT, Nat.reduceBEq]; first | done | rfl)) (FitAll.refl _) (.inl (by first | rfl | (simp (disch := assumption) only [go_sem, Nat.reduceAdd, Nat.reduceMul, Nat.reduceSub, Nat.reduceEqDiff, ↓reduceIte, Nat.reduceLT, reduceCtorEq, Nat.reduceLeDiff, Int.reduceToNat, Int.reduceEq, Int.reduceLE, Int.reduceLT, Nat.reduceBEq]; done))) ?_
        try simp (disch := assumption) only [go_sem, Nat.reduceAdd, Nat.reduceMul, Nat.reduceSub, Nat.reduceEqDiff, ↓reduceIte, Nat.reduceLT, reduceCtorEq, Nat.reduceLeDiff, Int.reduceToNat, Int.reduceEq, Int.reduceLE, Int.reduceLT, Nat.reduceBEq]
        obtain ⟨c92, hr10, h⟩ := bind_ok h
        refine Cl_shown (w_laws_eqQueue hr10) (by first | rfl | (simp (disch := assumption) only [go_sem, Nat.reduceAdd, Nat.reduceMul, Nat.reduceSub, Nat.reduceEqDiff, ↓reduceIte, Nat.reduceLT, reduceCtorEq, Nat.reduceLeDiff, Int.reduceToNat, Int.reduceEq, Int.reduceLE, Int.reduceLT, Nat.reduceBEq]; first | done | rfl)) (FitAll.refl _) (.inr ⟨rfl, by simp [freeOb, free1]⟩) ?_
        try simp (disch := assumption) only [go_sem, Nat.reduceAdd, Nat.reduceMul, Nat.reduceSub, Nat.reduceEqDiff, ↓reduceIte, Nat.reduceLT, reduceCtorEq, Nat.reduceLeDiff, Int.reduceToNat, Int.reduceEq, Int.reduceLE, Int.reduceLT, Nat.reduceBEq]
        refine Bs_splitC ((!c92)) (by first | rfl | (simp only [beq_iff_eq]; done) | simp) (fun hc11 => ?_) (fun hc11 => ?_)
        · rw [if_pos hc11] at h
          try simp (disch := assumption) only [go_sem, Nat.reduceAdd, Nat.reduceMul, Nat.reduceSub, Nat.reduceEqDiff, ↓reduceIte, Nat.reduceLT, reduceCtorEq, Nat.reduceLeDiff, Int.reduceToNat, Int.reduceEq, Int.reduceLE, Int.reduceLT, Nat.reduceBEq]
          have he := Option.some.inj h
          subst he
          refine ends_weak ⟨[(2, (.lf false (.sc (.bool false))))], [], 0, 40⟩ (weak_of (m := 0) [] rfl rfl rfl (by simp [injR]) ?_ ?_) ?_
          all_goals ((try simp (disch := assumption) only [go_sem, Nat.reduceAdd, Nat.reduceMul, Nat.reduceSub, Nat.reduceEqDiff, ↓reduceIte, Nat.reduceLT, reduceCtorEq, Nat.reduceLeDiff, Int.reduceToNat, Int.reduceEq, Int.reduceLE, Int.reduceLT, Nat.reduceBEq]); (repeat' first | done | rfl | omega | refine And.intro ?_ ?_ | (simp; done) | (simp; omega)))
        · rw [if_neg (nt hc11)] at h
          try simp (disch := assumption) only [go_sem, Nat.reduceAdd, Nat.reduceMul, Nat.reduceSub, Nat.reduceEqDiff, ↓reduceIte, Nat.reduceLT, reduceCtorEq, Nat.reduceLeDiff, Int.reduceToNat, Int.reduceEq, Int.reduceLE, Int.reduceLT, Nat.reduceBEq]
          have he := Option.some.inj h
          subst he
          refine ends_weak ⟨[(2, (.lf false (.sc (.bool true))))], [], 0, 40⟩ (weak_of (m := 0) [] rfl rfl rfl (by simp [injR]) ?_ ?_) ?_
          all_goals ((try simp (disch := assumption) only [go_sem, Nat.reduceAdd, Nat.reduceMul, Nat.reduceSub, Nat.reduceEqDiff, ↓reduceIte, Nat.reduceLT, reduceCtorEq, Nat.reduceLeDiff, Int.reduceToNat, Int.reduceEq, Int.reduceLE, Int.reduceLT, Nat.reduceBEq]); (repeat' first | done | rfl | omega | refine And.intro ?_ ?_ | (simp; done) | (simp; omega)))
end Go.TL.Ytmmhgioeoikgbaa

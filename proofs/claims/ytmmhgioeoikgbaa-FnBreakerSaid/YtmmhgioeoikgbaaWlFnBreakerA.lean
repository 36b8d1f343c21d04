import Derived.Test.YtmmhgioeoikgbaaTlTabr1
import Derived.Test.YtmmhgioeoikgbaaEnR1
set_option linter.unusedVariables false
set_option linter.unusedSimpArgs false
set_option maxRecDepth 8000
set_option maxHeartbeats 0
namespace Go.TL.Ytmmhgioeoikgbaa
open Go Go.Proofs Go.TL
theorem w_spec_l1Cur_next_o {a0 : l1CurT} {r : (Int × l1CurT)} (h : spec_l1Cur_next_o a0 = some r) : Fn Try.prog 108 [(.pb 0 0)] [(0, some (false, .box [(.lf true (.sl (a0.code.map eU8))), (.lf false (.sc (.int .i64 a0.at_))), (.lf false (.sc (.int .u64 a0.seed)))]))] 1 (.lf false (.sc (.int .i64 r.1))) [(0, some (false, .box [(.lf true (.sl (r.2.code.map eU8))), (.lf false (.sc (.int .i64 r.2.at_))), (.lf false (.sc (.int .u64 r.2.seed)))]))] 1 := by
  unfold spec_l1Cur_next_o at h
  refine fn_code tab_ok mixed [(1000, [(0, 0)]), (1001, [(0, 0), (3, 0)]), (1002, [(0, 0), (3, 0), (13, 0)]), (1003, [(0, 0), (3, 0)]), (1004, [(0, 0), (3, 0)]), (1005, [(0, 0), (3, 0)]), (1006, [(0, 0), (3, 0), (53, 0)]), (1007, [(2, 0)]), (1008, [(2, 0)]), (2013, [])] Try.func108 rfl rfl (by simp [Try.f108]) (by kernel_rfl) ?_
  simp only [Try.f108]
  simp (disch := assumption) only [go_sem, Nat.reduceAdd, Nat.reduceMul, Nat.reduceSub, Nat.reduceEqDiff, ↓reduceIte, Nat.reduceLT, reduceCtorEq, Nat.reduceLeDiff, Int.reduceToNat, Int.reduceEq, Int.reduceLE, Int.reduceLT, Nat.reduceBEq]
  obtain ⟨p2, hq1, h⟩ := bind_ok h
  refine Sq_cut (fun s2 => s2 = ⟨[(0, (.pb 0 0)), (3, (.lf false (.sc (.int .i64 p2.t3))))], [(0, some (false, .box [(.lf true (.sl (a0.code.map eU8))), (.lf false (.sc (.int .i64 a0.at_))), (.lf false (.sc (.int .u64 a0.seed)))]))], 1, 62⟩) ?_ ?_
  · try simp (disch := assumption) only [go_sem, Nat.reduceAdd, Nat.reduceMul, Nat.reduceSub, Nat.reduceEqDiff, ↓reduceIte, Nat.reduceLT, reduceCtorEq, Nat.reduceLeDiff, Int.reduceToNat, Int.reduceEq, Int.reduceLE, Int.reduceLT, Nat.reduceBEq]
    refine Bs_splitC ((decide (a0.at_ < ((a0.code.length : Nat) : Int)))) (by first | rfl | (simp only [beq_iff_eq]; done) | simp) (fun hc2 => ?_) (fun hc2 => ?_)
    · rw [if_pos hc2] at hq1
      try simp (disch := assumption) only [go_sem, Nat.reduceAdd, Nat.reduceMul, Nat.reduceSub, Nat.reduceEqDiff, ↓reduceIte, Nat.reduceLT, reduceCtorEq, Nat.reduceLeDiff, Int.reduceToNat, Int.reduceEq, Int.reduceLE, Int.reduceLT, Nat.reduceBEq]
      obtain ⟨hp3, hq1⟩ := guard_some hq1
      have hn3 : a0.at_.toNat < a0.code.length := by first | omega | (simp only [List.length_set, List.length_append, List.length_replicate, List.length_map]; omega)
      try simp (disch := assumption) only [go_sem, Nat.reduceAdd, Nat.reduceMul, Nat.reduceSub, Nat.reduceEqDiff, ↓reduceIte, Nat.reduceLT, reduceCtorEq, Nat.reduceLeDiff, Int.reduceToNat, Int.reduceEq, Int.reduceLE, Int.reduceLT, Nat.reduceBEq]
      first | refine And.intro (by first | omega | exact ⟨by omega, fun _ => mapLen fun _ => rfl⟩ | (refine ⟨by omega, ?_, by omega⟩; first | exact mapLen fun _ => rfl | simp) | (refine ⟨?_, by omega⟩; first | exact mapLen fun _ => rfl | simp)) ?_ | skip
      cases hq1
      refine X_cut rfl ?_
      refine weak_of (m := 1) [some 0] rfl rfl rfl (by simp [injR]) ?_ ?_
      all_goals ((try simp (disch := assumption) only [go_sem, Nat.reduceAdd, Nat.reduceMul, Nat.reduceSub, Nat.reduceEqDiff, ↓reduceIte, Nat.reduceLT, reduceCtorEq, Nat.reduceLeDiff, Int.reduceToNat, Int.reduceEq, Int.reduceLE, Int.reduceLT, Nat.reduceBEq]); (repeat' first | done | rfl | omega | refine And.intro ?_ ?_ | (simp; done) | (simp; omega)))
    · rw [if_neg (nt hc2)] at hq1
      try simp (disch := assumption) only [go_sem, Nat.reduceAdd, Nat.reduceMul, Nat.reduceSub, Nat.reduceEqDiff, ↓reduceIte, Nat.reduceLT, reduceCtorEq, Nat.reduceLeDiff, Int.reduceToNat, Int.reduceEq, Int.reduceLE, Int.reduceLT, Nat.reduceBEq]
      cases hq1
      refine X_cut rfl ?_
      refine weak_of (m := 1) [some 0] rfl rfl rfl (by simp [injR]) ?_ ?_
      all_goals ((try simp (disch := assumption) only [go_sem, Nat.reduceAdd, Nat.reduceMul, Nat.reduceSub, Nat.reduceEqDiff, ↓reduceIte, Nat.reduceLT, reduceCtorEq, Nat.reduceLeDiff, Int.reduceToNat, Int.reduceEq, Int.reduceLE, Int.reduceLT, Nat.reduceBEq]); (repeat' first | done | rfl | omega | refine And.intro ?_ ?_ | (simp; done) | (simp; omega)))
  · intro s2 hJ; subst hJ
    try dsimp only at h
    try simp (disch := assumption) only [go_sem, Nat.reduceAdd, Nat.reduceMul, Nat.reduceSub, Nat.reduceEqDiff, ↓reduceIte, Nat.reduceLT, reduceCtorEq, Nat.reduceLeDiff, Int.reduceToNat, Int.reduceEq, Int.reduceLE, Int.reduceLT, Nat.reduceBEq]
    refine Bs_splitC ((decide ((wI (a0.at_ + 1)) ≤ ((a0.code.length : Nat) : Int)))) (by first | rfl | (simp only [beq_iff_eq]; done) | simp) (fun hc4 => ?_) (fun hc4 => ?_)
    · rw [if_pos hc4] at h
      try simp (disch := assumption) only [go_sem, Nat.reduceAdd, Nat.reduceMul, Nat.reduceSub, Nat.reduceEqDiff, ↓reduceIte, Nat.reduceLT, reduceCtorEq, Nat.reduceLeDiff, Int.reduceToNat, Int.reduceEq, Int.reduceLE, Int.reduceLT, Nat.reduceBEq]
      have he := Option.some.inj h
      subst he
      refine ends_weak ⟨[(2, (.lf false (.sc (.int .i64 p2.t3))))], [(0, some (false, .box [(.lf true (.sl (a0.code.map eU8))), (.lf false (.sc (.int .i64 (wI (a0.at_ + 1))))), (.lf false (.sc (.int .u64 (wU ((wU ((wU (a0.seed * 6364136223846793005)) + (wU p2.t3))) + 1442695040888963407)))))]))], 1, 62⟩ (weak_of (m := 1) [some 0] rfl rfl rfl (by simp [injR]) ?_ ?_) ?_
      all_goals ((try simp (disch := assumption) only [go_sem, Nat.reduceAdd, Nat.reduceMul, Nat.reduceSub, Nat.reduceEqDiff, ↓reduceIte, Nat.reduceLT, reduceCtorEq, Nat.reduceLeDiff, Int.reduceToNat, Int.reduceEq, Int.reduceLE, Int.reduceLT, Nat.reduceBEq]); (repeat' first | done | rfl | omega | refine And.intro ?_ ?_ | (simp; done) | (simp; omega)))
    · rw [if_neg (nt hc4)] at h
      try simp (disch := assumption) only [go_sem, Nat.reduceAdd, Nat.reduceMul, Nat.reduceSub, Nat.reduceEqDiff, ↓reduceIte, Nat.reduceLT, reduceCtorEq, Nat.reduceLeDiff, Int.reduceToNat, Int.reduceEq, Int.reduceLE, Int.reduceLT, Nat.reduceBEq]
      have he := Option.some.inj h
      subst he
      refine ends_weak ⟨[(2, (.lf false (.sc (.int .i64 (wI (wU (bvAnd 64 (shR 64 (wU ((wU ((wU (a0.seed * 6364136223846793005)) + (wU p2.t3))) + 1442695040888963407)) 40) 255)))))))], [(0, some (false, .box [(.lf true (.sl (a0.code.map eU8))), (.lf false (.sc (.int .i64 (wI (a0.at_ + 1))))), (.lf false (.sc (.int .u64 (wU ((wU ((wU (a0.seed * 6364136223846793005)) + (wU p2.t3))) + 1442695040888963407)))))]))], 1, 62⟩ (weak_of (m := 1) [some 0] rfl rfl rfl (by simp [injR]) ?_ ?_) ?_
      all_goals ((try simp (disch := assumption) only [go_sem, Nat.reduceAdd, Nat.reduceMul, Nat.reduceSub, Nat.reduceEqDiff, ↓reduceIte, Nat.reduceLT, reduceCtorEq, Nat.reduceLeDiff, Int.reduceToNat, Int.reduceEq, Int.reduceLE, Int.reduceLT, Nat.reduceBEq]); (repeat' first | done | rfl | omega | refine And.intro ?_ ?_ | (simp; done) | (simp; omega)))
theorem w_spec_l1Cur_pick_o {a0 : l1CurT} {a1 : Int} {r : (Int × l1CurT)} (h : spec_l1Cur_pick_o a0 a1 = some r) : Fn Try.prog 69 [(.pb 0 0), (.lf false (.sc (.int .i64 a1)))] [(0, some (false, .box [(.lf true (.sl (a0.code.map eU8))), (.lf false (.sc (.int .i64 a0.at_))), (.lf false (.sc (.int .u64 a0.seed)))]))] 1 (.lf false (.sc (.int .i64 r.1))) [(0, some (false, .box [(.lf true (.sl (r.2.code.map eU8))), (.lf false (.sc (.int .i64 r.2.at_))), (.lf false (.sc (.int .u64 r.2.seed)))]))] 1 := by
  unfold spec_l1Cur_pick_o at h
  refine fn_code tab_ok mixed [(1000, [(0, 0), (1, 0)]), (1001, [(0, 0), (1, 0), (7, 0)]), (1002, [(4, 0)]), (1003, [(0, 0), (1, 0), (5, 0)]), (1004, [(0, 0), (1, 0), (5, 0), (11, 0)]), (1005, [(1, 0), (5, 0)]), (1006, [(4, 0)])] Try.func69 rfl rfl (by simp [Try.f69]) (by kernel_rfl) ?_
  simp only [Try.f69]
  simp (disch := assumption) only [go_sem, Nat.reduceAdd, Nat.reduceMul, Nat.reduceSub, Nat.reduceEqDiff, ↓reduceIte, Nat.reduceLT, reduceCtorEq, Nat.reduceLeDiff, Int.reduceToNat, Int.reduceEq, Int.reduceLE, Int.reduceLT, Nat.reduceBEq]
  refine Bs_splitC ((decide (a1 ≤ 1))) (by first | rfl | (simp only [beq_iff_eq]; done) | simp) (fun hc1 => ?_) (fun hc1 => ?_)
  · rw [if_pos hc1] at h
    try simp (disch := assumption) only [go_sem, Nat.reduceAdd, Nat.reduceMul, Nat.reduceSub, Nat.reduceEqDiff, ↓reduceIte, Nat.reduceLT, reduceCtorEq, Nat.reduceLeDiff, Int.reduceToNat, Int.reduceEq, Int.reduceLE, Int.reduceLT, Nat.reduceBEq]
    have he := Option.some.inj h
    subst he
    refine ends_weak ⟨[(4, (.lf false (.sc (.int .i64 0))))], [(0, some (false, .box [(.lf true (.sl (a0.code.map eU8))), (.lf false (.sc (.int .i64 a0.at_))), (.lf false (.sc (.int .u64 a0.seed)))]))], 1, 20⟩ (weak_of (m := 1) [some 0] rfl rfl rfl (by simp [injR]) ?_ ?_) ?_
    all_goals ((try simp (disch := assumption) only [go_sem, Nat.reduceAdd, Nat.reduceMul, Nat.reduceSub, Nat.reduceEqDiff, ↓reduceIte, Nat.reduceLT, reduceCtorEq, Nat.reduceLeDiff, Int.reduceToNat, Int.reduceEq, Int.reduceLE, Int.reduceLT, Nat.reduceBEq]); (repeat' first | done | rfl | omega | refine And.intro ?_ ?_ | (simp; done) | (simp; omega)))
  · rw [if_neg (nt hc1)] at h
    try simp (disch := assumption) only [go_sem, Nat.reduceAdd, Nat.reduceMul, Nat.reduceSub, Nat.reduceEqDiff, ↓reduceIte, Nat.reduceLT, reduceCtorEq, Nat.reduceLeDiff, Int.reduceToNat, Int.reduceEq, Int.reduceLE, Int.reduceLT, Nat.reduceBEq]
    obtain ⟨c3, hr2, h⟩ := bind_ok h
    refine Cl_hand (ids := [0]) (w_spec_l1Cur_next_o hr2) (by first | rfl | (simp (disch := assumption) only [go_sem, Nat.reduceAdd, Nat.reduceMul, Nat.reduceSub, Nat.reduceEqDiff, ↓reduceIte, Nat.reduceLT, reduceCtorEq, Nat.reduceLeDiff, Int.reduceToNat, Int.reduceEq, Int.reduceLE, Int.reduceLT, Nat.reduceBEq]; first | done | rfl)) (FitAll.refl _) (by first | rfl | (simp (disch := assumption) only [go_sem, Nat.reduceAdd, Nat.reduceMul, Nat.reduceSub, Nat.reduceEqDiff, ↓reduceIte, Nat.reduceLT, reduceCtorEq, Nat.reduceLeDiff, Int.reduceToNat, Int.reduceEq, Int.reduceLE, Int.reduceLT, Nat.reduceBEq]; first | done | rfl)) (by decide) (by first | rfl | (simp (disch := assumption) only [go_sem, Nat.reduceAdd, Nat.reduceMul, Nat.reduceSub, Nat.reduceEqDiff, ↓reduceIte, Nat.reduceLT, reduceCtorEq, Nat.reduceLeDiff, Int.reduceToNat, Int.reduceEq, Int.reduceLE, Int.reduceLT, Nat.reduceBEq]; done)) (by rfl) ?_
    try simp (disch := assumption) only [go_sem, Nat.reduceAdd, Nat.reduceMul, Nat.reduceSub, Nat.reduceEqDiff, ↓reduceIte, Nat.reduceLT, reduceCtorEq, Nat.reduceLeDiff, Int.reduceToNat, Int.reduceEq, Int.reduceLE, Int.reduceLT, Nat.reduceBEq]
    refine Bs_splitC ((decide (a1 > 200))) (by first | rfl | (simp only [beq_iff_eq]; done) | simp) (fun hc3 => ?_) (fun hc3 => ?_)
    · rw [if_pos hc3] at h
      try simp (disch := assumption) only [go_sem, Nat.reduceAdd, Nat.reduceMul, Nat.reduceSub, Nat.reduceEqDiff, ↓reduceIte, Nat.reduceLT, reduceCtorEq, Nat.reduceLeDiff, Int.reduceToNat, Int.reduceEq, Int.reduceLE, Int.reduceLT, Nat.reduceBEq]
      obtain ⟨c4, hr4, h⟩ := bind_ok h
      refine Cl_hand (ids := [0]) (w_spec_l1Cur_next_o hr4) (by first | rfl | (simp (disch := assumption) only [go_sem, Nat.reduceAdd, Nat.reduceMul, Nat.reduceSub, Nat.reduceEqDiff, ↓reduceIte, Nat.reduceLT, reduceCtorEq, Nat.reduceLeDiff, Int.reduceToNat, Int.reduceEq, Int.reduceLE, Int.reduceLT, Nat.reduceBEq]; first | done | rfl)) (FitAll.refl _) (by first | rfl | (simp (disch := assumption) only [go_sem, Nat.reduceAdd, Nat.reduceMul, Nat.reduceSub, Nat.reduceEqDiff, ↓reduceIte, Nat.reduceLT, reduceCtorEq, Nat.reduceLeDiff, Int.reduceToNat, Int.reduceEq, Int.reduceLE, Int.reduceLT, Nat.reduceBEq]; first | done | rfl)) (by decide) (by first | rfl | (simp (disch := assumption) only [go_sem, Nat.reduceAdd, Nat.reduceMul, Nat.reduceSub, Nat.reduceEqDiff, ↓reduceIte, Nat.reduceLT, reduceCtorEq, Nat.reduceLeDiff, Int.reduceToNat, Int.reduceEq, Int.reduceLE, Int.reduceLT, Nat.reduceBEq]; done)) (by rfl) ?_
      try simp (disch := assumption) only [go_sem, Nat.reduceAdd, Nat.reduceMul, Nat.reduceSub, Nat.reduceEqDiff, ↓reduceIte, Nat.reduceLT, reduceCtorEq, Nat.reduceLeDiff, Int.reduceToNat, Int.reduceEq, Int.reduceLE, Int.reduceLT, Nat.reduceBEq]
      obtain ⟨hp5, h⟩ := guard_some h
      try simp (disch := assumption) only [go_sem, Nat.reduceAdd, Nat.reduceMul, Nat.reduceSub, Nat.reduceEqDiff, ↓reduceIte, Nat.reduceLT, reduceCtorEq, Nat.reduceLeDiff, Int.reduceToNat, Int.reduceEq, Int.reduceLE, Int.reduceLT, Nat.reduceBEq]
      first | refine And.intro (by first | omega | exact ⟨by omega, fun _ => mapLen fun _ => rfl⟩ | (refine ⟨by omega, ?_, by omega⟩; first | exact mapLen fun _ => rfl | simp) | (refine ⟨?_, by omega⟩; first | exact mapLen fun _ => rfl | simp)) ?_ | skip
      have he := Option.some.inj h
      subst he
      refine ends_weak ⟨[(4, (.lf false (.sc (.int .i64 ((wI ((wI (c3.1 * 256)) + c4.1)).tmod a1)))))], [(0, some (false, .box [(.lf true (.sl (c4.2.code.map eU8))), (.lf false (.sc (.int .i64 c4.2.at_))), (.lf false (.sc (.int .u64 c4.2.seed)))]))], 1, 20⟩ (weak_of (m := 1) [some 0] rfl rfl rfl (by simp [injR]) ?_ ?_) ?_
      all_goals ((try simp (disch := assumption) only [go_sem, Nat.reduceAdd, Nat.reduceMul, Nat.reduceSub, Nat.reduceEqDiff, ↓reduceIte, Nat.reduceLT, reduceCtorEq, Nat.reduceLeDiff, Int.reduceToNat, Int.reduceEq, Int.reduceLE, Int.reduceLT, Nat.reduceBEq]); (repeat' first | done | rfl | omega | refine And.intro ?_ ?_ | (simp; done) | (simp; omega)))
    · rw [if_neg (nt hc3)] at h
      try simp (disch := assumption) only [go_sem, Nat.reduceAdd, Nat.reduceMul, Nat.reduceSub, Nat.reduceEqDiff, ↓reduceIte, Nat.reduceLT, reduceCtorEq, Nat.reduceLeDiff, Int.reduceToNat, Int.reduceEq, Int.reduceLE, Int.reduceLT, Nat.reduceBEq]
      obtain ⟨hp6, h⟩ := guard_some h
      try simp (disch := assumption) only [go_sem, Nat.reduceAdd, Nat.reduceMul, Nat.reduceSub, Nat.reduceEqDiff, ↓reduceIte, Nat.reduceLT, reduceCtorEq, Nat.reduceLeDiff, Int.reduceToNat, Int.reduceEq, Int.reduceLE, Int.reduceLT, Nat.reduceBEq]
      first | refine And.intro (by first | omega | exact ⟨by omega, fun _ => mapLen fun _ => rfl⟩ | (refine ⟨by omega, ?_, by omega⟩; first | exact mapLen fun _ => rfl | simp) | (refine ⟨?_, by omega⟩; first | exact mapLen fun _ => rfl | simp)) ?_ | skip
      have he := Option.some.inj h
      subst he
      refine ends_weak ⟨[(4, (.lf false (.sc (.int .i64 (c3.1.tmod a1)))))], [(0, some (false, .box [(.lf true (.sl (c3.2.code.map eU8))), (.lf false (.sc (.int .i64 c3.2.at_))), (.lf false (.sc (.int .u64 c3.2.seed)))]))], 1, 20⟩ (weak_of (m := 1) [some 0] rfl rfl rfl (by simp [injR]) ?_ ?_) ?_
      all_goals ((try simp (disch := assumption) only [go_sem, Nat.reduceAdd, Nat.reduceMul, Nat.reduceSub, Nat.reduceEqDiff, ↓reduceIte, Nat.reduceLT, reduceCtorEq, Nat.reduceLeDiff, Int.reduceToNat, Int.reduceEq, Int.reduceLE, Int.reduceLT, Nat.reduceBEq]); (repeat' first | done | rfl | omega | refine And.intro ?_ ?_ | (simp; done) | (simp; omega)))
theorem w_spec_l1Cur_one_o {a0 : l1CurT} {a1 : Int} {r : (Bool × l1CurT)} (h : spec_l1Cur_one_o a0 a1 = some r) : Fn Try.prog 70 [(.pb 0 0), (.lf false (.sc (.int .i64 a1)))] [(0, some (false, .box [(.lf true (.sl (a0.code.map eU8))), (.lf false (.sc (.int .i64 a0.at_))), (.lf false (.sc (.int .u64 a0.seed)))]))] 1 (.lf false (.sc (.bool r.1))) [(0, some (false, .box [(.lf true (.sl (r.2.code.map eU8))), (.lf false (.sc (.int .i64 r.2.at_))), (.lf false (.sc (.int .u64 r.2.seed)))]))] 1 := by
  unfold spec_l1Cur_one_o at h
  refine fn_code tab_ok mixed [] Try.func70 rfl rfl (by simp [Try.f70]) (by kernel_rfl) ?_
  simp only [Try.f70]
  simp (disch := assumption) only [go_sem, Nat.reduceAdd, Nat.reduceMul, Nat.reduceSub, Nat.reduceEqDiff, ↓reduceIte, Nat.reduceLT, reduceCtorEq, Nat.reduceLeDiff, Int.reduceToNat, Int.reduceEq, Int.reduceLE, Int.reduceLT, Nat.reduceBEq]
  obtain ⟨c9, hr1, h⟩ := bind_ok h
  refine Cl_hand (ids := [0]) (w_spec_l1Cur_pick_o hr1) (by first | rfl | (simp (disch := assumption) only [go_sem, Nat.reduceAdd, Nat.reduceMul, Nat.reduceSub, Nat.reduceEqDiff, ↓reduceIte, Nat.reduceLT, reduceCtorEq, Nat.reduceLeDiff, Int.reduceToNat, Int.reduceEq, Int.reduceLE, Int.reduceLT, Nat.reduceBEq]; first | done | rfl)) (FitAll.refl _) (by first | rfl | (simp (disch := assumption) only [go_sem, Nat.reduceAdd, Nat.reduceMul, Nat.reduceSub, Nat.reduceEqDiff, ↓reduceIte, Nat.reduceLT, reduceCtorEq, Nat.reduceLeDiff, Int.reduceToNat, Int.reduceEq, Int.reduceLE, Int.reduceLT, Nat.reduceBEq]; first | done | rfl)) (by decide) (by first | rfl | (simp (disch := assumption) only [go_sem, Nat.reduceAdd, Nat.reduceMul, Nat.reduceSub, Nat.reduceEqDiff, ↓reduceIte, Nat.reduceLT, reduceCtorEq, Nat.reduceLeDiff, Int.reduceToNat, Int.reduceEq, Int.reduceLE, Int.reduceLT, Nat.reduceBEq]; done)) (by rfl) ?_
  try simp (disch := assumption) only [go_sem, Nat.reduceAdd, Nat.reduceMul, Nat.reduceSub, Nat.reduceEqDiff, ↓reduceIte, Nat.reduceLT, reduceCtorEq, Nat.reduceLeDiff, Int.reduceToNat, Int.reduceEq, Int.reduceLE, Int.reduceLT, Nat.reduceBEq]
  have he := Option.some.inj h
  subst he
  refine ends_weak ⟨[(4, (.lf false (.sc (.bool (c9.1 == 0)))))], [(0, some (false, .box [(.lf true (.sl (c9.2.code.map eU8))), (.lf false (.sc (.int .i64 c9.2.at_))), (.lf false (.sc (.int .u64 c9.2.seed)))]))], 1, 9⟩ (weak_of (m := 1) [some 0] rfl rfl rfl (by simp [injR]) ?_ ?_) ?_
  all_goals ((try simp (disch := assumption) only [go_sem, Nat.reduceAdd, Nat.reduceMul, Nat.reduceSub, Nat.reduceEqDiff, ↓reduceIte, Nat.reduceLT, reduceCtorEq, Nat.reduceLeDiff, Int.reduceToNat, Int.reduceEq, Int.reduceLE, Int.reduceLT, Nat.reduceBEq]); (repeat' first | done | rfl | omega | refine And.intro ?_ ?_ | (simp; done) | (simp; omega)))
theorem w_spec_l1Cur_calls_o {a0 : l1CurT} {r : ((List CallT) × l1CurT)} (h : spec_l1Cur_calls_o a0 = some r) : Fn Try.prog 98 [(.pb 0 0)] [(0, some (false, .box [(.lf true (.sl (a0.code.map eU8))), (.lf false (.sc (.int .i64 a0.at_))), (.lf false (.sc (.int .u64 a0.seed)))]))] 1 (.os 1 2 0 r.1.length r.1.length false) [(0, some (false, .box [(.lf true (.sl (r.2.code.map eU8))), (.lf false (.sc (.int .i64 r.2.at_))), (.lf false (.sc (.int .u64 r.2.seed)))])), (1, some (true, .arr false 2 (r.1.map eCall)))] 2 := by
  unfold spec_l1Cur_calls_o at h
  refine fn_code tab_ok mixed [(1000, [(0, 0)]), (1001, [(0, 0), (3, 0)]), (1002, [(0, 0), (3, 0), (4, 0)]), (1003, [(0, 0), (3, 0), (4, 0), (5, 0)]), (1004, [(0, 0), (3, 0), (4, 0), (5, 0), (11, 0)]), (1005, [(0, 0), (3, 0), (4, 0), (5, 0)]), (1006, [(0, 0), (3, 0), (4, 0), (5, 0), (16, 0)]), (1007, [(0, 0), (3, 0), (4, 0), (5, 0)]), (1008, [(0, 0), (3, 0), (4, 0), (5, 0)]), (1009, [(0, 0), (3, 0), (4, 0), (5, 0)]), (1010, [(3, 0), (36, 0)]), (1011, [(3, 0)]), (1012, [(2, 0)]), (2011, []), (4010, [])] Try.func98 rfl rfl (by simp [Try.f98]) (by kernel_rfl) ?_
  simp only [Try.f98]
  simp (disch := assumption) only [go_sem, Nat.reduceAdd, Nat.reduceMul, Nat.reduceSub, Nat.reduceEqDiff, ↓reduceIte, Nat.reduceLT, reduceCtorEq, Nat.reduceLeDiff, Int.reduceToNat, Int.reduceEq, Int.reduceLE, Int.reduceLT, Nat.reduceBEq]
  obtain ⟨c7, hr1, h⟩ := bind_ok h
  refine Cl_hand (ids := [0]) (w_spec_l1Cur_pick_o hr1) (by first | rfl | (simp (disch := assumption) only [go_sem, Nat.reduceAdd, Nat.reduceMul, Nat.reduceSub, Nat.reduceEqDiff, ↓reduceIte, Nat.reduceLT, reduceCtorEq, Nat.reduceLeDiff, Int.reduceToNat, Int.reduceEq, Int.reduceLE, Int.reduceLT, Nat.reduceBEq]; first | done | rfl)) (FitAll.refl _) (by first | rfl | (simp (disch := assumption) only [go_sem, Nat.reduceAdd, Nat.reduceMul, Nat.reduceSub, Nat.reduceEqDiff, ↓reduceIte, Nat.reduceLT, reduceCtorEq, Nat.reduceLeDiff, Int.reduceToNat, Int.reduceEq, Int.reduceLE, Int.reduceLT, Nat.reduceBEq]; first | done | rfl)) (by decide) (by first | rfl | (simp (disch := assumption) only [go_sem, Nat.reduceAdd, Nat.reduceMul, Nat.reduceSub, Nat.reduceEqDiff, ↓reduceIte, Nat.reduceLT, reduceCtorEq, Nat.reduceLeDiff, Int.reduceToNat, Int.reduceEq, Int.reduceLE, Int.reduceLT, Nat.reduceBEq]; done)) (by rfl) ?_
  try simp (disch := assumption) only [go_sem, Nat.reduceAdd, Nat.reduceMul, Nat.reduceSub, Nat.reduceEqDiff, ↓reduceIte, Nat.reduceLT, reduceCtorEq, Nat.reduceLeDiff, Int.reduceToNat, Int.reduceEq, Int.reduceLE, Int.reduceLT, Nat.reduceBEq]
  obtain ⟨c8, hr2, h⟩ := bind_ok h
  refine Cl_hand (ids := [0]) (w_spec_l1Cur_pick_o hr2) (by first | rfl | (simp (disch := assumption) only [go_sem, Nat.reduceAdd, Nat.reduceMul, Nat.reduceSub, Nat.reduceEqDiff, ↓reduceIte, Nat.reduceLT, reduceCtorEq, Nat.reduceLeDiff, Int.reduceToNat, Int.reduceEq, Int.reduceLE, Int.reduceLT, Nat.reduceBEq]; first | done | rfl)) (FitAll.refl _) (by first | rfl | (simp (disch := assumption) only [go_sem, Nat.reduceAdd, Nat.reduceMul, Nat.reduceSub, Nat.reduceEqDiff, ↓reduceIte, Nat.reduceLT, reduceCtorEq, Nat.reduceLeDiff, Int.reduceToNat, Int.reduceEq, Int.reduceLE, Int.reduceLT, Nat.reduceBEq]; first | done | rfl)) (by decide) (by first | rfl | (simp (disch := assumption) only [go_sem, Nat.reduceAdd, Nat.reduceMul, Nat.reduceSub, Nat.reduceEqDiff, ↓reduceIte, Nat.reduceLT, reduceCtorEq, Nat.reduceLeDiff, Int.reduceToNat, Int.reduceEq, Int.reduceLE, Int.reduceLT, Nat.reduceBEq]; done)) (by rfl) ?_
  try simp (disch := assumption) only [go_sem, Nat.reduceAdd, Nat.reduceMul, Nat.reduceSub, Nat.reduceEqDiff, ↓reduceIte, Nat.reduceLT, reduceCtorEq, Nat.reduceLeDiff, Int.reduceToNat, Int.reduceEq, Int.reduceLE, Int.reduceLT, Nat.reduceBEq]
  obtain ⟨p12, hq3, h⟩ := bind_ok h
  refine Sq_cut (fun s2 => s2 = ⟨[(0, (.pb 0 0)), (3, .nl), (4, (.lf false (.sc (.int .i64 c7.1)))), (5, (.lf false (.sc (.int .i64 p12.t5))))], [(0, some (false, .box [(.lf true (.sl (p12.b0_0.map eU8))), (.lf false (.sc (.int .i64 p12.b0_1))), (.lf false (.sc (.int .u64 p12.b0_2)))]))], 1, 46⟩) ?_ ?_
  · try simp (disch := assumption) only [go_sem, Nat.reduceAdd, Nat.reduceMul, Nat.reduceSub, Nat.reduceEqDiff, ↓reduceIte, Nat.reduceLT, reduceCtorEq, Nat.reduceLeDiff, Int.reduceToNat, Int.reduceEq, Int.reduceLE, Int.reduceLT, Nat.reduceBEq]
    obtain ⟨c10, hr4, hq3⟩ := bind_ok hq3
    refine Cl_hand (ids := [0]) (w_spec_l1Cur_one_o hr4) (by first | rfl | (simp (disch := assumption) only [go_sem, Nat.reduceAdd, Nat.reduceMul, Nat.reduceSub, Nat.reduceEqDiff, ↓reduceIte, Nat.reduceLT, reduceCtorEq, Nat.reduceLeDiff, Int.reduceToNat, Int.reduceEq, Int.reduceLE, Int.reduceLT, Nat.reduceBEq]; first | done | rfl)) (FitAll.refl _) (by first | rfl | (simp (disch := assumption) only [go_sem, Nat.reduceAdd, Nat.reduceMul, Nat.reduceSub, Nat.reduceEqDiff, ↓reduceIte, Nat.reduceLT, reduceCtorEq, Nat.reduceLeDiff, Int.reduceToNat, Int.reduceEq, Int.reduceLE, Int.reduceLT, Nat.reduceBEq]; first | done | rfl)) (by decide) (by first | rfl | (simp (disch := assumption) only [go_sem, Nat.reduceAdd, Nat.reduceMul, Nat.reduceSub, Nat.reduceEqDiff, ↓reduceIte, Nat.reduceLT, reduceCtorEq, Nat.reduceLeDiff, Int.reduceToNat, Int.reduceEq, Int.reduceLE, Int.reduceLT, Nat.reduceBEq]; done)) (by rfl) ?_
    try simp (disch := assumption) only [go_sem, Nat.reduceAdd, Nat.reduceMul, Nat.reduceSub, Nat.reduceEqDiff, ↓reduceIte, Nat.reduceLT, reduceCtorEq, Nat.reduceLeDiff, Int.reduceToNat, Int.reduceEq, Int.reduceLE, Int.reduceLT, Nat.reduceBEq]
    refine Bs_splitC (c10.1) (by first | rfl | (simp only [beq_iff_eq]; done) | simp) (fun hc5 => ?_) (fun hc5 => ?_)
    · rw [if_pos hc5] at hq3
      try simp (disch := assumption) only [go_sem, Nat.reduceAdd, Nat.reduceMul, Nat.reduceSub, Nat.reduceEqDiff, ↓reduceIte, Nat.reduceLT, reduceCtorEq, Nat.reduceLeDiff, Int.reduceToNat, Int.reduceEq, Int.reduceLE, Int.reduceLT, Nat.reduceBEq]
      obtain ⟨c11, hr6, hq3⟩ := bind_ok hq3
      refine Cl_hand (ids := [0]) (w_spec_l1Cur_pick_o hr6) (by first | rfl | (simp (disch := assumption) only [go_sem, Nat.reduceAdd, Nat.reduceMul, Nat.reduceSub, Nat.reduceEqDiff, ↓reduceIte, Nat.reduceLT, reduceCtorEq, Nat.reduceLeDiff, Int.reduceToNat, Int.reduceEq, Int.reduceLE, Int.reduceLT, Nat.reduceBEq]; first | done | rfl)) (FitAll.refl _) (by first | rfl | (simp (disch := assumption) only [go_sem, Nat.reduceAdd, Nat.reduceMul, Nat.reduceSub, Nat.reduceEqDiff, ↓reduceIte, Nat.reduceLT, reduceCtorEq, Nat.reduceLeDiff, Int.reduceToNat, Int.reduceEq, Int.reduceLE, Int.reduceLT, Nat.reduceBEq]; first | done | rfl)) (by decide) (by first | rfl | (simp (disch := assumption) only [go_sem, Nat.reduceAdd, Nat.reduceMul, Nat.reduceSub, Nat.reduceEqDiff, ↓reduceIte, Nat.reduceLT, reduceCtorEq, Nat.reduceLeDiff, Int.reduceToNat, Int.reduceEq, Int.reduceLE, Int.reduceLT, Nat.reduceBEq]; done)) (by rfl) ?_
      try simp (disch := assumption) only [go_sem, Nat.reduceAdd, Nat.reduceMul, Nat.reduceSub, Nat.reduceEqDiff, ↓reduceIte, Nat.reduceLT, reduceCtorEq, Nat.reduceLeDiff, Int.reduceToNat, Int.reduceEq, Int.reduceLE, Int.reduceLT, Nat.reduceBEq]
      cases hq3
      refine X_cut rfl ?_
      refine weak_of (m := 1) [some 0] rfl rfl rfl (by simp [injR]) ?_ ?_
      all_goals ((try simp (disch := assumption) only [go_sem, Nat.reduceAdd, Nat.reduceMul, Nat.reduceSub, Nat.reduceEqDiff, ↓reduceIte, Nat.reduceLT, reduceCtorEq, Nat.reduceLeDiff, Int.reduceToNat, Int.reduceEq, Int.reduceLE, Int.reduceLT, Nat.reduceBEq]); (repeat' first | done | rfl | omega | refine And.intro ?_ ?_ | (simp; done) | (simp; omega)))
    · rw [if_neg (nt hc5)] at hq3
      try simp (disch := assumption) only [go_sem, Nat.reduceAdd, Nat.reduceMul, Nat.reduceSub, Nat.reduceEqDiff, ↓reduceIte, Nat.reduceLT, reduceCtorEq, Nat.reduceLeDiff, Int.reduceToNat, Int.reduceEq, Int.reduceLE, Int.reduceLT, Nat.reduceBEq]
      cases hq3
      refine X_cut rfl ?_
      refine weak_of (m := 1) [some 0] rfl rfl rfl (by simp [injR]) ?_ ?_
      all_goals ((try simp (disch := assumption) only [go_sem, Nat.reduceAdd, Nat.reduceMul, Nat.reduceSub, Nat.reduceEqDiff, ↓reduceIte, Nat.reduceLT, reduceCtorEq, Nat.reduceLeDiff, Int.reduceToNat, Int.reduceEq, Int.reduceLE, Int.reduceLT, Nat.reduceBEq]); (repeat' first | done | rfl | omega | refine And.intro ?_ ?_ | (simp; done) | (simp; omega)))
  · intro s2 hJ; subst hJ
    try dsimp only at h
    try simp (disch := assumption) only [go_sem, Nat.reduceAdd, Nat.reduceMul, Nat.reduceSub, Nat.reduceEqDiff, ↓reduceIte, Nat.reduceLT, reduceCtorEq, Nat.reduceLeDiff, Int.reduceToNat, Int.reduceEq, Int.reduceLE, Int.reduceLT, Nat.reduceBEq]
    obtain ⟨y18, hl7, h⟩ := bind_ok h
    refine W_loopP (fun g13 : spec_l1Cur_calls_o_G1 => ⟨[(0, (.pb 0 0)), (3, (.os 1 2 0 g13.c1.length g13.c1.length false)), (4, (.lf false (.sc (.int .i64 g13.t4)))), (5, (.lf false (.sc (.int .i64 g13.t5))))], [(0, some (false, .box [(.lf true (.sl (g13.b0_0.map eU8))), (.lf false (.sc (.int .i64 g13.b0_1))), (.lf false (.sc (.int .u64 g13.b0_2)))])), (1, some (true, .arr false 2 (g13.c1.map eCall)))], 2, 46⟩) (spec_l1Cur_calls_o_L1) _ _ hl7 (weak_of (m := 1) [some 0, none] rfl rfl rfl (by simp [injR]) ?_ ?_) ?_
    rotate_left 2
    · intro n1 g13 z1 hs1 hk1
      unfold spec_l1Cur_calls_o_L1 at hs1
      try dsimp only at hs1
      simp (disch := assumption) only [go_sem, Nat.reduceAdd, Nat.reduceMul, Nat.reduceSub, Nat.reduceEqDiff, ↓reduceIte, Nat.reduceLT, reduceCtorEq, Nat.reduceLeDiff, Int.reduceToNat, Int.reduceEq, Int.reduceLE, Int.reduceLT, Nat.reduceBEq]
      refine Bs_splitC ((decide (g13.t5 > 0))) (by first | rfl | (simp only [beq_iff_eq]; done) | simp) (fun hc8 => ?_) (fun hc8 => ?_)
      · rw [if_pos hc8] at hs1
        try simp (disch := assumption) only [go_sem, Nat.reduceAdd, Nat.reduceMul, Nat.reduceSub, Nat.reduceEqDiff, ↓reduceIte, Nat.reduceLT, reduceCtorEq, Nat.reduceLeDiff, Int.reduceToNat, Int.reduceEq, Int.reduceLE, Int.reduceLT, Nat.reduceBEq]
        obtain ⟨c16, hr9, hs1⟩ := bind_ok hs1
        refine Cl_hand (ids := [0]) (w_spec_l1Cur_one_o hr9) (by first | rfl | (simp (disch := assumption) only [go_sem, Nat.reduceAdd, Nat.reduceMul, Nat.reduceSub, Nat.reduceEqDiff, ↓reduceIte, Nat.reduceLT, reduceCtorEq, Nat.reduceLeDiff, Int.reduceToNat, Int.reduceEq, Int.reduceLE, Int.reduceLT, Nat.reduceBEq]; first | done | rfl)) (FitAll.refl _) (by first | rfl | (simp (disch := assumption) only [go_sem, Nat.reduceAdd, Nat.reduceMul, Nat.reduceSub, Nat.reduceEqDiff, ↓reduceIte, Nat.reduceLT, reduceCtorEq, Nat.reduceLeDiff, Int.reduceToNat, Int.reduceEq, Int.reduceLE, Int.reduceLT, Nat.reduceBEq]; first | done | rfl)) (by decide) (by first | rfl | (simp (disch := assumption) only [go_sem, Nat.reduceAdd, Nat.reduceMul, Nat.reduceSub, Nat.reduceEqDiff, ↓reduceIte, Nat.reduceLT, reduceCtorEq, Nat.reduceLeDiff, Int.reduceToNat, Int.reduceEq, Int.reduceLE, Int.reduceLT, Nat.reduceBEq]; done)) (by rfl) ?_
        try simp (disch := assumption) only [go_sem, Nat.reduceAdd, Nat.reduceMul, Nat.reduceSub, Nat.reduceEqDiff, ↓reduceIte, Nat.reduceLT, reduceCtorEq, Nat.reduceLeDiff, Int.reduceToNat, Int.reduceEq, Int.reduceLE, Int.reduceLT, Nat.reduceBEq]
        obtain ⟨hp10, hs1⟩ := guard_some hs1
        try simp (disch := assumption) only [go_sem, Nat.reduceAdd, Nat.reduceMul, Nat.reduceSub, Nat.reduceEqDiff, ↓reduceIte, Nat.reduceLT, reduceCtorEq, Nat.reduceLeDiff, Int.reduceToNat, Int.reduceEq, Int.reduceLE, Int.reduceLT, Nat.reduceBEq]
        first | refine And.intro (by first | omega | exact ⟨by omega, fun _ => mapLen fun _ => rfl⟩ | (refine ⟨by omega, ?_, by omega⟩; first | exact mapLen fun _ => rfl | simp) | (refine ⟨?_, by omega⟩; first | exact mapLen fun _ => rfl | simp)) ?_ | skip
        obtain ⟨c17, hr11, hs1⟩ := bind_ok hs1
        refine Cl_hand (ids := [0]) (w_spec_l1Cur_pick_o hr11) (by first | rfl | (simp (disch := assumption) only [go_sem, Nat.reduceAdd, Nat.reduceMul, Nat.reduceSub, Nat.reduceEqDiff, ↓reduceIte, Nat.reduceLT, reduceCtorEq, Nat.reduceLeDiff, Int.reduceToNat, Int.reduceEq, Int.reduceLE, Int.reduceLT, Nat.reduceBEq]; first | done | rfl)) (FitAll.refl _) (by first | rfl | (simp (disch := assumption) only [go_sem, Nat.reduceAdd, Nat.reduceMul, Nat.reduceSub, Nat.reduceEqDiff, ↓reduceIte, Nat.reduceLT, reduceCtorEq, Nat.reduceLeDiff, Int.reduceToNat, Int.reduceEq, Int.reduceLE, Int.reduceLT, Nat.reduceBEq]; first | done | rfl)) (by decide) (by first | rfl | (simp (disch := assumption) only [go_sem, Nat.reduceAdd, Nat.reduceMul, Nat.reduceSub, Nat.reduceEqDiff, ↓reduceIte, Nat.reduceLT, reduceCtorEq, Nat.reduceLeDiff, Int.reduceToNat, Int.reduceEq, Int.reduceLE, Int.reduceLT, Nat.reduceBEq]; done)) (by rfl) ?_
        try simp (disch := assumption) only [go_sem, Nat.reduceAdd, Nat.reduceMul, Nat.reduceSub, Nat.reduceEqDiff, ↓reduceIte, Nat.reduceLT, reduceCtorEq, Nat.reduceLeDiff, Int.reduceToNat, Int.reduceEq, Int.reduceLE, Int.reduceLT, Nat.reduceBEq]
        cases hs1
        refine X_backP hk1 ?_
        refine weak_of (m := 1) [some 0, some 3] rfl rfl rfl (by simp [injR]) ?_ ?_
        all_goals ((try simp (disch := assumption) only [go_sem, Nat.reduceAdd, Nat.reduceMul, Nat.reduceSub, Nat.reduceEqDiff, ↓reduceIte, Nat.reduceLT, reduceCtorEq, Nat.reduceLeDiff, Int.reduceToNat, Int.reduceEq, Int.reduceLE, Int.reduceLT, Nat.reduceBEq]); (repeat' first | done | rfl | omega | refine And.intro ?_ ?_ | (simp; done) | (simp; omega)))
      · rw [if_neg (nt hc8)] at hs1
        try simp (disch := assumption) only [go_sem, Nat.reduceAdd, Nat.reduceMul, Nat.reduceSub, Nat.reduceEqDiff, ↓reduceIte, Nat.reduceLT, reduceCtorEq, Nat.reduceLeDiff, Int.reduceToNat, Int.reduceEq, Int.reduceLE, Int.reduceLT, Nat.reduceBEq]
        cases hs1
        cases hk1
        try dsimp only at h
        try simp (disch := assumption) only [go_sem, Nat.reduceAdd, Nat.reduceMul, Nat.reduceSub, Nat.reduceEqDiff, ↓reduceIte, Nat.reduceLT, reduceCtorEq, Nat.reduceLeDiff, Int.reduceToNat, Int.reduceEq, Int.reduceLE, Int.reduceLT, Nat.reduceBEq]
        obtain ⟨p22, hq12, h⟩ := bind_ok h
        refine Sq_cut (fun s2 => s2 = ⟨[(3, (.os 1 2 0 g13.c1.length g13.c1.length false)), (36, (.lf false (.sc (.bool p22.t36))))], [(0, some (false, .box [(.lf true (.sl (p22.b0_0.map eU8))), (.lf false (.sc (.int .i64 p22.b0_1))), (.lf false (.sc (.int .u64 p22.b0_2)))])), (1, some (true, .arr false 2 (g13.c1.map eCall)))], 2, 46⟩) ?_ ?_
        · try simp (disch := assumption) only [go_sem, Nat.reduceAdd, Nat.reduceMul, Nat.reduceSub, Nat.reduceEqDiff, ↓reduceIte, Nat.reduceLT, reduceCtorEq, Nat.reduceLeDiff, Int.reduceToNat, Int.reduceEq, Int.reduceLE, Int.reduceLT, Nat.reduceBEq]
          refine Sp_splitC ((decide (((g13.c1.length : Nat) : Int) > 1))) (by first | rfl | (simp only [beq_iff_eq]; done) | simp) (fun hc13 => ?_) (fun hc13 => ?_)
          · rw [if_pos hc13] at hq12
            try simp (disch := assumption) only [go_sem, Nat.reduceAdd, Nat.reduceMul, Nat.reduceSub, Nat.reduceEqDiff, ↓reduceIte, Nat.reduceLT, reduceCtorEq, Nat.reduceLeDiff, Int.reduceToNat, Int.reduceEq, Int.reduceLE, Int.reduceLT, Nat.reduceBEq]
            obtain ⟨c21, hr14, hq12⟩ := bind_ok hq12
            refine Cl_hand (ids := [0]) (w_spec_l1Cur_one_o hr14) (by first | rfl | (simp (disch := assumption) only [go_sem, Nat.reduceAdd, Nat.reduceMul, Nat.reduceSub, Nat.reduceEqDiff, ↓reduceIte, Nat.reduceLT, reduceCtorEq, Nat.reduceLeDiff, Int.reduceToNat, Int.reduceEq, Int.reduceLE, Int.reduceLT, Nat.reduceBEq]; first | done | rfl)) (FitAll.refl _) (by first | rfl | (simp (disch := assumption) only [go_sem, Nat.reduceAdd, Nat.reduceMul, Nat.reduceSub, Nat.reduceEqDiff, ↓reduceIte, Nat.reduceLT, reduceCtorEq, Nat.reduceLeDiff, Int.reduceToNat, Int.reduceEq, Int.reduceLE, Int.reduceLT, Nat.reduceBEq]; first | done | rfl)) (by decide) (by first | rfl | (simp (disch := assumption) only [go_sem, Nat.reduceAdd, Nat.reduceMul, Nat.reduceSub, Nat.reduceEqDiff, ↓reduceIte, Nat.reduceLT, reduceCtorEq, Nat.reduceLeDiff, Int.reduceToNat, Int.reduceEq, Int.reduceLE, Int.reduceLT, Nat.reduceBEq]; done)) (by rfl) ?_
            try simp (disch := assumption) only [go_sem, Nat.reduceAdd, Nat.reduceMul, Nat.reduceSub, Nat.reduceEqDiff, ↓reduceIte, Nat.reduceLT, reduceCtorEq, Nat.reduceLeDiff, Int.reduceToNat, Int.reduceEq, Int.reduceLE, Int.reduceLT, Nat.reduceBEq]
            cases hq12
            refine X_cut rfl ?_
            refine weak_of (m := 1) [some 0, some 1] rfl rfl rfl (by simp [injR]) ?_ ?_
            all_goals ((try simp (disch := assumption) only [go_sem, Nat.reduceAdd, Nat.reduceMul, Nat.reduceSub, Nat.reduceEqDiff, ↓reduceIte, Nat.reduceLT, reduceCtorEq, Nat.reduceLeDiff, Int.reduceToNat, Int.reduceEq, Int.reduceLE, Int.reduceLT, Nat.reduceBEq]); (repeat' first | done | rfl | omega | refine And.intro ?_ ?_ | (simp; done) | (simp; omega)))
          · rw [if_neg (nt hc13)] at hq12
            try simp (disch := assumption) only [go_sem, Nat.reduceAdd, Nat.reduceMul, Nat.reduceSub, Nat.reduceEqDiff, ↓reduceIte, Nat.reduceLT, reduceCtorEq, Nat.reduceLeDiff, Int.reduceToNat, Int.reduceEq, Int.reduceLE, Int.reduceLT, Nat.reduceBEq]
            cases hq12
            refine X_cut rfl ?_
            refine weak_of (m := 1) [some 0, some 1] rfl rfl rfl (by simp [injR]) ?_ ?_
            all_goals ((try simp (disch := assumption) only [go_sem, Nat.reduceAdd, Nat.reduceMul, Nat.reduceSub, Nat.reduceEqDiff, ↓reduceIte, Nat.reduceLT, reduceCtorEq, Nat.reduceLeDiff, Int.reduceToNat, Int.reduceEq, Int.reduceLE, Int.reduceLT, Nat.reduceBEq]); (repeat' first | done | rfl | omega | refine And.intro ?_ ?_ | (simp; done) | (simp; omega)))
        · intro s2 hJ; subst hJ
          try dsimp only at h
          try simp (disch := assumption) only [go_sem, Nat.reduceAdd, Nat.reduceMul, Nat.reduceSub, Nat.reduceEqDiff, ↓reduceIte, Nat.reduceLT, reduceCtorEq, Nat.reduceLeDiff, Int.reduceToNat, Int.reduceEq, Int.reduceLE, Int.reduceLT, Nat.reduceBEq]
          refine Bs_splitC (p22.t36) (by first | rfl | (simp only [beq_iff_eq]; done) | simp) (fun hc15 => ?_) (fun hc15 => ?_)
          · rw [if_pos hc15] at h
            try simp (disch := assumption) only [go_sem, Nat.reduceAdd, Nat.reduceMul, Nat.reduceSub, Nat.reduceEqDiff, ↓reduceIte, Nat.reduceLT, reduceCtorEq, Nat.reduceLeDiff, Int.reduceToNat, Int.reduceEq, Int.reduceLE, Int.reduceLT, Nat.reduceBEq]
            obtain ⟨hp16, h⟩ := guard_some h
            have hn16 : 1 < g13.c1.length := by first | omega | (simp only [List.length_set, List.length_append, List.length_replicate, List.length_map]; omega)
            try simp (disch := assumption) only [go_sem, Nat.reduceAdd, Nat.reduceMul, Nat.reduceSub, Nat.reduceEqDiff, ↓reduceIte, Nat.reduceLT, reduceCtorEq, Nat.reduceLeDiff, Int.reduceToNat, Int.reduceEq, Int.reduceLE, Int.reduceLT, Nat.reduceBEq]
            first | refine And.intro (by first | omega | exact ⟨by omega, fun _ => mapLen fun _ => rfl⟩ | (refine ⟨by omega, ?_, by omega⟩; first | exact mapLen fun _ => rfl | simp) | (refine ⟨?_, by omega⟩; first | exact mapLen fun _ => rfl | simp)) ?_ | skip
            first | refine And.intro (by first | omega | (simp only [List.length_set, List.length_append, List.length_replicate, List.length_map]; omega)) ?_ | skip
            try simp (disch := assumption) only [go_sem, Nat.reduceAdd, Nat.reduceMul, Nat.reduceSub, Nat.reduceEqDiff, ↓reduceIte, Nat.reduceLT, reduceCtorEq, Nat.reduceLeDiff, Int.reduceToNat, Int.reduceEq, Int.reduceLE, Int.reduceLT, Nat.reduceBEq]
            obtain ⟨hp18, h⟩ := guard_some h
            have hn18 : 0 < g13.c1.length := by first | omega | (simp only [List.length_set, List.length_append, List.length_replicate, List.length_map]; omega)
            try simp (disch := assumption) only [go_sem, Nat.reduceAdd, Nat.reduceMul, Nat.reduceSub, Nat.reduceEqDiff, ↓reduceIte, Nat.reduceLT, reduceCtorEq, Nat.reduceLeDiff, Int.reduceToNat, Int.reduceEq, Int.reduceLE, Int.reduceLT, Nat.reduceBEq]
            first | refine And.intro (by first | omega | exact ⟨by omega, fun _ => mapLen fun _ => rfl⟩ | (refine ⟨by omega, ?_, by omega⟩; first | exact mapLen fun _ => rfl | simp) | (refine ⟨?_, by omega⟩; first | exact mapLen fun _ => rfl | simp)) ?_ | skip
            first | refine And.intro (by first | omega | (simp only [List.length_set, List.length_append, List.length_replicate, List.length_map]; omega)) ?_ | skip
            try simp (disch := assumption) only [go_sem, Nat.reduceAdd, Nat.reduceMul, Nat.reduceSub, Nat.reduceEqDiff, ↓reduceIte, Nat.reduceLT, reduceCtorEq, Nat.reduceLeDiff, Int.reduceToNat, Int.reduceEq, Int.reduceLE, Int.reduceLT, Nat.reduceBEq]
            have he := Option.some.inj h
            subst he
            refine ends_weak ⟨[(2, (.os 1 2 0 ((g13.c1.set 0 (⟨(wI (((nth g13.c1 1).Now) + 1)), (nth g13.c1 0).Fine⟩ : CallT)).length) ((g13.c1.set 0 (⟨(wI (((nth g13.c1 1).Now) + 1)), (nth g13.c1 0).Fine⟩ : CallT)).length) false))], [(0, some (false, .box [(.lf true (.sl (p22.b0_0.map eU8))), (.lf false (.sc (.int .i64 p22.b0_1))), (.lf false (.sc (.int .u64 p22.b0_2)))])), (1, some (true, .arr false 2 ((g13.c1.set 0 (⟨(wI (((nth g13.c1 1).Now) + 1)), (nth g13.c1 0).Fine⟩ : CallT)).map eCall)))], 2, 46⟩ (weak_of (m := 1) [some 0, some 1] rfl rfl rfl (by simp [injR]) ?_ ?_) ?_
            all_goals ((try simp (disch := assumption) only [go_sem, Nat.reduceAdd, Nat.reduceMul, Nat.reduceSub, Nat.reduceEqDiff, ↓reduceIte, Nat.reduceLT, reduceCtorEq, Nat.reduceLeDiff, Int.reduceToNat, Int.reduceEq, Int.reduceLE, Int.reduceLT, Nat.reduceBEq]); (repeat' first | done | rfl | omega | refine And.intro ?_ ?_ | (simp; done) | (simp; omega)))
          · rw [if_neg (nt hc15)] at h
            try simp (disch := assumption) only [go_sem, Nat.reduceAdd, Nat.reduceMul, Nat.reduceSub, Nat.reduceEqDiff, ↓reduceIte, Nat.reduceLT, reduceCtorEq, Nat.reduceLeDiff, Int.reduceToNat, Int.reduceEq, Int.reduceLE, Int.reduceLT, Nat.reduceBEq]
            have he := Option.some.inj h
            subst he
            refine ends_weak ⟨[(2, (.os 1 2 0 g13.c1.length g13.c1.length false))], [(0, some (false, .box [(.lf true (.sl (p22.b0_0.map eU8))), (.lf false (.sc (.int .i64 p22.b0_1))), (.lf false (.sc (.int .u64 p22.b0_2)))])), (1, some (true, .arr false 2 (g13.c1.map eCall)))], 2, 46⟩ (weak_of (m := 1) [some 0, some 1] rfl rfl rfl (by simp [injR]) ?_ ?_) ?_
            all_goals ((try simp (disch := assumption) only [go_sem, Nat.reduceAdd, Nat.reduceMul, Nat.reduceSub, Nat.reduceEqDiff, ↓reduceIte, Nat.reduceLT, reduceCtorEq, Nat.reduceLeDiff, Int.reduceToNat, Int.reduceEq, Int.reduceLE, Int.reduceLT, Nat.reduceBEq]); (repeat' first | done | rfl | omega | refine And.intro ?_ ?_ | (simp; done) | (simp; omega)))
    all_goals ((try simp (disch := assumption) only [go_sem, Nat.reduceAdd, Nat.reduceMul, Nat.reduceSub, Nat.reduceEqDiff, ↓reduceIte, Nat.reduceLT, reduceCtorEq, Nat.reduceLeDiff, Int.reduceToNat, Int.reduceEq, Int.reduceLE, Int.reduceLT, Nat.reduceBEq]); (repeat' first | done | rfl | omega | refine And.intro ?_ ?_ | (simp; done) | (simp; omega)))
theorem w_spec_DrawPlayBreaker {a0 : (List Int)} {r : (Int × Int × (List CallT))} (h : spec_DrawPlayBreaker a0 = some r) : Fn Try.prog 51 [(.lf true (.sl (a0.map eU8)))] [] 0 (.tu [(.lf false (.sc (.int .i64 r.1))), (.lf false (.sc (.int .i64 r.2.1))), (.os 0 2 0 r.2.2.length r.2.2.length false)]) [(0, some (true, .arr false 2 (r.2.2.map eCall)))] 1 := by
  unfold spec_DrawPlayBreaker at h
  refine fn_code tab_ok mixed [(1000, [(0, 0)]), (1001, [(5, 0)]), (1002, [(2, 0), (3, 0), (4, 0)])] Try.func51 rfl rfl (by simp [Try.f51]) (by kernel_rfl) ?_
  simp only [Try.f51]
  simp (disch := assumption) only [go_sem, Nat.reduceAdd, Nat.reduceMul, Nat.reduceSub, Nat.reduceEqDiff, ↓reduceIte, Nat.reduceLT, reduceCtorEq, Nat.reduceLeDiff, Int.reduceToNat, Int.reduceEq, Int.reduceLE, Int.reduceLT, Nat.reduceBEq]
  obtain ⟨c5, hr1, h⟩ := bind_ok h
  refine Cl_hand (ids := [0]) (w_spec_l1Cur_pick_o hr1) (by first | rfl | (simp (disch := assumption) only [go_sem, Nat.reduceAdd, Nat.reduceMul, Nat.reduceSub, Nat.reduceEqDiff, ↓reduceIte, Nat.reduceLT, reduceCtorEq, Nat.reduceLeDiff, Int.reduceToNat, Int.reduceEq, Int.reduceLE, Int.reduceLT, Nat.reduceBEq]; first | done | rfl)) (FitAll.refl _) (by first | rfl | (simp (disch := assumption) only [go_sem, Nat.reduceAdd, Nat.reduceMul, Nat.reduceSub, Nat.reduceEqDiff, ↓reduceIte, Nat.reduceLT, reduceCtorEq, Nat.reduceLeDiff, Int.reduceToNat, Int.reduceEq, Int.reduceLE, Int.reduceLT, Nat.reduceBEq]; first | done | rfl)) (by decide) (by first | rfl | (simp (disch := assumption) only [go_sem, Nat.reduceAdd, Nat.reduceMul, Nat.reduceSub, Nat.reduceEqDiff, ↓reduceIte, Nat.reduceLT, reduceCtorEq, Nat.reduceLeDiff, Int.reduceToNat, Int.reduceEq, Int.reduceLE, Int.reduceLT, Nat.reduceBEq]; done)) (by rfl) ?_
  try simp (disch := assumption) only [go_sem, Nat.reduceAdd, Nat.reduceMul, Nat.reduceSub, Nat.reduceEqDiff, ↓reduceIte, Nat.reduceLT, reduceCtorEq, Nat.reduceLeDiff, Int.reduceToNat, Int.reduceEq, Int.reduceLE, Int.reduceLT, Nat.reduceBEq]
  obtain ⟨c6, hr2, h⟩ := bind_ok h
  refine Cl_hand (ids := [0]) (w_spec_l1Cur_pick_o hr2) (by first | rfl | (simp (disch := assumption) only [go_sem, Nat.reduceAdd, Nat.reduceMul, Nat.reduceSub, Nat.reduceEqDiff, ↓reduceIte, Nat.reduceLT, reduceCtorEq, Nat.reduceLeDiff, Int.reduceToNat, Int.reduceEq, Int.reduceLE, Int.reduceLT, Nat.reduceBEq]; first | done | rfl)) (FitAll.refl _) (by first | rfl | (simp (disch := assumption) only [go_sem, Nat.reduceAdd, Nat.reduceMul, Nat.reduceSub, Nat.reduceEqDiff, ↓reduceIte, Nat.reduceLT, reduceCtorEq, Nat.reduceLeDiff, Int.reduceToNat, Int.reduceEq, Int.reduceLE, Int.reduceLT, Nat.reduceBEq]; first | done | rfl)) (by decide) (by first | rfl | (simp (disch := assumption) only [go_sem, Nat.reduceAdd, Nat.reduceMul, Nat.reduceSub, Nat.reduceEqDiff, ↓reduceIte, Nat.reduceLT, reduceCtorEq, Nat.reduceLeDiff, Int.reduceToNat, Int.reduceEq, Int.reduceLE, Int.reduceLT, Nat.reduceBEq]; done)) (by rfl) ?_
  try simp (disch := assumption) only [go_sem, Nat.reduceAdd, Nat.reduceMul, Nat.reduceSub, Nat.reduceEqDiff, ↓reduceIte, Nat.reduceLT, reduceCtorEq, Nat.reduceLeDiff, Int.reduceToNat, Int.reduceEq, Int.reduceLE, Int.reduceLT, Nat.reduceBEq]
  obtain ⟨c23, hr3, h⟩ := bind_ok h
  refine Cl_hand (ids := [0]) (w_spec_l1Cur_calls_o hr3) (by first | rfl | (simp (disch := assumption) only [go_sem, Nat.reduceAdd, Nat.reduceMul, Nat.reduceSub, Nat.reduceEqDiff, ↓reduceIte, Nat.reduceLT, reduceCtorEq, Nat.reduceLeDiff, Int.reduceToNat, Int.reduceEq, Int.reduceLE, Int.reduceLT, Nat.reduceBEq]; first | done | rfl)) (FitAll.refl _) (by first | rfl | (simp (disch := assumption) only [go_sem, Nat.reduceAdd, Nat.reduceMul, Nat.reduceSub, Nat.reduceEqDiff, ↓reduceIte, Nat.reduceLT, reduceCtorEq, Nat.reduceLeDiff, Int.reduceToNat, Int.reduceEq, Int.reduceLE, Int.reduceLT, Nat.reduceBEq]; first | done | rfl)) (by decide) (by first | rfl | (simp (disch := assumption) only [go_sem, Nat.reduceAdd, Nat.reduceMul, Nat.reduceSub, Nat.reduceEqDiff, ↓reduceIte, Nat.reduceLT, reduceCtorEq, Nat.reduceLeDiff, Int.reduceToNat, Int.reduceEq, Int.reduceLE, Int.reduceLT, Nat.reduceBEq]; done)) (by rfl) ?_
  try simp (disch := assumption) only [go_sem, Nat.reduceAdd, Nat.reduceMul, Nat.reduceSub, Nat.reduceEqDiff, ↓reduceIte, Nat.reduceLT, reduceCtorEq, Nat.reduceLeDiff, Int.reduceToNat, Int.reduceEq, Int.reduceLE, Int.reduceLT, Nat.reduceBEq]
  have he := Option.some.inj h
  subst he
  refine ends_weak ⟨[(2, (.lf false (.sc (.int .i64 (wI (1 + c5.1)))))), (3, (.lf false (.sc (.int .i64 c6.1)))), (4, (.os 0 2 0 c23.1.length c23.1.length false))], [(0, some (true, .arr false 2 (c23.1.map eCall)))], 1, 16⟩ (weak_of (m := 0) [some 1] rfl rfl rfl (by simp [injR]) ?_ ?_) ?_
  all_goals ((try simp (disch := assumption) only [go_sem, Nat.reduceAdd, Nat.reduceMul, Nat.reduceSub, Nat.reduceEqDiff, ↓reduceIte, Nat.reduceLT, reduceCtorEq, Nat.reduceLeDiff, Int.reduceToNat, Int.reduceEq, Int.reduceLE, Int.reduceLT, Nat.reduceBEq]); (repeat' first | done | rfl | omega | refine And.intro ?_ ?_ | (simp; done) | (simp; omega)))
theorem w_impl_in {a0 : Int} {a1 : Int} {a2 : Int} {r : Bool} (h : impl_in a0 a1 a2 = some r) : Fn Try.prog 75 [(.lf false (.sc (.int .i64 a0))), (.lf false (.sc (.int .i64 a1))), (.lf false (.sc (.int .i64 a2)))] [] 0 (.lf false (.sc (.bool r))) [] 0 := by
  unfold impl_in at h
  refine fn_code tab_ok mixed [] Try.func75 rfl rfl (by simp [Try.f75]) (by kernel_rfl) ?_
  simp only [Try.f75]
  simp (disch := assumption) only [go_sem, Nat.reduceAdd, Nat.reduceMul, Nat.reduceSub, Nat.reduceEqDiff, ↓reduceIte, Nat.reduceLT, reduceCtorEq, Nat.reduceLeDiff, Int.reduceToNat, Int.reduceEq, Int.reduceLE, Int.reduceLT, Nat.reduceBEq]
  refine Sp_splitC ((decide (a0 ≥ a1))) (by first | rfl | (simp only [beq_iff_eq]; done) | simp) (fun hc1 => ?_) (fun hc1 => ?_)
  · rw [if_pos hc1] at h
    try simp (disch := assumption) only [go_sem, Nat.reduceAdd, Nat.reduceMul, Nat.reduceSub, Nat.reduceEqDiff, ↓reduceIte, Nat.reduceLT, reduceCtorEq, Nat.reduceLeDiff, Int.reduceToNat, Int.reduceEq, Int.reduceLE, Int.reduceLT, Nat.reduceBEq]
    have he := Option.some.inj h
    subst he
    refine ends_weak ⟨[(6, (.lf false (.sc (.bool (decide (a0 ≤ a2))))))], [], 0, 15⟩ (weak_of (m := 0) [] rfl rfl rfl (by simp [injR]) ?_ ?_) ?_
    all_goals ((try simp (disch := assumption) only [go_sem, Nat.reduceAdd, Nat.reduceMul, Nat.reduceSub, Nat.reduceEqDiff, ↓reduceIte, Nat.reduceLT, reduceCtorEq, Nat.reduceLeDiff, Int.reduceToNat, Int.reduceEq, Int.reduceLE, Int.reduceLT, Nat.reduceBEq]); (repeat' first | done | rfl | omega | refine And.intro ?_ ?_ | (simp; done) | (simp; omega)))
  · rw [if_neg (nt hc1)] at h
    try simp (disch := assumption) only [go_sem, Nat.reduceAdd, Nat.reduceMul, Nat.reduceSub, Nat.reduceEqDiff, ↓reduceIte, Nat.reduceLT, reduceCtorEq, Nat.reduceLeDiff, Int.reduceToNat, Int.reduceEq, Int.reduceLE, Int.reduceLT, Nat.reduceBEq]
    have he := Option.some.inj h
    subst he
    refine ends_weak ⟨[(6, (.lf false (.sc (.bool false))))], [], 0, 15⟩ (weak_of (m := 0) [] rfl rfl rfl (by simp [injR]) ?_ ?_) ?_
    all_goals ((try simp (disch := assumption) only [go_sem, Nat.reduceAdd, Nat.reduceMul, Nat.reduceSub, Nat.reduceEqDiff, ↓reduceIte, Nat.reduceLT, reduceCtorEq, Nat.reduceLeDiff, Int.reduceToNat, Int.reduceEq, Int.reduceLE, Int.reduceLT, Nat.reduceBEq]); (repeat' first | done | rfl | omega | refine And.intro ?_ ?_ | (simp; done) | (simp; omega)))
theorem w_impl_isTime {a0 : Int} {r : Bool} (h : impl_isTime a0 = some r) : Fn Try.prog 73 [(.lf false (.sc (.int .i64 a0)))] [] 0 (.lf false (.sc (.bool r))) [] 0 := by
  unfold impl_isTime at h
  refine fn_code tab_ok mixed [] Try.func73 rfl rfl (by simp [Try.f73]) (by kernel_rfl) ?_
  simp only [Try.f73]
  simp (disch := assumption) only [go_sem, Nat.reduceAdd, Nat.reduceMul, Nat.reduceSub, Nat.reduceEqDiff, ↓reduceIte, Nat.reduceLT, reduceCtorEq, Nat.reduceLeDiff, Int.reduceToNat, Int.reduceEq, Int.reduceLE, Int.reduceLT, Nat.reduceBEq]
  obtain ⟨c29, hr1, h⟩ := bind_ok h
  refine Cl_shown (w_impl_in hr1) (by first | rfl | (simp (disch := assumption) only [go_sem, Nat.reduceAdd, Nat.reduceMul, Nat.reduceSub, Nat.reduceEqDiff, ↓reduceIte, Nat.reduceLT, reduceCtorEq, Nat.reduceLeDiff, Int.reduceToNat, Int.reduceEq, Int.reduceLE, Int.reduceLT, Nat.reduceBEq]; first | done | rfl)) (FitAll.refl _) (.inl (by first | rfl | (simp (disch := assumption) only [go_sem, Nat.reduceAdd, Nat.reduceMul, Nat.reduceSub, Nat.reduceEqDiff, ↓reduceIte, Nat.reduceLT, reduceCtorEq, Nat.reduceLeDiff, Int.reduceToNat, Int.reduceEq, Int.reduceLE, Int.reduceLT, Nat.reduceBEq]; done))) ?_
  try simp (disch := assumption) only [go_sem, Nat.reduceAdd, Nat.reduceMul, Nat.reduceSub, Nat.reduceEqDiff, ↓reduceIte, Nat.reduceLT, reduceCtorEq, Nat.reduceLeDiff, Int.reduceToNat, Int.reduceEq, Int.reduceLE, Int.reduceLT, Nat.reduceBEq]
  have he := Option.some.inj h
  subst he
  refine ends_weak ⟨[(2, (.lf false (.sc (.bool c29))))], [], 0, 5⟩ (weak_of (m := 0) [] rfl rfl rfl (by simp [injR]) ?_ ?_) ?_
  all_goals ((try simp (disch := assumption) only [go_sem, Nat.reduceAdd, Nat.reduceMul, Nat.reduceSub, Nat.reduceEqDiff, ↓reduceIte, Nat.reduceLT, reduceCtorEq, Nat.reduceLeDiff, Int.reduceToNat, Int.reduceEq, Int.reduceLE, Int.reduceLT, Nat.reduceBEq]); (repeat' first | done | rfl | omega | refine And.intro ?_ ?_ | (simp; done) | (simp; omega)))
theorem w_impl_GoodBreaker {a0 : BreakerT} {r : Bool} (h : impl_GoodBreaker a0 = some r) : Fn Try.prog 53 [(.ag [(.lf false (.sc (.int .i64 a0.Limit))), (.lf false (.sc (.int .i64 a0.Cool))), (.lf false (.sc (.int .i64 a0.State))), (.lf false (.sc (.int .i64 a0.Fails))), (.lf false (.sc (.int .i64 a0.Opened)))])] [] 0 (.lf false (.sc (.bool r))) [] 0 := by
  unfold impl_GoodBreaker at h
  refine fn_code tab_ok mixed [(1000, [(1, 0)]), (1001, [(1, 0), (32, 0)]), (1002, [(2, 0)]), (1003, [(1, 0), (35, 0)]), (1004, [(2, 0)]), (1005, [(2, 0)]), (4001, [])] Try.func53 rfl rfl (by simp [Try.f53]) (by kernel_rfl) ?_
  simp only [Try.f53]
  simp (disch := assumption) only [go_sem, Nat.reduceAdd, Nat.reduceMul, Nat.reduceSub, Nat.reduceEqDiff, ↓reduceIte, Nat.reduceLT, reduceCtorEq, Nat.reduceLeDiff, Int.reduceToNat, Int.reduceEq, Int.reduceLE, Int.reduceLT, Nat.reduceBEq]
  obtain ⟨p31, hq1, h⟩ := bind_ok h
  refine Sq_cut (fun s2 => s2 = ⟨[(1, (.pb 0 0)), (32, (.lf false (.sc (.bool p31.t32))))], [(0, some (true, .box [(.lf false (.sc (.int .i64 a0.Limit))), (.lf false (.sc (.int .i64 a0.Cool))), (.lf false (.sc (.int .i64 a0.State))), (.lf false (.sc (.int .i64 a0.Fails))), (.lf false (.sc (.int .i64 a0.Opened)))]))], 1, 51⟩) ?_ ?_
  · try simp (disch := assumption) only [go_sem, Nat.reduceAdd, Nat.reduceMul, Nat.reduceSub, Nat.reduceEqDiff, ↓reduceIte, Nat.reduceLT, reduceCtorEq, Nat.reduceLeDiff, Int.reduceToNat, Int.reduceEq, Int.reduceLE, Int.reduceLT, Nat.reduceBEq]
    obtain ⟨c25, hr2, hq1⟩ := bind_ok hq1
    refine Cl_shown (w_impl_in hr2) (by first | rfl | (simp (disch := assumption) only [go_sem, Nat.reduceAdd, Nat.reduceMul, Nat.reduceSub, Nat.reduceEqDiff, ↓reduceIte, Nat.reduceLT, reduceCtorEq, Nat.reduceLeDiff, Int.reduceToNat, Int.reduceEq, Int.reduceLE, Int.reduceLT, Nat.reduceBEq]; first | done | rfl)) (FitAll.refl _) (.inl (by first | rfl | (simp (disch := assumption) only [go_sem, Nat.reduceAdd, Nat.reduceMul, Nat.reduceSub, Nat.reduceEqDiff, ↓reduceIte, Nat.reduceLT, reduceCtorEq, Nat.reduceLeDiff, Int.reduceToNat, Int.reduceEq, Int.reduceLE, Int.reduceLT, Nat.reduceBEq]; done))) ?_
    try simp (disch := assumption) only [go_sem, Nat.reduceAdd, Nat.reduceMul, Nat.reduceSub, Nat.reduceEqDiff, ↓reduceIte, Nat.reduceLT, reduceCtorEq, Nat.reduceLeDiff, Int.reduceToNat, Int.reduceEq, Int.reduceLE, Int.reduceLT, Nat.reduceBEq]
    refine Sp_splitC ((!c25)) (by first | rfl | (simp only [beq_iff_eq]; done) | simp) (fun hc3 => ?_) (fun hc3 => ?_)
    · rw [if_pos hc3] at hq1
      try simp (disch := assumption) only [go_sem, Nat.reduceAdd, Nat.reduceMul, Nat.reduceSub, Nat.reduceEqDiff, ↓reduceIte, Nat.reduceLT, reduceCtorEq, Nat.reduceLeDiff, Int.reduceToNat, Int.reduceEq, Int.reduceLE, Int.reduceLT, Nat.reduceBEq]
      cases hq1
      refine X_cut rfl ?_
      refine weak_of (m := 0) [some 0] rfl rfl rfl (by simp [injR]) ?_ ?_
      all_goals ((try simp (disch := assumption) only [go_sem, Nat.reduceAdd, Nat.reduceMul, Nat.reduceSub, Nat.reduceEqDiff, ↓reduceIte, Nat.reduceLT, reduceCtorEq, Nat.reduceLeDiff, Int.reduceToNat, Int.reduceEq, Int.reduceLE, Int.reduceLT, Nat.reduceBEq]); (repeat' first | done | rfl | omega | refine And.intro ?_ ?_ | (simp; done) | (simp; omega)))
    · rw [if_neg (nt hc3)] at hq1
      try simp (disch := assumption) only [go_sem, Nat.reduceAdd, Nat.reduceMul, Nat.reduceSub, Nat.reduceEqDiff, ↓reduceIte, Nat.reduceLT, reduceCtorEq, Nat.reduceLeDiff, Int.reduceToNat, Int.reduceEq, Int.reduceLE, Int.reduceLT, Nat.reduceBEq]
      obtain ⟨c26, hr4, hq1⟩ := bind_ok hq1
      refine Cl_shown (w_impl_in hr4) (by first | rfl | (simp (disch := assumption) only [go_sem, Nat.reduceAdd, Nat.reduceMul, Nat.reduceSub, Nat.reduceEqDiff, ↓reduceIte, Nat.reduceLT, reduceCtorEq, Nat.reduceLeDiff, Int.reduceToNat, Int.reduceEq, Int.reduceLE, Int.reduceLT, Nat.reduceBEq]; first | done | rfl)) (FitAll.refl _) (.inl (by first | rfl | (simp (disch := assumption) only [go_sem, Nat.reduceAdd, Nat.reduceMul, Nat.reduceSub, Nat.reduceEqDiff, ↓reduceIte, Nat.reduceLT, reduceCtorEq, Nat.reduceLeDiff, Int.reduceToNat, Int.reduceEq, Int.reduceLE, Int.reduceLT, Nat.reduceBEq]; done))) ?_
      try simp (disch := assumption) only [go_sem, Nat.reduceAdd, Nat.reduceMul, Nat.reduceSub, Nat.reduceEqDiff, ↓reduceIte, Nat.reduceLT, reduceCtorEq, Nat.reduceLeDiff, Int.reduceToNat, Int.reduceEq, Int.reduceLE, Int.reduceLT, Nat.reduceBEq]
      refine Sp_splitC ((!c26)) (by first | rfl | (simp only [beq_iff_eq]; done) | simp) (fun hc5 => ?_) (fun hc5 => ?_)
      · rw [if_pos hc5] at hq1
        try simp (disch := assumption) only [go_sem, Nat.reduceAdd, Nat.reduceMul, Nat.reduceSub, Nat.reduceEqDiff, ↓reduceIte, Nat.reduceLT, reduceCtorEq, Nat.reduceLeDiff, Int.reduceToNat, Int.reduceEq, Int.reduceLE, Int.reduceLT, Nat.reduceBEq]
        cases hq1
        refine X_cut rfl ?_
        refine weak_of (m := 0) [some 0] rfl rfl rfl (by simp [injR]) ?_ ?_
        all_goals ((try simp (disch := assumption) only [go_sem, Nat.reduceAdd, Nat.reduceMul, Nat.reduceSub, Nat.reduceEqDiff, ↓reduceIte, Nat.reduceLT, reduceCtorEq, Nat.reduceLeDiff, Int.reduceToNat, Int.reduceEq, Int.reduceLE, Int.reduceLT, Nat.reduceBEq]); (repeat' first | done | rfl | omega | refine And.intro ?_ ?_ | (simp; done) | (simp; omega)))
      · rw [if_neg (nt hc5)] at hq1
        try simp (disch := assumption) only [go_sem, Nat.reduceAdd, Nat.reduceMul, Nat.reduceSub, Nat.reduceEqDiff, ↓reduceIte, Nat.reduceLT, reduceCtorEq, Nat.reduceLeDiff, Int.reduceToNat, Int.reduceEq, Int.reduceLE, Int.reduceLT, Nat.reduceBEq]
        obtain ⟨c27, hr6, hq1⟩ := bind_ok hq1
        refine Cl_shown (w_impl_in hr6) (by first | rfl | (simp (disch := assumption) only [go_sem, Nat.reduceAdd, Nat.reduceMul, Nat.reduceSub, Nat.reduceEqDiff, ↓reduceIte, Nat.reduceLT, reduceCtorEq, Nat.reduceLeDiff, Int.reduceToNat, Int.reduceEq, Int.reduceLE, Int.reduceLT, Nat.reduceBEq]; first | done | rfl)) (FitAll.refl _) (.inl (by first | rfl | (simp (disch := assumption) only [go_sem, Nat.reduceAdd, Nat.reduceMul, Nat.reduceSub, Nat.reduceEqDiff, ↓reduceIte, Nat.reduceLT, reduceCtorEq, Nat.reduceLeDiff, Int.reduceToNat, Int.reduceEq, Int.reduceLE, Int.reduceLT, Nat.reduceBEq]; done))) ?_
        try simp (disch := assumption) only [go_sem, Nat.reduceAdd, Nat.reduceMul, Nat.reduceSub, Nat.reduceEqDiff, ↓reduceIte, Nat.reduceLT, reduceCtorEq, Nat.reduceLeDiff, Int.reduceToNat, Int.reduceEq, Int.reduceLE, Int.reduceLT, Nat.reduceBEq]
        refine Sp_splitC ((!c27)) (by first | rfl | (simp only [beq_iff_eq]; done) | simp) (fun hc7 => ?_) (fun hc7 => ?_)
        · rw [if_pos hc7] at hq1
          try simp (disch := assumption) only [go_sem, Nat.reduceAdd, Nat.reduceMul, Nat.reduceSub, Nat.reduceEqDiff, ↓reduceIte, Nat.reduceLT, reduceCtorEq, Nat.reduceLeDiff, Int.reduceToNat, Int.reduceEq, Int.reduceLE, Int.reduceLT, Nat.reduceBEq]
          cases hq1
          refine X_cut rfl ?_
          refine weak_of (m := 0) [some 0] rfl rfl rfl (by simp [injR]) ?_ ?_
          all_goals ((try simp (disch := assumption) only [go_sem, Nat.reduceAdd, Nat.reduceMul, Nat.reduceSub, Nat.reduceEqDiff, ↓reduceIte, Nat.reduceLT, reduceCtorEq, Nat.reduceLeDiff, Int.reduceToNat, Int.reduceEq, Int.reduceLE, Int.reduceLT, Nat.reduceBEq]); (repeat' first | done | rfl | omega | refine And.intro ?_ ?_ | (simp; done) | (simp; omega)))
        · rw [if_neg (nt hc7)] at hq1
          try simp (disch := assumption) only [go_sem, Nat.reduceAdd, Nat.reduceMul, Nat.reduceSub, Nat.reduceEqDiff, ↓reduceIte, Nat.reduceLT, reduceCtorEq, Nat.reduceLeDiff, Int.reduceToNat, Int.reduceEq, Int.reduceLE, Int.reduceLT, Nat.reduceBEq]
          obtain ⟨c28, hr8, hq1⟩ := bind_ok hq1
          refine Cl_shown (w_impl_in hr8) (by first | rfl | (simp (disch := assumption) only [go_sem, Nat.reduceAdd, Nat.reduceMul, Nat.reduceSub, Nat.reduceEqDiff, ↓reduceIte, Nat.reduceLT, reduceCtorEq, Nat.reduceLeDiff, Int.reduceToNat, Int.reduceEq, Int.reduceLE, Int.reduceLT, Nat.reduceBEq]; first | done | rfl)) (FitAll.refl _) (.inl (by first | rfl | (simp (disch := assumption) only [go_sem, Nat.reduceAdd, Nat.reduceMul, Nat.reduceSub, Nat.reduceEqDiff, ↓reduceIte, Nat.reduceLT, reduceCtorEq, Nat.reduceLeDiff, Int.reduceToNat, Int.reduceEq, Int.reduceLE, Int.reduceLT, Nat.reduceBEq]; done))) ?_
          try simp (disch := assumption) only [go_sem, Nat.reduceAdd, Nat.reduceMul, Nat.reduceSub, Nat.reduceEqDiff, ↓reduceIte, Nat.reduceLT, reduceCtorEq, Nat.reduceLeDiff, Int.reduceToNat, Int.reduceEq, Int.reduceLE, Int.reduceLT, Nat.reduceBEq]
          refine Sp_splitC ((!c28)) (by first | rfl | (simp only [beq_iff_eq]; done) | simp) (fun hc9 => ?_) (fun hc9 => ?_)
          · rw [if_pos hc9] at hq1
            try simp (disch := assumption) only [go_sem, Nat.reduceAdd, Nat.reduceMul, Nat.reduceSub, Nat.reduceEqDiff, ↓reduceIte, Nat.reduceLT, reduceCtorEq, Nat.reduceLeDiff, Int.reduceToNat, Int.reduceEq, Int.reduceLE, Int.reduceLT, Nat.reduceBEq]
            cases hq1
            refine X_cut rfl ?_
            refine weak_of (m := 0) [some 0] rfl rfl rfl (by simp [injR]) ?_ ?_
            all_goals ((try simp (disch := assumption) only [go_sem, Nat.reduceAdd, Nat.reduceMul, Nat.reduceSub, Nat.reduceEqDiff, ↓reduceIte, Nat.reduceLT, reduceCtorEq, Nat.reduceLeDiff, Int.reduceToNat, Int.reduceEq, Int.reduceLE, Int.reduceLT, Nat.reduceBEq]); (repeat' first | done | rfl | omega | refine And.intro ?_ ?_ | (simp; done) | (simp; omega)))
          · rw [if_neg (nt hc9)] at hq1
            try simp (disch := assumption) only [go_sem, Nat.reduceAdd, Nat.reduceMul, Nat.reduceSub, Nat.reduceEqDiff, ↓reduceIte, Nat.reduceLT, reduceCtorEq, Nat.reduceLeDiff, Int.reduceToNat, Int.reduceEq, Int.reduceLE, Int.reduceLT, Nat.reduceBEq]
            obtain ⟨c30, hr10, hq1⟩ := bind_ok hq1
            refine Cl_shown (w_impl_isTime hr10) (by first | rfl | (simp (disch := assumption) only [go_sem, Nat.reduceAdd, Nat.reduceMul, Nat.reduceSub, Nat.reduceEqDiff, ↓reduceIte, Nat.reduceLT, reduceCtorEq, Nat.reduceLeDiff, Int.reduceToNat, Int.reduceEq, Int.reduceLE, Int.reduceLT, Nat.reduceBEq]; first | done | rfl)) (FitAll.refl _) (.inl (by first | rfl | (simp (disch := assumption) only [go_sem, Nat.reduceAdd, Nat.reduceMul, Nat.reduceSub, Nat.reduceEqDiff, ↓reduceIte, Nat.reduceLT, reduceCtorEq, Nat.reduceLeDiff, Int.reduceToNat, Int.reduceEq, Int.reduceLE, Int.reduceLT, Nat.reduceBEq]; done))) ?_
            try simp (disch := assumption) only [go_sem, Nat.reduceAdd, Nat.reduceMul, Nat.reduceSub, Nat.reduceEqDiff, ↓reduceIte, Nat.reduceLT, reduceCtorEq, Nat.reduceLeDiff, Int.reduceToNat, Int.reduceEq, Int.reduceLE, Int.reduceLT, Nat.reduceBEq]
            cases hq1
            refine X_cut rfl ?_
            refine weak_of (m := 0) [some 0] rfl rfl rfl (by simp [injR]) ?_ ?_
            all_goals ((try simp (disch := assumption) only [go_sem, Nat.reduceAdd, Nat.reduceMul, Nat.reduceSub, Nat.reduceEqDiff, ↓reduceIte, Nat.reduceLT, reduceCtorEq, Nat.reduceLeDiff, Int.reduceToNat, Int.reduceEq, Int.reduceLE, Int.reduceLT, Nat.reduceBEq]); (repeat' first | done | rfl | omega | refine And.intro ?_ ?_ | (simp; done) | (simp; omega)))
  · intro s2 hJ; subst hJ
    try dsimp only at h
    try simp (disch := assumption) only [go_sem, Nat.reduceAdd, Nat.reduceMul, Nat.reduceSub, Nat.reduceEqDiff, ↓reduceIte, Nat.reduceLT, reduceCtorEq, Nat.reduceLeDiff, Int.reduceToNat, Int.reduceEq, Int.reduceLE, Int.reduceLT, Nat.reduceBEq]
    refine Bs_splitC (p31.t32) (by first | rfl | (simp only [beq_iff_eq]; done) | simp) (fun hc11 => ?_) (fun hc11 => ?_)
    · rw [if_pos hc11] at h
      try simp (disch := assumption) only [go_sem, Nat.reduceAdd, Nat.reduceMul, Nat.reduceSub, Nat.reduceEqDiff, ↓reduceIte, Nat.reduceLT, reduceCtorEq, Nat.reduceLeDiff, Int.reduceToNat, Int.reduceEq, Int.reduceLE, Int.reduceLT, Nat.reduceBEq]
      have he := Option.some.inj h
      subst he
      refine ends_weak ⟨[(2, (.lf false (.sc (.bool false))))], [], 0, 51⟩ (weak_of (m := 0) [] rfl rfl rfl (by simp [injR]) ?_ ?_) ?_
      all_goals ((try simp (disch := assumption) only [go_sem, Nat.reduceAdd, Nat.reduceMul, Nat.reduceSub, Nat.reduceEqDiff, ↓reduceIte, Nat.reduceLT, reduceCtorEq, Nat.reduceLeDiff, Int.reduceToNat, Int.reduceEq, Int.reduceLE, Int.reduceLT, Nat.reduceBEq]); (repeat' first | done | rfl | omega | refine And.intro ?_ ?_ | (simp; done) | (simp; omega)))
    · rw [if_neg (nt hc11)] at h
      try simp (disch := assumption) only [go_sem, Nat.reduceAdd, Nat.reduceMul, Nat.reduceSub, Nat.reduceEqDiff, ↓reduceIte, Nat.reduceLT, reduceCtorEq, Nat.reduceLeDiff, Int.reduceToNat, Int.reduceEq, Int.reduceLE, Int.reduceLT, Nat.reduceBEq]
      refine Bs_splitC ((a0.State == 0)) (by first | rfl | (simp only [beq_iff_eq]; done) | simp) (fun hc12 => ?_) (fun hc12 => ?_)
      · rw [if_pos hc12] at h
        try simp (disch := assumption) only [go_sem, Nat.reduceAdd, Nat.reduceMul, Nat.reduceSub, Nat.reduceEqDiff, ↓reduceIte, Nat.reduceLT, reduceCtorEq, Nat.reduceLeDiff, Int.reduceToNat, Int.reduceEq, Int.reduceLE, Int.reduceLT, Nat.reduceBEq]
        refine Sp_splitC ((decide (a0.Fails < a0.Limit))) (by first | rfl | (simp only [beq_iff_eq]; done) | simp) (fun hc13 => ?_) (fun hc13 => ?_)
        · rw [if_pos hc13] at h
          try simp (disch := assumption) only [go_sem, Nat.reduceAdd, Nat.reduceMul, Nat.reduceSub, Nat.reduceEqDiff, ↓reduceIte, Nat.reduceLT, reduceCtorEq, Nat.reduceLeDiff, Int.reduceToNat, Int.reduceEq, Int.reduceLE, Int.reduceLT, Nat.reduceBEq]
          have he := Option.some.inj h
          subst he
          refine ends_weak ⟨[(2, (.lf false (.sc (.bool (a0.Opened == 0)))))], [], 0, 51⟩ (weak_of (m := 0) [] rfl rfl rfl (by simp [injR]) ?_ ?_) ?_
          all_goals ((try simp (disch := assumption) only [go_sem, Nat.reduceAdd, Nat.reduceMul, Nat.reduceSub, Nat.reduceEqDiff, ↓reduceIte, Nat.reduceLT, reduceCtorEq, Nat.reduceLeDiff, Int.reduceToNat, Int.reduceEq, Int.reduceLE, Int.reduceLT, Nat.reduceBEq]); (repeat' first | done | rfl | omega | refine And.intro ?_ ?_ | (simp; done) | (simp; omega)))
        · rw [if_neg (nt hc13)] at h
          try simp (disch := assumption) only [go_sem, Nat.reduceAdd, Nat.reduceMul, Nat.reduceSub, Nat.reduceEqDiff, ↓reduceIte, Nat.reduceLT, reduceCtorEq, Nat.reduceLeDiff, Int.reduceToNat, Int.reduceEq, Int.reduceLE, Int.reduceLT, Nat.reduceBEq]
          have he := Option.some.inj h
          subst he
          refine ends_weak ⟨[(2, (.lf false (.sc (.bool false))))], [], 0, 51⟩ (weak_of (m := 0) [] rfl rfl rfl (by simp [injR]) ?_ ?_) ?_
          all_goals ((try simp (disch := assumption) only [go_sem, Nat.reduceAdd, Nat.reduceMul, Nat.reduceSub, Nat.reduceEqDiff, ↓reduceIte, Nat.reduceLT, reduceCtorEq, Nat.reduceLeDiff, Int.reduceToNat, Int.reduceEq, Int.reduceLE, Int.reduceLT, Nat.reduceBEq]); (repeat' first | done | rfl | omega | refine And.intro ?_ ?_ | (simp; done) | (simp; omega)))
      · rw [if_neg (nt hc12)] at h
        try simp (disch := assumption) only [go_sem, Nat.reduceAdd, Nat.reduceMul, Nat.reduceSub, Nat.reduceEqDiff, ↓reduceIte, Nat.reduceLT, reduceCtorEq, Nat.reduceLeDiff, Int.reduceToNat, Int.reduceEq, Int.reduceLE, Int.reduceLT, Nat.reduceBEq]
        have he := Option.some.inj h
        subst he
        refine ends_weak ⟨[(2, (.lf false (.sc (.bool (a0.Fails == a0.Limit)))))], [], 0, 51⟩ (weak_of (m := 0) [] rfl rfl rfl (by simp [injR]) ?_ ?_) ?_
        all_goals ((try simp (disch := assumption) only [go_sem, Nat.reduceAdd, Nat.reduceMul, Nat.reduceSub, Nat.reduceEqDiff, ↓reduceIte, Nat.reduceLT, reduceCtorEq, Nat.reduceLeDiff, Int.reduceToNat, Int.reduceEq, Int.reduceLE, Int.reduceLT, Nat.reduceBEq]); (repeat' first | done | rfl | omega | refine And.intro ?_ ?_ | (simp; done) | (simp; omega)))
theorem w_impl_NewBreaker {a0 : Int} {a1 : Int} {r : (BreakerT × Bool)} (h : impl_NewBreaker a0 a1 = some r) : Fn Try.prog 86 [(.lf false (.sc (.int .i64 a0))), (.lf false (.sc (.int .i64 a1)))] [] 0 (.tu [(.ag [(.lf false (.sc (.int .i64 r.1.Limit))), (.lf false (.sc (.int .i64 r.1.Cool))), (.lf false (.sc (.int .i64 r.1.State))), (.lf false (.sc (.int .i64 r.1.Fails))), (.lf false (.sc (.int .i64 r.1.Opened)))]), (.lf false (.sc (.bool r.2)))]) [] 1 := by
  unfold impl_NewBreaker at h
  refine fn_code tab_ok mixed [(1000, [(0, 0), (1, 0), (4, 0)]), (1001, [(4, 0), (6, 0)]), (1002, [(4, 0), (6, 0), (12, 0)]), (1003, [(4, 0), (5, 0)]), (1004, [(4, 0), (5, 0)])] Try.func86 rfl rfl (by simp [Try.f86]) (by kernel_rfl) ?_
  simp only [Try.f86]
  simp (disch := assumption) only [go_sem, Nat.reduceAdd, Nat.reduceMul, Nat.reduceSub, Nat.reduceEqDiff, ↓reduceIte, Nat.reduceLT, reduceCtorEq, Nat.reduceLeDiff, Int.reduceToNat, Int.reduceEq, Int.reduceLE, Int.reduceLT, Nat.reduceBEq]
  obtain ⟨c32, hr1, h⟩ := bind_ok h
  refine Cl_shown (w_impl_GoodBreaker hr1) (by first | rfl | (simp (disch := assumption) only [go_sem, Nat.reduceAdd, Nat.reduceMul, Nat.reduceSub, Nat.reduceEqDiff, ↓reduceIte, Nat.reduceLT, reduceCtorEq, Nat.reduceLeDiff, Int.reduceToNat, Int.reduceEq, Int.reduceLE, Int.reduceLT, Nat.reduceBEq]; first | done | rfl)) (FitAll.refl _) (.inl (by first | rfl | (simp (disch := assumption) only [go_sem, Nat.reduceAdd, Nat.reduceMul, Nat.reduceSub, Nat.reduceEqDiff, ↓reduceIte, Nat.reduceLT, reduceCtorEq, Nat.reduceLeDiff, Int.reduceToNat, Int.reduceEq, Int.reduceLE, Int.reduceLT, Nat.reduceBEq]; done))) ?_
  try simp (disch := assumption) only [go_sem, Nat.reduceAdd, Nat.reduceMul, Nat.reduceSub, Nat.reduceEqDiff, ↓reduceIte, Nat.reduceLT, reduceCtorEq, Nat.reduceLeDiff, Int.reduceToNat, Int.reduceEq, Int.reduceLE, Int.reduceLT, Nat.reduceBEq]
  refine Bs_splitC ((!c32)) (by first | rfl | (simp only [beq_iff_eq]; done) | simp) (fun hc2 => ?_) (fun hc2 => ?_)
  · rw [if_pos hc2] at h
    try simp (disch := assumption) only [go_sem, Nat.reduceAdd, Nat.reduceMul, Nat.reduceSub, Nat.reduceEqDiff, ↓reduceIte, Nat.reduceLT, reduceCtorEq, Nat.reduceLeDiff, Int.reduceToNat, Int.reduceEq, Int.reduceLE, Int.reduceLT, Nat.reduceBEq]
    have he := Option.some.inj h
    subst he
    refine ends_weak ⟨[(4, (.pb 0 0)), (5, (.lf false (.sc (.bool false))))], [(0, some (true, .box [(.lf false (.sc (.int .i64 0))), (.lf false (.sc (.int .i64 0))), (.lf false (.sc (.int .i64 0))), (.lf false (.sc (.int .i64 0))), (.lf false (.sc (.int .i64 0)))]))], 1, 15⟩ (weak_of (m := 0) [some 0] rfl rfl rfl (by simp [injR]) ?_ ?_) ?_
    all_goals ((try simp (disch := assumption) only [go_sem, Nat.reduceAdd, Nat.reduceMul, Nat.reduceSub, Nat.reduceEqDiff, ↓reduceIte, Nat.reduceLT, reduceCtorEq, Nat.reduceLeDiff, Int.reduceToNat, Int.reduceEq, Int.reduceLE, Int.reduceLT, Nat.reduceBEq]); (repeat' first | done | rfl | omega | refine And.intro ?_ ?_ | (simp; done) | (simp; omega)))
  · rw [if_neg (nt hc2)] at h
    try simp (disch := assumption) only [go_sem, Nat.reduceAdd, Nat.reduceMul, Nat.reduceSub, Nat.reduceEqDiff, ↓reduceIte, Nat.reduceLT, reduceCtorEq, Nat.reduceLeDiff, Int.reduceToNat, Int.reduceEq, Int.reduceLE, Int.reduceLT, Nat.reduceBEq]
    have he := Option.some.inj h
    subst he
    refine ends_weak ⟨[(4, (.pb 0 0)), (5, (.lf false (.sc (.bool true))))], [(0, some (true, .box [(.lf false (.sc (.int .i64 a0))), (.lf false (.sc (.int .i64 a1))), (.lf false (.sc (.int .i64 0))), (.lf false (.sc (.int .i64 0))), (.lf false (.sc (.int .i64 0)))]))], 1, 15⟩ (weak_of (m := 0) [some 0] rfl rfl rfl (by simp [injR]) ?_ ?_) ?_
    all_goals ((try simp (disch := assumption) only [go_sem, Nat.reduceAdd, Nat.reduceMul, Nat.reduceSub, Nat.reduceEqDiff, ↓reduceIte, Nat.reduceLT, reduceCtorEq, Nat.reduceLeDiff, Int.reduceToNat, Int.reduceEq, Int.reduceLE, Int.reduceLT, Nat.reduceBEq]); (repeat' first | done | rfl | omega | refine And.intro ?_ ?_ | (simp; done) | (simp; omega)))
theorem w_impl_Breaker_allows_r {a0 : BreakerT} {a1 : Int} {r : Bool} (h : impl_Breaker_allows_r a0 a1 = some r) : Fn Try.prog 100 [(.ra true [.sc (.int .i64 a0.Limit), .sc (.int .i64 a0.Cool), .sc (.int .i64 a0.State), .sc (.int .i64 a0.Fails), .sc (.int .i64 a0.Opened)]), (.lf false (.sc (.int .i64 a1)))] [] 0 (.lf false (.sc (.bool r))) [] 0 := by
  unfold impl_Breaker_allows_r at h
  refine fn_code tab_ok mixed [] Try.func100 rfl rfl (by simp [Try.f100]) (by kernel_rfl) ?_
  simp only [Try.f100]
  simp (disch := assumption) only [go_sem, Nat.reduceAdd, Nat.reduceMul, Nat.reduceSub, Nat.reduceEqDiff, ↓reduceIte, Nat.reduceLT, reduceCtorEq, Nat.reduceLeDiff, Int.reduceToNat, Int.reduceEq, Int.reduceLE, Int.reduceLT, Nat.reduceBEq]
  refine Sp_splitC ((a0.State != 1)) (by first | rfl | (simp only [beq_iff_eq]; done) | simp) (fun hc1 => ?_) (fun hc1 => ?_)
  · rw [if_pos hc1] at h
    try simp (disch := assumption) only [go_sem, Nat.reduceAdd, Nat.reduceMul, Nat.reduceSub, Nat.reduceEqDiff, ↓reduceIte, Nat.reduceLT, reduceCtorEq, Nat.reduceLeDiff, Int.reduceToNat, Int.reduceEq, Int.reduceLE, Int.reduceLT, Nat.reduceBEq]
    have he := Option.some.inj h
    subst he
    refine ends_weak ⟨[(4, (.lf false (.sc (.bool true))))], [], 0, 23⟩ (weak_of (m := 0) [] rfl rfl rfl (by simp [injR]) ?_ ?_) ?_
    all_goals ((try simp (disch := assumption) only [go_sem, Nat.reduceAdd, Nat.reduceMul, Nat.reduceSub, Nat.reduceEqDiff, ↓reduceIte, Nat.reduceLT, reduceCtorEq, Nat.reduceLeDiff, Int.reduceToNat, Int.reduceEq, Int.reduceLE, Int.reduceLT, Nat.reduceBEq]); (repeat' first | done | rfl | omega | refine And.intro ?_ ?_ | (simp; done) | (simp; omega)))
  · rw [if_neg (nt hc1)] at h
    try simp (disch := assumption) only [go_sem, Nat.reduceAdd, Nat.reduceMul, Nat.reduceSub, Nat.reduceEqDiff, ↓reduceIte, Nat.reduceLT, reduceCtorEq, Nat.reduceLeDiff, Int.reduceToNat, Int.reduceEq, Int.reduceLE, Int.reduceLT, Nat.reduceBEq]
    have he := Option.some.inj h
    subst he
    refine ends_weak ⟨[(4, (.lf false (.sc (.bool (decide (a1 ≥ (wI (a0.Opened + a0.Cool))))))))], [], 0, 23⟩ (weak_of (m := 0) [] rfl rfl rfl (by simp [injR]) ?_ ?_) ?_
    all_goals ((try simp (disch := assumption) only [go_sem, Nat.reduceAdd, Nat.reduceMul, Nat.reduceSub, Nat.reduceEqDiff, ↓reduceIte, Nat.reduceLT, reduceCtorEq, Nat.reduceLeDiff, Int.reduceToNat, Int.reduceEq, Int.reduceLE, Int.reduceLT, Nat.reduceBEq]); (repeat' first | done | rfl | omega | refine And.intro ?_ ?_ | (simp; done) | (simp; omega)))
theorem w_impl_Breaker_call_o {a0 : BreakerT} {a1 : CallT} {r : (Bool × BreakerT)} (h : impl_Breaker_call_o a0 a1 = some r) : Fn Try.prog 74 [(.pb 0 0), (.ag [(.lf false (.sc (.int .i64 a1.Now))), (.lf false (.sc (.bool a1.Fine)))])] [(0, some (false, .box [(.lf false (.sc (.int .i64 a0.Limit))), (.lf false (.sc (.int .i64 a0.Cool))), (.lf false (.sc (.int .i64 a0.State))), (.lf false (.sc (.int .i64 a0.Fails))), (.lf false (.sc (.int .i64 a0.Opened)))]))] 1 (.lf false (.sc (.bool r.1))) [(0, some (false, .box [(.lf false (.sc (.int .i64 r.2.Limit))), (.lf false (.sc (.int .i64 r.2.Cool))), (.lf false (.sc (.int .i64 r.2.State))), (.lf false (.sc (.int .i64 r.2.Fails))), (.lf false (.sc (.int .i64 r.2.Opened)))]))] 1 := by
  unfold impl_Breaker_call_o at h
  refine fn_code tab_ok mixed [(10, [(3, 6)]), (6, [(3, 6)]), (1000, [(0, 0), (3, 0)]), (1001, [(0, 0), (3, 0), (10, 0)]), (1002, [(4, 0)]), (1003, [(0, 0), (3, 0), (5, 0)]), (1004, [(0, 0), (3, 0)]), (1005, [(0, 0), (3, 0), (31, 0)]), (1006, []), (1007, [(0, 0), (3, 0), (5, 0), (40, 0)]), (1008, []), (1009, [(0, 0), (3, 0), (52, 0)]), (1010, []), (1011, [(4, 0)])] Try.func74 rfl rfl (by simp [Try.f74]) (by kernel_rfl) ?_
  simp only [Try.f74]
  simp (disch := assumption) only [go_sem, Nat.reduceAdd, Nat.reduceMul, Nat.reduceSub, Nat.reduceEqDiff, ↓reduceIte, Nat.reduceLT, reduceCtorEq, Nat.reduceLeDiff, Int.reduceToNat, Int.reduceEq, Int.reduceLE, Int.reduceLT, Nat.reduceBEq]
  obtain ⟨c39, hr1, h⟩ := bind_ok h
  refine Cl_shown (w_impl_Breaker_allows_r hr1) (by first | rfl | (simp (disch := assumption) only [go_sem, Nat.reduceAdd, Nat.reduceMul, Nat.reduceSub, Nat.reduceEqDiff, ↓reduceIte, Nat.reduceLT, reduceCtorEq, Nat.reduceLeDiff, Int.reduceToNat, Int.reduceEq, Int.reduceLE, Int.reduceLT, Nat.reduceBEq]; first | done | rfl)) (FitAll.refl _) (.inr ⟨rfl, by simp [freeOb, free1]⟩) ?_
  try simp (disch := assumption) only [go_sem, Nat.reduceAdd, Nat.reduceMul, Nat.reduceSub, Nat.reduceEqDiff, ↓reduceIte, Nat.reduceLT, reduceCtorEq, Nat.reduceLeDiff, Int.reduceToNat, Int.reduceEq, Int.reduceLE, Int.reduceLT, Nat.reduceBEq]
  refine Bs_splitC ((!c39)) (by first | rfl | (simp only [beq_iff_eq]; done) | simp) (fun hc2 => ?_) (fun hc2 => ?_)
  · rw [if_pos hc2] at h
    try simp (disch := assumption) only [go_sem, Nat.reduceAdd, Nat.reduceMul, Nat.reduceSub, Nat.reduceEqDiff, ↓reduceIte, Nat.reduceLT, reduceCtorEq, Nat.reduceLeDiff, Int.reduceToNat, Int.reduceEq, Int.reduceLE, Int.reduceLT, Nat.reduceBEq]
    have he := Option.some.inj h
    subst he
    refine ends_weak ⟨[(4, (.lf false (.sc (.bool false))))], [(0, some (false, .box [(.lf false (.sc (.int .i64 a0.Limit))), (.lf false (.sc (.int .i64 a0.Cool))), (.lf false (.sc (.int .i64 a0.State))), (.lf false (.sc (.int .i64 a0.Fails))), (.lf false (.sc (.int .i64 a0.Opened)))]))], 1, 62⟩ (weak_of (m := 1) [some 0] rfl rfl rfl (by simp [injR]) ?_ ?_) ?_
    all_goals ((try simp (disch := assumption) only [go_sem, Nat.reduceAdd, Nat.reduceMul, Nat.reduceSub, Nat.reduceEqDiff, ↓reduceIte, Nat.reduceLT, reduceCtorEq, Nat.reduceLeDiff, Int.reduceToNat, Int.reduceEq, Int.reduceLE, Int.reduceLT, Nat.reduceBEq]); (repeat' first | done | rfl | omega | refine And.intro ?_ ?_ | (simp; done) | (simp; omega)))
  · rw [if_neg (nt hc2)] at h
    try simp (disch := assumption) only [go_sem, Nat.reduceAdd, Nat.reduceMul, Nat.reduceSub, Nat.reduceEqDiff, ↓reduceIte, Nat.reduceLT, reduceCtorEq, Nat.reduceLeDiff, Int.reduceToNat, Int.reduceEq, Int.reduceLE, Int.reduceLT, Nat.reduceBEq]
    refine Bs_splitC (a1.Fine) (by first | rfl | (simp only [beq_iff_eq]; done) | simp) (fun hc3 => ?_) (fun hc3 => ?_)
    · rw [if_pos hc3] at h
      try simp (disch := assumption) only [go_sem, Nat.reduceAdd, Nat.reduceMul, Nat.reduceSub, Nat.reduceEqDiff, ↓reduceIte, Nat.reduceLT, reduceCtorEq, Nat.reduceLeDiff, Int.reduceToNat, Int.reduceEq, Int.reduceLE, Int.reduceLT, Nat.reduceBEq]
      have he := Option.some.inj h
      subst he
      refine ends_weak ⟨[(4, (.lf false (.sc (.bool true))))], [(0, some (false, .box [(.lf false (.sc (.int .i64 a0.Limit))), (.lf false (.sc (.int .i64 a0.Cool))), (.lf false (.sc (.int .i64 0))), (.lf false (.sc (.int .i64 0))), (.lf false (.sc (.int .i64 0)))]))], 1, 62⟩ (weak_of (m := 1) [some 0] rfl rfl rfl (by simp [injR]) ?_ ?_) ?_
      all_goals ((try simp (disch := assumption) only [go_sem, Nat.reduceAdd, Nat.reduceMul, Nat.reduceSub, Nat.reduceEqDiff, ↓reduceIte, Nat.reduceLT, reduceCtorEq, Nat.reduceLeDiff, Int.reduceToNat, Int.reduceEq, Int.reduceLE, Int.reduceLT, Nat.reduceBEq]); (repeat' first | done | rfl | omega | refine And.intro ?_ ?_ | (simp; done) | (simp; omega)))
    · rw [if_neg (nt hc3)] at h
      try simp (disch := assumption) only [go_sem, Nat.reduceAdd, Nat.reduceMul, Nat.reduceSub, Nat.reduceEqDiff, ↓reduceIte, Nat.reduceLT, reduceCtorEq, Nat.reduceLeDiff, Int.reduceToNat, Int.reduceEq, Int.reduceLE, Int.reduceLT, Nat.reduceBEq]
      refine Bs_splitC ((a0.State != 0)) (by first | rfl | (simp only [beq_iff_eq]; done) | simp) (fun hc4 => ?_) (fun hc4 => ?_)
      · rw [if_pos hc4] at h
        try simp (disch := assumption) only [go_sem, Nat.reduceAdd, Nat.reduceMul, Nat.reduceSub, Nat.reduceEqDiff, ↓reduceIte, Nat.reduceLT, reduceCtorEq, Nat.reduceLeDiff, Int.reduceToNat, Int.reduceEq, Int.reduceLE, Int.reduceLT, Nat.reduceBEq]
        have he := Option.some.inj h
        subst he
        refine ends_weak ⟨[(4, (.lf false (.sc (.bool true))))], [(0, some (false, .box [(.lf false (.sc (.int .i64 a0.Limit))), (.lf false (.sc (.int .i64 a0.Cool))), (.lf false (.sc (.int .i64 1))), (.lf false (.sc (.int .i64 a0.Fails))), (.lf false (.sc (.int .i64 a1.Now)))]))], 1, 62⟩ (weak_of (m := 1) [some 0] rfl rfl rfl (by simp [injR]) ?_ ?_) ?_
        all_goals ((try simp (disch := assumption) only [go_sem, Nat.reduceAdd, Nat.reduceMul, Nat.reduceSub, Nat.reduceEqDiff, ↓reduceIte, Nat.reduceLT, reduceCtorEq, Nat.reduceLeDiff, Int.reduceToNat, Int.reduceEq, Int.reduceLE, Int.reduceLT, Nat.reduceBEq]); (repeat' first | done | rfl | omega | refine And.intro ?_ ?_ | (simp; done) | (simp; omega)))
      · rw [if_neg (nt hc4)] at h
        try simp (disch := assumption) only [go_sem, Nat.reduceAdd, Nat.reduceMul, Nat.reduceSub, Nat.reduceEqDiff, ↓reduceIte, Nat.reduceLT, reduceCtorEq, Nat.reduceLeDiff, Int.reduceToNat, Int.reduceEq, Int.reduceLE, Int.reduceLT, Nat.reduceBEq]
        refine Bs_splitC (((wI (a0.Fails + 1)) == a0.Limit)) (by first | rfl | (simp only [beq_iff_eq]; done) | simp) (fun hc5 => ?_) (fun hc5 => ?_)
        · rw [if_pos hc5] at h
          try simp (disch := assumption) only [go_sem, Nat.reduceAdd, Nat.reduceMul, Nat.reduceSub, Nat.reduceEqDiff, ↓reduceIte, Nat.reduceLT, reduceCtorEq, Nat.reduceLeDiff, Int.reduceToNat, Int.reduceEq, Int.reduceLE, Int.reduceLT, Nat.reduceBEq]
          have he := Option.some.inj h
          subst he
          refine ends_weak ⟨[(4, (.lf false (.sc (.bool true))))], [(0, some (false, .box [(.lf false (.sc (.int .i64 a0.Limit))), (.lf false (.sc (.int .i64 a0.Cool))), (.lf false (.sc (.int .i64 1))), (.lf false (.sc (.int .i64 (wI (a0.Fails + 1))))), (.lf false (.sc (.int .i64 a1.Now)))]))], 1, 62⟩ (weak_of (m := 1) [some 0] rfl rfl rfl (by simp [injR]) ?_ ?_) ?_
          all_goals ((try simp (disch := assumption) only [go_sem, Nat.reduceAdd, Nat.reduceMul, Nat.reduceSub, Nat.reduceEqDiff, ↓reduceIte, Nat.reduceLT, reduceCtorEq, Nat.reduceLeDiff, Int.reduceToNat, Int.reduceEq, Int.reduceLE, Int.reduceLT, Nat.reduceBEq]); (repeat' first | done | rfl | omega | refine And.intro ?_ ?_ | (simp; done) | (simp; omega)))
        · rw [if_neg (nt hc5)] at h
          try simp (disch := assumption) only [go_sem, Nat.reduceAdd, Nat.reduceMul, Nat.reduceSub, Nat.reduceEqDiff, ↓reduceIte, Nat.reduceLT, reduceCtorEq, Nat.reduceLeDiff, Int.reduceToNat, Int.reduceEq, Int.reduceLE, Int.reduceLT, Nat.reduceBEq]
          have he := Option.some.inj h
          subst he
          refine ends_weak ⟨[(4, (.lf false (.sc (.bool true))))], [(0, some (false, .box [(.lf false (.sc (.int .i64 a0.Limit))), (.lf false (.sc (.int .i64 a0.Cool))), (.lf false (.sc (.int .i64 a0.State))), (.lf false (.sc (.int .i64 (wI (a0.Fails + 1))))), (.lf false (.sc (.int .i64 a0.Opened)))]))], 1, 62⟩ (weak_of (m := 1) [some 0] rfl rfl rfl (by simp [injR]) ?_ ?_) ?_
          all_goals ((try simp (disch := assumption) only [go_sem, Nat.reduceAdd, Nat.reduceMul, Nat.reduceSub, Nat.reduceEqDiff, ↓reduceIte, Nat.reduceLT, reduceCtorEq, Nat.reduceLeDiff, Int.reduceToNat, Int.reduceEq, Int.reduceLE, Int.reduceLT, Nat.reduceBEq]); (repeat' first | done | rfl | omega | refine And.intro ?_ ?_ | (simp; done) | (simp; omega)))
theorem w_impl_PlayBreaker {a0 : Int} {a1 : Int} {a2 : (List CallT)} {r : (BreakerT × (List Bool) × Bool)} (h : impl_PlayBreaker a0 a1 a2 = some r) : Fn Try.prog 41 [(.lf false (.sc (.int .i64 a0))), (.lf false (.sc (.int .i64 a1))), (.lf true (.sl (a2.map eCall)))] [] 0 (.tu [(.ag [(.lf false (.sc (.int .i64 r.1.Limit))), (.lf false (.sc (.int .i64 r.1.Cool))), (.lf false (.sc (.int .i64 r.1.State))), (.lf false (.sc (.int .i64 r.1.Fails))), (.lf false (.sc (.int .i64 r.1.Opened)))]), (.os 0 1 0 r.2.1.length r.2.1.length false), (.lf false (.sc (.bool r.2.2)))]) [(0, some (true, .arr false 1 (r.2.1.map eB)))] 2 := by
  unfold impl_PlayBreaker at h
  refine fn_code tab_ok mixed [(1000, [(0, 0), (1, 0), (2, 0), (6, 0)]), (1001, [(2, 0), (6, 0), (9, 0), (10, 0)]), (1002, [(2, 0), (6, 0), (9, 0), (26, 0)]), (1003, [(6, 0), (7, 0), (8, 0)]), (1004, [(2, 0), (6, 0), (9, 0), (11, 0)]), (1005, [(2, 0), (6, 0), (9, 0), (11, 0), (29, 0), (30, 0), (31, 0)]), (1006, [(2, 0), (6, 0), (9, 0), (11, 0), (29, 0), (30, 0), (31, 0), (32, 0)]), (1007, [(2, 0), (6, 0), (9, 0), (11, 0), (12, 0), (13, 0), (29, 0), (30, 0), (31, 0)]), (1008, [(2, 0), (6, 0), (9, 0), (11, 0), (13, 0), (29, 0), (30, 0), (31, 0), (54, 0)]), (1009, [(6, 0), (7, 0), (8, 0)]), (1010, [(2, 0), (6, 0), (9, 0), (11, 0), (29, 0), (30, 0), (31, 0)]), (1011, [(2, 0), (6, 0), (9, 0), (11, 0), (29, 0), (30, 0), (31, 0)]), (1012, [(6, 0), (7, 0), (8, 0)]), (4002, []), (4008, [])] Try.func41 rfl rfl (by simp [Try.f41]) (by kernel_rfl) ?_
  simp only [Try.f41]
  simp (disch := assumption) only [go_sem, Nat.reduceAdd, Nat.reduceMul, Nat.reduceSub, Nat.reduceEqDiff, ↓reduceIte, Nat.reduceLT, reduceCtorEq, Nat.reduceLeDiff, Int.reduceToNat, Int.reduceEq, Int.reduceLE, Int.reduceLT, Nat.reduceBEq]
  obtain ⟨c33, hr1, h⟩ := bind_ok h
  refine Cl_shown (w_impl_NewBreaker hr1) (by first | rfl | (simp (disch := assumption) only [go_sem, Nat.reduceAdd, Nat.reduceMul, Nat.reduceSub, Nat.reduceEqDiff, ↓reduceIte, Nat.reduceLT, reduceCtorEq, Nat.reduceLeDiff, Int.reduceToNat, Int.reduceEq, Int.reduceLE, Int.reduceLT, Nat.reduceBEq]; first | done | rfl)) (FitAll.refl _) (.inl (by first | rfl | (simp (disch := assumption) only [go_sem, Nat.reduceAdd, Nat.reduceMul, Nat.reduceSub, Nat.reduceEqDiff, ↓reduceIte, Nat.reduceLT, reduceCtorEq, Nat.reduceLeDiff, Int.reduceToNat, Int.reduceEq, Int.reduceLE, Int.reduceLT, Nat.reduceBEq]; done))) ?_
  try simp (disch := assumption) only [go_sem, Nat.reduceAdd, Nat.reduceMul, Nat.reduceSub, Nat.reduceEqDiff, ↓reduceIte, Nat.reduceLT, reduceCtorEq, Nat.reduceLeDiff, Int.reduceToNat, Int.reduceEq, Int.reduceLE, Int.reduceLT, Nat.reduceBEq]
  obtain ⟨p34, hq2, h⟩ := bind_ok h
  refine Sq_cut (fun s2 => s2 = ⟨[(2, (.lf true (.sl (a2.map eCall)))), (6, (.pb 0 0)), (9, (.pb 1 0)), (26, (.lf false (.sc (.bool p34.t26))))], [(0, some (true, .box [(.lf false (.sc (.int .i64 0))), (.lf false (.sc (.int .i64 0))), (.lf false (.sc (.int .i64 0))), (.lf false (.sc (.int .i64 0))), (.lf false (.sc (.int .i64 0)))])), (1, some (true, .box [(.lf false (.sc (.int .i64 c33.1.Limit))), (.lf false (.sc (.int .i64 c33.1.Cool))), (.lf false (.sc (.int .i64 c33.1.State))), (.lf false (.sc (.int .i64 c33.1.Fails))), (.lf false (.sc (.int .i64 c33.1.Opened)))]))], 2, 64⟩) ?_ ?_
  · try simp (disch := assumption) only [go_sem, Nat.reduceAdd, Nat.reduceMul, Nat.reduceSub, Nat.reduceEqDiff, ↓reduceIte, Nat.reduceLT, reduceCtorEq, Nat.reduceLeDiff, Int.reduceToNat, Int.reduceEq, Int.reduceLE, Int.reduceLT, Nat.reduceBEq]
    refine Sp_splitC ((!c33.2)) (by first | rfl | (simp only [beq_iff_eq]; done) | simp) (fun hc3 => ?_) (fun hc3 => ?_)
    · rw [if_pos hc3] at hq2
      try simp (disch := assumption) only [go_sem, Nat.reduceAdd, Nat.reduceMul, Nat.reduceSub, Nat.reduceEqDiff, ↓reduceIte, Nat.reduceLT, reduceCtorEq, Nat.reduceLeDiff, Int.reduceToNat, Int.reduceEq, Int.reduceLE, Int.reduceLT, Nat.reduceBEq]
      cases hq2
      refine X_cut rfl ?_
      refine weak_of (m := 0) [some 0, some 2] rfl rfl rfl (by simp [injR]) ?_ ?_
      all_goals ((try simp (disch := assumption) only [go_sem, Nat.reduceAdd, Nat.reduceMul, Nat.reduceSub, Nat.reduceEqDiff, ↓reduceIte, Nat.reduceLT, reduceCtorEq, Nat.reduceLeDiff, Int.reduceToNat, Int.reduceEq, Int.reduceLE, Int.reduceLT, Nat.reduceBEq]); (repeat' first | done | rfl | omega | refine And.intro ?_ ?_ | (simp; done) | (simp; omega)))
    · rw [if_neg (nt hc3)] at hq2
      try simp (disch := assumption) only [go_sem, Nat.reduceAdd, Nat.reduceMul, Nat.reduceSub, Nat.reduceEqDiff, ↓reduceIte, Nat.reduceLT, reduceCtorEq, Nat.reduceLeDiff, Int.reduceToNat, Int.reduceEq, Int.reduceLE, Int.reduceLT, Nat.reduceBEq]
      cases hq2
      refine X_cut rfl ?_
      refine weak_of (m := 0) [some 0, some 2] rfl rfl rfl (by simp [injR]) ?_ ?_
      all_goals ((try simp (disch := assumption) only [go_sem, Nat.reduceAdd, Nat.reduceMul, Nat.reduceSub, Nat.reduceEqDiff, ↓reduceIte, Nat.reduceLT, reduceCtorEq, Nat.reduceLeDiff, Int.reduceToNat, Int.reduceEq, Int.reduceLE, Int.reduceLT, Nat.reduceBEq]); (repeat' first | done | rfl | omega | refine And.intro ?_ ?_ | (simp; done) | (simp; omega)))
  · intro s2 hJ; subst hJ
    try dsimp only at h
    try simp (disch := assumption) only [go_sem, Nat.reduceAdd, Nat.reduceMul, Nat.reduceSub, Nat.reduceEqDiff, ↓reduceIte, Nat.reduceLT, reduceCtorEq, Nat.reduceLeDiff, Int.reduceToNat, Int.reduceEq, Int.reduceLE, Int.reduceLT, Nat.reduceBEq]
    refine Bs_splitC (p34.t26) (by first | rfl | (simp only [beq_iff_eq]; done) | simp) (fun hc4 => ?_) (fun hc4 => ?_)
    · rw [if_pos hc4] at h
      try simp (disch := assumption) only [go_sem, Nat.reduceAdd, Nat.reduceMul, Nat.reduceSub, Nat.reduceEqDiff, ↓reduceIte, Nat.reduceLT, reduceCtorEq, Nat.reduceLeDiff, Int.reduceToNat, Int.reduceEq, Int.reduceLE, Int.reduceLT, Nat.reduceBEq]
      have he := Option.some.inj h
      subst he
      refine ends_weak ⟨[(6, (.pb 1 0)), (7, (.os 0 1 0 (([] : List Bool).length) (([] : List Bool).length) false)), (8, (.lf false (.sc (.bool false))))], [(0, some (true, .arr false 1 (([] : List Bool).map eB))), (1, some (true, .box [(.lf false (.sc (.int .i64 0))), (.lf false (.sc (.int .i64 0))), (.lf false (.sc (.int .i64 0))), (.lf false (.sc (.int .i64 0))), (.lf false (.sc (.int .i64 0)))]))], 2, 64⟩ (weak_of (m := 0) [none, some 0] rfl rfl rfl (by simp [injR]) ?_ ?_) ?_
      all_goals ((try simp (disch := assumption) only [go_sem, Nat.reduceAdd, Nat.reduceMul, Nat.reduceSub, Nat.reduceEqDiff, ↓reduceIte, Nat.reduceLT, reduceCtorEq, Nat.reduceLeDiff, Int.reduceToNat, Int.reduceEq, Int.reduceLE, Int.reduceLT, Nat.reduceBEq]); (repeat' first | done | rfl | omega | refine And.intro ?_ ?_ | (simp; done) | (simp; omega)))
    · rw [if_neg (nt hc4)] at h
      try simp (disch := assumption) only [go_sem, Nat.reduceAdd, Nat.reduceMul, Nat.reduceSub, Nat.reduceEqDiff, ↓reduceIte, Nat.reduceLT, reduceCtorEq, Nat.reduceLeDiff, Int.reduceToNat, Int.reduceEq, Int.reduceLE, Int.reduceLT, Nat.reduceBEq]
      obtain ⟨y44, hl5, h⟩ := bind_ok h
      refine W_loopP (fun g35 : impl_PlayBreaker_G1 => ⟨[(2, (.lf true (.sl (a2.map eCall)))), (6, (.pb 0 0)), (9, (.pb 1 0)), (11, (.os 2 1 0 g35.c2.length g35.c2.length false)), (29, (.lf true (.sl (a2.map eCall)))), (30, (.lf false (.sc (.int .i64 ((a2.length : Nat) : Int))))), (31, (.lf false (.sc (.int .i64 g35.t31))))], [(0, some (true, .box [(.lf false (.sc (.int .i64 0))), (.lf false (.sc (.int .i64 0))), (.lf false (.sc (.int .i64 0))), (.lf false (.sc (.int .i64 0))), (.lf false (.sc (.int .i64 0)))])), (1, some (true, .box [(.lf false (.sc (.int .i64 g35.b1_0))), (.lf false (.sc (.int .i64 g35.b1_1))), (.lf false (.sc (.int .i64 g35.b1_2))), (.lf false (.sc (.int .i64 g35.b1_3))), (.lf false (.sc (.int .i64 g35.b1_4)))])), (2, some (true, .arr false 1 (g35.c2.map eB)))], 3, 64⟩) (impl_PlayBreaker_L1 a2) _ _ hl5 (weak_of (m := 0) [some 0, some 1, some 2] rfl rfl rfl (by simp [injR]) ?_ ?_) ?_
      rotate_left 2
      · intro n1 g35 z1 hs1 hk1
        unfold impl_PlayBreaker_L1 at hs1
        try dsimp only at hs1
        simp (disch := assumption) only [go_sem, Nat.reduceAdd, Nat.reduceMul, Nat.reduceSub, Nat.reduceEqDiff, ↓reduceIte, Nat.reduceLT, reduceCtorEq, Nat.reduceLeDiff, Int.reduceToNat, Int.reduceEq, Int.reduceLE, Int.reduceLT, Nat.reduceBEq]
        refine Bs_splitC ((decide (g35.t31 < ((a2.length : Nat) : Int)))) (by first | rfl | (simp only [beq_iff_eq]; done) | simp) (fun hc6 => ?_) (fun hc6 => ?_)
        · rw [if_pos hc6] at hs1
          try simp (disch := assumption) only [go_sem, Nat.reduceAdd, Nat.reduceMul, Nat.reduceSub, Nat.reduceEqDiff, ↓reduceIte, Nat.reduceLT, reduceCtorEq, Nat.reduceLeDiff, Int.reduceToNat, Int.reduceEq, Int.reduceLE, Int.reduceLT, Nat.reduceBEq]
          obtain ⟨hp7, hs1⟩ := guard_some hs1
          have hn7 : g35.t31.toNat < a2.length := by first | omega | (simp only [List.length_set, List.length_append, List.length_replicate, List.length_map]; omega)
          try simp (disch := assumption) only [go_sem, Nat.reduceAdd, Nat.reduceMul, Nat.reduceSub, Nat.reduceEqDiff, ↓reduceIte, Nat.reduceLT, reduceCtorEq, Nat.reduceLeDiff, Int.reduceToNat, Int.reduceEq, Int.reduceLE, Int.reduceLT, Nat.reduceBEq]
          first | refine And.intro (by first | omega | exact ⟨by omega, fun _ => mapLen fun _ => rfl⟩ | (refine ⟨by omega, ?_, by omega⟩; first | exact mapLen fun _ => rfl | simp) | (refine ⟨?_, by omega⟩; first | exact mapLen fun _ => rfl | simp)) ?_ | skip
          obtain ⟨p42, hq8, hs1⟩ := bind_ok hs1
          refine Sq_cut (fun s2 => s2 = ⟨[(2, (.lf true (.sl (a2.map eCall)))), (6, (.pb 0 0)), (9, (.pb 1 0)), (11, (.os 2 1 0 g35.c2.length g35.c2.length false)), (13, (.pb 3 0)), (29, (.lf true (.sl (a2.map eCall)))), (30, (.lf false (.sc (.int .i64 ((a2.length : Nat) : Int))))), (31, (.lf false (.sc (.int .i64 g35.t31)))), (54, (.lf false (.sc (.bool p42.t54))))], [(0, some (true, .box [(.lf false (.sc (.int .i64 0))), (.lf false (.sc (.int .i64 0))), (.lf false (.sc (.int .i64 0))), (.lf false (.sc (.int .i64 0))), (.lf false (.sc (.int .i64 0)))])), (1, some (true, .box [(.lf false (.sc (.int .i64 g35.b1_0))), (.lf false (.sc (.int .i64 g35.b1_1))), (.lf false (.sc (.int .i64 g35.b1_2))), (.lf false (.sc (.int .i64 g35.b1_3))), (.lf false (.sc (.int .i64 g35.b1_4)))])), (2, some (true, .arr false 1 (g35.c2.map eB))), (3, some (true, .box [(.lf false (.sc (.int .i64 ((nth a2 g35.t31.toNat).Now)))), (.lf false (.sc (.bool ((nth a2 g35.t31.toNat).Fine))))]))], 4, 64⟩) ?_ ?_
          · try simp (disch := assumption) only [go_sem, Nat.reduceAdd, Nat.reduceMul, Nat.reduceSub, Nat.reduceEqDiff, ↓reduceIte, Nat.reduceLT, reduceCtorEq, Nat.reduceLeDiff, Int.reduceToNat, Int.reduceEq, Int.reduceLE, Int.reduceLT, Nat.reduceBEq]
            obtain ⟨c41, hr9, hq8⟩ := bind_ok hq8
            refine Cl_shown (w_impl_isTime hr9) (by first | rfl | (simp (disch := assumption) only [go_sem, Nat.reduceAdd, Nat.reduceMul, Nat.reduceSub, Nat.reduceEqDiff, ↓reduceIte, Nat.reduceLT, reduceCtorEq, Nat.reduceLeDiff, Int.reduceToNat, Int.reduceEq, Int.reduceLE, Int.reduceLT, Nat.reduceBEq]; first | done | rfl)) (FitAll.refl _) (.inl (by first | rfl | (simp (disch := assumption) only [go_sem, Nat.reduceAdd, Nat.reduceMul, Nat.reduceSub, Nat.reduceEqDiff, ↓reduceIte, Nat.reduceLT, reduceCtorEq, Nat.reduceLeDiff, Int.reduceToNat, Int.reduceEq, Int.reduceLE, Int.reduceLT, Nat.reduceBEq]; done))) ?_
            try simp (disch := assumption) only [go_sem, Nat.reduceAdd, Nat.reduceMul, Nat.reduceSub, Nat.reduceEqDiff, ↓reduceIte, Nat.reduceLT, reduceCtorEq, Nat.reduceLeDiff, Int.reduceToNat, Int.reduceEq, Int.reduceLE, Int.reduceLT, Nat.reduceBEq]
            refine Sp_splitC ((!c41)) (by first | rfl | (simp only [beq_iff_eq]; done) | simp) (fun hc10 => ?_) (fun hc10 => ?_)
            · rw [if_pos hc10] at hq8
              try simp (disch := assumption) only [go_sem, Nat.reduceAdd, Nat.reduceMul, Nat.reduceSub, Nat.reduceEqDiff, ↓reduceIte, Nat.reduceLT, reduceCtorEq, Nat.reduceLeDiff, Int.reduceToNat, Int.reduceEq, Int.reduceLE, Int.reduceLT, Nat.reduceBEq]
              cases hq8
              refine X_cut rfl ?_
              refine weak_of (m := 0) [some 0, some 1, some 2, some 3] rfl rfl rfl (by simp [injR]) ?_ ?_
              all_goals ((try simp (disch := assumption) only [go_sem, Nat.reduceAdd, Nat.reduceMul, Nat.reduceSub, Nat.reduceEqDiff, ↓reduceIte, Nat.reduceLT, reduceCtorEq, Nat.reduceLeDiff, Int.reduceToNat, Int.reduceEq, Int.reduceLE, Int.reduceLT, Nat.reduceBEq]); (repeat' first | done | rfl | omega | refine And.intro ?_ ?_ | (simp; done) | (simp; omega)))
            · rw [if_neg (nt hc10)] at hq8
              try simp (disch := assumption) only [go_sem, Nat.reduceAdd, Nat.reduceMul, Nat.reduceSub, Nat.reduceEqDiff, ↓reduceIte, Nat.reduceLT, reduceCtorEq, Nat.reduceLeDiff, Int.reduceToNat, Int.reduceEq, Int.reduceLE, Int.reduceLT, Nat.reduceBEq]
              refine Sp_splitC ((decide (g35.t31 > 0))) (by first | rfl | (simp only [beq_iff_eq]; done) | simp) (fun hc11 => ?_) (fun hc11 => ?_)
              · rw [if_pos hc11] at hq8
                try simp (disch := assumption) only [go_sem, Nat.reduceAdd, Nat.reduceMul, Nat.reduceSub, Nat.reduceEqDiff, ↓reduceIte, Nat.reduceLT, reduceCtorEq, Nat.reduceLeDiff, Int.reduceToNat, Int.reduceEq, Int.reduceLE, Int.reduceLT, Nat.reduceBEq]
                obtain ⟨hp12, hq8⟩ := guard_some hq8
                have hn12 : (wI (g35.t31 - 1)).toNat < a2.length := by first | omega | (simp only [List.length_set, List.length_append, List.length_replicate, List.length_map]; omega)
                try simp (disch := assumption) only [go_sem, Nat.reduceAdd, Nat.reduceMul, Nat.reduceSub, Nat.reduceEqDiff, ↓reduceIte, Nat.reduceLT, reduceCtorEq, Nat.reduceLeDiff, Int.reduceToNat, Int.reduceEq, Int.reduceLE, Int.reduceLT, Nat.reduceBEq]
                first | refine And.intro (by first | omega | exact ⟨by omega, fun _ => mapLen fun _ => rfl⟩ | (refine ⟨by omega, ?_, by omega⟩; first | exact mapLen fun _ => rfl | simp) | (refine ⟨?_, by omega⟩; first | exact mapLen fun _ => rfl | simp)) ?_ | skip
                cases hq8
                refine X_cut rfl ?_
                refine weak_of (m := 0) [some 0, some 1, some 2, some 3] rfl rfl rfl (by simp [injR]) ?_ ?_
                all_goals ((try simp (disch := assumption) only [go_sem, Nat.reduceAdd, Nat.reduceMul, Nat.reduceSub, Nat.reduceEqDiff, ↓reduceIte, Nat.reduceLT, reduceCtorEq, Nat.reduceLeDiff, Int.reduceToNat, Int.reduceEq, Int.reduceLE, Int.reduceLT, Nat.reduceBEq]); (repeat' first | done | rfl | omega | refine And.intro ?_ ?_ | (simp; done) | (simp; omega)))
              · rw [if_neg (nt hc11)] at hq8
                try simp (disch := assumption) only [go_sem, Nat.reduceAdd, Nat.reduceMul, Nat.reduceSub, Nat.reduceEqDiff, ↓reduceIte, Nat.reduceLT, reduceCtorEq, Nat.reduceLeDiff, Int.reduceToNat, Int.reduceEq, Int.reduceLE, Int.reduceLT, Nat.reduceBEq]
                cases hq8
                refine X_cut rfl ?_
                refine weak_of (m := 0) [some 0, some 1, some 2, some 3] rfl rfl rfl (by simp [injR]) ?_ ?_
                all_goals ((try simp (disch := assumption) only [go_sem, Nat.reduceAdd, Nat.reduceMul, Nat.reduceSub, Nat.reduceEqDiff, ↓reduceIte, Nat.reduceLT, reduceCtorEq, Nat.reduceLeDiff, Int.reduceToNat, Int.reduceEq, Int.reduceLE, Int.reduceLT, Nat.reduceBEq]); (repeat' first | done | rfl | omega | refine And.intro ?_ ?_ | (simp; done) | (simp; omega)))
          · intro s2 hJ; subst hJ
            try dsimp only at hs1
            try simp (disch := assumption) only [go_sem, Nat.reduceAdd, Nat.reduceMul, Nat.reduceSub, Nat.reduceEqDiff, ↓reduceIte, Nat.reduceLT, reduceCtorEq, Nat.reduceLeDiff, Int.reduceToNat, Int.reduceEq, Int.reduceLE, Int.reduceLT, Nat.reduceBEq]
            refine Bs_splitC (p42.t54) (by first | rfl | (simp only [beq_iff_eq]; done) | simp) (fun hc13 => ?_) (fun hc13 => ?_)
            · rw [if_pos hc13] at hs1
              try simp (disch := assumption) only [go_sem, Nat.reduceAdd, Nat.reduceMul, Nat.reduceSub, Nat.reduceEqDiff, ↓reduceIte, Nat.reduceLT, reduceCtorEq, Nat.reduceLeDiff, Int.reduceToNat, Int.reduceEq, Int.reduceLE, Int.reduceLT, Nat.reduceBEq]
              cases hs1
              cases hk1
              try dsimp only at h
              try simp (disch := assumption) only [go_sem, Nat.reduceAdd, Nat.reduceMul, Nat.reduceSub, Nat.reduceEqDiff, ↓reduceIte, Nat.reduceLT, reduceCtorEq, Nat.reduceLeDiff, Int.reduceToNat, Int.reduceEq, Int.reduceLE, Int.reduceLT, Nat.reduceBEq]
              have he := Option.some.inj h
              subst he
              refine ends_weak ⟨[(6, (.pb 1 0)), (7, (.os 0 1 0 (([] : List Bool).length) (([] : List Bool).length) false)), (8, (.lf false (.sc (.bool false))))], [(0, some (true, .arr false 1 (([] : List Bool).map eB))), (1, some (true, .box [(.lf false (.sc (.int .i64 0))), (.lf false (.sc (.int .i64 0))), (.lf false (.sc (.int .i64 0))), (.lf false (.sc (.int .i64 0))), (.lf false (.sc (.int .i64 0)))]))], 2, 64⟩ (weak_of (m := 0) [none, some 0] rfl rfl rfl (by simp [injR]) ?_ ?_) ?_
              all_goals ((try simp (disch := assumption) only [go_sem, Nat.reduceAdd, Nat.reduceMul, Nat.reduceSub, Nat.reduceEqDiff, ↓reduceIte, Nat.reduceLT, reduceCtorEq, Nat.reduceLeDiff, Int.reduceToNat, Int.reduceEq, Int.reduceLE, Int.reduceLT, Nat.reduceBEq]); (repeat' first | done | rfl | omega | refine And.intro ?_ ?_ | (simp; done) | (simp; omega)))
            · rw [if_neg (nt hc13)] at hs1
              try simp (disch := assumption) only [go_sem, Nat.reduceAdd, Nat.reduceMul, Nat.reduceSub, Nat.reduceEqDiff, ↓reduceIte, Nat.reduceLT, reduceCtorEq, Nat.reduceLeDiff, Int.reduceToNat, Int.reduceEq, Int.reduceLE, Int.reduceLT, Nat.reduceBEq]
              obtain ⟨c43, hr14, hs1⟩ := bind_ok hs1
              refine Cl_hand (ids := [1]) (w_impl_Breaker_call_o hr14) (by first | rfl | (simp (disch := assumption) only [go_sem, Nat.reduceAdd, Nat.reduceMul, Nat.reduceSub, Nat.reduceEqDiff, ↓reduceIte, Nat.reduceLT, reduceCtorEq, Nat.reduceLeDiff, Int.reduceToNat, Int.reduceEq, Int.reduceLE, Int.reduceLT, Nat.reduceBEq]; first | done | rfl)) (FitAll.refl _) (by first | rfl | (simp (disch := assumption) only [go_sem, Nat.reduceAdd, Nat.reduceMul, Nat.reduceSub, Nat.reduceEqDiff, ↓reduceIte, Nat.reduceLT, reduceCtorEq, Nat.reduceLeDiff, Int.reduceToNat, Int.reduceEq, Int.reduceLE, Int.reduceLT, Nat.reduceBEq]; first | done | rfl)) (by decide) (by first | rfl | (simp (disch := assumption) only [go_sem, Nat.reduceAdd, Nat.reduceMul, Nat.reduceSub, Nat.reduceEqDiff, ↓reduceIte, Nat.reduceLT, reduceCtorEq, Nat.reduceLeDiff, Int.reduceToNat, Int.reduceEq, Int.reduceLE, Int.reduceLT, Nat.reduceBEq]; done)) (by rfl) ?_
              try simp (disch := assumption) only [go_sem, Nat.reduceAdd, Nat.reduceMul, Nat.reduceSub, Nat.reduceEqDiff, ↓reduceIte, Nat.reduceLT, reduceCtorEq, Nat.reduceLeDiff, Int.reduceToNat, Int.reduceEq, Int.reduceLE, Int.reduceLT, Nat.reduceBEq]
              obtain ⟨hp15, hs1⟩ := guard_some hs1
              try simp (disch := assumption) only [go_sem, Nat.reduceAdd, Nat.reduceMul, Nat.reduceSub, Nat.reduceEqDiff, ↓reduceIte, Nat.reduceLT, reduceCtorEq, Nat.reduceLeDiff, Int.reduceToNat, Int.reduceEq, Int.reduceLE, Int.reduceLT, Nat.reduceBEq]
              first | refine And.intro (by first | omega | exact ⟨by omega, fun _ => mapLen fun _ => rfl⟩ | (refine ⟨by omega, ?_, by omega⟩; first | exact mapLen fun _ => rfl | simp) | (refine ⟨?_, by omega⟩; first | exact mapLen fun _ => rfl | simp)) ?_ | skip
              cases hs1
              refine X_backP hk1 ?_
              refine weak_of (m := 0) [some 0, some 1, some 5] rfl rfl rfl (by simp [injR]) ?_ ?_
              all_goals ((try simp (disch := assumption) only [go_sem, Nat.reduceAdd, Nat.reduceMul, Nat.reduceSub, Nat.reduceEqDiff, ↓reduceIte, Nat.reduceLT, reduceCtorEq, Nat.reduceLeDiff, Int.reduceToNat, Int.reduceEq, Int.reduceLE, Int.reduceLT, Nat.reduceBEq]); (repeat' first | done | rfl | omega | refine And.intro ?_ ?_ | (simp; done) | (simp; omega)))
        · rw [if_neg (nt hc6)] at hs1
          try simp (disch := assumption) only [go_sem, Nat.reduceAdd, Nat.reduceMul, Nat.reduceSub, Nat.reduceEqDiff, ↓reduceIte, Nat.reduceLT, reduceCtorEq, Nat.reduceLeDiff, Int.reduceToNat, Int.reduceEq, Int.reduceLE, Int.reduceLT, Nat.reduceBEq]
          cases hs1
          cases hk1
          try dsimp only at h
          try simp (disch := assumption) only [go_sem, Nat.reduceAdd, Nat.reduceMul, Nat.reduceSub, Nat.reduceEqDiff, ↓reduceIte, Nat.reduceLT, reduceCtorEq, Nat.reduceLeDiff, Int.reduceToNat, Int.reduceEq, Int.reduceLE, Int.reduceLT, Nat.reduceBEq]
          have he := Option.some.inj h
          subst he
          refine ends_weak ⟨[(6, (.pb 1 0)), (7, (.os 0 1 0 g35.c2.length g35.c2.length false)), (8, (.lf false (.sc (.bool true))))], [(0, some (true, .arr false 1 (g35.c2.map eB))), (1, some (true, .box [(.lf false (.sc (.int .i64 g35.b1_0))), (.lf false (.sc (.int .i64 g35.b1_1))), (.lf false (.sc (.int .i64 g35.b1_2))), (.lf false (.sc (.int .i64 g35.b1_3))), (.lf false (.sc (.int .i64 g35.b1_4)))]))], 2, 64⟩ (weak_of (m := 0) [some 2, some 0] rfl rfl rfl (by simp [injR]) ?_ ?_) ?_
          all_goals ((try simp (disch := assumption) only [go_sem, Nat.reduceAdd, Nat.reduceMul, Nat.reduceSub, Nat.reduceEqDiff, ↓reduceIte, Nat.reduceLT, reduceCtorEq, Nat.reduceLeDiff, Int.reduceToNat, Int.reduceEq, Int.reduceLE, Int.reduceLT, Nat.reduceBEq]); (repeat' first | done | rfl | omega | refine And.intro ?_ ?_ | (simp; done) | (simp; omega)))
      all_goals ((try simp (disch := assumption) only [go_sem, Nat.reduceAdd, Nat.reduceMul, Nat.reduceSub, Nat.reduceEqDiff, ↓reduceIte, Nat.reduceLT, reduceCtorEq, Nat.reduceLeDiff, Int.reduceToNat, Int.reduceEq, Int.reduceLE, Int.reduceLT, Nat.reduceBEq]); (repeat' first | done | rfl | omega | refine And.intro ?_ ?_ | (simp; done) | (simp; omega)))
theorem w_spec_l1In {a0 : Int} {a1 : Int} {a2 : Int} {r : Bool} (h : spec_l1In a0 a1 a2 = some r) : Fn Try.prog 65 [(.lf false (.sc (.int .i64 a0))), (.lf false (.sc (.int .i64 a1))), (.lf false (.sc (.int .i64 a2)))] [] 0 (.lf false (.sc (.bool r))) [] 0 := by
  unfold spec_l1In at h
  refine fn_code tab_ok mixed [] Try.func65 rfl rfl (by simp [Try.f65]) (by kernel_rfl) ?_
  simp only [Try.f65]
  simp (disch := assumption) only [go_sem, Nat.reduceAdd, Nat.reduceMul, Nat.reduceSub, Nat.reduceEqDiff, ↓reduceIte, Nat.reduceLT, reduceCtorEq, Nat.reduceLeDiff, Int.reduceToNat, Int.reduceEq, Int.reduceLE, Int.reduceLT, Nat.reduceBEq]
  refine Sp_splitC ((decide (a0 ≥ a1))) (by first | rfl | (simp only [beq_iff_eq]; done) | simp) (fun hc1 => ?_) (fun hc1 => ?_)
  · rw [if_pos hc1] at h
    try simp (disch := assumption) only [go_sem, Nat.reduceAdd, Nat.reduceMul, Nat.reduceSub, Nat.reduceEqDiff, ↓reduceIte, Nat.reduceLT, reduceCtorEq, Nat.reduceLeDiff, Int.reduceToNat, Int.reduceEq, Int.reduceLE, Int.reduceLT, Nat.reduceBEq]
    have he := Option.some.inj h
    subst he
    refine ends_weak ⟨[(6, (.lf false (.sc (.bool (decide (a0 ≤ a2))))))], [], 0, 15⟩ (weak_of (m := 0) [] rfl rfl rfl (by simp [injR]) ?_ ?_) ?_
    all_goals ((try simp (disch := assumption) only [go_sem, Nat.reduceAdd, Nat.reduceMul, Nat.reduceSub, Nat.reduceEqDiff, ↓reduceIte, Nat.reduceLT, reduceCtorEq, Nat.reduceLeDiff, Int.reduceToNat, Int.reduceEq, Int.reduceLE, Int.reduceLT, Nat.reduceBEq]); (repeat' first | done | rfl | omega | refine And.intro ?_ ?_ | (simp; done) | (simp; omega)))
  · rw [if_neg (nt hc1)] at h
    try simp (disch := assumption) only [go_sem, Nat.reduceAdd, Nat.reduceMul, Nat.reduceSub, Nat.reduceEqDiff, ↓reduceIte, Nat.reduceLT, reduceCtorEq, Nat.reduceLeDiff, Int.reduceToNat, Int.reduceEq, Int.reduceLE, Int.reduceLT, Nat.reduceBEq]
    have he := Option.some.inj h
    subst he
    refine ends_weak ⟨[(6, (.lf false (.sc (.bool false))))], [], 0, 15⟩ (weak_of (m := 0) [] rfl rfl rfl (by simp [injR]) ?_ ?_) ?_
    all_goals ((try simp (disch := assumption) only [go_sem, Nat.reduceAdd, Nat.reduceMul, Nat.reduceSub, Nat.reduceEqDiff, ↓reduceIte, Nat.reduceLT, reduceCtorEq, Nat.reduceLeDiff, Int.reduceToNat, Int.reduceEq, Int.reduceLE, Int.reduceLT, Nat.reduceBEq]); (repeat' first | done | rfl | omega | refine And.intro ?_ ?_ | (simp; done) | (simp; omega)))
theorem w_spec_NewBreaker {a0 : Int} {a1 : Int} {r : (BreakerT × Bool)} (h : spec_NewBreaker a0 a1 = some r) : Fn Try.prog 85 [(.lf false (.sc (.int .i64 a0))), (.lf false (.sc (.int .i64 a1)))] [] 0 (.tu [(.ag [(.lf false (.sc (.int .i64 r.1.Limit))), (.lf false (.sc (.int .i64 r.1.Cool))), (.lf false (.sc (.int .i64 r.1.State))), (.lf false (.sc (.int .i64 r.1.Fails))), (.lf false (.sc (.int .i64 r.1.Opened)))]), (.lf false (.sc (.bool r.2)))]) [] 1 := by
  unfold spec_NewBreaker at h
  refine fn_code tab_ok mixed [(1000, [(0, 0), (1, 0), (4, 0)]), (1001, [(0, 0), (1, 0), (4, 0), (13, 0)]), (1002, [(4, 0), (5, 0)]), (1003, [(4, 0), (5, 0)]), (4001, [])] Try.func85 rfl rfl (by simp [Try.f85]) (by kernel_rfl) ?_
  simp only [Try.f85]
  simp (disch := assumption) only [go_sem, Nat.reduceAdd, Nat.reduceMul, Nat.reduceSub, Nat.reduceEqDiff, ↓reduceIte, Nat.reduceLT, reduceCtorEq, Nat.reduceLeDiff, Int.reduceToNat, Int.reduceEq, Int.reduceLE, Int.reduceLT, Nat.reduceBEq]
  obtain ⟨p50, hq1, h⟩ := bind_ok h
  refine Sq_cut (fun s2 => s2 = ⟨[(0, (.lf false (.sc (.int .i64 a0)))), (1, (.lf false (.sc (.int .i64 a1)))), (4, (.pb 0 0)), (13, (.lf false (.sc (.bool p50.t13))))], [(0, some (true, .box [(.lf false (.sc (.int .i64 0))), (.lf false (.sc (.int .i64 0))), (.lf false (.sc (.int .i64 0))), (.lf false (.sc (.int .i64 0))), (.lf false (.sc (.int .i64 0)))]))], 1, 18⟩) ?_ ?_
  · try simp (disch := assumption) only [go_sem, Nat.reduceAdd, Nat.reduceMul, Nat.reduceSub, Nat.reduceEqDiff, ↓reduceIte, Nat.reduceLT, reduceCtorEq, Nat.reduceLeDiff, Int.reduceToNat, Int.reduceEq, Int.reduceLE, Int.reduceLT, Nat.reduceBEq]
    obtain ⟨c48, hr2, hq1⟩ := bind_ok hq1
    refine Cl_shown (w_spec_l1In hr2) (by first | rfl | (simp (disch := assumption) only [go_sem, Nat.reduceAdd, Nat.reduceMul, Nat.reduceSub, Nat.reduceEqDiff, ↓reduceIte, Nat.reduceLT, reduceCtorEq, Nat.reduceLeDiff, Int.reduceToNat, Int.reduceEq, Int.reduceLE, Int.reduceLT, Nat.reduceBEq]; first | done | rfl)) (FitAll.refl _) (.inl (by first | rfl | (simp (disch := assumption) only [go_sem, Nat.reduceAdd, Nat.reduceMul, Nat.reduceSub, Nat.reduceEqDiff, ↓reduceIte, Nat.reduceLT, reduceCtorEq, Nat.reduceLeDiff, Int.reduceToNat, Int.reduceEq, Int.reduceLE, Int.reduceLT, Nat.reduceBEq]; done))) ?_
    try simp (disch := assumption) only [go_sem, Nat.reduceAdd, Nat.reduceMul, Nat.reduceSub, Nat.reduceEqDiff, ↓reduceIte, Nat.reduceLT, reduceCtorEq, Nat.reduceLeDiff, Int.reduceToNat, Int.reduceEq, Int.reduceLE, Int.reduceLT, Nat.reduceBEq]
    refine Sp_splitC ((!c48)) (by first | rfl | (simp only [beq_iff_eq]; done) | simp) (fun hc3 => ?_) (fun hc3 => ?_)
    · rw [if_pos hc3] at hq1
      try simp (disch := assumption) only [go_sem, Nat.reduceAdd, Nat.reduceMul, Nat.reduceSub, Nat.reduceEqDiff, ↓reduceIte, Nat.reduceLT, reduceCtorEq, Nat.reduceLeDiff, Int.reduceToNat, Int.reduceEq, Int.reduceLE, Int.reduceLT, Nat.reduceBEq]
      cases hq1
      refine X_cut rfl ?_
      refine weak_of (m := 0) [some 0] rfl rfl rfl (by simp [injR]) ?_ ?_
      all_goals ((try simp (disch := assumption) only [go_sem, Nat.reduceAdd, Nat.reduceMul, Nat.reduceSub, Nat.reduceEqDiff, ↓reduceIte, Nat.reduceLT, reduceCtorEq, Nat.reduceLeDiff, Int.reduceToNat, Int.reduceEq, Int.reduceLE, Int.reduceLT, Nat.reduceBEq]); (repeat' first | done | rfl | omega | refine And.intro ?_ ?_ | (simp; done) | (simp; omega)))
    · rw [if_neg (nt hc3)] at hq1
      try simp (disch := assumption) only [go_sem, Nat.reduceAdd, Nat.reduceMul, Nat.reduceSub, Nat.reduceEqDiff, ↓reduceIte, Nat.reduceLT, reduceCtorEq, Nat.reduceLeDiff, Int.reduceToNat, Int.reduceEq, Int.reduceLE, Int.reduceLT, Nat.reduceBEq]
      obtain ⟨c49, hr4, hq1⟩ := bind_ok hq1
      refine Cl_shown (w_spec_l1In hr4) (by first | rfl | (simp (disch := assumption) only [go_sem, Nat.reduceAdd, Nat.reduceMul, Nat.reduceSub, Nat.reduceEqDiff, ↓reduceIte, Nat.reduceLT, reduceCtorEq, Nat.reduceLeDiff, Int.reduceToNat, Int.reduceEq, Int.reduceLE, Int.reduceLT, Nat.reduceBEq]; first | done | rfl)) (FitAll.refl _) (.inl (by first | rfl | (simp (disch := assumption) only [go_sem, Nat.reduceAdd, Nat.reduceMul, Nat.reduceSub, Nat.reduceEqDiff, ↓reduceIte, Nat.reduceLT, reduceCtorEq, Nat.reduceLeDiff, Int.reduceToNat, Int.reduceEq, Int.reduceLE, Int.reduceLT, Nat.reduceBEq]; done))) ?_
      try simp (disch := assumption) only [go_sem, Nat.reduceAdd, Nat.reduceMul, Nat.reduceSub, Nat.reduceEqDiff, ↓reduceIte, Nat.reduceLT, reduceCtorEq, Nat.reduceLeDiff, Int.reduceToNat, Int.reduceEq, Int.reduceLE, Int.reduceLT, Nat.reduceBEq]
      cases hq1
      refine X_cut rfl ?_
      refine weak_of (m := 0) [some 0] rfl rfl rfl (by simp [injR]) ?_ ?_
      all_goals ((try simp (disch := assumption) only [go_sem, Nat.reduceAdd, Nat.reduceMul, Nat.reduceSub, Nat.reduceEqDiff, ↓reduceIte, Nat.reduceLT, reduceCtorEq, Nat.reduceLeDiff, Int.reduceToNat, Int.reduceEq, Int.reduceLE, Int.reduceLT, Nat.reduceBEq]); (repeat' first | done | rfl | omega | refine And.intro ?_ ?_ | (simp; done) | (simp; omega)))
  · intro s2 hJ; subst hJ
    try dsimp only at h
    try simp (disch := assumption) only [go_sem, Nat.reduceAdd, Nat.reduceMul, Nat.reduceSub, Nat.reduceEqDiff, ↓reduceIte, Nat.reduceLT, reduceCtorEq, Nat.reduceLeDiff, Int.reduceToNat, Int.reduceEq, Int.reduceLE, Int.reduceLT, Nat.reduceBEq]
    refine Bs_splitC (p50.t13) (by first | rfl | (simp only [beq_iff_eq]; done) | simp) (fun hc5 => ?_) (fun hc5 => ?_)
    · rw [if_pos hc5] at h
      try simp (disch := assumption) only [go_sem, Nat.reduceAdd, Nat.reduceMul, Nat.reduceSub, Nat.reduceEqDiff, ↓reduceIte, Nat.reduceLT, reduceCtorEq, Nat.reduceLeDiff, Int.reduceToNat, Int.reduceEq, Int.reduceLE, Int.reduceLT, Nat.reduceBEq]
      have he := Option.some.inj h
      subst he
      refine ends_weak ⟨[(4, (.pb 0 0)), (5, (.lf false (.sc (.bool false))))], [(0, some (true, .box [(.lf false (.sc (.int .i64 0))), (.lf false (.sc (.int .i64 0))), (.lf false (.sc (.int .i64 0))), (.lf false (.sc (.int .i64 0))), (.lf false (.sc (.int .i64 0)))]))], 1, 18⟩ (weak_of (m := 0) [some 0] rfl rfl rfl (by simp [injR]) ?_ ?_) ?_
      all_goals ((try simp (disch := assumption) only [go_sem, Nat.reduceAdd, Nat.reduceMul, Nat.reduceSub, Nat.reduceEqDiff, ↓reduceIte, Nat.reduceLT, reduceCtorEq, Nat.reduceLeDiff, Int.reduceToNat, Int.reduceEq, Int.reduceLE, Int.reduceLT, Nat.reduceBEq]); (repeat' first | done | rfl | omega | refine And.intro ?_ ?_ | (simp; done) | (simp; omega)))
    · rw [if_neg (nt hc5)] at h
      try simp (disch := assumption) only [go_sem, Nat.reduceAdd, Nat.reduceMul, Nat.reduceSub, Nat.reduceEqDiff, ↓reduceIte, Nat.reduceLT, reduceCtorEq, Nat.reduceLeDiff, Int.reduceToNat, Int.reduceEq, Int.reduceLE, Int.reduceLT, Nat.reduceBEq]
      have he := Option.some.inj h
      subst he
      refine ends_weak ⟨[(4, (.pb 0 0)), (5, (.lf false (.sc (.bool true))))], [(0, some (true, .box [(.lf false (.sc (.int .i64 a0))), (.lf false (.sc (.int .i64 a1))), (.lf false (.sc (.int .i64 0))), (.lf false (.sc (.int .i64 0))), (.lf false (.sc (.int .i64 0)))]))], 1, 18⟩ (weak_of (m := 0) [some 0] rfl rfl rfl (by simp [injR]) ?_ ?_) ?_
      all_goals ((try simp (disch := assumption) only [go_sem, Nat.reduceAdd, Nat.reduceMul, Nat.reduceSub, Nat.reduceEqDiff, ↓reduceIte, Nat.reduceLT, reduceCtorEq, Nat.reduceLeDiff, Int.reduceToNat, Int.reduceEq, Int.reduceLE, Int.reduceLT, Nat.reduceBEq]); (repeat' first | done | rfl | omega | refine And.intro ?_ ?_ | (simp; done) | (simp; omega)))
theorem w_spec_l10Call {a0 : BreakerT} {a1 : CallT} {r : (BreakerT × Bool)} (h : spec_l10Call a0 a1 = some r) : Fn Try.prog 72 [(.ag [(.lf false (.sc (.int .i64 a0.Limit))), (.lf false (.sc (.int .i64 a0.Cool))), (.lf false (.sc (.int .i64 a0.State))), (.lf false (.sc (.int .i64 a0.Fails))), (.lf false (.sc (.int .i64 a0.Opened)))]), (.ag [(.lf false (.sc (.int .i64 a1.Now))), (.lf false (.sc (.bool a1.Fine)))])] [] 0 (.tu [(.ag [(.lf false (.sc (.int .i64 r.1.Limit))), (.lf false (.sc (.int .i64 r.1.Cool))), (.lf false (.sc (.int .i64 r.1.State))), (.lf false (.sc (.int .i64 r.1.Fails))), (.lf false (.sc (.int .i64 r.1.Opened)))]), (.lf false (.sc (.bool r.2)))]) [] 1 := by
  unfold spec_l10Call at h
  refine fn_code tab_ok mixed [(1000, [(2, 0), (3, 0), (4, 0)]), (1001, [(2, 0), (3, 0), (4, 0), (19, 0)]), (1002, [(4, 0), (5, 0)]), (1003, [(2, 0), (3, 0), (4, 0), (6, 0)]), (1004, [(2, 0), (3, 0), (4, 0)]), (1005, [(2, 0), (3, 0), (4, 0), (32, 0)]), (1006, [(2, 0), (3, 0), (4, 0)]), (1007, [(2, 0), (4, 0)]), (1008, [(2, 0), (3, 0), (4, 0), (6, 0), (37, 0)]), (1009, [(4, 0), (5, 0)]), (1010, [(2, 0), (3, 0), (4, 0), (45, 0)]), (1011, [(2, 0), (3, 0), (4, 0)]), (1012, [(2, 0), (4, 0)]), (1013, [(4, 0), (5, 0)]), (4001, [])] Try.func72 rfl rfl (by simp [Try.f72]) (by kernel_rfl) ?_
  simp only [Try.f72]
  simp (disch := assumption) only [go_sem, Nat.reduceAdd, Nat.reduceMul, Nat.reduceSub, Nat.reduceEqDiff, ↓reduceIte, Nat.reduceLT, reduceCtorEq, Nat.reduceLeDiff, Int.reduceToNat, Int.reduceEq, Int.reduceLE, Int.reduceLT, Nat.reduceBEq]
  obtain ⟨p56, hq1, h⟩ := bind_ok h
  refine Sq_cut (fun s2 => s2 = ⟨[(2, (.pb 0 0)), (3, (.pb 1 0)), (4, (.pb 2 0)), (19, (.lf false (.sc (.bool p56.t19))))], [(0, some (true, .box [(.lf false (.sc (.int .i64 a0.Limit))), (.lf false (.sc (.int .i64 a0.Cool))), (.lf false (.sc (.int .i64 a0.State))), (.lf false (.sc (.int .i64 a0.Fails))), (.lf false (.sc (.int .i64 a0.Opened)))])), (1, some (true, .box [(.lf false (.sc (.int .i64 a1.Now))), (.lf false (.sc (.bool a1.Fine)))])), (2, some (true, .box [(.lf false (.sc (.int .i64 0))), (.lf false (.sc (.int .i64 0))), (.lf false (.sc (.int .i64 0))), (.lf false (.sc (.int .i64 0))), (.lf false (.sc (.int .i64 0)))]))], 3, 52⟩) ?_ ?_
  · try simp (disch := assumption) only [go_sem, Nat.reduceAdd, Nat.reduceMul, Nat.reduceSub, Nat.reduceEqDiff, ↓reduceIte, Nat.reduceLT, reduceCtorEq, Nat.reduceLeDiff, Int.reduceToNat, Int.reduceEq, Int.reduceLE, Int.reduceLT, Nat.reduceBEq]
    refine Sp_splitC ((a0.State == 1)) (by first | rfl | (simp only [beq_iff_eq]; done) | simp) (fun hc2 => ?_) (fun hc2 => ?_)
    · rw [if_pos hc2] at hq1
      try simp (disch := assumption) only [go_sem, Nat.reduceAdd, Nat.reduceMul, Nat.reduceSub, Nat.reduceEqDiff, ↓reduceIte, Nat.reduceLT, reduceCtorEq, Nat.reduceLeDiff, Int.reduceToNat, Int.reduceEq, Int.reduceLE, Int.reduceLT, Nat.reduceBEq]
      cases hq1
      refine X_cut rfl ?_
      refine weak_of (m := 0) [some 0, some 1, some 2] rfl rfl rfl (by simp [injR]) ?_ ?_
      all_goals ((try simp (disch := assumption) only [go_sem, Nat.reduceAdd, Nat.reduceMul, Nat.reduceSub, Nat.reduceEqDiff, ↓reduceIte, Nat.reduceLT, reduceCtorEq, Nat.reduceLeDiff, Int.reduceToNat, Int.reduceEq, Int.reduceLE, Int.reduceLT, Nat.reduceBEq]); (repeat' first | done | rfl | omega | refine And.intro ?_ ?_ | (simp; done) | (simp; omega)))
    · rw [if_neg (nt hc2)] at hq1
      try simp (disch := assumption) only [go_sem, Nat.reduceAdd, Nat.reduceMul, Nat.reduceSub, Nat.reduceEqDiff, ↓reduceIte, Nat.reduceLT, reduceCtorEq, Nat.reduceLeDiff, Int.reduceToNat, Int.reduceEq, Int.reduceLE, Int.reduceLT, Nat.reduceBEq]
      cases hq1
      refine X_cut rfl ?_
      refine weak_of (m := 0) [some 0, some 1, some 2] rfl rfl rfl (by simp [injR]) ?_ ?_
      all_goals ((try simp (disch := assumption) only [go_sem, Nat.reduceAdd, Nat.reduceMul, Nat.reduceSub, Nat.reduceEqDiff, ↓reduceIte, Nat.reduceLT, reduceCtorEq, Nat.reduceLeDiff, Int.reduceToNat, Int.reduceEq, Int.reduceLE, Int.reduceLT, Nat.reduceBEq]); (repeat' first | done | rfl | omega | refine And.intro ?_ ?_ | (simp; done) | (simp; omega)))
  · intro s2 hJ; subst hJ
    try dsimp only at h
    try simp (disch := assumption) only [go_sem, Nat.reduceAdd, Nat.reduceMul, Nat.reduceSub, Nat.reduceEqDiff, ↓reduceIte, Nat.reduceLT, reduceCtorEq, Nat.reduceLeDiff, Int.reduceToNat, Int.reduceEq, Int.reduceLE, Int.reduceLT, Nat.reduceBEq]
    refine Bs_splitC (p56.t19) (by first | rfl | (simp only [beq_iff_eq]; done) | simp) (fun hc3 => ?_) (fun hc3 => ?_)
    · rw [if_pos hc3] at h
      try simp (disch := assumption) only [go_sem, Nat.reduceAdd, Nat.reduceMul, Nat.reduceSub, Nat.reduceEqDiff, ↓reduceIte, Nat.reduceLT, reduceCtorEq, Nat.reduceLeDiff, Int.reduceToNat, Int.reduceEq, Int.reduceLE, Int.reduceLT, Nat.reduceBEq]
      have he := Option.some.inj h
      subst he
      refine ends_weak ⟨[(4, (.pb 0 0)), (5, (.lf false (.sc (.bool false))))], [(0, some (true, .box [(.lf false (.sc (.int .i64 a0.Limit))), (.lf false (.sc (.int .i64 a0.Cool))), (.lf false (.sc (.int .i64 a0.State))), (.lf false (.sc (.int .i64 a0.Fails))), (.lf false (.sc (.int .i64 a0.Opened)))]))], 1, 52⟩ (weak_of (m := 0) [some 2] rfl rfl rfl (by simp [injR]) ?_ ?_) ?_
      all_goals ((try simp (disch := assumption) only [go_sem, Nat.reduceAdd, Nat.reduceMul, Nat.reduceSub, Nat.reduceEqDiff, ↓reduceIte, Nat.reduceLT, reduceCtorEq, Nat.reduceLeDiff, Int.reduceToNat, Int.reduceEq, Int.reduceLE, Int.reduceLT, Nat.reduceBEq]); (repeat' first | done | rfl | omega | refine And.intro ?_ ?_ | (simp; done) | (simp; omega)))
    · rw [if_neg (nt hc3)] at h
      try simp (disch := assumption) only [go_sem, Nat.reduceAdd, Nat.reduceMul, Nat.reduceSub, Nat.reduceEqDiff, ↓reduceIte, Nat.reduceLT, reduceCtorEq, Nat.reduceLeDiff, Int.reduceToNat, Int.reduceEq, Int.reduceLE, Int.reduceLT, Nat.reduceBEq]
      refine Bs_splitC (a1.Fine) (by first | rfl | (simp only [beq_iff_eq]; done) | simp) (fun hc4 => ?_) (fun hc4 => ?_)
      · rw [if_pos hc4] at h
        try simp (disch := assumption) only [go_sem, Nat.reduceAdd, Nat.reduceMul, Nat.reduceSub, Nat.reduceEqDiff, ↓reduceIte, Nat.reduceLT, reduceCtorEq, Nat.reduceLeDiff, Int.reduceToNat, Int.reduceEq, Int.reduceLE, Int.reduceLT, Nat.reduceBEq]
        have he := Option.some.inj h
        subst he
        refine ends_weak ⟨[(4, (.pb 0 0)), (5, (.lf false (.sc (.bool true))))], [(0, some (true, .box [(.lf false (.sc (.int .i64 a0.Limit))), (.lf false (.sc (.int .i64 a0.Cool))), (.lf false (.sc (.int .i64 0))), (.lf false (.sc (.int .i64 0))), (.lf false (.sc (.int .i64 0)))]))], 1, 52⟩ (weak_of (m := 0) [some 2] rfl rfl rfl (by simp [injR]) ?_ ?_) ?_
        all_goals ((try simp (disch := assumption) only [go_sem, Nat.reduceAdd, Nat.reduceMul, Nat.reduceSub, Nat.reduceEqDiff, ↓reduceIte, Nat.reduceLT, reduceCtorEq, Nat.reduceLeDiff, Int.reduceToNat, Int.reduceEq, Int.reduceLE, Int.reduceLT, Nat.reduceBEq]); (repeat' first | done | rfl | omega | refine And.intro ?_ ?_ | (simp; done) | (simp; omega)))
      · rw [if_neg (nt hc4)] at h
        try simp (disch := assumption) only [go_sem, Nat.reduceAdd, Nat.reduceMul, Nat.reduceSub, Nat.reduceEqDiff, ↓reduceIte, Nat.reduceLT, reduceCtorEq, Nat.reduceLeDiff, Int.reduceToNat, Int.reduceEq, Int.reduceLE, Int.reduceLT, Nat.reduceBEq]
        refine Bs_splitC ((a0.State != 0)) (by first | rfl | (simp only [beq_iff_eq]; done) | simp) (fun hc5 => ?_) (fun hc5 => ?_)
        · rw [if_pos hc5] at h
          try simp (disch := assumption) only [go_sem, Nat.reduceAdd, Nat.reduceMul, Nat.reduceSub, Nat.reduceEqDiff, ↓reduceIte, Nat.reduceLT, reduceCtorEq, Nat.reduceLeDiff, Int.reduceToNat, Int.reduceEq, Int.reduceLE, Int.reduceLT, Nat.reduceBEq]
          have he := Option.some.inj h
          subst he
          refine ends_weak ⟨[(4, (.pb 0 0)), (5, (.lf false (.sc (.bool true))))], [(0, some (true, .box [(.lf false (.sc (.int .i64 a0.Limit))), (.lf false (.sc (.int .i64 a0.Cool))), (.lf false (.sc (.int .i64 1))), (.lf false (.sc (.int .i64 a0.Fails))), (.lf false (.sc (.int .i64 a1.Now)))]))], 1, 52⟩ (weak_of (m := 0) [some 2] rfl rfl rfl (by simp [injR]) ?_ ?_) ?_
          all_goals ((try simp (disch := assumption) only [go_sem, Nat.reduceAdd, Nat.reduceMul, Nat.reduceSub, Nat.reduceEqDiff, ↓reduceIte, Nat.reduceLT, reduceCtorEq, Nat.reduceLeDiff, Int.reduceToNat, Int.reduceEq, Int.reduceLE, Int.reduceLT, Nat.reduceBEq]); (repeat' first | done | rfl | omega | refine And.intro ?_ ?_ | (simp; done) | (simp; omega)))
        · rw [if_neg (nt hc5)] at h
          try simp (disch := assumption) only [go_sem, Nat.reduceAdd, Nat.reduceMul, Nat.reduceSub, Nat.reduceEqDiff, ↓reduceIte, Nat.reduceLT, reduceCtorEq, Nat.reduceLeDiff, Int.reduceToNat, Int.reduceEq, Int.reduceLE, Int.reduceLT, Nat.reduceBEq]
          refine Bs_splitC (((wI (a0.Fails + 1)) == a0.Limit)) (by first | rfl | (simp only [beq_iff_eq]; done) | simp) (fun hc6 => ?_) (fun hc6 => ?_)
          · rw [if_pos hc6] at h
            try simp (disch := assumption) only [go_sem, Nat.reduceAdd, Nat.reduceMul, Nat.reduceSub, Nat.reduceEqDiff, ↓reduceIte, Nat.reduceLT, reduceCtorEq, Nat.reduceLeDiff, Int.reduceToNat, Int.reduceEq, Int.reduceLE, Int.reduceLT, Nat.reduceBEq]
            have he := Option.some.inj h
            subst he
            refine ends_weak ⟨[(4, (.pb 0 0)), (5, (.lf false (.sc (.bool true))))], [(0, some (true, .box [(.lf false (.sc (.int .i64 a0.Limit))), (.lf false (.sc (.int .i64 a0.Cool))), (.lf false (.sc (.int .i64 1))), (.lf false (.sc (.int .i64 (wI (a0.Fails + 1))))), (.lf false (.sc (.int .i64 a1.Now)))]))], 1, 52⟩ (weak_of (m := 0) [some 2] rfl rfl rfl (by simp [injR]) ?_ ?_) ?_
            all_goals ((try simp (disch := assumption) only [go_sem, Nat.reduceAdd, Nat.reduceMul, Nat.reduceSub, Nat.reduceEqDiff, ↓reduceIte, Nat.reduceLT, reduceCtorEq, Nat.reduceLeDiff, Int.reduceToNat, Int.reduceEq, Int.reduceLE, Int.reduceLT, Nat.reduceBEq]); (repeat' first | done | rfl | omega | refine And.intro ?_ ?_ | (simp; done) | (simp; omega)))
          · rw [if_neg (nt hc6)] at h
            try simp (disch := assumption) only [go_sem, Nat.reduceAdd, Nat.reduceMul, Nat.reduceSub, Nat.reduceEqDiff, ↓reduceIte, Nat.reduceLT, reduceCtorEq, Nat.reduceLeDiff, Int.reduceToNat, Int.reduceEq, Int.reduceLE, Int.reduceLT, Nat.reduceBEq]
            have he := Option.some.inj h
            subst he
            refine ends_weak ⟨[(4, (.pb 0 0)), (5, (.lf false (.sc (.bool true))))], [(0, some (true, .box [(.lf false (.sc (.int .i64 a0.Limit))), (.lf false (.sc (.int .i64 a0.Cool))), (.lf false (.sc (.int .i64 a0.State))), (.lf false (.sc (.int .i64 (wI (a0.Fails + 1))))), (.lf false (.sc (.int .i64 a0.Opened)))]))], 1, 52⟩ (weak_of (m := 0) [some 2] rfl rfl rfl (by simp [injR]) ?_ ?_) ?_
            all_goals ((try simp (disch := assumption) only [go_sem, Nat.reduceAdd, Nat.reduceMul, Nat.reduceSub, Nat.reduceEqDiff, ↓reduceIte, Nat.reduceLT, reduceCtorEq, Nat.reduceLeDiff, Int.reduceToNat, Int.reduceEq, Int.reduceLE, Int.reduceLT, Nat.reduceBEq]); (repeat' first | done | rfl | omega | refine And.intro ?_ ?_ | (simp; done) | (simp; omega)))
theorem w_spec_PlayBreaker {a0 : Int} {a1 : Int} {a2 : (List CallT)} {r : (BreakerT × (List Bool) × Bool)} (h : spec_PlayBreaker a0 a1 a2 = some r) : Fn Try.prog 39 [(.lf false (.sc (.int .i64 a0))), (.lf false (.sc (.int .i64 a1))), (.lf true (.sl (a2.map eCall)))] [] 0 (.tu [(.ag [(.lf false (.sc (.int .i64 r.1.Limit))), (.lf false (.sc (.int .i64 r.1.Cool))), (.lf false (.sc (.int .i64 r.1.State))), (.lf false (.sc (.int .i64 r.1.Fails))), (.lf false (.sc (.int .i64 r.1.Opened)))]), (.os 0 1 0 r.2.1.length r.2.1.length false), (.lf false (.sc (.bool r.2.2)))]) [(0, some (true, .arr false 1 (r.2.1.map eB)))] 2 := by
  unfold spec_PlayBreaker at h
  refine fn_code tab_ok mixed [(1000, [(0, 0), (1, 0), (2, 0), (6, 0)]), (1001, [(2, 0), (6, 0), (9, 0), (10, 0)]), (1002, [(2, 0), (6, 0), (9, 0), (28, 0)]), (1003, [(6, 0), (7, 0), (8, 0)]), (1004, [(2, 0), (6, 0), (9, 0), (11, 0)]), (1005, [(2, 0), (6, 0), (9, 0), (11, 0), (30, 0), (31, 0), (32, 0)]), (1006, [(2, 0), (6, 0), (9, 0), (11, 0), (30, 0), (31, 0), (32, 0), (33, 0)]), (1007, [(2, 0), (6, 0), (9, 0), (11, 0), (12, 0), (13, 0), (30, 0), (31, 0), (32, 0)]), (1008, [(2, 0), (6, 0), (9, 0), (11, 0), (13, 0), (30, 0), (31, 0), (32, 0), (55, 0)]), (1009, [(6, 0), (7, 0), (8, 0)]), (1010, [(2, 0), (6, 0), (9, 0), (11, 0), (14, 0), (15, 0), (30, 0), (31, 0), (32, 0)]), (1011, [(2, 0), (6, 0), (9, 0), (11, 0), (15, 0), (30, 0), (31, 0), (32, 0)]), (1012, [(2, 0), (6, 0), (9, 0), (11, 0), (30, 0), (31, 0), (32, 0)]), (1013, [(2, 0), (6, 0), (9, 0), (11, 0), (30, 0), (31, 0), (32, 0)]), (1014, [(6, 0), (7, 0), (8, 0)]), (4002, []), (4008, [])] Try.func39 rfl rfl (by simp [Try.f39]) (by kernel_rfl) ?_
  simp only [Try.f39]
  simp (disch := assumption) only [go_sem, Nat.reduceAdd, Nat.reduceMul, Nat.reduceSub, Nat.reduceEqDiff, ↓reduceIte, Nat.reduceLT, reduceCtorEq, Nat.reduceLeDiff, Int.reduceToNat, Int.reduceEq, Int.reduceLE, Int.reduceLT, Nat.reduceBEq]
  obtain ⟨c51, hr1, h⟩ := bind_ok h
  refine Cl_shown (w_spec_NewBreaker hr1) (by first | rfl | (simp (disch := assumption) only [go_sem, Nat.reduceAdd, Nat.reduceMul, Nat.reduceSub, Nat.reduceEqDiff, ↓reduceIte, Nat.reduceLT, reduceCtorEq, Nat.reduceLeDiff, Int.reduceToNat, Int.reduceEq, Int.reduceLE, Int.reduceLT, Nat.reduceBEq]; first | done | rfl)) (FitAll.refl _) (.inl (by first | rfl | (simp (disch := assumption) only [go_sem, Nat.reduceAdd, Nat.reduceMul, Nat.reduceSub, Nat.reduceEqDiff, ↓reduceIte, Nat.reduceLT, reduceCtorEq, Nat.reduceLeDiff, Int.reduceToNat, Int.reduceEq, Int.reduceLE, Int.reduceLT, Nat.reduceBEq]; done))) ?_
  try simp (disch := assumption) only [go_sem, Nat.reduceAdd, Nat.reduceMul, Nat.reduceSub, Nat.reduceEqDiff, ↓reduceIte, Nat.reduceLT, reduceCtorEq, Nat.reduceLeDiff, Int.reduceToNat, Int.reduceEq, Int.reduceLE, Int.reduceLT, Nat.reduceBEq]
  obtain ⟨p52, hq2, h⟩ := bind_ok h
  refine Sq_cut (fun s2 => s2 = ⟨[(2, (.lf true (.sl (a2.map eCall)))), (6, (.pb 0 0)), (9, (.pb 1 0)), (28, (.lf false (.sc (.bool p52.t28))))], [(0, some (true, .box [(.lf false (.sc (.int .i64 0))), (.lf false (.sc (.int .i64 0))), (.lf false (.sc (.int .i64 0))), (.lf false (.sc (.int .i64 0))), (.lf false (.sc (.int .i64 0)))])), (1, some (true, .box [(.lf false (.sc (.int .i64 c51.1.Limit))), (.lf false (.sc (.int .i64 c51.1.Cool))), (.lf false (.sc (.int .i64 c51.1.State))), (.lf false (.sc (.int .i64 c51.1.Fails))), (.lf false (.sc (.int .i64 c51.1.Opened)))]))], 2, 71⟩) ?_ ?_
  · try simp (disch := assumption) only [go_sem, Nat.reduceAdd, Nat.reduceMul, Nat.reduceSub, Nat.reduceEqDiff, ↓reduceIte, Nat.reduceLT, reduceCtorEq, Nat.reduceLeDiff, Int.reduceToNat, Int.reduceEq, Int.reduceLE, Int.reduceLT, Nat.reduceBEq]
    refine Sp_splitC ((!c51.2)) (by first | rfl | (simp only [beq_iff_eq]; done) | simp) (fun hc3 => ?_) (fun hc3 => ?_)
    · rw [if_pos hc3] at hq2
      try simp (disch := assumption) only [go_sem, Nat.reduceAdd, Nat.reduceMul, Nat.reduceSub, Nat.reduceEqDiff, ↓reduceIte, Nat.reduceLT, reduceCtorEq, Nat.reduceLeDiff, Int.reduceToNat, Int.reduceEq, Int.reduceLE, Int.reduceLT, Nat.reduceBEq]
      cases hq2
      refine X_cut rfl ?_
      refine weak_of (m := 0) [some 0, some 2] rfl rfl rfl (by simp [injR]) ?_ ?_
      all_goals ((try simp (disch := assumption) only [go_sem, Nat.reduceAdd, Nat.reduceMul, Nat.reduceSub, Nat.reduceEqDiff, ↓reduceIte, Nat.reduceLT, reduceCtorEq, Nat.reduceLeDiff, Int.reduceToNat, Int.reduceEq, Int.reduceLE, Int.reduceLT, Nat.reduceBEq]); (repeat' first | done | rfl | omega | refine And.intro ?_ ?_ | (simp; done) | (simp; omega)))
    · rw [if_neg (nt hc3)] at hq2
      try simp (disch := assumption) only [go_sem, Nat.reduceAdd, Nat.reduceMul, Nat.reduceSub, Nat.reduceEqDiff, ↓reduceIte, Nat.reduceLT, reduceCtorEq, Nat.reduceLeDiff, Int.reduceToNat, Int.reduceEq, Int.reduceLE, Int.reduceLT, Nat.reduceBEq]
      cases hq2
      refine X_cut rfl ?_
      refine weak_of (m := 0) [some 0, some 2] rfl rfl rfl (by simp [injR]) ?_ ?_
      all_goals ((try simp (disch := assumption) only [go_sem, Nat.reduceAdd, Nat.reduceMul, Nat.reduceSub, Nat.reduceEqDiff, ↓reduceIte, Nat.reduceLT, reduceCtorEq, Nat.reduceLeDiff, Int.reduceToNat, Int.reduceEq, Int.reduceLE, Int.reduceLT, Nat.reduceBEq]); (repeat' first | done | rfl | omega | refine And.intro ?_ ?_ | (simp; done) | (simp; omega)))
  · intro s2 hJ; subst hJ
    try dsimp only at h
    try simp (disch := assumption) only [go_sem, Nat.reduceAdd, Nat.reduceMul, Nat.reduceSub, Nat.reduceEqDiff, ↓reduceIte, Nat.reduceLT, reduceCtorEq, Nat.reduceLeDiff, Int.reduceToNat, Int.reduceEq, Int.reduceLE, Int.reduceLT, Nat.reduceBEq]
    refine Bs_splitC (p52.t28) (by first | rfl | (simp only [beq_iff_eq]; done) | simp) (fun hc4 => ?_) (fun hc4 => ?_)
    · rw [if_pos hc4] at h
      try simp (disch := assumption) only [go_sem, Nat.reduceAdd, Nat.reduceMul, Nat.reduceSub, Nat.reduceEqDiff, ↓reduceIte, Nat.reduceLT, reduceCtorEq, Nat.reduceLeDiff, Int.reduceToNat, Int.reduceEq, Int.reduceLE, Int.reduceLT, Nat.reduceBEq]
      have he := Option.some.inj h
      subst he
      refine ends_weak ⟨[(6, (.pb 1 0)), (7, (.os 0 1 0 (([] : List Bool).length) (([] : List Bool).length) false)), (8, (.lf false (.sc (.bool false))))], [(0, some (true, .arr false 1 (([] : List Bool).map eB))), (1, some (true, .box [(.lf false (.sc (.int .i64 0))), (.lf false (.sc (.int .i64 0))), (.lf false (.sc (.int .i64 0))), (.lf false (.sc (.int .i64 0))), (.lf false (.sc (.int .i64 0)))]))], 2, 71⟩ (weak_of (m := 0) [none, some 0] rfl rfl rfl (by simp [injR]) ?_ ?_) ?_
      all_goals ((try simp (disch := assumption) only [go_sem, Nat.reduceAdd, Nat.reduceMul, Nat.reduceSub, Nat.reduceEqDiff, ↓reduceIte, Nat.reduceLT, reduceCtorEq, Nat.reduceLeDiff, Int.reduceToNat, Int.reduceEq, Int.reduceLE, Int.reduceLT, Nat.reduceBEq]); (repeat' first | done | rfl | omega | refine And.intro ?_ ?_ | (simp; done) | (simp; omega)))
    · rw [if_neg (nt hc4)] at h
      try simp (disch := assumption) only [go_sem, Nat.reduceAdd, Nat.reduceMul, Nat.reduceSub, Nat.reduceEqDiff, ↓reduceIte, Nat.reduceLT, reduceCtorEq, Nat.reduceLeDiff, Int.reduceToNat, Int.reduceEq, Int.reduceLE, Int.reduceLT, Nat.reduceBEq]
      obtain ⟨y61, hl5, h⟩ := bind_ok h
      refine W_loopP (fun g53 : spec_PlayBreaker_G1 => ⟨[(2, (.lf true (.sl (a2.map eCall)))), (6, (.pb 0 0)), (9, (.pb 1 0)), (11, (.os 2 1 0 g53.c2.length g53.c2.length false)), (30, (.lf true (.sl (a2.map eCall)))), (31, (.lf false (.sc (.int .i64 ((a2.length : Nat) : Int))))), (32, (.lf false (.sc (.int .i64 g53.t32))))], [(0, some (true, .box [(.lf false (.sc (.int .i64 0))), (.lf false (.sc (.int .i64 0))), (.lf false (.sc (.int .i64 0))), (.lf false (.sc (.int .i64 0))), (.lf false (.sc (.int .i64 0)))])), (1, some (true, .box [(.lf false (.sc (.int .i64 g53.b1_0))), (.lf false (.sc (.int .i64 g53.b1_1))), (.lf false (.sc (.int .i64 g53.b1_2))), (.lf false (.sc (.int .i64 g53.b1_3))), (.lf false (.sc (.int .i64 g53.b1_4)))])), (2, some (true, .arr false 1 (g53.c2.map eB)))], 3, 71⟩) (spec_PlayBreaker_L1 a2) _ _ hl5 (weak_of (m := 0) [some 0, some 1, none] rfl rfl rfl (by simp [injR]) ?_ ?_) ?_
      rotate_left 2
      · intro n1 g53 z1 hs1 hk1
        unfold spec_PlayBreaker_L1 at hs1
        try dsimp only at hs1
        simp (disch := assumption) only [go_sem, Nat.reduceAdd, Nat.reduceMul, Nat.reduceSub, Nat.reduceEqDiff, ↓reduceIte, Nat.reduceLT, reduceCtorEq, Nat.reduceLeDiff, Int.reduceToNat, Int.reduceEq, Int.reduceLE, Int.reduceLT, Nat.reduceBEq]
        refine Bs_splitC ((decide (g53.t32 < ((a2.length : Nat) : Int)))) (by first | rfl | (simp only [beq_iff_eq]; done) | simp) (fun hc6 => ?_) (fun hc6 => ?_)
        · rw [if_pos hc6] at hs1
          try simp (disch := assumption) only [go_sem, Nat.reduceAdd, Nat.reduceMul, Nat.reduceSub, Nat.reduceEqDiff, ↓reduceIte, Nat.reduceLT, reduceCtorEq, Nat.reduceLeDiff, Int.reduceToNat, Int.reduceEq, Int.reduceLE, Int.reduceLT, Nat.reduceBEq]
          obtain ⟨hp7, hs1⟩ := guard_some hs1
          have hn7 : g53.t32.toNat < a2.length := by first | omega | (simp only [List.length_set, List.length_append, List.length_replicate, List.length_map]; omega)
          try simp (disch := assumption) only [go_sem, Nat.reduceAdd, Nat.reduceMul, Nat.reduceSub, Nat.reduceEqDiff, ↓reduceIte, Nat.reduceLT, reduceCtorEq, Nat.reduceLeDiff, Int.reduceToNat, Int.reduceEq, Int.reduceLE, Int.reduceLT, Nat.reduceBEq]
          first | refine And.intro (by first | omega | exact ⟨by omega, fun _ => mapLen fun _ => rfl⟩ | (refine ⟨by omega, ?_, by omega⟩; first | exact mapLen fun _ => rfl | simp) | (refine ⟨?_, by omega⟩; first | exact mapLen fun _ => rfl | simp)) ?_ | skip
          obtain ⟨p59, hq8, hs1⟩ := bind_ok hs1
          refine Sq_cut (fun s2 => s2 = ⟨[(2, (.lf true (.sl (a2.map eCall)))), (6, (.pb 0 0)), (9, (.pb 1 0)), (11, (.os 2 1 0 g53.c2.length g53.c2.length false)), (13, (.pb 3 0)), (30, (.lf true (.sl (a2.map eCall)))), (31, (.lf false (.sc (.int .i64 ((a2.length : Nat) : Int))))), (32, (.lf false (.sc (.int .i64 g53.t32)))), (55, (.lf false (.sc (.bool p59.t55))))], [(0, some (true, .box [(.lf false (.sc (.int .i64 0))), (.lf false (.sc (.int .i64 0))), (.lf false (.sc (.int .i64 0))), (.lf false (.sc (.int .i64 0))), (.lf false (.sc (.int .i64 0)))])), (1, some (true, .box [(.lf false (.sc (.int .i64 g53.b1_0))), (.lf false (.sc (.int .i64 g53.b1_1))), (.lf false (.sc (.int .i64 g53.b1_2))), (.lf false (.sc (.int .i64 g53.b1_3))), (.lf false (.sc (.int .i64 g53.b1_4)))])), (2, some (true, .arr false 1 (g53.c2.map eB))), (3, some (true, .box [(.lf false (.sc (.int .i64 ((nth a2 g53.t32.toNat).Now)))), (.lf false (.sc (.bool ((nth a2 g53.t32.toNat).Fine))))]))], 4, 71⟩) ?_ ?_
          · try simp (disch := assumption) only [go_sem, Nat.reduceAdd, Nat.reduceMul, Nat.reduceSub, Nat.reduceEqDiff, ↓reduceIte, Nat.reduceLT, reduceCtorEq, Nat.reduceLeDiff, Int.reduceToNat, Int.reduceEq, Int.reduceLE, Int.reduceLT, Nat.reduceBEq]
            obtain ⟨c58, hr9, hq8⟩ := bind_ok hq8
            refine Cl_shown (w_spec_l1In hr9) (by first | rfl | (simp (disch := assumption) only [go_sem, Nat.reduceAdd, Nat.reduceMul, Nat.reduceSub, Nat.reduceEqDiff, ↓reduceIte, Nat.reduceLT, reduceCtorEq, Nat.reduceLeDiff, Int.reduceToNat, Int.reduceEq, Int.reduceLE, Int.reduceLT, Nat.reduceBEq]; first | done | rfl)) (FitAll.refl _) (.inl (by first | rfl | (simp (disch := assumption) only [go_sem, Nat.reduceAdd, Nat.reduceMul, Nat.reduceSub, Nat.reduceEqDiff, ↓reduceIte, Nat.reduceLT, reduceCtorEq, Nat.reduceLeDiff, Int.reduceToNat, Int.reduceEq, Int.reduceLE, Int.reduceLT, Nat.reduceBEq]; done))) ?_
            try simp (disch := assumption) only [go_sem, Nat.reduceAdd, Nat.reduceMul, Nat.reduceSub, Nat.reduceEqDiff, ↓reduceIte, Nat.reduceLT, reduceCtorEq, Nat.reduceLeDiff, Int.reduceToNat, Int.reduceEq, Int.reduceLE, Int.reduceLT, Nat.reduceBEq]
            refine Sp_splitC ((!c58)) (by first | rfl | (simp only [beq_iff_eq]; done) | simp) (fun hc10 => ?_) (fun hc10 => ?_)
            · rw [if_pos hc10] at hq8
              try simp (disch := assumption) only [go_sem, Nat.reduceAdd, Nat.reduceMul, Nat.reduceSub, Nat.reduceEqDiff, ↓reduceIte, Nat.reduceLT, reduceCtorEq, Nat.reduceLeDiff, Int.reduceToNat, Int.reduceEq, Int.reduceLE, Int.reduceLT, Nat.reduceBEq]
              cases hq8
              refine X_cut rfl ?_
              refine weak_of (m := 0) [some 0, some 1, some 2, some 3] rfl rfl rfl (by simp [injR]) ?_ ?_
              all_goals ((try simp (disch := assumption) only [go_sem, Nat.reduceAdd, Nat.reduceMul, Nat.reduceSub, Nat.reduceEqDiff, ↓reduceIte, Nat.reduceLT, reduceCtorEq, Nat.reduceLeDiff, Int.reduceToNat, Int.reduceEq, Int.reduceLE, Int.reduceLT, Nat.reduceBEq]); (repeat' first | done | rfl | omega | refine And.intro ?_ ?_ | (simp; done) | (simp; omega)))
            · rw [if_neg (nt hc10)] at hq8
              try simp (disch := assumption) only [go_sem, Nat.reduceAdd, Nat.reduceMul, Nat.reduceSub, Nat.reduceEqDiff, ↓reduceIte, Nat.reduceLT, reduceCtorEq, Nat.reduceLeDiff, Int.reduceToNat, Int.reduceEq, Int.reduceLE, Int.reduceLT, Nat.reduceBEq]
              refine Sp_splitC ((decide (g53.t32 > 0))) (by first | rfl | (simp only [beq_iff_eq]; done) | simp) (fun hc11 => ?_) (fun hc11 => ?_)
              · rw [if_pos hc11] at hq8
                try simp (disch := assumption) only [go_sem, Nat.reduceAdd, Nat.reduceMul, Nat.reduceSub, Nat.reduceEqDiff, ↓reduceIte, Nat.reduceLT, reduceCtorEq, Nat.reduceLeDiff, Int.reduceToNat, Int.reduceEq, Int.reduceLE, Int.reduceLT, Nat.reduceBEq]
                obtain ⟨hp12, hq8⟩ := guard_some hq8
                have hn12 : (wI (g53.t32 - 1)).toNat < a2.length := by first | omega | (simp only [List.length_set, List.length_append, List.length_replicate, List.length_map]; omega)
                try simp (disch := assumption) only [go_sem, Nat.reduceAdd, Nat.reduceMul, Nat.reduceSub, Nat.reduceEqDiff, ↓reduceIte, Nat.reduceLT, reduceCtorEq, Nat.reduceLeDiff, Int.reduceToNat, Int.reduceEq, Int.reduceLE, Int.reduceLT, Nat.reduceBEq]
                first | refine And.intro (by first | omega | exact ⟨by omega, fun _ => mapLen fun _ => rfl⟩ | (refine ⟨by omega, ?_, by omega⟩; first | exact mapLen fun _ => rfl | simp) | (refine ⟨?_, by omega⟩; first | exact mapLen fun _ => rfl | simp)) ?_ | skip
                cases hq8
                refine X_cut rfl ?_
                refine weak_of (m := 0) [some 0, some 1, some 2, some 3] rfl rfl rfl (by simp [injR]) ?_ ?_
                all_goals ((try simp (disch := assumption) only [go_sem, Nat.reduceAdd, Nat.reduceMul, Nat.reduceSub, Nat.reduceEqDiff, ↓reduceIte, Nat.reduceLT, reduceCtorEq, Nat.reduceLeDiff, Int.reduceToNat, Int.reduceEq, Int.reduceLE, Int.reduceLT, Nat.reduceBEq]); (repeat' first | done | rfl | omega | refine And.intro ?_ ?_ | (simp; done) | (simp; omega)))
              · rw [if_neg (nt hc11)] at hq8
                try simp (disch := assumption) only [go_sem, Nat.reduceAdd, Nat.reduceMul, Nat.reduceSub, Nat.reduceEqDiff, ↓reduceIte, Nat.reduceLT, reduceCtorEq, Nat.reduceLeDiff, Int.reduceToNat, Int.reduceEq, Int.reduceLE, Int.reduceLT, Nat.reduceBEq]
                cases hq8
                refine X_cut rfl ?_
                refine weak_of (m := 0) [some 0, some 1, some 2, some 3] rfl rfl rfl (by simp [injR]) ?_ ?_
                all_goals ((try simp (disch := assumption) only [go_sem, Nat.reduceAdd, Nat.reduceMul, Nat.reduceSub, Nat.reduceEqDiff, ↓reduceIte, Nat.reduceLT, reduceCtorEq, Nat.reduceLeDiff, Int.reduceToNat, Int.reduceEq, Int.reduceLE, Int.reduceLT, Nat.reduceBEq]); (repeat' first | done | rfl | omega | refine And.intro ?_ ?_ | (simp; done) | (simp; omega)))
          · intro s2 hJ; subst hJ
            try dsimp only at hs1
            try simp (disch := assumption) only [go_sem, Nat.reduceAdd, Nat.reduceMul, Nat.reduceSub, Nat.reduceEqDiff, ↓reduceIte, Nat.reduceLT, reduceCtorEq, Nat.reduceLeDiff, Int.reduceToNat, Int.reduceEq, Int.reduceLE, Int.reduceLT, Nat.reduceBEq]
            refine Bs_splitC (p59.t55) (by first | rfl | (simp only [beq_iff_eq]; done) | simp) (fun hc13 => ?_) (fun hc13 => ?_)
            · rw [if_pos hc13] at hs1
              try simp (disch := assumption) only [go_sem, Nat.reduceAdd, Nat.reduceMul, Nat.reduceSub, Nat.reduceEqDiff, ↓reduceIte, Nat.reduceLT, reduceCtorEq, Nat.reduceLeDiff, Int.reduceToNat, Int.reduceEq, Int.reduceLE, Int.reduceLT, Nat.reduceBEq]
              cases hs1
              cases hk1
              try dsimp only at h
              try simp (disch := assumption) only [go_sem, Nat.reduceAdd, Nat.reduceMul, Nat.reduceSub, Nat.reduceEqDiff, ↓reduceIte, Nat.reduceLT, reduceCtorEq, Nat.reduceLeDiff, Int.reduceToNat, Int.reduceEq, Int.reduceLE, Int.reduceLT, Nat.reduceBEq]
              have he := Option.some.inj h
              subst he
              refine ends_weak ⟨[(6, (.pb 1 0)), (7, (.os 0 1 0 (([] : List Bool).length) (([] : List Bool).length) false)), (8, (.lf false (.sc (.bool false))))], [(0, some (true, .arr false 1 (([] : List Bool).map eB))), (1, some (true, .box [(.lf false (.sc (.int .i64 0))), (.lf false (.sc (.int .i64 0))), (.lf false (.sc (.int .i64 0))), (.lf false (.sc (.int .i64 0))), (.lf false (.sc (.int .i64 0)))]))], 2, 71⟩ (weak_of (m := 0) [none, some 0] rfl rfl rfl (by simp [injR]) ?_ ?_) ?_
              all_goals ((try simp (disch := assumption) only [go_sem, Nat.reduceAdd, Nat.reduceMul, Nat.reduceSub, Nat.reduceEqDiff, ↓reduceIte, Nat.reduceLT, reduceCtorEq, Nat.reduceLeDiff, Int.reduceToNat, Int.reduceEq, Int.reduceLE, Int.reduceLT, Nat.reduceBEq]); (repeat' first | done | rfl | omega | refine And.intro ?_ ?_ | (simp; done) | (simp; omega)))
            · rw [if_neg (nt hc13)] at hs1
              try simp (disch := assumption) only [go_sem, Nat.reduceAdd, Nat.reduceMul, Nat.reduceSub, Nat.reduceEqDiff, ↓reduceIte, Nat.reduceLT, reduceCtorEq, Nat.reduceLeDiff, Int.reduceToNat, Int.reduceEq, Int.reduceLE, Int.reduceLT, Nat.reduceBEq]
              obtain ⟨c60, hr14, hs1⟩ := bind_ok hs1
              refine Cl_shown (w_spec_l10Call hr14) (by first | rfl | (simp (disch := assumption) only [go_sem, Nat.reduceAdd, Nat.reduceMul, Nat.reduceSub, Nat.reduceEqDiff, ↓reduceIte, Nat.reduceLT, reduceCtorEq, Nat.reduceLeDiff, Int.reduceToNat, Int.reduceEq, Int.reduceLE, Int.reduceLT, Nat.reduceBEq]; first | done | rfl)) (FitAll.refl _) (.inl (by first | rfl | (simp (disch := assumption) only [go_sem, Nat.reduceAdd, Nat.reduceMul, Nat.reduceSub, Nat.reduceEqDiff, ↓reduceIte, Nat.reduceLT, reduceCtorEq, Nat.reduceLeDiff, Int.reduceToNat, Int.reduceEq, Int.reduceLE, Int.reduceLT, Nat.reduceBEq]; done))) ?_
              try simp (disch := assumption) only [go_sem, Nat.reduceAdd, Nat.reduceMul, Nat.reduceSub, Nat.reduceEqDiff, ↓reduceIte, Nat.reduceLT, reduceCtorEq, Nat.reduceLeDiff, Int.reduceToNat, Int.reduceEq, Int.reduceLE, Int.reduceLT, Nat.reduceBEq]
              obtain ⟨hp15, hs1⟩ := guard_some hs1
              try simp (disch := assumption) only [go_sem, Nat.reduceAdd, Nat.reduceMul, Nat.reduceSub, Nat.reduceEqDiff, ↓reduceIte, Nat.reduceLT, reduceCtorEq, Nat.reduceLeDiff, Int.reduceToNat, Int.reduceEq, Int.reduceLE, Int.reduceLT, Nat.reduceBEq]
              first | refine And.intro (by first | omega | exact ⟨by omega, fun _ => mapLen fun _ => rfl⟩ | (refine ⟨by omega, ?_, by omega⟩; first | exact mapLen fun _ => rfl | simp) | (refine ⟨?_, by omega⟩; first | exact mapLen fun _ => rfl | simp)) ?_ | skip
              cases hs1
              refine X_backP hk1 ?_
              refine weak_of (m := 0) [some 0, some 1, some 7] rfl rfl rfl (by simp [injR]) ?_ ?_
              all_goals ((try simp (disch := assumption) only [go_sem, Nat.reduceAdd, Nat.reduceMul, Nat.reduceSub, Nat.reduceEqDiff, ↓reduceIte, Nat.reduceLT, reduceCtorEq, Nat.reduceLeDiff, Int.reduceToNat, Int.reduceEq, Int.reduceLE, Int.reduceLT, Nat.reduceBEq]); (repeat' first | done | rfl | omega | refine And.intro ?_ ?_ | (simp; done) | (simp; omega)))
        · rw [if_neg (nt hc6)] at hs1
          try simp (disch := assumption) only [go_sem, Nat.reduceAdd, Nat.reduceMul, Nat.reduceSub, Nat.reduceEqDiff, ↓reduceIte, Nat.reduceLT, reduceCtorEq, Nat.reduceLeDiff, Int.reduceToNat, Int.reduceEq, Int.reduceLE, Int.reduceLT, Nat.reduceBEq]
          cases hs1
          cases hk1
          try dsimp only at h
          try simp (disch := assumption) only [go_sem, Nat.reduceAdd, Nat.reduceMul, Nat.reduceSub, Nat.reduceEqDiff, ↓reduceIte, Nat.reduceLT, reduceCtorEq, Nat.reduceLeDiff, Int.reduceToNat, Int.reduceEq, Int.reduceLE, Int.reduceLT, Nat.reduceBEq]
          have he := Option.some.inj h
          subst he
          refine ends_weak ⟨[(6, (.pb 1 0)), (7, (.os 0 1 0 g53.c2.length g53.c2.length false)), (8, (.lf false (.sc (.bool true))))], [(0, some (true, .arr false 1 (g53.c2.map eB))), (1, some (true, .box [(.lf false (.sc (.int .i64 g53.b1_0))), (.lf false (.sc (.int .i64 g53.b1_1))), (.lf false (.sc (.int .i64 g53.b1_2))), (.lf false (.sc (.int .i64 g53.b1_3))), (.lf false (.sc (.int .i64 g53.b1_4)))]))], 2, 71⟩ (weak_of (m := 0) [some 2, some 0] rfl rfl rfl (by simp [injR]) ?_ ?_) ?_
          all_goals ((try simp (disch := assumption) only [go_sem, Nat.reduceAdd, Nat.reduceMul, Nat.reduceSub, Nat.reduceEqDiff, ↓reduceIte, Nat.reduceLT, reduceCtorEq, Nat.reduceLeDiff, Int.reduceToNat, Int.reduceEq, Int.reduceLE, Int.reduceLT, Nat.reduceBEq]); (repeat' first | done | rfl | omega | refine And.intro ?_ ?_ | (simp; done) | (simp; omega)))
      all_goals ((try simp (disch := assumption) only [go_sem, Nat.reduceAdd, Nat.reduceMul, Nat.reduceSub, Nat.reduceEqDiff, ↓reduceIte, Nat.reduceLT, reduceCtorEq, Nat.reduceLeDiff, Int.reduceToNat, Int.reduceEq, Int.reduceLE, Int.reduceLT, Nat.reduceBEq]); (repeat' first | done | rfl | omega | refine And.intro ?_ ?_ | (simp; done) | (simp; omega)))
theorem w_laws_sameBools {a0 : (List Bool)} {a1 : (List Bool)} {r : Bool} (h : laws_sameBools a0 a1 = some r) : Fn Try.prog 52 [(.lf true (.sl (a0.map eB))), (.lf true (.sl (a1.map eB)))] [] 0 (.lf false (.sc (.bool r))) [] 0 := by
  unfold laws_sameBools at h
  refine fn_code tab_ok mixed [(1000, [(0, 0), (1, 0)]), (1001, [(0, 0), (1, 0), (10, 0)]), (1002, [(4, 0)]), (1003, [(0, 0), (1, 0), (12, 0), (13, 0)]), (1004, [(0, 0), (1, 0), (12, 0), (13, 0), (14, 0)]), (1005, [(0, 0), (1, 0), (5, 0), (12, 0), (13, 0)]), (1006, [(0, 0), (1, 0), (12, 0), (13, 0), (24, 0)]), (1007, [(4, 0)]), (1008, [(0, 0), (1, 0), (12, 0), (13, 0)]), (1009, [(4, 0)])] Try.func52 rfl rfl (by simp [Try.f52]) (by kernel_rfl) ?_
  simp only [Try.f52]
  simp (disch := assumption) only [go_sem, Nat.reduceAdd, Nat.reduceMul, Nat.reduceSub, Nat.reduceEqDiff, ↓reduceIte, Nat.reduceLT, reduceCtorEq, Nat.reduceLeDiff, Int.reduceToNat, Int.reduceEq, Int.reduceLE, Int.reduceLT, Nat.reduceBEq]
  refine Bs_splitC ((((a0.length : Nat) : Int) != ((a1.length : Nat) : Int))) (by first | rfl | (simp only [beq_iff_eq]; done) | simp) (fun hc1 => ?_) (fun hc1 => ?_)
  · rw [if_pos hc1] at h
    try simp (disch := assumption) only [go_sem, Nat.reduceAdd, Nat.reduceMul, Nat.reduceSub, Nat.reduceEqDiff, ↓reduceIte, Nat.reduceLT, reduceCtorEq, Nat.reduceLeDiff, Int.reduceToNat, Int.reduceEq, Int.reduceLE, Int.reduceLT, Nat.reduceBEq]
    have he := Option.some.inj h
    subst he
    refine ends_weak ⟨[(4, (.lf false (.sc (.bool false))))], [], 0, 26⟩ (weak_of (m := 0) [] rfl rfl rfl (by simp [injR]) ?_ ?_) ?_
    all_goals ((try simp (disch := assumption) only [go_sem, Nat.reduceAdd, Nat.reduceMul, Nat.reduceSub, Nat.reduceEqDiff, ↓reduceIte, Nat.reduceLT, reduceCtorEq, Nat.reduceLeDiff, Int.reduceToNat, Int.reduceEq, Int.reduceLE, Int.reduceLT, Nat.reduceBEq]); (repeat' first | done | rfl | omega | refine And.intro ?_ ?_ | (simp; done) | (simp; omega)))
  · rw [if_neg (nt hc1)] at h
    try simp (disch := assumption) only [go_sem, Nat.reduceAdd, Nat.reduceMul, Nat.reduceSub, Nat.reduceEqDiff, ↓reduceIte, Nat.reduceLT, reduceCtorEq, Nat.reduceLeDiff, Int.reduceToNat, Int.reduceEq, Int.reduceLE, Int.reduceLT, Nat.reduceBEq]
    obtain ⟨y66, hl2, h⟩ := bind_ok h
    refine W_loopP (fun g65 : laws_sameBools_G1 => ⟨[(0, (.lf true (.sl (a0.map eB)))), (1, (.lf true (.sl (a1.map eB)))), (12, (.lf false (.sc (.int .i64 ((a0.length : Nat) : Int))))), (13, (.lf false (.sc (.int .i64 g65.t13))))], [], 0, 26⟩) (laws_sameBools_L1 a0 a1) _ _ hl2 (weak_of (m := 0) [] rfl rfl rfl (by simp [injR]) ?_ ?_) ?_
    rotate_left 2
    · intro n1 g65 z1 hs1 hk1
      unfold laws_sameBools_L1 at hs1
      try dsimp only at hs1
      simp (disch := assumption) only [go_sem, Nat.reduceAdd, Nat.reduceMul, Nat.reduceSub, Nat.reduceEqDiff, ↓reduceIte, Nat.reduceLT, reduceCtorEq, Nat.reduceLeDiff, Int.reduceToNat, Int.reduceEq, Int.reduceLE, Int.reduceLT, Nat.reduceBEq]
      refine Bs_splitC ((decide (g65.t13 < ((a0.length : Nat) : Int)))) (by first | rfl | (simp only [beq_iff_eq]; done) | simp) (fun hc3 => ?_) (fun hc3 => ?_)
      · rw [if_pos hc3] at hs1
        try simp (disch := assumption) only [go_sem, Nat.reduceAdd, Nat.reduceMul, Nat.reduceSub, Nat.reduceEqDiff, ↓reduceIte, Nat.reduceLT, reduceCtorEq, Nat.reduceLeDiff, Int.reduceToNat, Int.reduceEq, Int.reduceLE, Int.reduceLT, Nat.reduceBEq]
        obtain ⟨hp4, hs1⟩ := guard_some hs1
        have hn4 : g65.t13.toNat < a0.length := by first | omega | (simp only [List.length_set, List.length_append, List.length_replicate, List.length_map]; omega)
        try simp (disch := assumption) only [go_sem, Nat.reduceAdd, Nat.reduceMul, Nat.reduceSub, Nat.reduceEqDiff, ↓reduceIte, Nat.reduceLT, reduceCtorEq, Nat.reduceLeDiff, Int.reduceToNat, Int.reduceEq, Int.reduceLE, Int.reduceLT, Nat.reduceBEq]
        first | refine And.intro (by first | omega | exact ⟨by omega, fun _ => mapLen fun _ => rfl⟩ | (refine ⟨by omega, ?_, by omega⟩; first | exact mapLen fun _ => rfl | simp) | (refine ⟨?_, by omega⟩; first | exact mapLen fun _ => rfl | simp)) ?_ | skip
        obtain ⟨hp5, hs1⟩ := guard_some hs1
        have hn5 : g65.t13.toNat < a1.length := by first | omega | (simp only [List.length_set, List.length_append, List.length_replicate, List.length_map]; omega)
        try simp (disch := assumption) only [go_sem, Nat.reduceAdd, Nat.reduceMul, Nat.reduceSub, Nat.reduceEqDiff, ↓reduceIte, Nat.reduceLT, reduceCtorEq, Nat.reduceLeDiff, Int.reduceToNat, Int.reduceEq, Int.reduceLE, Int.reduceLT, Nat.reduceBEq]
        first | refine And.intro (by first | omega | exact ⟨by omega, fun _ => mapLen fun _ => rfl⟩ | (refine ⟨by omega, ?_, by omega⟩; first | exact mapLen fun _ => rfl | simp) | (refine ⟨?_, by omega⟩; first | exact mapLen fun _ => rfl | simp)) ?_ | skip
        refine Bs_splitC ((!((nth a0 g65.t13.toNat) == (nth a1 g65.t13.toNat)))) (by first | rfl | (simp only [beq_iff_eq]; done) | simp) (fun hc6 => ?_) (fun hc6 => ?_)
        · rw [if_pos hc6] at hs1
          try simp (disch := assumption) only [go_sem, Nat.reduceAdd, Nat.reduceMul, Nat.reduceSub, Nat.reduceEqDiff, ↓reduceIte, Nat.reduceLT, reduceCtorEq, Nat.reduceLeDiff, Int.reduceToNat, Int.reduceEq, Int.reduceLE, Int.reduceLT, Nat.reduceBEq]
          cases hs1
          cases hk1
          try dsimp only at h
          try simp (disch := assumption) only [go_sem, Nat.reduceAdd, Nat.reduceMul, Nat.reduceSub, Nat.reduceEqDiff, ↓reduceIte, Nat.reduceLT, reduceCtorEq, Nat.reduceLeDiff, Int.reduceToNat, Int.reduceEq, Int.reduceLE, Int.reduceLT, Nat.reduceBEq]
          have he := Option.some.inj h
          subst he
          refine ends_weak ⟨[(4, (.lf false (.sc (.bool false))))], [], 0, 26⟩ (weak_of (m := 0) [] rfl rfl rfl (by simp [injR]) ?_ ?_) ?_
          all_goals ((try simp (disch := assumption) only [go_sem, Nat.reduceAdd, Nat.reduceMul, Nat.reduceSub, Nat.reduceEqDiff, ↓reduceIte, Nat.reduceLT, reduceCtorEq, Nat.reduceLeDiff, Int.reduceToNat, Int.reduceEq, Int.reduceLE, Int.reduceLT, Nat.reduceBEq]); (repeat' first | done | rfl | omega | refine And.intro ?_ ?_ | (simp; done) | (simp; omega)))
        · rw [if_neg (nt hc6)] at hs1
          try simp (disch := assumption) only [go_sem, Nat.reduceAdd, Nat.reduceMul, Nat.reduceSub, Nat.reduceEqDiff, ↓reduceIte, Nat.reduceLT, reduceCtorEq, Nat.reduceLeDiff, Int.reduceToNat, Int.reduceEq, Int.reduceLE, Int.reduceLT, Nat.reduceBEq]
          cases hs1
          refine X_backP hk1 ?_
          refine weak_of (m := 0) [] rfl rfl rfl (by simp [injR]) ?_ ?_
          all_goals ((try simp (disch := assumption) only [go_sem, Nat.reduceAdd, Nat.reduceMul, Nat.reduceSub, Nat.reduceEqDiff, ↓reduceIte, Nat.reduceLT, reduceCtorEq, Nat.reduceLeDiff, Int.reduceToNat, Int.reduceEq, Int.reduceLE, Int.reduceLT, Nat.reduceBEq]); (repeat' first | done | rfl | omega | refine And.intro ?_ ?_ | (simp; done) | (simp; omega)))
      · rw [if_neg (nt hc3)] at hs1
        try simp (disch := assumption) only [go_sem, Nat.reduceAdd, Nat.reduceMul, Nat.reduceSub, Nat.reduceEqDiff, ↓reduceIte, Nat.reduceLT, reduceCtorEq, Nat.reduceLeDiff, Int.reduceToNat, Int.reduceEq, Int.reduceLE, Int.reduceLT, Nat.reduceBEq]
        cases hs1
        cases hk1
        try dsimp only at h
        try simp (disch := assumption) only [go_sem, Nat.reduceAdd, Nat.reduceMul, Nat.reduceSub, Nat.reduceEqDiff, ↓reduceIte, Nat.reduceLT, reduceCtorEq, Nat.reduceLeDiff, Int.reduceToNat, Int.reduceEq, Int.reduceLE, Int.reduceLT, Nat.reduceBEq]
        have he := Option.some.inj h
        subst he
        refine ends_weak ⟨[(4, (.lf false (.sc (.bool true))))], [], 0, 26⟩ (weak_of (m := 0) [] rfl rfl rfl (by simp [injR]) ?_ ?_) ?_
        all_goals ((try simp (disch := assumption) only [go_sem, Nat.reduceAdd, Nat.reduceMul, Nat.reduceSub, Nat.reduceEqDiff, ↓reduceIte, Nat.reduceLT, reduceCtorEq, Nat.reduceLeDiff, Int.reduceToNat, Int.reduceEq, Int.reduceLE, Int.reduceLT, Nat.reduceBEq]); (repeat' first | done | rfl | omega | refine And.intro ?_ ?_ | (simp; done) | (simp; omega)))
    all_goals ((try simp (disch := assumption) only [go_sem, Nat.reduceAdd, Nat.reduceMul, Nat.reduceSub, Nat.reduceEqDiff, ↓reduceIte, Nat.reduceLT, reduceCtorEq, Nat.reduceLeDiff, Int.reduceToNat, Int.reduceEq, Int.reduceLE, Int.reduceLT, Nat.reduceBEq]); (repeat' first | done | rfl | omega | refine And.intro ?_ ?_ | (simp; done) | (simp; omega)))
theorem w_spec_l1Cur_breaker_o {a0 : l1CurT} {r : (BreakerT × l1CurT)} (h : spec_l1Cur_breaker_o a0 = some r) : Fn Try.prog 99 [(.pb 0 0)] [(0, some (false, .box [(.lf true (.sl (a0.code.map eU8))), (.lf false (.sc (.int .i64 a0.at_))), (.lf false (.sc (.int .u64 a0.seed)))]))] 1 (.ag [(.lf false (.sc (.int .i64 r.1.Limit))), (.lf false (.sc (.int .i64 r.1.Cool))), (.lf false (.sc (.int .i64 r.1.State))), (.lf false (.sc (.int .i64 r.1.Fails))), (.lf false (.sc (.int .i64 r.1.Opened)))]) [(0, some (false, .box [(.lf true (.sl (r.2.code.map eU8))), (.lf false (.sc (.int .i64 r.2.at_))), (.lf false (.sc (.int .u64 r.2.seed)))]))] 2 := by
  unfold spec_l1Cur_breaker_o at h
  refine fn_code tab_ok mixed [(1000, [(0, 0), (2, 0)]), (1001, [(0, 0), (2, 0), (3, 0)]), (1002, [(0, 0), (2, 0), (3, 0), (11, 0)]), (1003, [(0, 0), (2, 0), (3, 0)]), (1004, [(0, 0), (2, 0), (4, 0), (6, 0)]), (1005, [(0, 0), (2, 0), (4, 0), (27, 0)]), (1006, [(0, 0), (2, 0), (4, 0)]), (1007, [(0, 0), (2, 0), (4, 0), (38, 0)]), (1008, [(0, 0), (2, 0), (4, 0)]), (1009, [(2, 0), (4, 0), (41, 0)]), (1010, [(2, 0), (4, 0)]), (1011, [(2, 0)]), (2027, []), (2038, []), (4007, [])] Try.func99 rfl rfl (by simp [Try.f99]) (by kernel_rfl) ?_
  simp only [Try.f99]
  simp (disch := assumption) only [go_sem, Nat.reduceAdd, Nat.reduceMul, Nat.reduceSub, Nat.reduceEqDiff, ↓reduceIte, Nat.reduceLT, reduceCtorEq, Nat.reduceLeDiff, Int.reduceToNat, Int.reduceEq, Int.reduceLE, Int.reduceLT, Nat.reduceBEq]
  obtain ⟨c86, hr1, h⟩ := bind_ok h
  refine Cl_hand (ids := [0]) (w_spec_l1Cur_calls_o hr1) (by first | rfl | (simp (disch := assumption) only [go_sem, Nat.reduceAdd, Nat.reduceMul, Nat.reduceSub, Nat.reduceEqDiff, ↓reduceIte, Nat.reduceLT, reduceCtorEq, Nat.reduceLeDiff, Int.reduceToNat, Int.reduceEq, Int.reduceLE, Int.reduceLT, Nat.reduceBEq]; first | done | rfl)) (FitAll.refl _) (by first | rfl | (simp (disch := assumption) only [go_sem, Nat.reduceAdd, Nat.reduceMul, Nat.reduceSub, Nat.reduceEqDiff, ↓reduceIte, Nat.reduceLT, reduceCtorEq, Nat.reduceLeDiff, Int.reduceToNat, Int.reduceEq, Int.reduceLE, Int.reduceLT, Nat.reduceBEq]; first | done | rfl)) (by decide) (by first | rfl | (simp (disch := assumption) only [go_sem, Nat.reduceAdd, Nat.reduceMul, Nat.reduceSub, Nat.reduceEqDiff, ↓reduceIte, Nat.reduceLT, reduceCtorEq, Nat.reduceLeDiff, Int.reduceToNat, Int.reduceEq, Int.reduceLE, Int.reduceLT, Nat.reduceBEq]; done)) (by rfl) ?_
  try simp (disch := assumption) only [go_sem, Nat.reduceAdd, Nat.reduceMul, Nat.reduceSub, Nat.reduceEqDiff, ↓reduceIte, Nat.reduceLT, reduceCtorEq, Nat.reduceLeDiff, Int.reduceToNat, Int.reduceEq, Int.reduceLE, Int.reduceLT, Nat.reduceBEq]
  refine Bs_splitC ((decide (((c86.1.length : Nat) : Int) > 120))) (by first | rfl | (simp only [beq_iff_eq]; done) | simp) (fun hc2 => ?_) (fun hc2 => ?_)
  · rw [if_pos hc2] at h
    try simp (disch := assumption) only [go_sem, Nat.reduceAdd, Nat.reduceMul, Nat.reduceSub, Nat.reduceEqDiff, ↓reduceIte, Nat.reduceLT, reduceCtorEq, Nat.reduceLeDiff, Int.reduceToNat, Int.reduceEq, Int.reduceLE, Int.reduceLT, Nat.reduceBEq]
    obtain ⟨hp3, h⟩ := guard_some h
    have hn3 : 20 ≤ c86.1.length := by first | omega | (simp only [List.length_set, List.length_append, List.length_replicate, List.length_map]; omega)
    try simp (disch := assumption) only [go_sem, Nat.reduceAdd, Nat.reduceMul, Nat.reduceSub, Nat.reduceEqDiff, ↓reduceIte, Nat.reduceLT, reduceCtorEq, Nat.reduceLeDiff, Int.reduceToNat, Int.reduceEq, Int.reduceLE, Int.reduceLT, Nat.reduceBEq]
    first | refine And.intro (by first | omega | exact ⟨by omega, fun _ => mapLen fun _ => rfl⟩ | (refine ⟨by omega, ?_, by omega⟩; first | exact mapLen fun _ => rfl | simp) | (refine ⟨?_, by omega⟩; first | exact mapLen fun _ => rfl | simp)) ?_ | skip
    obtain ⟨c87, hr4, h⟩ := bind_ok h
    refine Cl_hand (ids := [0]) (w_spec_l1Cur_pick_o hr4) (by first | rfl | (simp (disch := assumption) only [go_sem, Nat.reduceAdd, Nat.reduceMul, Nat.reduceSub, Nat.reduceEqDiff, ↓reduceIte, Nat.reduceLT, reduceCtorEq, Nat.reduceLeDiff, Int.reduceToNat, Int.reduceEq, Int.reduceLE, Int.reduceLT, Nat.reduceBEq, hn3]; first | done | rfl)) (FitAll.refl _) (by first | rfl | (simp (disch := assumption) only [go_sem, Nat.reduceAdd, Nat.reduceMul, Nat.reduceSub, Nat.reduceEqDiff, ↓reduceIte, Nat.reduceLT, reduceCtorEq, Nat.reduceLeDiff, Int.reduceToNat, Int.reduceEq, Int.reduceLE, Int.reduceLT, Nat.reduceBEq, hn3]; first | done | rfl)) (by decide) (by first | rfl | (simp (disch := assumption) only [go_sem, Nat.reduceAdd, Nat.reduceMul, Nat.reduceSub, Nat.reduceEqDiff, ↓reduceIte, Nat.reduceLT, reduceCtorEq, Nat.reduceLeDiff, Int.reduceToNat, Int.reduceEq, Int.reduceLE, Int.reduceLT, Nat.reduceBEq]; done)) (by rfl) ?_
    try simp (disch := assumption) only [go_sem, Nat.reduceAdd, Nat.reduceMul, Nat.reduceSub, Nat.reduceEqDiff, ↓reduceIte, Nat.reduceLT, reduceCtorEq, Nat.reduceLeDiff, Int.reduceToNat, Int.reduceEq, Int.reduceLE, Int.reduceLT, Nat.reduceBEq]
    obtain ⟨c88, hr5, h⟩ := bind_ok h
    refine Cl_hand (ids := [0]) (w_spec_l1Cur_pick_o hr5) (by first | rfl | (simp (disch := assumption) only [go_sem, Nat.reduceAdd, Nat.reduceMul, Nat.reduceSub, Nat.reduceEqDiff, ↓reduceIte, Nat.reduceLT, reduceCtorEq, Nat.reduceLeDiff, Int.reduceToNat, Int.reduceEq, Int.reduceLE, Int.reduceLT, Nat.reduceBEq, hn3]; first | done | rfl)) (FitAll.refl _) (by first | rfl | (simp (disch := assumption) only [go_sem, Nat.reduceAdd, Nat.reduceMul, Nat.reduceSub, Nat.reduceEqDiff, ↓reduceIte, Nat.reduceLT, reduceCtorEq, Nat.reduceLeDiff, Int.reduceToNat, Int.reduceEq, Int.reduceLE, Int.reduceLT, Nat.reduceBEq, hn3]; first | done | rfl)) (by decide) (by first | rfl | (simp (disch := assumption) only [go_sem, Nat.reduceAdd, Nat.reduceMul, Nat.reduceSub, Nat.reduceEqDiff, ↓reduceIte, Nat.reduceLT, reduceCtorEq, Nat.reduceLeDiff, Int.reduceToNat, Int.reduceEq, Int.reduceLE, Int.reduceLT, Nat.reduceBEq]; done)) (by rfl) ?_
    try simp (disch := assumption) only [go_sem, Nat.reduceAdd, Nat.reduceMul, Nat.reduceSub, Nat.reduceEqDiff, ↓reduceIte, Nat.reduceLT, reduceCtorEq, Nat.reduceLeDiff, Int.reduceToNat, Int.reduceEq, Int.reduceLE, Int.reduceLT, Nat.reduceBEq]
    obtain ⟨c89, hr6, h⟩ := bind_ok h
    refine Cl_shown (w_spec_PlayBreaker hr6) (by first | rfl | (simp (disch := assumption) only [go_sem, Nat.reduceAdd, Nat.reduceMul, Nat.reduceSub, Nat.reduceEqDiff, ↓reduceIte, Nat.reduceLT, reduceCtorEq, Nat.reduceLeDiff, Int.reduceToNat, Int.reduceEq, Int.reduceLE, Int.reduceLT, Nat.reduceBEq, hn3]; first | done | rfl)) (FitAll.refl _) (.inr ⟨rfl, by simp [freeOb, free1]⟩) ?_
    try simp (disch := assumption) only [go_sem, Nat.reduceAdd, Nat.reduceMul, Nat.reduceSub, Nat.reduceEqDiff, ↓reduceIte, Nat.reduceLT, reduceCtorEq, Nat.reduceLeDiff, Int.reduceToNat, Int.reduceEq, Int.reduceLE, Int.reduceLT, Nat.reduceBEq]
    obtain ⟨p91, hq7, h⟩ := bind_ok h
    refine Sq_cut (fun s2 => s2 = ⟨[(0, (.pb 0 0)), (2, (.pb 1 0)), (4, (.pb 2 0))], [(0, some (false, .box [(.lf true (.sl (c88.2.code.map eU8))), (.lf false (.sc (.int .i64 c88.2.at_))), (.lf false (.sc (.int .u64 c88.2.seed)))])), (1, some (true, .box [(.lf false (.sc (.int .i64 0))), (.lf false (.sc (.int .i64 0))), (.lf false (.sc (.int .i64 0))), (.lf false (.sc (.int .i64 0))), (.lf false (.sc (.int .i64 0)))])), (2, some (true, .box [(.lf false (.sc (.int .i64 p91.b2_0))), (.lf false (.sc (.int .i64 p91.b2_1))), (.lf false (.sc (.int .i64 p91.b2_2))), (.lf false (.sc (.int .i64 p91.b2_3))), (.lf false (.sc (.int .i64 p91.b2_4)))]))], 3, 47⟩) ?_ ?_
    · try simp (disch := assumption) only [go_sem, Nat.reduceAdd, Nat.reduceMul, Nat.reduceSub, Nat.reduceEqDiff, ↓reduceIte, Nat.reduceLT, reduceCtorEq, Nat.reduceLeDiff, Int.reduceToNat, Int.reduceEq, Int.reduceLE, Int.reduceLT, Nat.reduceBEq]
      refine Bs_splitC ((!c89.2.2)) (by first | rfl | (simp only [beq_iff_eq]; done) | simp) (fun hc8 => ?_) (fun hc8 => ?_)
      · rw [if_pos hc8] at hq7
        try simp (disch := assumption) only [go_sem, Nat.reduceAdd, Nat.reduceMul, Nat.reduceSub, Nat.reduceEqDiff, ↓reduceIte, Nat.reduceLT, reduceCtorEq, Nat.reduceLeDiff, Int.reduceToNat, Int.reduceEq, Int.reduceLE, Int.reduceLT, Nat.reduceBEq]
        obtain ⟨c90, hr9, hq7⟩ := bind_ok hq7
        refine Cl_shown (w_spec_NewBreaker hr9) (by first | rfl | (simp (disch := assumption) only [go_sem, Nat.reduceAdd, Nat.reduceMul, Nat.reduceSub, Nat.reduceEqDiff, ↓reduceIte, Nat.reduceLT, reduceCtorEq, Nat.reduceLeDiff, Int.reduceToNat, Int.reduceEq, Int.reduceLE, Int.reduceLT, Nat.reduceBEq, hn3]; first | done | rfl)) (FitAll.refl _) (.inl (by first | rfl | (simp (disch := assumption) only [go_sem, Nat.reduceAdd, Nat.reduceMul, Nat.reduceSub, Nat.reduceEqDiff, ↓reduceIte, Nat.reduceLT, reduceCtorEq, Nat.reduceLeDiff, Int.reduceToNat, Int.reduceEq, Int.reduceLE, Int.reduceLT, Nat.reduceBEq]; done))) ?_
        try simp (disch := assumption) only [go_sem, Nat.reduceAdd, Nat.reduceMul, Nat.reduceSub, Nat.reduceEqDiff, ↓reduceIte, Nat.reduceLT, reduceCtorEq, Nat.reduceLeDiff, Int.reduceToNat, Int.reduceEq, Int.reduceLE, Int.reduceLT, Nat.reduceBEq]
        cases hq7
        refine X_cut rfl ?_
        refine weak_of (m := 1) [some 0, some 1, some 5] rfl rfl rfl (by simp [injR]) ?_ ?_
        all_goals ((try simp (disch := assumption) only [go_sem, Nat.reduceAdd, Nat.reduceMul, Nat.reduceSub, Nat.reduceEqDiff, ↓reduceIte, Nat.reduceLT, reduceCtorEq, Nat.reduceLeDiff, Int.reduceToNat, Int.reduceEq, Int.reduceLE, Int.reduceLT, Nat.reduceBEq]); (repeat' first | done | rfl | omega | refine And.intro ?_ ?_ | (simp; done) | (simp; omega)))
      · rw [if_neg (nt hc8)] at hq7
        try simp (disch := assumption) only [go_sem, Nat.reduceAdd, Nat.reduceMul, Nat.reduceSub, Nat.reduceEqDiff, ↓reduceIte, Nat.reduceLT, reduceCtorEq, Nat.reduceLeDiff, Int.reduceToNat, Int.reduceEq, Int.reduceLE, Int.reduceLT, Nat.reduceBEq]
        cases hq7
        refine X_cut rfl ?_
        refine weak_of (m := 1) [some 0, some 1, some 5] rfl rfl rfl (by simp [injR]) ?_ ?_
        all_goals ((try simp (disch := assumption) only [go_sem, Nat.reduceAdd, Nat.reduceMul, Nat.reduceSub, Nat.reduceEqDiff, ↓reduceIte, Nat.reduceLT, reduceCtorEq, Nat.reduceLeDiff, Int.reduceToNat, Int.reduceEq, Int.reduceLE, Int.reduceLT, Nat.reduceBEq]); (repeat' first | done | rfl | omega | refine And.intro ?_ ?_ | (simp; done) | (simp; omega)))
    · intro s2 hJ; subst hJ
      try dsimp only at h
      try simp (disch := assumption) only [go_sem, Nat.reduceAdd, Nat.reduceMul, Nat.reduceSub, Nat.reduceEqDiff, ↓reduceIte, Nat.reduceLT, reduceCtorEq, Nat.reduceLeDiff, Int.reduceToNat, Int.reduceEq, Int.reduceLE, Int.reduceLT, Nat.reduceBEq]
      obtain ⟨p94, hq10, h⟩ := bind_ok h
      refine Sq_cut (fun s2 => s2 = ⟨[(0, (.pb 0 0)), (2, (.pb 1 0)), (4, (.pb 2 0))], [(0, some (false, .box [(.lf true (.sl (p94.b0_0.map eU8))), (.lf false (.sc (.int .i64 p94.b0_1))), (.lf false (.sc (.int .u64 p94.b0_2)))])), (1, some (true, .box [(.lf false (.sc (.int .i64 0))), (.lf false (.sc (.int .i64 0))), (.lf false (.sc (.int .i64 0))), (.lf false (.sc (.int .i64 0))), (.lf false (.sc (.int .i64 0)))])), (2, some (true, .box [(.lf false (.sc (.int .i64 p91.b2_0))), (.lf false (.sc (.int .i64 p91.b2_1))), (.lf false (.sc (.int .i64 p94.b2_2))), (.lf false (.sc (.int .i64 p91.b2_3))), (.lf false (.sc (.int .i64 p91.b2_4)))]))], 3, 47⟩) ?_ ?_
      · try simp (disch := assumption) only [go_sem, Nat.reduceAdd, Nat.reduceMul, Nat.reduceSub, Nat.reduceEqDiff, ↓reduceIte, Nat.reduceLT, reduceCtorEq, Nat.reduceLeDiff, Int.reduceToNat, Int.reduceEq, Int.reduceLE, Int.reduceLT, Nat.reduceBEq]
        obtain ⟨p93, hq11, hq10⟩ := bind_ok hq10
        refine Sq_cut (fun s2 => s2 = ⟨[(0, (.pb 0 0)), (2, (.pb 1 0)), (4, (.pb 2 0)), (38, (.lf false (.sc (.bool p93.t38))))], [(0, some (false, .box [(.lf true (.sl (p93.b0_0.map eU8))), (.lf false (.sc (.int .i64 p93.b0_1))), (.lf false (.sc (.int .u64 p93.b0_2)))])), (1, some (true, .box [(.lf false (.sc (.int .i64 0))), (.lf false (.sc (.int .i64 0))), (.lf false (.sc (.int .i64 0))), (.lf false (.sc (.int .i64 0))), (.lf false (.sc (.int .i64 0)))])), (2, some (true, .box [(.lf false (.sc (.int .i64 p91.b2_0))), (.lf false (.sc (.int .i64 p91.b2_1))), (.lf false (.sc (.int .i64 p91.b2_2))), (.lf false (.sc (.int .i64 p91.b2_3))), (.lf false (.sc (.int .i64 p91.b2_4)))]))], 3, 47⟩) ?_ ?_
        · try simp (disch := assumption) only [go_sem, Nat.reduceAdd, Nat.reduceMul, Nat.reduceSub, Nat.reduceEqDiff, ↓reduceIte, Nat.reduceLT, reduceCtorEq, Nat.reduceLeDiff, Int.reduceToNat, Int.reduceEq, Int.reduceLE, Int.reduceLT, Nat.reduceBEq]
          refine Sp_splitC ((p91.b2_2 == 1)) (by first | rfl | (simp only [beq_iff_eq]; done) | simp) (fun hc12 => ?_) (fun hc12 => ?_)
          · rw [if_pos hc12] at hq11
            try simp (disch := assumption) only [go_sem, Nat.reduceAdd, Nat.reduceMul, Nat.reduceSub, Nat.reduceEqDiff, ↓reduceIte, Nat.reduceLT, reduceCtorEq, Nat.reduceLeDiff, Int.reduceToNat, Int.reduceEq, Int.reduceLE, Int.reduceLT, Nat.reduceBEq]
            obtain ⟨c92, hr13, hq11⟩ := bind_ok hq11
            refine Cl_hand (ids := [0]) (w_spec_l1Cur_one_o hr13) (by first | rfl | (simp (disch := assumption) only [go_sem, Nat.reduceAdd, Nat.reduceMul, Nat.reduceSub, Nat.reduceEqDiff, ↓reduceIte, Nat.reduceLT, reduceCtorEq, Nat.reduceLeDiff, Int.reduceToNat, Int.reduceEq, Int.reduceLE, Int.reduceLT, Nat.reduceBEq, hn3]; first | done | rfl)) (FitAll.refl _) (by first | rfl | (simp (disch := assumption) only [go_sem, Nat.reduceAdd, Nat.reduceMul, Nat.reduceSub, Nat.reduceEqDiff, ↓reduceIte, Nat.reduceLT, reduceCtorEq, Nat.reduceLeDiff, Int.reduceToNat, Int.reduceEq, Int.reduceLE, Int.reduceLT, Nat.reduceBEq, hn3]; first | done | rfl)) (by decide) (by first | rfl | (simp (disch := assumption) only [go_sem, Nat.reduceAdd, Nat.reduceMul, Nat.reduceSub, Nat.reduceEqDiff, ↓reduceIte, Nat.reduceLT, reduceCtorEq, Nat.reduceLeDiff, Int.reduceToNat, Int.reduceEq, Int.reduceLE, Int.reduceLT, Nat.reduceBEq]; done)) (by rfl) ?_
            try simp (disch := assumption) only [go_sem, Nat.reduceAdd, Nat.reduceMul, Nat.reduceSub, Nat.reduceEqDiff, ↓reduceIte, Nat.reduceLT, reduceCtorEq, Nat.reduceLeDiff, Int.reduceToNat, Int.reduceEq, Int.reduceLE, Int.reduceLT, Nat.reduceBEq]
            cases hq11
            refine X_cut rfl ?_
            refine weak_of (m := 1) [some 0, some 1, some 2] rfl rfl rfl (by simp [injR]) ?_ ?_
            all_goals ((try simp (disch := assumption) only [go_sem, Nat.reduceAdd, Nat.reduceMul, Nat.reduceSub, Nat.reduceEqDiff, ↓reduceIte, Nat.reduceLT, reduceCtorEq, Nat.reduceLeDiff, Int.reduceToNat, Int.reduceEq, Int.reduceLE, Int.reduceLT, Nat.reduceBEq]); (repeat' first | done | rfl | omega | refine And.intro ?_ ?_ | (simp; done) | (simp; omega)))
          · rw [if_neg (nt hc12)] at hq11
            try simp (disch := assumption) only [go_sem, Nat.reduceAdd, Nat.reduceMul, Nat.reduceSub, Nat.reduceEqDiff, ↓reduceIte, Nat.reduceLT, reduceCtorEq, Nat.reduceLeDiff, Int.reduceToNat, Int.reduceEq, Int.reduceLE, Int.reduceLT, Nat.reduceBEq]
            cases hq11
            refine X_cut rfl ?_
            refine weak_of (m := 1) [some 0, some 1, some 2] rfl rfl rfl (by simp [injR]) ?_ ?_
            all_goals ((try simp (disch := assumption) only [go_sem, Nat.reduceAdd, Nat.reduceMul, Nat.reduceSub, Nat.reduceEqDiff, ↓reduceIte, Nat.reduceLT, reduceCtorEq, Nat.reduceLeDiff, Int.reduceToNat, Int.reduceEq, Int.reduceLE, Int.reduceLT, Nat.reduceBEq]); (repeat' first | done | rfl | omega | refine And.intro ?_ ?_ | (simp; done) | (simp; omega)))
        · intro s2 hJ; subst hJ
          try dsimp only at hq10
          try simp (disch := assumption) only [go_sem, Nat.reduceAdd, Nat.reduceMul, Nat.reduceSub, Nat.reduceEqDiff, ↓reduceIte, Nat.reduceLT, reduceCtorEq, Nat.reduceLeDiff, Int.reduceToNat, Int.reduceEq, Int.reduceLE, Int.reduceLT, Nat.reduceBEq]
          refine Bs_splitC (p93.t38) (by first | rfl | (simp only [beq_iff_eq]; done) | simp) (fun hc14 => ?_) (fun hc14 => ?_)
          · rw [if_pos hc14] at hq10
            try simp (disch := assumption) only [go_sem, Nat.reduceAdd, Nat.reduceMul, Nat.reduceSub, Nat.reduceEqDiff, ↓reduceIte, Nat.reduceLT, reduceCtorEq, Nat.reduceLeDiff, Int.reduceToNat, Int.reduceEq, Int.reduceLE, Int.reduceLT, Nat.reduceBEq]
            cases hq10
            refine X_cut rfl ?_
            refine weak_of (m := 1) [some 0, some 1, some 2] rfl rfl rfl (by simp [injR]) ?_ ?_
            all_goals ((try simp (disch := assumption) only [go_sem, Nat.reduceAdd, Nat.reduceMul, Nat.reduceSub, Nat.reduceEqDiff, ↓reduceIte, Nat.reduceLT, reduceCtorEq, Nat.reduceLeDiff, Int.reduceToNat, Int.reduceEq, Int.reduceLE, Int.reduceLT, Nat.reduceBEq]); (repeat' first | done | rfl | omega | refine And.intro ?_ ?_ | (simp; done) | (simp; omega)))
          · rw [if_neg (nt hc14)] at hq10
            try simp (disch := assumption) only [go_sem, Nat.reduceAdd, Nat.reduceMul, Nat.reduceSub, Nat.reduceEqDiff, ↓reduceIte, Nat.reduceLT, reduceCtorEq, Nat.reduceLeDiff, Int.reduceToNat, Int.reduceEq, Int.reduceLE, Int.reduceLT, Nat.reduceBEq]
            cases hq10
            refine X_cut rfl ?_
            refine weak_of (m := 1) [some 0, some 1, some 2] rfl rfl rfl (by simp [injR]) ?_ ?_
            all_goals ((try simp (disch := assumption) only [go_sem, Nat.reduceAdd, Nat.reduceMul, Nat.reduceSub, Nat.reduceEqDiff, ↓reduceIte, Nat.reduceLT, reduceCtorEq, Nat.reduceLeDiff, Int.reduceToNat, Int.reduceEq, Int.reduceLE, Int.reduceLT, Nat.reduceBEq]); (repeat' first | done | rfl | omega | refine And.intro ?_ ?_ | (simp; done) | (simp; omega)))
      · intro s2 hJ; subst hJ
        try dsimp only at h
        try simp (disch := assumption) only [go_sem, Nat.reduceAdd, Nat.reduceMul, Nat.reduceSub, Nat.reduceEqDiff, ↓reduceIte, Nat.reduceLT, reduceCtorEq, Nat.reduceLeDiff, Int.reduceToNat, Int.reduceEq, Int.reduceLE, Int.reduceLT, Nat.reduceBEq]
        obtain ⟨c95, hr15, h⟩ := bind_ok h
        refine Cl_hand (ids := [0]) (w_spec_l1Cur_one_o hr15) (by first | rfl | (simp (disch := assumption) only [go_sem, Nat.reduceAdd, Nat.reduceMul, Nat.reduceSub, Nat.reduceEqDiff, ↓reduceIte, Nat.reduceLT, reduceCtorEq, Nat.reduceLeDiff, Int.reduceToNat, Int.reduceEq, Int.reduceLE, Int.reduceLT, Nat.reduceBEq, hn3]; first | done | rfl)) (FitAll.refl _) (by first | rfl | (simp (disch := assumption) only [go_sem, Nat.reduceAdd, Nat.reduceMul, Nat.reduceSub, Nat.reduceEqDiff, ↓reduceIte, Nat.reduceLT, reduceCtorEq, Nat.reduceLeDiff, Int.reduceToNat, Int.reduceEq, Int.reduceLE, Int.reduceLT, Nat.reduceBEq, hn3]; first | done | rfl)) (by decide) (by first | rfl | (simp (disch := assumption) only [go_sem, Nat.reduceAdd, Nat.reduceMul, Nat.reduceSub, Nat.reduceEqDiff, ↓reduceIte, Nat.reduceLT, reduceCtorEq, Nat.reduceLeDiff, Int.reduceToNat, Int.reduceEq, Int.reduceLE, Int.reduceLT, Nat.reduceBEq]; done)) (by rfl) ?_
        try simp (disch := assumption) only [go_sem, Nat.reduceAdd, Nat.reduceMul, Nat.reduceSub, Nat.reduceEqDiff, ↓reduceIte, Nat.reduceLT, reduceCtorEq, Nat.reduceLeDiff, Int.reduceToNat, Int.reduceEq, Int.reduceLE, Int.reduceLT, Nat.reduceBEq]
        refine Bs_splitC (c95.1) (by first | rfl | (simp only [beq_iff_eq]; done) | simp) (fun hc16 => ?_) (fun hc16 => ?_)
        · rw [if_pos hc16] at h
          try simp (disch := assumption) only [go_sem, Nat.reduceAdd, Nat.reduceMul, Nat.reduceSub, Nat.reduceEqDiff, ↓reduceIte, Nat.reduceLT, reduceCtorEq, Nat.reduceLeDiff, Int.reduceToNat, Int.reduceEq, Int.reduceLE, Int.reduceLT, Nat.reduceBEq]
          have he := Option.some.inj h
          subst he
          refine ends_weak ⟨[(2, (.pb 1 0))], [(0, some (false, .box [(.lf true (.sl (c95.2.code.map eU8))), (.lf false (.sc (.int .i64 c95.2.at_))), (.lf false (.sc (.int .u64 c95.2.seed)))])), (1, some (true, .box [(.lf false (.sc (.int .i64 p91.b2_0))), (.lf false (.sc (.int .i64 p91.b2_1))), (.lf false (.sc (.int .i64 p94.b2_2))), (.lf false (.sc (.int .i64 (wI (p91.b2_3 + 1))))), (.lf false (.sc (.int .i64 p91.b2_4)))]))], 2, 47⟩ (weak_of (m := 1) [some 0, some 1] rfl rfl rfl (by simp [injR]) ?_ ?_) ?_
          all_goals ((try simp (disch := assumption) only [go_sem, Nat.reduceAdd, Nat.reduceMul, Nat.reduceSub, Nat.reduceEqDiff, ↓reduceIte, Nat.reduceLT, reduceCtorEq, Nat.reduceLeDiff, Int.reduceToNat, Int.reduceEq, Int.reduceLE, Int.reduceLT, Nat.reduceBEq]); (repeat' first | done | rfl | omega | refine And.intro ?_ ?_ | (simp; done) | (simp; omega)))
        · rw [if_neg (nt hc16)] at h
          try simp (disch := assumption) only [go_sem, Nat.reduceAdd, Nat.reduceMul, Nat.reduceSub, Nat.reduceEqDiff, ↓reduceIte, Nat.reduceLT, reduceCtorEq, Nat.reduceLeDiff, Int.reduceToNat, Int.reduceEq, Int.reduceLE, Int.reduceLT, Nat.reduceBEq]
          have he := Option.some.inj h
          subst he
          refine ends_weak ⟨[(2, (.pb 1 0))], [(0, some (false, .box [(.lf true (.sl (c95.2.code.map eU8))), (.lf false (.sc (.int .i64 c95.2.at_))), (.lf false (.sc (.int .u64 c95.2.seed)))])), (1, some (true, .box [(.lf false (.sc (.int .i64 p91.b2_0))), (.lf false (.sc (.int .i64 p91.b2_1))), (.lf false (.sc (.int .i64 p94.b2_2))), (.lf false (.sc (.int .i64 p91.b2_3))), (.lf false (.sc (.int .i64 p91.b2_4)))]))], 2, 47⟩ (weak_of (m := 1) [some 0, some 1] rfl rfl rfl (by simp [injR]) ?_ ?_) ?_
          all_goals ((try simp (disch := assumption) only [go_sem, Nat.reduceAdd, Nat.reduceMul, Nat.reduceSub, Nat.reduceEqDiff, ↓reduceIte, Nat.reduceLT, reduceCtorEq, Nat.reduceLeDiff, Int.reduceToNat, Int.reduceEq, Int.reduceLE, Int.reduceLT, Nat.reduceBEq]); (repeat' first | done | rfl | omega | refine And.intro ?_ ?_ | (simp; done) | (simp; omega)))
  · rw [if_neg (nt hc2)] at h
    try simp (disch := assumption) only [go_sem, Nat.reduceAdd, Nat.reduceMul, Nat.reduceSub, Nat.reduceEqDiff, ↓reduceIte, Nat.reduceLT, reduceCtorEq, Nat.reduceLeDiff, Int.reduceToNat, Int.reduceEq, Int.reduceLE, Int.reduceLT, Nat.reduceBEq]
    obtain ⟨c96, hr17, h⟩ := bind_ok h
    refine Cl_hand (ids := [0]) (w_spec_l1Cur_pick_o hr17) (by first | rfl | (simp (disch := assumption) only [go_sem, Nat.reduceAdd, Nat.reduceMul, Nat.reduceSub, Nat.reduceEqDiff, ↓reduceIte, Nat.reduceLT, reduceCtorEq, Nat.reduceLeDiff, Int.reduceToNat, Int.reduceEq, Int.reduceLE, Int.reduceLT, Nat.reduceBEq]; first | done | rfl)) (FitAll.refl _) (by first | rfl | (simp (disch := assumption) only [go_sem, Nat.reduceAdd, Nat.reduceMul, Nat.reduceSub, Nat.reduceEqDiff, ↓reduceIte, Nat.reduceLT, reduceCtorEq, Nat.reduceLeDiff, Int.reduceToNat, Int.reduceEq, Int.reduceLE, Int.reduceLT, Nat.reduceBEq]; first | done | rfl)) (by decide) (by first | rfl | (simp (disch := assumption) only [go_sem, Nat.reduceAdd, Nat.reduceMul, Nat.reduceSub, Nat.reduceEqDiff, ↓reduceIte, Nat.reduceLT, reduceCtorEq, Nat.reduceLeDiff, Int.reduceToNat, Int.reduceEq, Int.reduceLE, Int.reduceLT, Nat.reduceBEq]; done)) (by rfl) ?_
    try simp (disch := assumption) only [go_sem, Nat.reduceAdd, Nat.reduceMul, Nat.reduceSub, Nat.reduceEqDiff, ↓reduceIte, Nat.reduceLT, reduceCtorEq, Nat.reduceLeDiff, Int.reduceToNat, Int.reduceEq, Int.reduceLE, Int.reduceLT, Nat.reduceBEq]
    obtain ⟨c97, hr18, h⟩ := bind_ok h
    refine Cl_hand (ids := [0]) (w_spec_l1Cur_pick_o hr18) (by first | rfl | (simp (disch := assumption) only [go_sem, Nat.reduceAdd, Nat.reduceMul, Nat.reduceSub, Nat.reduceEqDiff, ↓reduceIte, Nat.reduceLT, reduceCtorEq, Nat.reduceLeDiff, Int.reduceToNat, Int.reduceEq, Int.reduceLE, Int.reduceLT, Nat.reduceBEq]; first | done | rfl)) (FitAll.refl _) (by first | rfl | (simp (disch := assumption) only [go_sem, Nat.reduceAdd, Nat.reduceMul, Nat.reduceSub, Nat.reduceEqDiff, ↓reduceIte, Nat.reduceLT, reduceCtorEq, Nat.reduceLeDiff, Int.reduceToNat, Int.reduceEq, Int.reduceLE, Int.reduceLT, Nat.reduceBEq]; first | done | rfl)) (by decide) (by first | rfl | (simp (disch := assumption) only [go_sem, Nat.reduceAdd, Nat.reduceMul, Nat.reduceSub, Nat.reduceEqDiff, ↓reduceIte, Nat.reduceLT, reduceCtorEq, Nat.reduceLeDiff, Int.reduceToNat, Int.reduceEq, Int.reduceLE, Int.reduceLT, Nat.reduceBEq]; done)) (by rfl) ?_
    try simp (disch := assumption) only [go_sem, Nat.reduceAdd, Nat.reduceMul, Nat.reduceSub, Nat.reduceEqDiff, ↓reduceIte, Nat.reduceLT, reduceCtorEq, Nat.reduceLeDiff, Int.reduceToNat, Int.reduceEq, Int.reduceLE, Int.reduceLT, Nat.reduceBEq]
    obtain ⟨c98, hr19, h⟩ := bind_ok h
    refine Cl_shown (w_spec_PlayBreaker hr19) (by first | rfl | (simp (disch := assumption) only [go_sem, Nat.reduceAdd, Nat.reduceMul, Nat.reduceSub, Nat.reduceEqDiff, ↓reduceIte, Nat.reduceLT, reduceCtorEq, Nat.reduceLeDiff, Int.reduceToNat, Int.reduceEq, Int.reduceLE, Int.reduceLT, Nat.reduceBEq]; first | done | rfl)) (FitAll.refl _) (.inr ⟨rfl, by simp [freeOb, free1]⟩) ?_
    try simp (disch := assumption) only [go_sem, Nat.reduceAdd, Nat.reduceMul, Nat.reduceSub, Nat.reduceEqDiff, ↓reduceIte, Nat.reduceLT, reduceCtorEq, Nat.reduceLeDiff, Int.reduceToNat, Int.reduceEq, Int.reduceLE, Int.reduceLT, Nat.reduceBEq]
    obtain ⟨p100, hq20, h⟩ := bind_ok h
    refine Sq_cut (fun s2 => s2 = ⟨[(0, (.pb 0 0)), (2, (.pb 1 0)), (4, (.pb 2 0))], [(0, some (false, .box [(.lf true (.sl (c97.2.code.map eU8))), (.lf false (.sc (.int .i64 c97.2.at_))), (.lf false (.sc (.int .u64 c97.2.seed)))])), (1, some (true, .box [(.lf false (.sc (.int .i64 0))), (.lf false (.sc (.int .i64 0))), (.lf false (.sc (.int .i64 0))), (.lf false (.sc (.int .i64 0))), (.lf false (.sc (.int .i64 0)))])), (2, some (true, .box [(.lf false (.sc (.int .i64 p100.b2_0))), (.lf false (.sc (.int .i64 p100.b2_1))), (.lf false (.sc (.int .i64 p100.b2_2))), (.lf false (.sc (.int .i64 p100.b2_3))), (.lf false (.sc (.int .i64 p100.b2_4)))]))], 3, 47⟩) ?_ ?_
    · try simp (disch := assumption) only [go_sem, Nat.reduceAdd, Nat.reduceMul, Nat.reduceSub, Nat.reduceEqDiff, ↓reduceIte, Nat.reduceLT, reduceCtorEq, Nat.reduceLeDiff, Int.reduceToNat, Int.reduceEq, Int.reduceLE, Int.reduceLT, Nat.reduceBEq]
      refine Bs_splitC ((!c98.2.2)) (by first | rfl | (simp only [beq_iff_eq]; done) | simp) (fun hc21 => ?_) (fun hc21 => ?_)
      · rw [if_pos hc21] at hq20
        try simp (disch := assumption) only [go_sem, Nat.reduceAdd, Nat.reduceMul, Nat.reduceSub, Nat.reduceEqDiff, ↓reduceIte, Nat.reduceLT, reduceCtorEq, Nat.reduceLeDiff, Int.reduceToNat, Int.reduceEq, Int.reduceLE, Int.reduceLT, Nat.reduceBEq]
        obtain ⟨c99, hr22, hq20⟩ := bind_ok hq20
        refine Cl_shown (w_spec_NewBreaker hr22) (by first | rfl | (simp (disch := assumption) only [go_sem, Nat.reduceAdd, Nat.reduceMul, Nat.reduceSub, Nat.reduceEqDiff, ↓reduceIte, Nat.reduceLT, reduceCtorEq, Nat.reduceLeDiff, Int.reduceToNat, Int.reduceEq, Int.reduceLE, Int.reduceLT, Nat.reduceBEq]; first | done | rfl)) (FitAll.refl _) (.inl (by first | rfl | (simp (disch := assumption) only [go_sem, Nat.reduceAdd, Nat.reduceMul, Nat.reduceSub, Nat.reduceEqDiff, ↓reduceIte, Nat.reduceLT, reduceCtorEq, Nat.reduceLeDiff, Int.reduceToNat, Int.reduceEq, Int.reduceLE, Int.reduceLT, Nat.reduceBEq]; done))) ?_
        try simp (disch := assumption) only [go_sem, Nat.reduceAdd, Nat.reduceMul, Nat.reduceSub, Nat.reduceEqDiff, ↓reduceIte, Nat.reduceLT, reduceCtorEq, Nat.reduceLeDiff, Int.reduceToNat, Int.reduceEq, Int.reduceLE, Int.reduceLT, Nat.reduceBEq]
        cases hq20
        refine X_cut rfl ?_
        refine weak_of (m := 1) [some 0, some 1, some 5] rfl rfl rfl (by simp [injR]) ?_ ?_
        all_goals ((try simp (disch := assumption) only [go_sem, Nat.reduceAdd, Nat.reduceMul, Nat.reduceSub, Nat.reduceEqDiff, ↓reduceIte, Nat.reduceLT, reduceCtorEq, Nat.reduceLeDiff, Int.reduceToNat, Int.reduceEq, Int.reduceLE, Int.reduceLT, Nat.reduceBEq]); (repeat' first | done | rfl | omega | refine And.intro ?_ ?_ | (simp; done) | (simp; omega)))
      · rw [if_neg (nt hc21)] at hq20
        try simp (disch := assumption) only [go_sem, Nat.reduceAdd, Nat.reduceMul, Nat.reduceSub, Nat.reduceEqDiff, ↓reduceIte, Nat.reduceLT, reduceCtorEq, Nat.reduceLeDiff, Int.reduceToNat, Int.reduceEq, Int.reduceLE, Int.reduceLT, Nat.reduceBEq]
        cases hq20
        refine X_cut rfl ?_
        refine weak_of (m := 1) [some 0, some 1, some 5] rfl rfl rfl (by simp [injR]) ?_ ?_
        all_goals ((try simp (disch := assumption) only [go_sem, Nat.reduceAdd, Nat.reduceMul, Nat.reduceSub, Nat.reduceEqDiff, ↓reduceIte, Nat.reduceLT, reduceCtorEq, Nat.reduceLeDiff, Int.reduceToNat, Int.reduceEq, Int.reduceLE, Int.reduceLT, Nat.reduceBEq]); (repeat' first | done | rfl | omega | refine And.intro ?_ ?_ | (simp; done) | (simp; omega)))
    · intro s2 hJ; subst hJ
      try dsimp only at h
      try simp (disch := assumption) only [go_sem, Nat.reduceAdd, Nat.reduceMul, Nat.reduceSub, Nat.reduceEqDiff, ↓reduceIte, Nat.reduceLT, reduceCtorEq, Nat.reduceLeDiff, Int.reduceToNat, Int.reduceEq, Int.reduceLE, Int.reduceLT, Nat.reduceBEq]
      obtain ⟨p103, hq23, h⟩ := bind_ok h
      refine Sq_cut (fun s2 => s2 = ⟨[(0, (.pb 0 0)), (2, (.pb 1 0)), (4, (.pb 2 0))], [(0, some (false, .box [(.lf true (.sl (p103.b0_0.map eU8))), (.lf false (.sc (.int .i64 p103.b0_1))), (.lf false (.sc (.int .u64 p103.b0_2)))])), (1, some (true, .box [(.lf false (.sc (.int .i64 0))), (.lf false (.sc (.int .i64 0))), (.lf false (.sc (.int .i64 0))), (.lf false (.sc (.int .i64 0))), (.lf false (.sc (.int .i64 0)))])), (2, some (true, .box [(.lf false (.sc (.int .i64 p100.b2_0))), (.lf false (.sc (.int .i64 p100.b2_1))), (.lf false (.sc (.int .i64 p103.b2_2))), (.lf false (.sc (.int .i64 p100.b2_3))), (.lf false (.sc (.int .i64 p100.b2_4)))]))], 3, 47⟩) ?_ ?_
      · try simp (disch := assumption) only [go_sem, Nat.reduceAdd, Nat.reduceMul, Nat.reduceSub, Nat.reduceEqDiff, ↓reduceIte, Nat.reduceLT, reduceCtorEq, Nat.reduceLeDiff, Int.reduceToNat, Int.reduceEq, Int.reduceLE, Int.reduceLT, Nat.reduceBEq]
        obtain ⟨p102, hq24, hq23⟩ := bind_ok hq23
        refine Sq_cut (fun s2 => s2 = ⟨[(0, (.pb 0 0)), (2, (.pb 1 0)), (4, (.pb 2 0)), (38, (.lf false (.sc (.bool p102.t38))))], [(0, some (false, .box [(.lf true (.sl (p102.b0_0.map eU8))), (.lf false (.sc (.int .i64 p102.b0_1))), (.lf false (.sc (.int .u64 p102.b0_2)))])), (1, some (true, .box [(.lf false (.sc (.int .i64 0))), (.lf false (.sc (.int .i64 0))), (.lf false (.sc (.int .i64 0))), (.lf false (.sc (.int .i64 0))), (.lf false (.sc (.int .i64 0)))])), (2, some (true, .box [(.lf false (.sc (.int .i64 p100.b2_0))), (.lf false (.sc (.int .i64 p100.b2_1))), (.lf false (.sc (.int .i64 p100.b2_2))), (.lf false (.sc (.int .i64 p100.b2_3))), (.lf false (.sc (.int .i64 p100.b2_4)))]))], 3, 47⟩) ?_ ?_
        · try simp (disch := assumption) only [go_sem, Nat.reduceAdd, Nat.reduceMul, Nat.reduceSub, Nat.reduceEqDiff, ↓reduceIte, Nat.reduceLT, reduceCtorEq, Nat.reduceLeDiff, Int.reduceToNat, Int.reduceEq, Int.reduceLE, Int.reduceLT, Nat.reduceBEq]
          refine Sp_splitC ((p100.b2_2 == 1)) (by first | rfl | (simp only [beq_iff_eq]; done) | simp) (fun hc25 => ?_) (fun hc25 => ?_)
          · rw [if_pos hc25] at hq24
            try simp (disch := assumption) only [go_sem, Nat.reduceAdd, Nat.reduceMul, Nat.reduceSub, Nat.reduceEqDiff, ↓reduceIte, Nat.reduceLT, reduceCtorEq, Nat.reduceLeDiff, Int.reduceToNat, Int.reduceEq, Int.reduceLE, Int.reduceLT, Nat.reduceBEq]
            obtain ⟨c101, hr26, hq24⟩ := bind_ok hq24
            refine Cl_hand (ids := [0]) (w_spec_l1Cur_one_o hr26) (by first | rfl | (simp (disch := assumption) only [go_sem, Nat.reduceAdd, Nat.reduceMul, Nat.reduceSub, Nat.reduceEqDiff, ↓reduceIte, Nat.reduceLT, reduceCtorEq, Nat.reduceLeDiff, Int.reduceToNat, Int.reduceEq, Int.reduceLE, Int.reduceLT, Nat.reduceBEq]; first | done | rfl)) (FitAll.refl _) (by first | rfl | (simp (disch := assumption) only [go_sem, Nat.reduceAdd, Nat.reduceMul, Nat.reduceSub, Nat.reduceEqDiff, ↓reduceIte, Nat.reduceLT, reduceCtorEq, Nat.reduceLeDiff, Int.reduceToNat, Int.reduceEq, Int.reduceLE, Int.reduceLT, Nat.reduceBEq]; first | done | rfl)) (by decide) (by first | rfl | (simp (disch := assumption) only [go_sem, Nat.reduceAdd, Nat.reduceMul, Nat.reduceSub, Nat.reduceEqDiff, ↓reduceIte, Nat.reduceLT, reduceCtorEq, Nat.reduceLeDiff, Int.reduceToNat, Int.reduceEq, Int.reduceLE, Int.reduceLT, Nat.reduceBEq]; done)) (by rfl) ?_
            try simp (disch := assumption) only [go_sem, Nat.reduceAdd, Nat.reduceMul, Nat.reduceSub, Nat.reduceEqDiff, ↓reduceIte, Nat.reduceLT, reduceCtorEq, Nat.reduceLeDiff, Int.reduceToNat, Int.reduceEq, Int.reduceLE, Int.reduceLT, Nat.reduceBEq]
            cases hq24
            refine X_cut rfl ?_
            refine weak_of (m := 1) [some 0, some 1, some 2] rfl rfl rfl (by simp [injR]) ?_ ?_
            all_goals ((try simp (disch := assumption) only [go_sem, Nat.reduceAdd, Nat.reduceMul, Nat.reduceSub, Nat.reduceEqDiff, ↓reduceIte, Nat.reduceLT, reduceCtorEq, Nat.reduceLeDiff, Int.reduceToNat, Int.reduceEq, Int.reduceLE, Int.reduceLT, Nat.reduceBEq]); (repeat' first | done | rfl | omega | refine And.intro ?_ ?_ | (simp; done) | (simp; omega)))
          · rw [if_neg (nt hc25)] at hq24
            try simp (disch := assumption) only [go_sem, Nat.reduceAdd, Nat.reduceMul, Nat.reduceSub, Nat.reduceEqDiff, ↓reduceIte, Nat.reduceLT, reduceCtorEq, Nat.reduceLeDiff, Int.reduceToNat, Int.reduceEq, Int.reduceLE, Int.reduceLT, Nat.reduceBEq]
            cases hq24
            refine X_cut rfl ?_
            refine weak_of (m := 1) [some 0, some 1, some 2] rfl rfl rfl (by simp [injR]) ?_ ?_
            all_goals ((try simp (disch := assumption) only [go_sem, Nat.reduceAdd, Nat.reduceMul, Nat.reduceSub, Nat.reduceEqDiff, ↓reduceIte, Nat.reduceLT, reduceCtorEq, Nat.reduceLeDiff, Int.reduceToNat, Int.reduceEq, Int.reduceLE, Int.reduceLT, Nat.reduceBEq]); (repeat' first | done | rfl | omega | refine And.intro ?_ ?_ | (simp; done) | (simp; omega)))
        · intro s2 hJ; subst hJ
          try dsimp only at hq23
          try simp (disch := assumption) only [go_sem, Nat.reduceAdd, Nat.reduceMul, Nat.reduceSub, Nat.reduceEqDiff, ↓reduceIte, Nat.reduceLT, reduceCtorEq, Nat.reduceLeDiff, Int.reduceToNat, Int.reduceEq, Int.reduceLE, Int.reduceLT, Nat.reduceBEq]
          refine Bs_splitC (p102.t38) (by first | rfl | (simp only [beq_iff_eq]; done) | simp) (fun hc27 => ?_) (fun hc27 => ?_)
          · rw [if_pos hc27] at hq23
            try simp (disch := assumption) only [go_sem, Nat.reduceAdd, Nat.reduceMul, Nat.reduceSub, Nat.reduceEqDiff, ↓reduceIte, Nat.reduceLT, reduceCtorEq, Nat.reduceLeDiff, Int.reduceToNat, Int.reduceEq, Int.reduceLE, Int.reduceLT, Nat.reduceBEq]
            cases hq23
            refine X_cut rfl ?_
            refine weak_of (m := 1) [some 0, some 1, some 2] rfl rfl rfl (by simp [injR]) ?_ ?_
            all_goals ((try simp (disch := assumption) only [go_sem, Nat.reduceAdd, Nat.reduceMul, Nat.reduceSub, Nat.reduceEqDiff, ↓reduceIte, Nat.reduceLT, reduceCtorEq, Nat.reduceLeDiff, Int.reduceToNat, Int.reduceEq, Int.reduceLE, Int.reduceLT, Nat.reduceBEq]); (repeat' first | done | rfl | omega | refine And.intro ?_ ?_ | (simp; done) | (simp; omega)))
          · rw [if_neg (nt hc27)] at hq23
            try simp (disch := assumption) only [go_sem, Nat.reduceAdd, Nat.reduceMul, Nat.reduceSub, Nat.reduceEqDiff, ↓reduceIte, Nat.reduceLT, reduceCtorEq, Nat.reduceLeDiff, Int.reduceToNat, Int.reduceEq, Int.reduceLE, Int.reduceLT, Nat.reduceBEq]
            cases hq23
            refine X_cut rfl ?_
            refine weak_of (m := 1) [some 0, some 1, some 2] rfl rfl rfl (by simp [injR]) ?_ ?_
            all_goals ((try simp (disch := assumption) only [go_sem, Nat.reduceAdd, Nat.reduceMul, Nat.reduceSub, Nat.reduceEqDiff, ↓reduceIte, Nat.reduceLT, reduceCtorEq, Nat.reduceLeDiff, Int.reduceToNat, Int.reduceEq, Int.reduceLE, Int.reduceLT, Nat.reduceBEq]); (repeat' first | done | rfl | omega | refine And.intro ?_ ?_ | (simp; done) | (simp; omega)))
      · intro s2 hJ; subst hJ
        try dsimp only at h
        try simp (disch := assumption) only [go_sem, Nat.reduceAdd, Nat.reduceMul, Nat.reduceSub, Nat.reduceEqDiff, ↓reduceIte, Nat.reduceLT, reduceCtorEq, Nat.reduceLeDiff, Int.reduceToNat, Int.reduceEq, Int.reduceLE, Int.reduceLT, Nat.reduceBEq]
        obtain ⟨c104, hr28, h⟩ := bind_ok h
        refine Cl_hand (ids := [0]) (w_spec_l1Cur_one_o hr28) (by first | rfl | (simp (disch := assumption) only [go_sem, Nat.reduceAdd, Nat.reduceMul, Nat.reduceSub, Nat.reduceEqDiff, ↓reduceIte, Nat.reduceLT, reduceCtorEq, Nat.reduceLeDiff, Int.reduceToNat, Int.reduceEq, Int.reduceLE, Int.reduceLT, Nat.reduceBEq]; first | done | rfl)) (FitAll.refl _) (by first | rfl | (simp (disch := assumption) only [go_sem, Nat.reduceAdd, Nat.reduceMul, Nat.reduceSub, Nat.reduceEqDiff, ↓reduceIte, Nat.reduceLT, reduceCtorEq, Nat.reduceLeDiff, Int.reduceToNat, Int.reduceEq, Int.reduceLE, Int.reduceLT, Nat.reduceBEq]; first | done | rfl)) (by decide) (by first | rfl | (simp (disch := assumption) only [go_sem, Nat.reduceAdd, Nat.reduceMul, Nat.reduceSub, Nat.reduceEqDiff, ↓reduceIte, Nat.reduceLT, reduceCtorEq, Nat.reduceLeDiff, Int.reduceToNat, Int.reduceEq, Int.reduceLE, Int.reduceLT, Nat.reduceBEq]; done)) (by rfl) ?_
        try simp (disch := assumption) only [go_sem, Nat.reduceAdd, Nat.reduceMul, Nat.reduceSub, Nat.reduceEqDiff, ↓reduceIte, Nat.reduceLT, reduceCtorEq, Nat.reduceLeDiff, Int.reduceToNat, Int.reduceEq, Int.reduceLE, Int.reduceLT, Nat.reduceBEq]
        refine Bs_splitC (c104.1) (by first | rfl | (simp only [beq_iff_eq]; done) | simp) (fun hc29 => ?_) (fun hc29 => ?_)
        · rw [if_pos hc29] at h
          try simp (disch := assumption) only [go_sem, Nat.reduceAdd, Nat.reduceMul, Nat.reduceSub, Nat.reduceEqDiff, ↓reduceIte, Nat.reduceLT, reduceCtorEq, Nat.reduceLeDiff, Int.reduceToNat, Int.reduceEq, Int.reduceLE, Int.reduceLT, Nat.reduceBEq]
          have he := Option.some.inj h
          subst he
          refine ends_weak ⟨[(2, (.pb 1 0))], [(0, some (false, .box [(.lf true (.sl (c104.2.code.map eU8))), (.lf false (.sc (.int .i64 c104.2.at_))), (.lf false (.sc (.int .u64 c104.2.seed)))])), (1, some (true, .box [(.lf false (.sc (.int .i64 p100.b2_0))), (.lf false (.sc (.int .i64 p100.b2_1))), (.lf false (.sc (.int .i64 p103.b2_2))), (.lf false (.sc (.int .i64 (wI (p100.b2_3 + 1))))), (.lf false (.sc (.int .i64 p100.b2_4)))]))], 2, 47⟩ (weak_of (m := 1) [some 0, some 1] rfl rfl rfl (by simp [injR]) ?_ ?_) ?_
          all_goals ((try simp (disch := assumption) only [go_sem, Nat.reduceAdd, Nat.reduceMul, Nat.reduceSub, Nat.reduceEqDiff, ↓reduceIte, Nat.reduceLT, reduceCtorEq, Nat.reduceLeDiff, Int.reduceToNat, Int.reduceEq, Int.reduceLE, Int.reduceLT, Nat.reduceBEq]); (repeat' first | done | rfl | omega | refine And.intro ?_ ?_ | (simp; done) | (simp; omega)))
        · rw [if_neg (nt hc29)] at h
          try simp (disch := assumption) only [go_sem, Nat.reduceAdd, Nat.reduceMul, Nat.reduceSub, Nat.reduceEqDiff, ↓reduceIte, Nat.reduceLT, reduceCtorEq, Nat.reduceLeDiff, Int.reduceToNat, Int.reduceEq, Int.reduceLE, Int.reduceLT, Nat.reduceBEq]
          have he := Option.some.inj h
          subst he
          refine ends_weak ⟨[(2, (.pb 1 0))], [(0, some (false, .box [(.lf true (.sl (c104.2.code.map eU8))), (.lf false (.sc (.int .i64 c104.2.at_))), (.lf false (.sc (.int .u64 c104.2.seed)))])), (1, some (true, .box [(.lf false (.sc (.int .i64 p100.b2_0))), (.lf false (.sc (.int .i64 p100.b2_1))), (.lf false (.sc (.int .i64 p103.b2_2))), (.lf false (.sc (.int .i64 p100.b2_3))), (.lf false (.sc (.int .i64 p100.b2_4)))]))], 2, 47⟩ (weak_of (m := 1) [some 0, some 1] rfl rfl rfl (by simp [injR]) ?_ ?_) ?_
          all_goals ((try simp (disch := assumption) only [go_sem, Nat.reduceAdd, Nat.reduceMul, Nat.reduceSub, Nat.reduceEqDiff, ↓reduceIte, Nat.reduceLT, reduceCtorEq, Nat.reduceLeDiff, Int.reduceToNat, Int.reduceEq, Int.reduceLE, Int.reduceLT, Nat.reduceBEq]); (repeat' first | done | rfl | omega | refine And.intro ?_ ?_ | (simp; done) | (simp; omega)))
theorem w_spec_DrawCallBreaker {a0 : (List Int)} {r : (BreakerT × CallT)} (h : spec_DrawCallBreaker a0 = some r) : Fn Try.prog 54 [(.lf true (.sl (a0.map eU8)))] [] 0 (.tu [(.ag [(.lf false (.sc (.int .i64 r.1.Limit))), (.lf false (.sc (.int .i64 r.1.Cool))), (.lf false (.sc (.int .i64 r.1.State))), (.lf false (.sc (.int .i64 r.1.Fails))), (.lf false (.sc (.int .i64 r.1.Opened)))]), (.ag [(.lf false (.sc (.int .i64 r.2.Now))), (.lf false (.sc (.bool r.2.Fine)))])]) [] 2 := by
  unfold spec_DrawCallBreaker at h
  refine fn_code tab_ok mixed [(3, [(0, 4), (2, 4), (0, 7), (2, 7), (0, 10), (2, 10), (2, 12)]), (1000, [(0, 0), (2, 0), (3, 0)]), (1001, [(2, 0), (3, 0), (4, 0)]), (1002, [(2, 0), (3, 0), (4, 0), (5, 0)]), (1003, [(2, 0), (3, 0)])] Try.func54 rfl rfl (by simp [Try.f54]) (by kernel_rfl) ?_
  simp only [Try.f54]
  simp (disch := assumption) only [go_sem, Nat.reduceAdd, Nat.reduceMul, Nat.reduceSub, Nat.reduceEqDiff, ↓reduceIte, Nat.reduceLT, reduceCtorEq, Nat.reduceLeDiff, Int.reduceToNat, Int.reduceEq, Int.reduceLE, Int.reduceLT, Nat.reduceBEq]
  obtain ⟨c105, hr1, h⟩ := bind_ok h
  refine Cl_hand (ids := [2]) (w_spec_l1Cur_breaker_o hr1) (by first | rfl | (simp (disch := assumption) only [go_sem, Nat.reduceAdd, Nat.reduceMul, Nat.reduceSub, Nat.reduceEqDiff, ↓reduceIte, Nat.reduceLT, reduceCtorEq, Nat.reduceLeDiff, Int.reduceToNat, Int.reduceEq, Int.reduceLE, Int.reduceLT, Nat.reduceBEq]; first | done | rfl)) (FitAll.refl _) (by first | rfl | (simp (disch := assumption) only [go_sem, Nat.reduceAdd, Nat.reduceMul, Nat.reduceSub, Nat.reduceEqDiff, ↓reduceIte, Nat.reduceLT, reduceCtorEq, Nat.reduceLeDiff, Int.reduceToNat, Int.reduceEq, Int.reduceLE, Int.reduceLT, Nat.reduceBEq]; first | done | rfl)) (by decide) (by first | rfl | (simp (disch := assumption) only [go_sem, Nat.reduceAdd, Nat.reduceMul, Nat.reduceSub, Nat.reduceEqDiff, ↓reduceIte, Nat.reduceLT, reduceCtorEq, Nat.reduceLeDiff, Int.reduceToNat, Int.reduceEq, Int.reduceLE, Int.reduceLT, Nat.reduceBEq]; done)) (by rfl) ?_
  try simp (disch := assumption) only [go_sem, Nat.reduceAdd, Nat.reduceMul, Nat.reduceSub, Nat.reduceEqDiff, ↓reduceIte, Nat.reduceLT, reduceCtorEq, Nat.reduceLeDiff, Int.reduceToNat, Int.reduceEq, Int.reduceLE, Int.reduceLT, Nat.reduceBEq]
  obtain ⟨c106, hr2, h⟩ := bind_ok h
  refine Cl_hand (ids := [2]) (w_spec_l1Cur_pick_o hr2) (by first | rfl | (simp (disch := assumption) only [go_sem, Nat.reduceAdd, Nat.reduceMul, Nat.reduceSub, Nat.reduceEqDiff, ↓reduceIte, Nat.reduceLT, reduceCtorEq, Nat.reduceLeDiff, Int.reduceToNat, Int.reduceEq, Int.reduceLE, Int.reduceLT, Nat.reduceBEq]; first | done | rfl)) (FitAll.refl _) (by first | rfl | (simp (disch := assumption) only [go_sem, Nat.reduceAdd, Nat.reduceMul, Nat.reduceSub, Nat.reduceEqDiff, ↓reduceIte, Nat.reduceLT, reduceCtorEq, Nat.reduceLeDiff, Int.reduceToNat, Int.reduceEq, Int.reduceLE, Int.reduceLT, Nat.reduceBEq]; first | done | rfl)) (by decide) (by first | rfl | (simp (disch := assumption) only [go_sem, Nat.reduceAdd, Nat.reduceMul, Nat.reduceSub, Nat.reduceEqDiff, ↓reduceIte, Nat.reduceLT, reduceCtorEq, Nat.reduceLeDiff, Int.reduceToNat, Int.reduceEq, Int.reduceLE, Int.reduceLT, Nat.reduceBEq]; done)) (by rfl) ?_
  try simp (disch := assumption) only [go_sem, Nat.reduceAdd, Nat.reduceMul, Nat.reduceSub, Nat.reduceEqDiff, ↓reduceIte, Nat.reduceLT, reduceCtorEq, Nat.reduceLeDiff, Int.reduceToNat, Int.reduceEq, Int.reduceLE, Int.reduceLT, Nat.reduceBEq]
  obtain ⟨c107, hr3, h⟩ := bind_ok h
  refine Cl_hand (ids := [2]) (w_spec_l1Cur_pick_o hr3) (by first | rfl | (simp (disch := assumption) only [go_sem, Nat.reduceAdd, Nat.reduceMul, Nat.reduceSub, Nat.reduceEqDiff, ↓reduceIte, Nat.reduceLT, reduceCtorEq, Nat.reduceLeDiff, Int.reduceToNat, Int.reduceEq, Int.reduceLE, Int.reduceLT, Nat.reduceBEq]; first | done | rfl)) (FitAll.refl _) (by first | rfl | (simp (disch := assumption) only [go_sem, Nat.reduceAdd, Nat.reduceMul, Nat.reduceSub, Nat.reduceEqDiff, ↓reduceIte, Nat.reduceLT, reduceCtorEq, Nat.reduceLeDiff, Int.reduceToNat, Int.reduceEq, Int.reduceLE, Int.reduceLT, Nat.reduceBEq]; first | done | rfl)) (by decide) (by first | rfl | (simp (disch := assumption) only [go_sem, Nat.reduceAdd, Nat.reduceMul, Nat.reduceSub, Nat.reduceEqDiff, ↓reduceIte, Nat.reduceLT, reduceCtorEq, Nat.reduceLeDiff, Int.reduceToNat, Int.reduceEq, Int.reduceLE, Int.reduceLT, Nat.reduceBEq]; done)) (by rfl) ?_
  try simp (disch := assumption) only [go_sem, Nat.reduceAdd, Nat.reduceMul, Nat.reduceSub, Nat.reduceEqDiff, ↓reduceIte, Nat.reduceLT, reduceCtorEq, Nat.reduceLeDiff, Int.reduceToNat, Int.reduceEq, Int.reduceLE, Int.reduceLT, Nat.reduceBEq]
  obtain ⟨c108, hr4, h⟩ := bind_ok h
  refine Cl_hand (ids := [2]) (w_spec_l1Cur_one_o hr4) (by first | rfl | (simp (disch := assumption) only [go_sem, Nat.reduceAdd, Nat.reduceMul, Nat.reduceSub, Nat.reduceEqDiff, ↓reduceIte, Nat.reduceLT, reduceCtorEq, Nat.reduceLeDiff, Int.reduceToNat, Int.reduceEq, Int.reduceLE, Int.reduceLT, Nat.reduceBEq]; first | done | rfl)) (FitAll.refl _) (by first | rfl | (simp (disch := assumption) only [go_sem, Nat.reduceAdd, Nat.reduceMul, Nat.reduceSub, Nat.reduceEqDiff, ↓reduceIte, Nat.reduceLT, reduceCtorEq, Nat.reduceLeDiff, Int.reduceToNat, Int.reduceEq, Int.reduceLE, Int.reduceLT, Nat.reduceBEq]; first | done | rfl)) (by decide) (by first | rfl | (simp (disch := assumption) only [go_sem, Nat.reduceAdd, Nat.reduceMul, Nat.reduceSub, Nat.reduceEqDiff, ↓reduceIte, Nat.reduceLT, reduceCtorEq, Nat.reduceLeDiff, Int.reduceToNat, Int.reduceEq, Int.reduceLE, Int.reduceLT, Nat.reduceBEq]; done)) (by rfl) ?_
  try simp (disch := assumption) only [go_sem, Nat.reduceAdd, Nat.reduceMul, Nat.reduceSub, Nat.reduceEqDiff, ↓reduceIte, Nat.reduceLT, reduceCtorEq, Nat.reduceLeDiff, Int.reduceToNat, Int.reduceEq, Int.reduceLE, Int.reduceLT, Nat.reduceBEq]
  have he := Option.some.inj h
  subst he
  refine ends_weak ⟨[(2, (.pb 0 0)), (3, (.pb 1 0))], [(0, some (true, .box [(.lf false (.sc (.int .i64 c105.1.Limit))), (.lf false (.sc (.int .i64 c105.1.Cool))), (.lf false (.sc (.int .i64 c105.1.State))), (.lf false (.sc (.int .i64 c105.1.Fails))), (.lf false (.sc (.int .i64 c105.1.Opened)))])), (1, some (true, .box [(.lf false (.sc (.int .i64 (wI ((wI (c105.1.Opened + c106.1)) - c107.1))))), (.lf false (.sc (.bool c108.1)))]))], 2, 23⟩ (weak_of (m := 0) [some 0, some 1] rfl rfl rfl (by simp [injR]) ?_ ?_) ?_
  all_goals ((try simp (disch := assumption) only [go_sem, Nat.reduceAdd, Nat.reduceMul, Nat.reduceSub, Nat.reduceEqDiff, ↓reduceIte, Nat.reduceLT, reduceCtorEq, Nat.reduceLeDiff, Int.reduceToNat, Int.reduceEq, Int.reduceLE, Int.reduceLT, Nat.reduceBEq]); (repeat' first | done | rfl | omega | refine And.intro ?_ ?_ | (simp; done) | (simp; omega)))
theorem w_impl_CallBreaker {a0 : BreakerT} {a1 : CallT} {r : (BreakerT × Bool × Bool)} (h : impl_CallBreaker a0 a1 = some r) : Fn Try.prog 26 [(.ag [(.lf false (.sc (.int .i64 a0.Limit))), (.lf false (.sc (.int .i64 a0.Cool))), (.lf false (.sc (.int .i64 a0.State))), (.lf false (.sc (.int .i64 a0.Fails))), (.lf false (.sc (.int .i64 a0.Opened)))]), (.ag [(.lf false (.sc (.int .i64 a1.Now))), (.lf false (.sc (.bool a1.Fine)))])] [] 0 (.tu [(.ag [(.lf false (.sc (.int .i64 r.1.Limit))), (.lf false (.sc (.int .i64 r.1.Cool))), (.lf false (.sc (.int .i64 r.1.State))), (.lf false (.sc (.int .i64 r.1.Fails))), (.lf false (.sc (.int .i64 r.1.Opened)))]), (.lf false (.sc (.bool r.2.1))), (.lf false (.sc (.bool r.2.2)))]) [] 1 := by
  unfold impl_CallBreaker at h
  refine fn_code tab_ok mixed [(1000, [(2, 0), (3, 0), (4, 0)]), (1001, [(2, 0), (3, 0), (4, 0), (16, 0)]), (1002, [(4, 0), (5, 0), (6, 0)]), (1003, [(2, 0), (4, 0), (7, 0)]), (1004, [(4, 0), (5, 0), (6, 0)]), (4001, [])] Try.func26 rfl rfl (by simp [Try.f26]) (by kernel_rfl) ?_
  simp only [Try.f26]
  simp (disch := assumption) only [go_sem, Nat.reduceAdd, Nat.reduceMul, Nat.reduceSub, Nat.reduceEqDiff, ↓reduceIte, Nat.reduceLT, reduceCtorEq, Nat.reduceLeDiff, Int.reduceToNat, Int.reduceEq, Int.reduceLE, Int.reduceLT, Nat.reduceBEq]
  obtain ⟨p112, hq1, h⟩ := bind_ok h
  refine Sq_cut (fun s2 => s2 = ⟨[(2, (.pb 0 0)), (3, (.pb 1 0)), (4, (.pb 2 0)), (16, (.lf false (.sc (.bool p112.t16))))], [(0, some (true, .box [(.lf false (.sc (.int .i64 a0.Limit))), (.lf false (.sc (.int .i64 a0.Cool))), (.lf false (.sc (.int .i64 a0.State))), (.lf false (.sc (.int .i64 a0.Fails))), (.lf false (.sc (.int .i64 a0.Opened)))])), (1, some (true, .box [(.lf false (.sc (.int .i64 a1.Now))), (.lf false (.sc (.bool a1.Fine)))])), (2, some (true, .box [(.lf false (.sc (.int .i64 0))), (.lf false (.sc (.int .i64 0))), (.lf false (.sc (.int .i64 0))), (.lf false (.sc (.int .i64 0))), (.lf false (.sc (.int .i64 0)))]))], 3, 22⟩) ?_ ?_
  · try simp (disch := assumption) only [go_sem, Nat.reduceAdd, Nat.reduceMul, Nat.reduceSub, Nat.reduceEqDiff, ↓reduceIte, Nat.reduceLT, reduceCtorEq, Nat.reduceLeDiff, Int.reduceToNat, Int.reduceEq, Int.reduceLE, Int.reduceLT, Nat.reduceBEq]
    obtain ⟨c110, hr2, hq1⟩ := bind_ok hq1
    refine Cl_shown (w_impl_GoodBreaker hr2) (by first | rfl | (simp (disch := assumption) only [go_sem, Nat.reduceAdd, Nat.reduceMul, Nat.reduceSub, Nat.reduceEqDiff, ↓reduceIte, Nat.reduceLT, reduceCtorEq, Nat.reduceLeDiff, Int.reduceToNat, Int.reduceEq, Int.reduceLE, Int.reduceLT, Nat.reduceBEq]; first | done | rfl)) (FitAll.refl _) (.inl (by first | rfl | (simp (disch := assumption) only [go_sem, Nat.reduceAdd, Nat.reduceMul, Nat.reduceSub, Nat.reduceEqDiff, ↓reduceIte, Nat.reduceLT, reduceCtorEq, Nat.reduceLeDiff, Int.reduceToNat, Int.reduceEq, Int.reduceLE, Int.reduceLT, Nat.reduceBEq]; done))) ?_
    try simp (disch := assumption) only [go_sem, Nat.reduceAdd, Nat.reduceMul, Nat.reduceSub, Nat.reduceEqDiff, ↓reduceIte, Nat.reduceLT, reduceCtorEq, Nat.reduceLeDiff, Int.reduceToNat, Int.reduceEq, Int.reduceLE, Int.reduceLT, Nat.reduceBEq]
    refine Sp_splitC ((!c110)) (by first | rfl | (simp only [beq_iff_eq]; done) | simp) (fun hc3 => ?_) (fun hc3 => ?_)
    · rw [if_pos hc3] at hq1
      try simp (disch := assumption) only [go_sem, Nat.reduceAdd, Nat.reduceMul, Nat.reduceSub, Nat.reduceEqDiff, ↓reduceIte, Nat.reduceLT, reduceCtorEq, Nat.reduceLeDiff, Int.reduceToNat, Int.reduceEq, Int.reduceLE, Int.reduceLT, Nat.reduceBEq]
      cases hq1
      refine X_cut rfl ?_
      refine weak_of (m := 0) [some 0, some 1, some 2] rfl rfl rfl (by simp [injR]) ?_ ?_
      all_goals ((try simp (disch := assumption) only [go_sem, Nat.reduceAdd, Nat.reduceMul, Nat.reduceSub, Nat.reduceEqDiff, ↓reduceIte, Nat.reduceLT, reduceCtorEq, Nat.reduceLeDiff, Int.reduceToNat, Int.reduceEq, Int.reduceLE, Int.reduceLT, Nat.reduceBEq]); (repeat' first | done | rfl | omega | refine And.intro ?_ ?_ | (simp; done) | (simp; omega)))
    · rw [if_neg (nt hc3)] at hq1
      try simp (disch := assumption) only [go_sem, Nat.reduceAdd, Nat.reduceMul, Nat.reduceSub, Nat.reduceEqDiff, ↓reduceIte, Nat.reduceLT, reduceCtorEq, Nat.reduceLeDiff, Int.reduceToNat, Int.reduceEq, Int.reduceLE, Int.reduceLT, Nat.reduceBEq]
      obtain ⟨c111, hr4, hq1⟩ := bind_ok hq1
      refine Cl_shown (w_impl_isTime hr4) (by first | rfl | (simp (disch := assumption) only [go_sem, Nat.reduceAdd, Nat.reduceMul, Nat.reduceSub, Nat.reduceEqDiff, ↓reduceIte, Nat.reduceLT, reduceCtorEq, Nat.reduceLeDiff, Int.reduceToNat, Int.reduceEq, Int.reduceLE, Int.reduceLT, Nat.reduceBEq]; first | done | rfl)) (FitAll.refl _) (.inl (by first | rfl | (simp (disch := assumption) only [go_sem, Nat.reduceAdd, Nat.reduceMul, Nat.reduceSub, Nat.reduceEqDiff, ↓reduceIte, Nat.reduceLT, reduceCtorEq, Nat.reduceLeDiff, Int.reduceToNat, Int.reduceEq, Int.reduceLE, Int.reduceLT, Nat.reduceBEq]; done))) ?_
      try simp (disch := assumption) only [go_sem, Nat.reduceAdd, Nat.reduceMul, Nat.reduceSub, Nat.reduceEqDiff, ↓reduceIte, Nat.reduceLT, reduceCtorEq, Nat.reduceLeDiff, Int.reduceToNat, Int.reduceEq, Int.reduceLE, Int.reduceLT, Nat.reduceBEq]
      cases hq1
      refine X_cut rfl ?_
      refine weak_of (m := 0) [some 0, some 1, some 2] rfl rfl rfl (by simp [injR]) ?_ ?_
      all_goals ((try simp (disch := assumption) only [go_sem, Nat.reduceAdd, Nat.reduceMul, Nat.reduceSub, Nat.reduceEqDiff, ↓reduceIte, Nat.reduceLT, reduceCtorEq, Nat.reduceLeDiff, Int.reduceToNat, Int.reduceEq, Int.reduceLE, Int.reduceLT, Nat.reduceBEq]); (repeat' first | done | rfl | omega | refine And.intro ?_ ?_ | (simp; done) | (simp; omega)))
  · intro s2 hJ; subst hJ
    try dsimp only at h
    try simp (disch := assumption) only [go_sem, Nat.reduceAdd, Nat.reduceMul, Nat.reduceSub, Nat.reduceEqDiff, ↓reduceIte, Nat.reduceLT, reduceCtorEq, Nat.reduceLeDiff, Int.reduceToNat, Int.reduceEq, Int.reduceLE, Int.reduceLT, Nat.reduceBEq]
    refine Bs_splitC (p112.t16) (by first | rfl | (simp only [beq_iff_eq]; done) | simp) (fun hc5 => ?_) (fun hc5 => ?_)
    · rw [if_pos hc5] at h
      try simp (disch := assumption) only [go_sem, Nat.reduceAdd, Nat.reduceMul, Nat.reduceSub, Nat.reduceEqDiff, ↓reduceIte, Nat.reduceLT, reduceCtorEq, Nat.reduceLeDiff, Int.reduceToNat, Int.reduceEq, Int.reduceLE, Int.reduceLT, Nat.reduceBEq]
      have he := Option.some.inj h
      subst he
      refine ends_weak ⟨[(4, (.pb 0 0)), (5, (.lf false (.sc (.bool false)))), (6, (.lf false (.sc (.bool false))))], [(0, some (true, .box [(.lf false (.sc (.int .i64 0))), (.lf false (.sc (.int .i64 0))), (.lf false (.sc (.int .i64 0))), (.lf false (.sc (.int .i64 0))), (.lf false (.sc (.int .i64 0)))]))], 1, 22⟩ (weak_of (m := 0) [some 2] rfl rfl rfl (by simp [injR]) ?_ ?_) ?_
      all_goals ((try simp (disch := assumption) only [go_sem, Nat.reduceAdd, Nat.reduceMul, Nat.reduceSub, Nat.reduceEqDiff, ↓reduceIte, Nat.reduceLT, reduceCtorEq, Nat.reduceLeDiff, Int.reduceToNat, Int.reduceEq, Int.reduceLE, Int.reduceLT, Nat.reduceBEq]); (repeat' first | done | rfl | omega | refine And.intro ?_ ?_ | (simp; done) | (simp; omega)))
    · rw [if_neg (nt hc5)] at h
      try simp (disch := assumption) only [go_sem, Nat.reduceAdd, Nat.reduceMul, Nat.reduceSub, Nat.reduceEqDiff, ↓reduceIte, Nat.reduceLT, reduceCtorEq, Nat.reduceLeDiff, Int.reduceToNat, Int.reduceEq, Int.reduceLE, Int.reduceLT, Nat.reduceBEq]
      obtain ⟨c113, hr6, h⟩ := bind_ok h
      refine Cl_hand (ids := [0]) (w_impl_Breaker_call_o hr6) (by first | rfl | (simp (disch := assumption) only [go_sem, Nat.reduceAdd, Nat.reduceMul, Nat.reduceSub, Nat.reduceEqDiff, ↓reduceIte, Nat.reduceLT, reduceCtorEq, Nat.reduceLeDiff, Int.reduceToNat, Int.reduceEq, Int.reduceLE, Int.reduceLT, Nat.reduceBEq]; first | done | rfl)) (FitAll.refl _) (by first | rfl | (simp (disch := assumption) only [go_sem, Nat.reduceAdd, Nat.reduceMul, Nat.reduceSub, Nat.reduceEqDiff, ↓reduceIte, Nat.reduceLT, reduceCtorEq, Nat.reduceLeDiff, Int.reduceToNat, Int.reduceEq, Int.reduceLE, Int.reduceLT, Nat.reduceBEq]; first | done | rfl)) (by decide) (by first | rfl | (simp (disch := assumption) only [go_sem, Nat.reduceAdd, Nat.reduceMul, Nat.reduceSub, Nat.reduceEqDiff, ↓reduceIte, Nat.reduceLT, reduceCtorEq, Nat.reduceLeDiff, Int.reduceToNat, Int.reduceEq, Int.reduceLE, Int.reduceLT, Nat.reduceBEq]; done)) (by rfl) ?_
      try simp (disch := assumption) only [go_sem, Nat.reduceAdd, Nat.reduceMul, Nat.reduceSub, Nat.reduceEqDiff, ↓reduceIte, Nat.reduceLT, reduceCtorEq, Nat.reduceLeDiff, Int.reduceToNat, Int.reduceEq, Int.reduceLE, Int.reduceLT, Nat.reduceBEq]
      have he := Option.some.inj h
      subst he
      refine ends_weak ⟨[(4, (.pb 0 0)), (5, (.lf false (.sc (.bool c113.1)))), (6, (.lf false (.sc (.bool true))))], [(0, some (true, .box [(.lf false (.sc (.int .i64 c113.2.Limit))), (.lf false (.sc (.int .i64 c113.2.Cool))), (.lf false (.sc (.int .i64 c113.2.State))), (.lf false (.sc (.int .i64 c113.2.Fails))), (.lf false (.sc (.int .i64 c113.2.Opened)))]))], 1, 22⟩ (weak_of (m := 0) [some 2] rfl rfl rfl (by simp [injR]) ?_ ?_) ?_
      all_goals ((try simp (disch := assumption) only [go_sem, Nat.reduceAdd, Nat.reduceMul, Nat.reduceSub, Nat.reduceEqDiff, ↓reduceIte, Nat.reduceLT, reduceCtorEq, Nat.reduceLeDiff, Int.reduceToNat, Int.reduceEq, Int.reduceLE, Int.reduceLT, Nat.reduceBEq]); (repeat' first | done | rfl | omega | refine And.intro ?_ ?_ | (simp; done) | (simp; omega)))
theorem w_spec_GoodBreaker {a0 : BreakerT} {r : Bool} (h : spec_GoodBreaker a0 = some r) : Fn Try.prog 71 [(.ag [(.lf false (.sc (.int .i64 a0.Limit))), (.lf false (.sc (.int .i64 a0.Cool))), (.lf false (.sc (.int .i64 a0.State))), (.lf false (.sc (.int .i64 a0.Fails))), (.lf false (.sc (.int .i64 a0.Opened)))])] [] 0 (.lf false (.sc (.bool r))) [] 0 := by
  unfold spec_GoodBreaker at h
  refine fn_code tab_ok mixed [(1000, [(1, 0)]), (1001, [(1, 0), (24, 0)]), (1002, [(2, 0)]), (1003, [(1, 0), (27, 0)]), (1004, [(2, 0)]), (1005, [(2, 0)]), (4001, [])] Try.func71 rfl rfl (by simp [Try.f71]) (by kernel_rfl) ?_
  simp only [Try.f71]
  simp (disch := assumption) only [go_sem, Nat.reduceAdd, Nat.reduceMul, Nat.reduceSub, Nat.reduceEqDiff, ↓reduceIte, Nat.reduceLT, reduceCtorEq, Nat.reduceLeDiff, Int.reduceToNat, Int.reduceEq, Int.reduceLE, Int.reduceLT, Nat.reduceBEq]
  obtain ⟨p119, hq1, h⟩ := bind_ok h
  refine Sq_cut (fun s2 => s2 = ⟨[(1, (.pb 0 0)), (24, (.lf false (.sc (.bool p119.t24))))], [(0, some (true, .box [(.lf false (.sc (.int .i64 a0.Limit))), (.lf false (.sc (.int .i64 a0.Cool))), (.lf false (.sc (.int .i64 a0.State))), (.lf false (.sc (.int .i64 a0.Fails))), (.lf false (.sc (.int .i64 a0.Opened)))]))], 1, 44⟩) ?_ ?_
  · try simp (disch := assumption) only [go_sem, Nat.reduceAdd, Nat.reduceMul, Nat.reduceSub, Nat.reduceEqDiff, ↓reduceIte, Nat.reduceLT, reduceCtorEq, Nat.reduceLeDiff, Int.reduceToNat, Int.reduceEq, Int.reduceLE, Int.reduceLT, Nat.reduceBEq]
    obtain ⟨c115, hr2, hq1⟩ := bind_ok hq1
    refine Cl_shown (w_spec_l1In hr2) (by first | rfl | (simp (disch := assumption) only [go_sem, Nat.reduceAdd, Nat.reduceMul, Nat.reduceSub, Nat.reduceEqDiff, ↓reduceIte, Nat.reduceLT, reduceCtorEq, Nat.reduceLeDiff, Int.reduceToNat, Int.reduceEq, Int.reduceLE, Int.reduceLT, Nat.reduceBEq]; first | done | rfl)) (FitAll.refl _) (.inl (by first | rfl | (simp (disch := assumption) only [go_sem, Nat.reduceAdd, Nat.reduceMul, Nat.reduceSub, Nat.reduceEqDiff, ↓reduceIte, Nat.reduceLT, reduceCtorEq, Nat.reduceLeDiff, Int.reduceToNat, Int.reduceEq, Int.reduceLE, Int.reduceLT, Nat.reduceBEq]; done))) ?_
    try simp (disch := assumption) only [go_sem, Nat.reduceAdd, Nat.reduceMul, Nat.reduceSub, Nat.reduceEqDiff, ↓reduceIte, Nat.reduceLT, reduceCtorEq, Nat.reduceLeDiff, Int.reduceToNat, Int.reduceEq, Int.reduceLE, Int.reduceLT, Nat.reduceBEq]
    refine Sp_splitC ((!c115)) (by first | rfl | (simp only [beq_iff_eq]; done) | simp) (fun hc3 => ?_) (fun hc3 => ?_)
    · rw [if_pos hc3] at hq1
      try simp (disch := assumption) only [go_sem, Nat.reduceAdd, Nat.reduceMul, Nat.reduceSub, Nat.reduceEqDiff, ↓reduceIte, Nat.reduceLT, reduceCtorEq, Nat.reduceLeDiff, Int.reduceToNat, Int.reduceEq, Int.reduceLE, Int.reduceLT, Nat.reduceBEq]
      cases hq1
      refine X_cut rfl ?_
      refine weak_of (m := 0) [some 0] rfl rfl rfl (by simp [injR]) ?_ ?_
      all_goals ((try simp (disch := assumption) only [go_sem, Nat.reduceAdd, Nat.reduceMul, Nat.reduceSub, Nat.reduceEqDiff, ↓reduceIte, Nat.reduceLT, reduceCtorEq, Nat.reduceLeDiff, Int.reduceToNat, Int.reduceEq, Int.reduceLE, Int.reduceLT, Nat.reduceBEq]); (repeat' first | done | rfl | omega | refine And.intro ?_ ?_ | (simp; done) | (simp; omega)))
    · rw [if_neg (nt hc3)] at hq1
      try simp (disch := assumption) only [go_sem, Nat.reduceAdd, Nat.reduceMul, Nat.reduceSub, Nat.reduceEqDiff, ↓reduceIte, Nat.reduceLT, reduceCtorEq, Nat.reduceLeDiff, Int.reduceToNat, Int.reduceEq, Int.reduceLE, Int.reduceLT, Nat.reduceBEq]
      obtain ⟨c116, hr4, hq1⟩ := bind_ok hq1
      refine Cl_shown (w_spec_l1In hr4) (by first | rfl | (simp (disch := assumption) only [go_sem, Nat.reduceAdd, Nat.reduceMul, Nat.reduceSub, Nat.reduceEqDiff, ↓reduceIte, Nat.reduceLT, reduceCtorEq, Nat.reduceLeDiff, Int.reduceToNat, Int.reduceEq, Int.reduceLE, Int.reduceLT, Nat.reduceBEq]; first | done | rfl)) (FitAll.refl _) (.inl (by first | rfl | (simp (disch := assumption) only [go_sem, Nat.reduceAdd, Nat.reduceMul, Nat.reduceSub, Nat.reduceEqDiff, ↓reduceIte, Nat.reduceLT, reduceCtorEq, Nat.reduceLeDiff, Int.reduceToNat, Int.reduceEq, Int.reduceLE, Int.reduceLT, Nat.reduceBEq]; done))) ?_
      try simp (disch := assumption) only [go_sem, Nat.reduceAdd, Nat.reduceMul, Nat.reduceSub, Nat.reduceEqDiff, ↓reduceIte, Nat.reduceLT, reduceCtorEq, Nat.reduceLeDiff, Int.reduceToNat, Int.reduceEq, Int.reduceLE, Int.reduceLT, Nat.reduceBEq]
      refine Sp_splitC ((!c116)) (by first | rfl | (simp only [beq_iff_eq]; done) | simp) (fun hc5 => ?_) (fun hc5 => ?_)
      · rw [if_pos hc5] at hq1
        try simp (disch := assumption) only [go_sem, Nat.reduceAdd, Nat.reduceMul, Nat.reduceSub, Nat.reduceEqDiff, ↓reduceIte, Nat.reduceLT, reduceCtorEq, Nat.reduceLeDiff, Int.reduceToNat, Int.reduceEq, Int.reduceLE, Int.reduceLT, Nat.reduceBEq]
        cases hq1
        refine X_cut rfl ?_
        refine weak_of (m := 0) [some 0] rfl rfl rfl (by simp [injR]) ?_ ?_
        all_goals ((try simp (disch := assumption) only [go_sem, Nat.reduceAdd, Nat.reduceMul, Nat.reduceSub, Nat.reduceEqDiff, ↓reduceIte, Nat.reduceLT, reduceCtorEq, Nat.reduceLeDiff, Int.reduceToNat, Int.reduceEq, Int.reduceLE, Int.reduceLT, Nat.reduceBEq]); (repeat' first | done | rfl | omega | refine And.intro ?_ ?_ | (simp; done) | (simp; omega)))
      · rw [if_neg (nt hc5)] at hq1
        try simp (disch := assumption) only [go_sem, Nat.reduceAdd, Nat.reduceMul, Nat.reduceSub, Nat.reduceEqDiff, ↓reduceIte, Nat.reduceLT, reduceCtorEq, Nat.reduceLeDiff, Int.reduceToNat, Int.reduceEq, Int.reduceLE, Int.reduceLT, Nat.reduceBEq]
        obtain ⟨c117, hr6, hq1⟩ := bind_ok hq1
        refine Cl_shown (w_spec_l1In hr6) (by first | rfl | (simp (disch := assumption) only [go_sem, Nat.reduceAdd, Nat.reduceMul, Nat.reduceSub, Nat.reduceEqDiff, ↓reduceIte, Nat.reduceLT, reduceCtorEq, Nat.reduceLeDiff, Int.reduceToNat, Int.reduceEq, Int.reduceLE, Int.reduceLT, Nat.reduceBEq]; first | done | rfl)) (FitAll.refl _) (.inl (by first | rfl | (simp (disch := assumption) only [go_sem, Nat.reduceAdd, Nat.reduceMul, Nat.reduceSub, Nat.reduceEqDiff, ↓reduceIte, Nat.reduceLT, reduceCtorEq, Nat.reduceLeDiff, Int.reduceToNat, Int.reduceEq, Int.reduceLE, Int.reduceLT, Nat.reduceBEq]; done))) ?_
        try simp (disch := assumption) only [go_sem, Nat.reduceAdd, Nat.reduceMul, Nat.reduceSub, Nat.reduceEqDiff, ↓reduceIte, Nat.reduceLT, reduceCtorEq, Nat.reduceLeDiff, Int.reduceToNat, Int.reduceEq, Int.reduceLE, Int.reduceLT, Nat.reduceBEq]
        refine Sp_splitC ((!c117)) (by first | rfl | (simp only [beq_iff_eq]; done) | simp) (fun hc7 => ?_) (fun hc7 => ?_)
        · rw [if_pos hc7] at hq1
          try simp (disch := assumption) only [go_sem, Nat.reduceAdd, Nat.reduceMul, Nat.reduceSub, Nat.reduceEqDiff, ↓reduceIte, Nat.reduceLT, reduceCtorEq, Nat.reduceLeDiff, Int.reduceToNat, Int.reduceEq, Int.reduceLE, Int.reduceLT, Nat.reduceBEq]
          cases hq1
          refine X_cut rfl ?_
          refine weak_of (m := 0) [some 0] rfl rfl rfl (by simp [injR]) ?_ ?_
          all_goals ((try simp (disch := assumption) only [go_sem, Nat.reduceAdd, Nat.reduceMul, Nat.reduceSub, Nat.reduceEqDiff, ↓reduceIte, Nat.reduceLT, reduceCtorEq, Nat.reduceLeDiff, Int.reduceToNat, Int.reduceEq, Int.reduceLE, Int.reduceLT, Nat.reduceBEq]); (repeat' first | done | rfl | omega | refine And.intro ?_ ?_ | (simp; done) | (simp; omega)))
        · rw [if_neg (nt hc7)] at hq1
          try simp (disch := assumption) only [go_sem, Nat.reduceAdd, Nat.reduceMul, Nat.reduceSub, Nat.reduceEqDiff, ↓reduceIte, Nat.reduceLT, reduceCtorEq, Nat.reduceLeDiff, Int.reduceToNat, Int.reduceEq, Int.reduceLE, Int.reduceLT, Nat.reduceBEq]
          obtain ⟨c118, hr8, hq1⟩ := bind_ok hq1
          refine Cl_shown (w_spec_l1In hr8) (by first | rfl | (simp (disch := assumption) only [go_sem, Nat.reduceAdd, Nat.reduceMul, Nat.reduceSub, Nat.reduceEqDiff, ↓reduceIte, Nat.reduceLT, reduceCtorEq, Nat.reduceLeDiff, Int.reduceToNat, Int.reduceEq, Int.reduceLE, Int.reduceLT, Nat.reduceBEq]; first | done | rfl)) (FitAll.refl _) (.inl (by first | rfl | (simp (disch := assumption) only [go_sem, Nat.reduceAdd, Nat.reduceMul, Nat.reduceSub, Nat.reduceEqDiff, ↓reduceIte, Nat.reduceLT, reduceCtorEq, Nat.reduceLeDiff, Int.reduceToNat, Int.reduceEq, Int.reduceLE, Int.reduceLT, Nat.reduceBEq]; done))) ?_
          try simp (disch := assumption) only [go_sem, Nat.reduceAdd, Nat.reduceMul, Nat.reduceSub, Nat.reduceEqDiff, ↓reduceIte, Nat.reduceLT, reduceCtorEq, Nat.reduceLeDiff, Int.reduceToNat, Int.reduceEq, Int.reduceLE, Int.reduceLT, Nat.reduceBEq]
          cases hq1
          refine X_cut rfl ?_
          refine weak_of (m := 0) [some 0] rfl rfl rfl (by simp [injR]) ?_ ?_
          all_goals ((try simp (disch := assumption) only [go_sem, Nat.reduceAdd, Nat.reduceMul, Nat.reduceSub, Nat.reduceEqDiff, ↓reduceIte, Nat.reduceLT, reduceCtorEq, Nat.reduceLeDiff, Int.reduceToNat, Int.reduceEq, Int.reduceLE, Int.reduceLT, Nat.reduceBEq]); (repeat' first | done | rfl | omega | refine And.intro ?_ ?_ | (simp; done) | (simp; omega)))
  · intro s2 hJ; subst hJ
    try dsimp only at h
    try simp (disch := assumption) only [go_sem, Nat.reduceAdd, Nat.reduceMul, Nat.reduceSub, Nat.reduceEqDiff, ↓reduceIte, Nat.reduceLT, reduceCtorEq, Nat.reduceLeDiff, Int.reduceToNat, Int.reduceEq, Int.reduceLE, Int.reduceLT, Nat.reduceBEq]
    refine Bs_splitC (p119.t24) (by first | rfl | (simp only [beq_iff_eq]; done) | simp) (fun hc9 => ?_) (fun hc9 => ?_)
    · rw [if_pos hc9] at h
      try simp (disch := assumption) only [go_sem, Nat.reduceAdd, Nat.reduceMul, Nat.reduceSub, Nat.reduceEqDiff, ↓reduceIte, Nat.reduceLT, reduceCtorEq, Nat.reduceLeDiff, Int.reduceToNat, Int.reduceEq, Int.reduceLE, Int.reduceLT, Nat.reduceBEq]
      have he := Option.some.inj h
      subst he
      refine ends_weak ⟨[(2, (.lf false (.sc (.bool false))))], [], 0, 44⟩ (weak_of (m := 0) [] rfl rfl rfl (by simp [injR]) ?_ ?_) ?_
      all_goals ((try simp (disch := assumption) only [go_sem, Nat.reduceAdd, Nat.reduceMul, Nat.reduceSub, Nat.reduceEqDiff, ↓reduceIte, Nat.reduceLT, reduceCtorEq, Nat.reduceLeDiff, Int.reduceToNat, Int.reduceEq, Int.reduceLE, Int.reduceLT, Nat.reduceBEq]); (repeat' first | done | rfl | omega | refine And.intro ?_ ?_ | (simp; done) | (simp; omega)))
    · rw [if_neg (nt hc9)] at h
      try simp (disch := assumption) only [go_sem, Nat.reduceAdd, Nat.reduceMul, Nat.reduceSub, Nat.reduceEqDiff, ↓reduceIte, Nat.reduceLT, reduceCtorEq, Nat.reduceLeDiff, Int.reduceToNat, Int.reduceEq, Int.reduceLE, Int.reduceLT, Nat.reduceBEq]
      refine Bs_splitC ((a0.State == 0)) (by first | rfl | (simp only [beq_iff_eq]; done) | simp) (fun hc10 => ?_) (fun hc10 => ?_)
      · rw [if_pos hc10] at h
        try simp (disch := assumption) only [go_sem, Nat.reduceAdd, Nat.reduceMul, Nat.reduceSub, Nat.reduceEqDiff, ↓reduceIte, Nat.reduceLT, reduceCtorEq, Nat.reduceLeDiff, Int.reduceToNat, Int.reduceEq, Int.reduceLE, Int.reduceLT, Nat.reduceBEq]
        obtain ⟨c120, hr11, h⟩ := bind_ok h
        refine Cl_shown (w_spec_l1In hr11) (by first | rfl | (simp (disch := assumption) only [go_sem, Nat.reduceAdd, Nat.reduceMul, Nat.reduceSub, Nat.reduceEqDiff, ↓reduceIte, Nat.reduceLT, reduceCtorEq, Nat.reduceLeDiff, Int.reduceToNat, Int.reduceEq, Int.reduceLE, Int.reduceLT, Nat.reduceBEq]; first | done | rfl)) (FitAll.refl _) (.inl (by first | rfl | (simp (disch := assumption) only [go_sem, Nat.reduceAdd, Nat.reduceMul, Nat.reduceSub, Nat.reduceEqDiff, ↓reduceIte, Nat.reduceLT, reduceCtorEq, Nat.reduceLeDiff, Int.reduceToNat, Int.reduceEq, Int.reduceLE, Int.reduceLT, Nat.reduceBEq]; done))) ?_
        try simp (disch := assumption) only [go_sem, Nat.reduceAdd, Nat.reduceMul, Nat.reduceSub, Nat.reduceEqDiff, ↓reduceIte, Nat.reduceLT, reduceCtorEq, Nat.reduceLeDiff, Int.reduceToNat, Int.reduceEq, Int.reduceLE, Int.reduceLT, Nat.reduceBEq]
        refine Sp_splitC (c120) (by first | rfl | (simp only [beq_iff_eq]; done) | simp) (fun hc12 => ?_) (fun hc12 => ?_)
        · rw [if_pos hc12] at h
          try simp (disch := assumption) only [go_sem, Nat.reduceAdd, Nat.reduceMul, Nat.reduceSub, Nat.reduceEqDiff, ↓reduceIte, Nat.reduceLT, reduceCtorEq, Nat.reduceLeDiff, Int.reduceToNat, Int.reduceEq, Int.reduceLE, Int.reduceLT, Nat.reduceBEq]
          have he := Option.some.inj h
          subst he
          refine ends_weak ⟨[(2, (.lf false (.sc (.bool (a0.Opened == 0)))))], [], 0, 44⟩ (weak_of (m := 0) [] rfl rfl rfl (by simp [injR]) ?_ ?_) ?_
          all_goals ((try simp (disch := assumption) only [go_sem, Nat.reduceAdd, Nat.reduceMul, Nat.reduceSub, Nat.reduceEqDiff, ↓reduceIte, Nat.reduceLT, reduceCtorEq, Nat.reduceLeDiff, Int.reduceToNat, Int.reduceEq, Int.reduceLE, Int.reduceLT, Nat.reduceBEq]); (repeat' first | done | rfl | omega | refine And.intro ?_ ?_ | (simp; done) | (simp; omega)))
        · rw [if_neg (nt hc12)] at h
          try simp (disch := assumption) only [go_sem, Nat.reduceAdd, Nat.reduceMul, Nat.reduceSub, Nat.reduceEqDiff, ↓reduceIte, Nat.reduceLT, reduceCtorEq, Nat.reduceLeDiff, Int.reduceToNat, Int.reduceEq, Int.reduceLE, Int.reduceLT, Nat.reduceBEq]
          have he := Option.some.inj h
          subst he
          refine ends_weak ⟨[(2, (.lf false (.sc (.bool false))))], [], 0, 44⟩ (weak_of (m := 0) [] rfl rfl rfl (by simp [injR]) ?_ ?_) ?_
          all_goals ((try simp (disch := assumption) only [go_sem, Nat.reduceAdd, Nat.reduceMul, Nat.reduceSub, Nat.reduceEqDiff, ↓reduceIte, Nat.reduceLT, reduceCtorEq, Nat.reduceLeDiff, Int.reduceToNat, Int.reduceEq, Int.reduceLE, Int.reduceLT, Nat.reduceBEq]); (repeat' first | done | rfl | omega | refine And.intro ?_ ?_ | (simp; done) | (simp; omega)))
      · rw [if_neg (nt hc10)] at h
        try simp (disch := assumption) only [go_sem, Nat.reduceAdd, Nat.reduceMul, Nat.reduceSub, Nat.reduceEqDiff, ↓reduceIte, Nat.reduceLT, reduceCtorEq, Nat.reduceLeDiff, Int.reduceToNat, Int.reduceEq, Int.reduceLE, Int.reduceLT, Nat.reduceBEq]
        have he := Option.some.inj h
        subst he
        refine ends_weak ⟨[(2, (.lf false (.sc (.bool (a0.Fails == a0.Limit)))))], [], 0, 44⟩ (weak_of (m := 0) [] rfl rfl rfl (by simp [injR]) ?_ ?_) ?_
        all_goals ((try simp (disch := assumption) only [go_sem, Nat.reduceAdd, Nat.reduceMul, Nat.reduceSub, Nat.reduceEqDiff, ↓reduceIte, Nat.reduceLT, reduceCtorEq, Nat.reduceLeDiff, Int.reduceToNat, Int.reduceEq, Int.reduceLE, Int.reduceLT, Nat.reduceBEq]); (repeat' first | done | rfl | omega | refine And.intro ?_ ?_ | (simp; done) | (simp; omega)))
theorem w_spec_CallBreaker {a0 : BreakerT} {a1 : CallT} {r : (BreakerT × Bool × Bool)} (h : spec_CallBreaker a0 a1 = some r) : Fn Try.prog 23 [(.ag [(.lf false (.sc (.int .i64 a0.Limit))), (.lf false (.sc (.int .i64 a0.Cool))), (.lf false (.sc (.int .i64 a0.State))), (.lf false (.sc (.int .i64 a0.Fails))), (.lf false (.sc (.int .i64 a0.Opened)))]), (.ag [(.lf false (.sc (.int .i64 a1.Now))), (.lf false (.sc (.bool a1.Fine)))])] [] 0 (.tu [(.ag [(.lf false (.sc (.int .i64 r.1.Limit))), (.lf false (.sc (.int .i64 r.1.Cool))), (.lf false (.sc (.int .i64 r.1.State))), (.lf false (.sc (.int .i64 r.1.Fails))), (.lf false (.sc (.int .i64 r.1.Opened)))]), (.lf false (.sc (.bool r.2.1))), (.lf false (.sc (.bool r.2.2)))]) [] 1 := by
  unfold spec_CallBreaker at h
  refine fn_code tab_ok mixed [(1000, [(2, 0), (3, 0), (4, 0)]), (1001, [(2, 0), (3, 0), (4, 0), (17, 0)]), (1002, [(4, 0), (5, 0), (6, 0)]), (1003, [(4, 0), (7, 0), (8, 0)]), (1004, [(4, 0), (5, 0), (6, 0)]), (4001, [])] Try.func23 rfl rfl (by simp [Try.f23]) (by kernel_rfl) ?_
  simp only [Try.f23]
  simp (disch := assumption) only [go_sem, Nat.reduceAdd, Nat.reduceMul, Nat.reduceSub, Nat.reduceEqDiff, ↓reduceIte, Nat.reduceLT, reduceCtorEq, Nat.reduceLeDiff, Int.reduceToNat, Int.reduceEq, Int.reduceLE, Int.reduceLT, Nat.reduceBEq]
  obtain ⟨p123, hq1, h⟩ := bind_ok h
  refine Sq_cut (fun s2 => s2 = ⟨[(2, (.pb 0 0)), (3, (.pb 1 0)), (4, (.pb 2 0)), (17, (.lf false (.sc (.bool p123.t17))))], [(0, some (true, .box [(.lf false (.sc (.int .i64 a0.Limit))), (.lf false (.sc (.int .i64 a0.Cool))), (.lf false (.sc (.int .i64 a0.State))), (.lf false (.sc (.int .i64 a0.Fails))), (.lf false (.sc (.int .i64 a0.Opened)))])), (1, some (true, .box [(.lf false (.sc (.int .i64 a1.Now))), (.lf false (.sc (.bool a1.Fine)))])), (2, some (true, .box [(.lf false (.sc (.int .i64 0))), (.lf false (.sc (.int .i64 0))), (.lf false (.sc (.int .i64 0))), (.lf false (.sc (.int .i64 0))), (.lf false (.sc (.int .i64 0)))]))], 3, 27⟩) ?_ ?_
  · try simp (disch := assumption) only [go_sem, Nat.reduceAdd, Nat.reduceMul, Nat.reduceSub, Nat.reduceEqDiff, ↓reduceIte, Nat.reduceLT, reduceCtorEq, Nat.reduceLeDiff, Int.reduceToNat, Int.reduceEq, Int.reduceLE, Int.reduceLT, Nat.reduceBEq]
    obtain ⟨c121, hr2, hq1⟩ := bind_ok hq1
    refine Cl_shown (w_spec_GoodBreaker hr2) (by first | rfl | (simp (disch := assumption) only [go_sem, Nat.reduceAdd, Nat.reduceMul, Nat.reduceSub, Nat.reduceEqDiff, ↓reduceIte, Nat.reduceLT, reduceCtorEq, Nat.reduceLeDiff, Int.reduceToNat, Int.reduceEq, Int.reduceLE, Int.reduceLT, Nat.reduceBEq]; first | done | rfl)) (FitAll.refl _) (.inl (by first | rfl | (simp (disch := assumption) only [go_sem, Nat.reduceAdd, Nat.reduceMul, Nat.reduceSub, Nat.reduceEqDiff, ↓reduceIte, Nat.reduceLT, reduceCtorEq, Nat.reduceLeDiff, Int.reduceToNat, Int.reduceEq, Int.reduceLE, Int.reduceLT, Nat.reduceBEq]; done))) ?_
    try simp (disch := assumption) only [go_sem, Nat.reduceAdd, Nat.reduceMul, Nat.reduceSub, Nat.reduceEqDiff, ↓reduceIte, Nat.reduceLT, reduceCtorEq, Nat.reduceLeDiff, Int.reduceToNat, Int.reduceEq, Int.reduceLE, Int.reduceLT, Nat.reduceBEq]
    refine Sp_splitC ((!c121)) (by first | rfl | (simp only [beq_iff_eq]; done) | simp) (fun hc3 => ?_) (fun hc3 => ?_)
    · rw [if_pos hc3] at hq1
      try simp (disch := assumption) only [go_sem, Nat.reduceAdd, Nat.reduceMul, Nat.reduceSub, Nat.reduceEqDiff, ↓reduceIte, Nat.reduceLT, reduceCtorEq, Nat.reduceLeDiff, Int.reduceToNat, Int.reduceEq, Int.reduceLE, Int.reduceLT, Nat.reduceBEq]
      cases hq1
      refine X_cut rfl ?_
      refine weak_of (m := 0) [some 0, some 1, some 2] rfl rfl rfl (by simp [injR]) ?_ ?_
      all_goals ((try simp (disch := assumption) only [go_sem, Nat.reduceAdd, Nat.reduceMul, Nat.reduceSub, Nat.reduceEqDiff, ↓reduceIte, Nat.reduceLT, reduceCtorEq, Nat.reduceLeDiff, Int.reduceToNat, Int.reduceEq, Int.reduceLE, Int.reduceLT, Nat.reduceBEq]); (repeat' first | done | rfl | omega | refine And.intro ?_ ?_ | (simp; done) | (simp; omega)))
    · rw [if_neg (nt hc3)] at hq1
      try simp (disch := assumption) only [go_sem, Nat.reduceAdd, Nat.reduceMul, Nat.reduceSub, Nat.reduceEqDiff, ↓reduceIte, Nat.reduceLT, reduceCtorEq, Nat.reduceLeDiff, Int.reduceToNat, Int.reduceEq, Int.reduceLE, Int.reduceLT, Nat.reduceBEq]
      obtain ⟨c122, hr4, hq1⟩ := bind_ok hq1
      refine Cl_shown (w_spec_l1In hr4) (by first | rfl | (simp (disch := assumption) only [go_sem, Nat.reduceAdd, Nat.reduceMul, Nat.reduceSub, Nat.reduceEqDiff, ↓reduceIte, Nat.reduceLT, reduceCtorEq, Nat.reduceLeDiff, Int.reduceToNat, Int.reduceEq, Int.reduceLE, Int.reduceLT, Nat.reduceBEq]; first | done | rfl)) (FitAll.refl _) (.inl (by first | rfl | (simp (disch := assumption) only [go_sem, Nat.reduceAdd, Nat.reduceMul, Nat.reduceSub, Nat.reduceEqDiff, ↓reduceIte, Nat.reduceLT, reduceCtorEq, Nat.reduceLeDiff, Int.reduceToNat, Int.reduceEq, Int.reduceLE, Int.reduceLT, Nat.reduceBEq]; done))) ?_
      try simp (disch := assumption) only [go_sem, Nat.reduceAdd, Nat.reduceMul, Nat.reduceSub, Nat.reduceEqDiff, ↓reduceIte, Nat.reduceLT, reduceCtorEq, Nat.reduceLeDiff, Int.reduceToNat, Int.reduceEq, Int.reduceLE, Int.reduceLT, Nat.reduceBEq]
      cases hq1
      refine X_cut rfl ?_
      refine weak_of (m := 0) [some 0, some 1, some 2] rfl rfl rfl (by simp [injR]) ?_ ?_
      all_goals ((try simp (disch := assumption) only [go_sem, Nat.reduceAdd, Nat.reduceMul, Nat.reduceSub, Nat.reduceEqDiff, ↓reduceIte, Nat.reduceLT, reduceCtorEq, Nat.reduceLeDiff, Int.reduceToNat, Int.reduceEq, Int.reduceLE, Int.reduceLT, Nat.reduceBEq]); (repeat' first | done | rfl | omega | refine And.intro ?_ ?_ | (simp; done) | (simp; omega)))
  · intro s2 hJ; subst hJ
    try dsimp only at h
    try simp (disch := assumption) only [go_sem, Nat.reduceAdd, Nat.reduceMul, Nat.reduceSub, Nat.reduceEqDiff, ↓reduceIte, Nat.reduceLT, reduceCtorEq, Nat.reduceLeDiff, Int.reduceToNat, Int.reduceEq, Int.reduceLE, Int.reduceLT, Nat.reduceBEq]
    refine Bs_splitC (p123.t17) (by first | rfl | (simp only [beq_iff_eq]; done) | simp) (fun hc5 => ?_) (fun hc5 => ?_)
    · rw [if_pos hc5] at h
      try simp (disch := assumption) only [go_sem, Nat.reduceAdd, Nat.reduceMul, Nat.reduceSub, Nat.reduceEqDiff, ↓reduceIte, Nat.reduceLT, reduceCtorEq, Nat.reduceLeDiff, Int.reduceToNat, Int.reduceEq, Int.reduceLE, Int.reduceLT, Nat.reduceBEq]
      have he := Option.some.inj h
      subst he
      refine ends_weak ⟨[(4, (.pb 0 0)), (5, (.lf false (.sc (.bool false)))), (6, (.lf false (.sc (.bool false))))], [(0, some (true, .box [(.lf false (.sc (.int .i64 0))), (.lf false (.sc (.int .i64 0))), (.lf false (.sc (.int .i64 0))), (.lf false (.sc (.int .i64 0))), (.lf false (.sc (.int .i64 0)))]))], 1, 27⟩ (weak_of (m := 0) [some 2] rfl rfl rfl (by simp [injR]) ?_ ?_) ?_
      all_goals ((try simp (disch := assumption) only [go_sem, Nat.reduceAdd, Nat.reduceMul, Nat.reduceSub, Nat.reduceEqDiff, ↓reduceIte, Nat.reduceLT, reduceCtorEq, Nat.reduceLeDiff, Int.reduceToNat, Int.reduceEq, Int.reduceLE, Int.reduceLT, Nat.reduceBEq]); (repeat' first | done | rfl | omega | refine And.intro ?_ ?_ | (simp; done) | (simp; omega)))
    · rw [if_neg (nt hc5)] at h
      try simp (disch := assumption) only [go_sem, Nat.reduceAdd, Nat.reduceMul, Nat.reduceSub, Nat.reduceEqDiff, ↓reduceIte, Nat.reduceLT, reduceCtorEq, Nat.reduceLeDiff, Int.reduceToNat, Int.reduceEq, Int.reduceLE, Int.reduceLT, Nat.reduceBEq]
      obtain ⟨c124, hr6, h⟩ := bind_ok h
      refine Cl_shown (w_spec_l10Call hr6) (by first | rfl | (simp (disch := assumption) only [go_sem, Nat.reduceAdd, Nat.reduceMul, Nat.reduceSub, Nat.reduceEqDiff, ↓reduceIte, Nat.reduceLT, reduceCtorEq, Nat.reduceLeDiff, Int.reduceToNat, Int.reduceEq, Int.reduceLE, Int.reduceLT, Nat.reduceBEq]; first | done | rfl)) (FitAll.refl _) (.inl (by first | rfl | (simp (disch := assumption) only [go_sem, Nat.reduceAdd, Nat.reduceMul, Nat.reduceSub, Nat.reduceEqDiff, ↓reduceIte, Nat.reduceLT, reduceCtorEq, Nat.reduceLeDiff, Int.reduceToNat, Int.reduceEq, Int.reduceLE, Int.reduceLT, Nat.reduceBEq]; done))) ?_
      try simp (disch := assumption) only [go_sem, Nat.reduceAdd, Nat.reduceMul, Nat.reduceSub, Nat.reduceEqDiff, ↓reduceIte, Nat.reduceLT, reduceCtorEq, Nat.reduceLeDiff, Int.reduceToNat, Int.reduceEq, Int.reduceLE, Int.reduceLT, Nat.reduceBEq]
      have he := Option.some.inj h
      subst he
      refine ends_weak ⟨[(4, (.pb 0 0)), (5, (.lf false (.sc (.bool c124.2)))), (6, (.lf false (.sc (.bool true))))], [(0, some (true, .box [(.lf false (.sc (.int .i64 c124.1.Limit))), (.lf false (.sc (.int .i64 c124.1.Cool))), (.lf false (.sc (.int .i64 c124.1.State))), (.lf false (.sc (.int .i64 c124.1.Fails))), (.lf false (.sc (.int .i64 c124.1.Opened)))]))], 1, 27⟩ (weak_of (m := 0) [some 2] rfl rfl rfl (by simp [injR]) ?_ ?_) ?_
      all_goals ((try simp (disch := assumption) only [go_sem, Nat.reduceAdd, Nat.reduceMul, Nat.reduceSub, Nat.reduceEqDiff, ↓reduceIte, Nat.reduceLT, reduceCtorEq, Nat.reduceLeDiff, Int.reduceToNat, Int.reduceEq, Int.reduceLE, Int.reduceLT, Nat.reduceBEq]); (repeat' first | done | rfl | omega | refine And.intro ?_ ?_ | (simp; done) | (simp; omega)))
theorem w_impl_AllowsAt {a0 : BreakerT} {a1 : Int} {r : (Bool × Bool)} (h : impl_AllowsAt a0 a1 = some r) : Fn Try.prog 55 [(.ag [(.lf false (.sc (.int .i64 a0.Limit))), (.lf false (.sc (.int .i64 a0.Cool))), (.lf false (.sc (.int .i64 a0.State))), (.lf false (.sc (.int .i64 a0.Fails))), (.lf false (.sc (.int .i64 a0.Opened)))]), (.lf false (.sc (.int .i64 a1)))] [] 0 (.tu [(.lf false (.sc (.bool r.1))), (.lf false (.sc (.bool r.2)))]) [] 0 := by
  unfold impl_AllowsAt at h
  refine fn_code tab_ok mixed [(1000, [(1, 0), (2, 0)]), (1001, [(1, 0), (2, 0), (13, 0)]), (1002, [(4, 0), (5, 0)]), (1003, [(4, 0), (5, 0)]), (4001, [])] Try.func55 rfl rfl (by simp [Try.f55]) (by kernel_rfl) ?_
  simp only [Try.f55]
  simp (disch := assumption) only [go_sem, Nat.reduceAdd, Nat.reduceMul, Nat.reduceSub, Nat.reduceEqDiff, ↓reduceIte, Nat.reduceLT, reduceCtorEq, Nat.reduceLeDiff, Int.reduceToNat, Int.reduceEq, Int.reduceLE, Int.reduceLT, Nat.reduceBEq]
  obtain ⟨p128, hq1, h⟩ := bind_ok h
  refine Sq_cut (fun s2 => s2 = ⟨[(1, (.lf false (.sc (.int .i64 a1)))), (2, (.pb 0 0)), (13, (.lf false (.sc (.bool p128.t13))))], [(0, some (true, .box [(.lf false (.sc (.int .i64 a0.Limit))), (.lf false (.sc (.int .i64 a0.Cool))), (.lf false (.sc (.int .i64 a0.State))), (.lf false (.sc (.int .i64 a0.Fails))), (.lf false (.sc (.int .i64 a0.Opened)))]))], 1, 16⟩) ?_ ?_
  · try simp (disch := assumption) only [go_sem, Nat.reduceAdd, Nat.reduceMul, Nat.reduceSub, Nat.reduceEqDiff, ↓reduceIte, Nat.reduceLT, reduceCtorEq, Nat.reduceLeDiff, Int.reduceToNat, Int.reduceEq, Int.reduceLE, Int.reduceLT, Nat.reduceBEq]
    obtain ⟨c126, hr2, hq1⟩ := bind_ok hq1
    refine Cl_shown (w_impl_GoodBreaker hr2) (by first | rfl | (simp (disch := assumption) only [go_sem, Nat.reduceAdd, Nat.reduceMul, Nat.reduceSub, Nat.reduceEqDiff, ↓reduceIte, Nat.reduceLT, reduceCtorEq, Nat.reduceLeDiff, Int.reduceToNat, Int.reduceEq, Int.reduceLE, Int.reduceLT, Nat.reduceBEq]; first | done | rfl)) (FitAll.refl _) (.inl (by first | rfl | (simp (disch := assumption) only [go_sem, Nat.reduceAdd, Nat.reduceMul, Nat.reduceSub, Nat.reduceEqDiff, ↓reduceIte, Nat.reduceLT, reduceCtorEq, Nat.reduceLeDiff, Int.reduceToNat, Int.reduceEq, Int.reduceLE, Int.reduceLT, Nat.reduceBEq]; done))) ?_
    try simp (disch := assumption) only [go_sem, Nat.reduceAdd, Nat.reduceMul, Nat.reduceSub, Nat.reduceEqDiff, ↓reduceIte, Nat.reduceLT, reduceCtorEq, Nat.reduceLeDiff, Int.reduceToNat, Int.reduceEq, Int.reduceLE, Int.reduceLT, Nat.reduceBEq]
    refine Sp_splitC ((!c126)) (by first | rfl | (simp only [beq_iff_eq]; done) | simp) (fun hc3 => ?_) (fun hc3 => ?_)
    · rw [if_pos hc3] at hq1
      try simp (disch := assumption) only [go_sem, Nat.reduceAdd, Nat.reduceMul, Nat.reduceSub, Nat.reduceEqDiff, ↓reduceIte, Nat.reduceLT, reduceCtorEq, Nat.reduceLeDiff, Int.reduceToNat, Int.reduceEq, Int.reduceLE, Int.reduceLT, Nat.reduceBEq]
      cases hq1
      refine X_cut rfl ?_
      refine weak_of (m := 0) [some 0] rfl rfl rfl (by simp [injR]) ?_ ?_
      all_goals ((try simp (disch := assumption) only [go_sem, Nat.reduceAdd, Nat.reduceMul, Nat.reduceSub, Nat.reduceEqDiff, ↓reduceIte, Nat.reduceLT, reduceCtorEq, Nat.reduceLeDiff, Int.reduceToNat, Int.reduceEq, Int.reduceLE, Int.reduceLT, Nat.reduceBEq]); (repeat' first | done | rfl | omega | refine And.intro ?_ ?_ | (simp; done) | (simp; omega)))
    · rw [if_neg (nt hc3)] at hq1
      try simp (disch := assumption) only [go_sem, Nat.reduceAdd, Nat.reduceMul, Nat.reduceSub, Nat.reduceEqDiff, ↓reduceIte, Nat.reduceLT, reduceCtorEq, Nat.reduceLeDiff, Int.reduceToNat, Int.reduceEq, Int.reduceLE, Int.reduceLT, Nat.reduceBEq]
      obtain ⟨c127, hr4, hq1⟩ := bind_ok hq1
      refine Cl_shown (w_impl_isTime hr4) (by first | rfl | (simp (disch := assumption) only [go_sem, Nat.reduceAdd, Nat.reduceMul, Nat.reduceSub, Nat.reduceEqDiff, ↓reduceIte, Nat.reduceLT, reduceCtorEq, Nat.reduceLeDiff, Int.reduceToNat, Int.reduceEq, Int.reduceLE, Int.reduceLT, Nat.reduceBEq]; first | done | rfl)) (FitAll.refl _) (.inl (by first | rfl | (simp (disch := assumption) only [go_sem, Nat.reduceAdd, Nat.reduceMul, Nat.reduceSub, Nat.reduceEqDiff, ↓reduceIte, Nat.reduceLT, reduceCtorEq, Nat.reduceLeDiff, Int.reduceToNat, Int.reduceEq, Int.reduceLE, Int.reduceLT, Nat.reduceBEq]; done))) ?_
      try simp (disch := assumption) only [go_sem, Nat.reduceAdd, Nat.reduceMul, Nat.reduceSub, Nat.reduceEqDiff, ↓reduceIte, Nat.reduceLT, reduceCtorEq, Nat.reduceLeDiff, Int.reduceToNat, Int.reduceEq, Int.reduceLE, Int.reduceLT, Nat.reduceBEq]
      cases hq1
      refine X_cut rfl ?_
      refine weak_of (m := 0) [some 0] rfl rfl rfl (by simp [injR]) ?_ ?_
      all_goals ((try simp (disch := assumption) only [go_sem, Nat.reduceAdd, Nat.reduceMul, Nat.reduceSub, Nat.reduceEqDiff, ↓reduceIte, Nat.reduceLT, reduceCtorEq, Nat.reduceLeDiff, Int.reduceToNat, Int.reduceEq, Int.reduceLE, Int.reduceLT, Nat.reduceBEq]); (repeat' first | done | rfl | omega | refine And.intro ?_ ?_ | (simp; done) | (simp; omega)))
  · intro s2 hJ; subst hJ
    try dsimp only at h
    try simp (disch := assumption) only [go_sem, Nat.reduceAdd, Nat.reduceMul, Nat.reduceSub, Nat.reduceEqDiff, ↓reduceIte, Nat.reduceLT, reduceCtorEq, Nat.reduceLeDiff, Int.reduceToNat, Int.reduceEq, Int.reduceLE, Int.reduceLT, Nat.reduceBEq]
    refine Bs_splitC (p128.t13) (by first | rfl | (simp only [beq_iff_eq]; done) | simp) (fun hc5 => ?_) (fun hc5 => ?_)
    · rw [if_pos hc5] at h
      try simp (disch := assumption) only [go_sem, Nat.reduceAdd, Nat.reduceMul, Nat.reduceSub, Nat.reduceEqDiff, ↓reduceIte, Nat.reduceLT, reduceCtorEq, Nat.reduceLeDiff, Int.reduceToNat, Int.reduceEq, Int.reduceLE, Int.reduceLT, Nat.reduceBEq]
      have he := Option.some.inj h
      subst he
      refine ends_weak ⟨[(4, (.lf false (.sc (.bool false)))), (5, (.lf false (.sc (.bool false))))], [], 0, 16⟩ (weak_of (m := 0) [] rfl rfl rfl (by simp [injR]) ?_ ?_) ?_
      all_goals ((try simp (disch := assumption) only [go_sem, Nat.reduceAdd, Nat.reduceMul, Nat.reduceSub, Nat.reduceEqDiff, ↓reduceIte, Nat.reduceLT, reduceCtorEq, Nat.reduceLeDiff, Int.reduceToNat, Int.reduceEq, Int.reduceLE, Int.reduceLT, Nat.reduceBEq]); (repeat' first | done | rfl | omega | refine And.intro ?_ ?_ | (simp; done) | (simp; omega)))
    · rw [if_neg (nt hc5)] at h
      try simp (disch := assumption) only [go_sem, Nat.reduceAdd, Nat.reduceMul, Nat.reduceSub, Nat.reduceEqDiff, ↓reduceIte, Nat.reduceLT, reduceCtorEq, Nat.reduceLeDiff, Int.reduceToNat, Int.reduceEq, Int.reduceLE, Int.reduceLT, Nat.reduceBEq]
      obtain ⟨c129, hr6, h⟩ := bind_ok h
      refine Cl_shown (w_impl_Breaker_allows_r hr6) (by first | rfl | (simp (disch := assumption) only [go_sem, Nat.reduceAdd, Nat.reduceMul, Nat.reduceSub, Nat.reduceEqDiff, ↓reduceIte, Nat.reduceLT, reduceCtorEq, Nat.reduceLeDiff, Int.reduceToNat, Int.reduceEq, Int.reduceLE, Int.reduceLT, Nat.reduceBEq]; first | done | rfl)) (FitAll.refl _) (.inr ⟨rfl, by simp [freeOb, free1]⟩) ?_
      try simp (disch := assumption) only [go_sem, Nat.reduceAdd, Nat.reduceMul, Nat.reduceSub, Nat.reduceEqDiff, ↓reduceIte, Nat.reduceLT, reduceCtorEq, Nat.reduceLeDiff, Int.reduceToNat, Int.reduceEq, Int.reduceLE, Int.reduceLT, Nat.reduceBEq]
      have he := Option.some.inj h
      subst he
      refine ends_weak ⟨[(4, (.lf false (.sc (.bool c129)))), (5, (.lf false (.sc (.bool true))))], [], 0, 16⟩ (weak_of (m := 0) [] rfl rfl rfl (by simp [injR]) ?_ ?_) ?_
      all_goals ((try simp (disch := assumption) only [go_sem, Nat.reduceAdd, Nat.reduceMul, Nat.reduceSub, Nat.reduceEqDiff, ↓reduceIte, Nat.reduceLT, reduceCtorEq, Nat.reduceLeDiff, Int.reduceToNat, Int.reduceEq, Int.reduceLE, Int.reduceLT, Nat.reduceBEq]); (repeat' first | done | rfl | omega | refine And.intro ?_ ?_ | (simp; done) | (simp; omega)))
end Go.TL.Ytmmhgioeoikgbaa

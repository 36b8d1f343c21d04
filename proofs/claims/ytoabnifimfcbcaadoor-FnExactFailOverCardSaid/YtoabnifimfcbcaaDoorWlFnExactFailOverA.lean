import Derived.Test.YtoabnifimfcbcaaDoorTlTabr2D
import Derived.Test.YtoabnifimfcbcaaDoorEnR2D
import Derived.Test.YtoabnifimfcbcaaDoorTlAuto
import Derived.Test.YtoabnifimfcbcaaDoorTlTrimr2D
import Derived.Test.YtoabnifimfcbcaaDoorTlBelow
set_option linter.unusedSimpArgs false
set_option linter.unusedVariables false
set_option linter.unusedVariables false
set_option linter.unusedSimpArgs false
set_option maxRecDepth 8000
set_option maxHeartbeats 0
namespace Go.TL.YtoabnifimfcbcaaDoor
open Go Go.Proofs Go.TL
theorem w_laws_szDomain {a0 : DomainT} {a1 : Int} {r : Int} (h : laws_szDomain a0 a1 = some r) : Fn Tryd.prog 33 [(.ag [(.lf false (.sc (.string a0.Name))), (.lf false (.sc (.int .i64 a0.Version))), (.lf false (.sc (.string a0.Note)))]), (.lf false (.sc (.int .i64 a1)))] [] 0 (.lf false (.sc (.int .i64 r))) [] 0 := by
  unfold laws_szDomain at h
  refine fn_code tab_ok mixed [(1000, [(1, 0), (2, 0)]), (1001, [(1, 0), (2, 0)]), (1002, [(1, 0), (2, 0), (11, 0)]), (1003, [(4, 0)]), (1004, [(1, 0)]), (1005, [(1, 0), (18, 0)]), (1006, [(4, 0)]), (1007, [(4, 0)])] Tryd.func33 rfl rfl (by simp [Tryd.f33]) (by kernel_rfl) ?_
  simp only [Tryd.f33]
  refine sA ?_
  refine Bs_if h (fun h hc1 => ?_) (fun h hc1 => ?_)
  · try refine sA ?_
    have he := Option.some.inj h
    subst he
    exact endsA ⟨[(4, (.lf false (.sc (.int .i64 (-1)))))], [], 0, 20⟩ []
  · try refine sA ?_
    refine Bs_if h (fun h hc2 => ?_) (fun h hc2 => ?_)
    · try refine sA ?_
      have he := Option.some.inj h
      subst he
      exact endsA ⟨[(4, (.lf false (.sc (.int .i64 (-1)))))], [], 0, 20⟩ []
    · try refine sA ?_
      have he := Option.some.inj h
      subst he
      exact endsA ⟨[(4, (.lf false (.sc (.int .i64 (wI ((wI (a1 - (a0.Name.size : Int))) - (a0.Note.size : Int)))))))], [], 0, 20⟩ []
theorem w_laws_szDomainS {a0 : (List DomainT)} {a1 : Int} {r : Int} (h : laws_szDomainS a0 a1 = some r) : Fn Tryd.prog 9 [(.lf true (.sl (a0.map eDomain))), (.lf false (.sc (.int .i64 a1)))] [] 0 (.lf false (.sc (.int .i64 r))) [] 0 := by
  unfold laws_szDomainS at h
  refine fn_code tab_ok mixed [(1000, [(0, 0), (1, 0)]), (1001, [(0, 0), (1, 0)]), (1002, [(0, 0), (1, 0), (11, 0)]), (1003, [(4, 0)]), (1004, [(0, 0), (1, 0), (5, 0)]), (1005, [(0, 0), (1, 0), (5, 0), (15, 0)]), (1006, [(0, 0), (1, 0), (5, 0)]), (1007, [(0, 0), (1, 0), (5, 0)]), (1008, [(0, 0), (1, 0), (5, 0), (25, 0)]), (1009, [(4, 0)]), (1010, [(4, 0)])] Tryd.func9 rfl rfl (by simp [Tryd.f9]) (by kernel_rfl) ?_
  simp only [Tryd.f9]
  refine sA ?_
  refine Bs_if h (fun h hc1 => ?_) (fun h hc1 => ?_)
  · try refine sA ?_
    have he := Option.some.inj h
    subst he
    exact endsA ⟨[(4, (.lf false (.sc (.int .i64 (-1)))))], [], 0, 27⟩ []
  · try refine sA ?_
    obtain ⟨y4, hl2, h⟩ := bind_ok h
    refine W_loopP (fun g1 : laws_szDomainS_G1 => ⟨[(0, (.lf true (.sl (a0.map eDomain)))), (1, (.lf false (.sc (.int .i64 g1.t1)))), (5, (.lf false (.sc (.int .i64 g1.t5))))], [], 0, 27⟩) (laws_szDomainS_L1 a0) _ _ hl2 (weakA []) ?_
    · intro n1 g1 z1 hs1 hk1
      unfold laws_szDomainS_L1 at hs1
      try dsimp only at hs1
      refine sA ?_
      refine Bs_if hs1 (fun hs1 hc3 => ?_) (fun hs1 hc3 => ?_)
      · try refine sA ?_
        obtain ⟨hp4, hs1⟩ := guard_some hs1
        have hn4 : g1.t5.toNat < a0.length := by first | omega | (simp only [List.length_set, List.length_append, List.length_replicate, List.length_map]; omega)
        try refine sA ?_
        try refine andA ?_
        obtain ⟨c3, hr5, hs1⟩ := bind_ok hs1
        refine Cl_sA (w_laws_szDomain hr5) ?_
        try refine sA ?_
        refine Bs_if hs1 (fun hs1 hc6 => ?_) (fun hs1 hc6 => ?_)
        · try refine sA ?_
          cases hs1
          cases hk1
          try dsimp only at h
          try refine sA ?_
          have he := Option.some.inj h
          subst he
          exact endsA ⟨[(4, (.lf false (.sc (.int .i64 (-1)))))], [], 0, 27⟩ []
        · try refine sA ?_
          cases hs1
          exact X_backP hk1 (weakA [])
      · try refine sA ?_
        cases hs1
        cases hk1
        try dsimp only at h
        try refine sA ?_
        have he := Option.some.inj h
        subst he
        exact endsA ⟨[(4, (.lf false (.sc (.int .i64 g1.t1))))], [], 0, 27⟩ []
theorem w_laws_toDomain {a0 : DomainT} {r : DomainT} (h : laws_toDomain a0 = some r) : Fn Tryd.prog 36 [(.ag [(.lf false (.sc (.string a0.Name))), (.lf false (.sc (.int .i64 a0.Version))), (.lf false (.sc (.string a0.Note)))])] [] 0 (.ag [(.lf false (.sc (.string r.Name))), (.lf false (.sc (.int .i64 r.Version))), (.lf false (.sc (.string r.Note)))]) [] 1 := by
  unfold laws_toDomain at h
  refine fn_code tab_ok mixed [(1000, [(1, 0), (2, 0)]), (1001, [(1, 0), (2, 0), (3, 0)]), (1002, [(1, 0), (2, 0), (3, 0)]), (1003, [(1, 0), (2, 0), (3, 0)]), (1004, [(2, 0), (3, 0)]), (1005, [(2, 0)])] Tryd.func36 rfl rfl (by simp [Tryd.f36]) (by kernel_rfl) ?_
  simp only [Tryd.f36]
  refine sA ?_
  have he := Option.some.inj h
  subst he
  exact endsA ⟨[(2, (.pb 0 0))], [(0, some (true, .box [(.lf false (.sc (.string a0.Name))), (.lf false (.sc (.int .i64 a0.Version))), (.lf false (.sc (.string a0.Note)))]))], 1, 14⟩ [some 1]
theorem w_laws_toDomainS {a0 : (List DomainT)} {r : (List DomainT)} (h : laws_toDomainS a0 = some r) : Fn Tryd.prog 11 [(.lf true (.sl (a0.map eDomain)))] [] 0 (.os 0 3 0 r.length r.length false) [(0, some (true, .arr false 3 (r.map eDomain)))] 1 := by
  unfold laws_toDomainS at h
  refine fn_code tab_ok mixed [(1000, [(0, 0)]), (1001, [(0, 0), (3, 0)]), (1002, [(0, 0), (3, 0), (4, 0)]), (1003, [(0, 0), (3, 0), (4, 0), (11, 0)]), (1004, [(0, 0), (3, 0), (4, 0)]), (1005, [(0, 0), (3, 0), (4, 0)]), (1006, [(2, 0)])] Tryd.func11 rfl rfl (by simp [Tryd.f11]) (by kernel_rfl) ?_
  simp only [Tryd.f11]
  simp (disch := first | assumption | (simp only [List.length_set]; assumption)) only [go_sem, Nat.reduceAdd, Nat.reduceMul, Nat.reduceSub, Nat.reduceEqDiff, ↓reduceIte, Nat.reduceLT, reduceCtorEq, Nat.reduceLeDiff, Int.reduceToNat, Int.reduceEq, Int.reduceLE, Int.reduceLT, Nat.reduceBEq, fold_eDomain_rep]
  obtain ⟨hp1, h⟩ := guard_some h
  try simp (disch := first | assumption | (simp only [List.length_set]; assumption)) only [go_sem, Nat.reduceAdd, Nat.reduceMul, Nat.reduceSub, Nat.reduceEqDiff, ↓reduceIte, Nat.reduceLT, reduceCtorEq, Nat.reduceLeDiff, Int.reduceToNat, Int.reduceEq, Int.reduceLE, Int.reduceLT, Nat.reduceBEq, fold_eDomain_rep]
  try refine andA ?_
  obtain ⟨y11, hl2, h⟩ := bind_ok h
  refine W_loopP (fun g8 : laws_toDomainS_G1 => ⟨[(0, (.lf true (.sl (a0.map eDomain)))), (3, (.os 0 3 0 g8.c0.length g8.c0.length false)), (4, (.lf false (.sc (.int .i64 g8.t4))))], [(0, some (true, .arr false 3 (g8.c0.map eDomain)))], 1, 23⟩) (laws_toDomainS_L1 a0) _ _ hl2 (weak_of (m := 0) [some 0] rfl rfl rfl (by rfl) (by ((try simp (disch := first | assumption | (simp only [List.length_set]; assumption)) only [go_sem, Nat.reduceAdd, Nat.reduceMul, Nat.reduceSub, Nat.reduceEqDiff, ↓reduceIte, Nat.reduceLT, reduceCtorEq, Nat.reduceLeDiff, Int.reduceToNat, Int.reduceEq, Int.reduceLE, Int.reduceLT, Nat.reduceBEq, fold_eDomain_rep]); (repeat' first | done | rfl | omega | refine And.intro ?_ ?_ | (simp; done) | (simp; omega)))) (by ((try simp (disch := first | assumption | (simp only [List.length_set]; assumption)) only [go_sem, Nat.reduceAdd, Nat.reduceMul, Nat.reduceSub, Nat.reduceEqDiff, ↓reduceIte, Nat.reduceLT, reduceCtorEq, Nat.reduceLeDiff, Int.reduceToNat, Int.reduceEq, Int.reduceLE, Int.reduceLT, Nat.reduceBEq, fold_eDomain_rep]); (repeat' first | done | rfl | omega | refine And.intro ?_ ?_ | (simp; done) | (simp; omega))))) ?_
  · intro n1 g8 z1 hs1 hk1
    unfold laws_toDomainS_L1 at hs1
    try dsimp only at hs1
    simp (disch := first | assumption | (simp only [List.length_set]; assumption)) only [go_sem, Nat.reduceAdd, Nat.reduceMul, Nat.reduceSub, Nat.reduceEqDiff, ↓reduceIte, Nat.reduceLT, reduceCtorEq, Nat.reduceLeDiff, Int.reduceToNat, Int.reduceEq, Int.reduceLE, Int.reduceLT, Nat.reduceBEq, fold_eDomain_rep]
    refine Bs_if hs1 (fun hs1 hc3 => ?_) (fun hs1 hc3 => ?_)
    · try simp (disch := first | assumption | (simp only [List.length_set]; assumption)) only [go_sem, Nat.reduceAdd, Nat.reduceMul, Nat.reduceSub, Nat.reduceEqDiff, ↓reduceIte, Nat.reduceLT, reduceCtorEq, Nat.reduceLeDiff, Int.reduceToNat, Int.reduceEq, Int.reduceLE, Int.reduceLT, Nat.reduceBEq, fold_eDomain_rep]
      obtain ⟨hp4, hs1⟩ := guard_some hs1
      have hn4 : g8.t4.toNat < a0.length := by first | omega | (simp only [List.length_set, List.length_append, List.length_replicate, List.length_map]; omega)
      try simp (disch := first | assumption | (simp only [List.length_set]; assumption)) only [go_sem, Nat.reduceAdd, Nat.reduceMul, Nat.reduceSub, Nat.reduceEqDiff, ↓reduceIte, Nat.reduceLT, reduceCtorEq, Nat.reduceLeDiff, Int.reduceToNat, Int.reduceEq, Int.reduceLE, Int.reduceLT, Nat.reduceBEq, fold_eDomain_rep]
      try refine andA ?_
      obtain ⟨c10, hr5, hs1⟩ := bind_ok hs1
      refine Cl_shown (w_laws_toDomain hr5) (by first | rfl | (simp (disch := first | assumption | (simp only [List.length_set]; assumption)) only [go_sem, Nat.reduceAdd, Nat.reduceMul, Nat.reduceSub, Nat.reduceEqDiff, ↓reduceIte, Nat.reduceLT, reduceCtorEq, Nat.reduceLeDiff, Int.reduceToNat, Int.reduceEq, Int.reduceLE, Int.reduceLT, Nat.reduceBEq, fold_eDomain_rep]; first | done | rfl) | (simp only [List.length_append, List.length_cons, List.length_nil, List.length_map, List.length_set, List.length_replicate, Nat.zero_add, Nat.reduceAdd]; rfl) | (simp (disch := first | assumption | (simp only [List.length_set]; assumption)) only [go_sem, Nat.reduceAdd, Nat.reduceMul, Nat.reduceSub, Nat.reduceEqDiff, ↓reduceIte, Nat.reduceLT, reduceCtorEq, Nat.reduceLeDiff, Int.reduceToNat, Int.reduceEq, Int.reduceLE, Int.reduceLT, Nat.reduceBEq, fold_eDomain_rep]; simp only [List.length_append, List.length_cons, List.length_nil, List.length_map, List.length_set, List.length_replicate, Nat.zero_add, Nat.reduceAdd]; rfl)) (FitAll.refl _) (.inl (by first | rfl | (simp (disch := first | assumption | (simp only [List.length_set]; assumption)) only [go_sem, Nat.reduceAdd, Nat.reduceMul, Nat.reduceSub, Nat.reduceEqDiff, ↓reduceIte, Nat.reduceLT, reduceCtorEq, Nat.reduceLeDiff, Int.reduceToNat, Int.reduceEq, Int.reduceLE, Int.reduceLT, Nat.reduceBEq, fold_eDomain_rep]; done))) ?_
      try simp (disch := first | assumption | (simp only [List.length_set]; assumption)) only [go_sem, Nat.reduceAdd, Nat.reduceMul, Nat.reduceSub, Nat.reduceEqDiff, ↓reduceIte, Nat.reduceLT, reduceCtorEq, Nat.reduceLeDiff, Int.reduceToNat, Int.reduceEq, Int.reduceLE, Int.reduceLT, Nat.reduceBEq, fold_eDomain_rep]
      obtain ⟨hp6, hs1⟩ := guard_some hs1
      have hn6 : g8.t4.toNat < g8.c0.length := by first | omega | (simp only [List.length_set, List.length_append, List.length_replicate, List.length_map]; omega)
      try simp (disch := first | assumption | (simp only [List.length_set]; assumption)) only [go_sem, Nat.reduceAdd, Nat.reduceMul, Nat.reduceSub, Nat.reduceEqDiff, ↓reduceIte, Nat.reduceLT, reduceCtorEq, Nat.reduceLeDiff, Int.reduceToNat, Int.reduceEq, Int.reduceLE, Int.reduceLT, Nat.reduceBEq, fold_eDomain_rep]
      try refine andA ?_
      try refine andB ?_
      try simp (disch := first | assumption | (simp only [List.length_set]; assumption)) only [go_sem, Nat.reduceAdd, Nat.reduceMul, Nat.reduceSub, Nat.reduceEqDiff, ↓reduceIte, Nat.reduceLT, reduceCtorEq, Nat.reduceLeDiff, Int.reduceToNat, Int.reduceEq, Int.reduceLE, Int.reduceLT, Nat.reduceBEq, fold_eDomain_rep]
      cases hs1
      refine X_backP hk1 ?_
      refine weak_of (m := 0) [some 0] rfl rfl rfl (by rfl) ?_ ?_
      all_goals ((try simp (disch := first | assumption | (simp only [List.length_set]; assumption)) only [go_sem, Nat.reduceAdd, Nat.reduceMul, Nat.reduceSub, Nat.reduceEqDiff, ↓reduceIte, Nat.reduceLT, reduceCtorEq, Nat.reduceLeDiff, Int.reduceToNat, Int.reduceEq, Int.reduceLE, Int.reduceLT, Nat.reduceBEq, fold_eDomain_rep]); (repeat' first | done | rfl | omega | refine And.intro ?_ ?_ | (simp; done) | (simp; omega)))
    · try simp (disch := first | assumption | (simp only [List.length_set]; assumption)) only [go_sem, Nat.reduceAdd, Nat.reduceMul, Nat.reduceSub, Nat.reduceEqDiff, ↓reduceIte, Nat.reduceLT, reduceCtorEq, Nat.reduceLeDiff, Int.reduceToNat, Int.reduceEq, Int.reduceLE, Int.reduceLT, Nat.reduceBEq, fold_eDomain_rep]
      cases hs1
      cases hk1
      try dsimp only at h
      try simp (disch := first | assumption | (simp only [List.length_set]; assumption)) only [go_sem, Nat.reduceAdd, Nat.reduceMul, Nat.reduceSub, Nat.reduceEqDiff, ↓reduceIte, Nat.reduceLT, reduceCtorEq, Nat.reduceLeDiff, Int.reduceToNat, Int.reduceEq, Int.reduceLE, Int.reduceLT, Nat.reduceBEq, fold_eDomain_rep]
      have he := Option.some.inj h
      subst he
      refine ends_weak ⟨[(2, (.os 0 3 0 g8.c0.length g8.c0.length false))], [(0, some (true, .arr false 3 (g8.c0.map eDomain)))], 1, 23⟩ (weak_of (m := 0) [some 0] rfl rfl rfl (by rfl) ?_ ?_) ?_
      all_goals ((try simp (disch := first | assumption | (simp only [List.length_set]; assumption)) only [go_sem, Nat.reduceAdd, Nat.reduceMul, Nat.reduceSub, Nat.reduceEqDiff, ↓reduceIte, Nat.reduceLT, reduceCtorEq, Nat.reduceLeDiff, Int.reduceToNat, Int.reduceEq, Int.reduceLE, Int.reduceLT, Nat.reduceBEq, fold_eDomain_rep]); (repeat' first | done | rfl | omega | refine And.intro ?_ ?_ | (simp; done) | (simp; omega)))
theorem w_spec_l1Name {a0 : ByteArray} {r : Bool} (h : spec_l1Name a0 = some r) : Fn Tryd.prog 34 [(.lf false (.sc (.string a0)))] [] 0 (.lf false (.sc (.bool r))) [] 0 := by
  unfold spec_l1Name at h
  refine fn_code tab_ok mixed [(1000, [(0, 0)]), (1001, [(0, 0), (3, 0)]), (1002, [(0, 0), (3, 0), (7, 0)]), (1003, [(0, 0), (3, 0)]), (1004, [(0, 0), (3, 0), (32, 0)]), (1005, [(2, 0)]), (1006, [(2, 0)]), (4004, [])] Tryd.func34 rfl rfl (by simp [Tryd.f34]) (by kernel_rfl) ?_
  simp only [Tryd.f34]
  refine sA ?_
  obtain ⟨y17, hl1, h⟩ := bind_ok h
  refine W_loopP (fun g14 : spec_l1Name_G1 => ⟨[(0, (.lf false (.sc (.string a0)))), (3, (.lf false (.sc (.int .i64 g14.t3))))], [], 0, 36⟩) (spec_l1Name_L1 a0) _ _ hl1 (weakA []) ?_
  · intro n1 g14 z1 hs1 hk1
    unfold spec_l1Name_L1 at hs1
    try dsimp only at hs1
    refine sA ?_
    refine Bs_if hs1 (fun hs1 hc2 => ?_) (fun hs1 hc2 => ?_)
    · try refine sA ?_
      obtain ⟨p16, hq3, hs1⟩ := bind_ok hs1
      refine Sq_cut (fun s2 => s2 = ⟨[(0, (.lf false (.sc (.string a0)))), (3, (.lf false (.sc (.int .i64 g14.t3)))), (32, (.lf false (.sc (.bool p16.t32))))], [], 0, 36⟩) ?_ ?_
      · try refine sA ?_
        obtain ⟨hp4, hq3⟩ := guard_some hq3
        try refine sA ?_
        try refine andA ?_
        refine Sp_if hq3 (fun hq3 hc5 => ?_) (fun hq3 hc5 => ?_)
        · try refine sA ?_
          obtain ⟨hp6, hq3⟩ := guard_some hq3
          try refine sA ?_
          try refine andA ?_
          refine Sp_if hq3 (fun hq3 hc7 => ?_) (fun hq3 hc7 => ?_)
          · try refine sA ?_
            cases hq3
            exact X_cut rfl (weakA [])
          · try refine sA ?_
            obtain ⟨hp8, hq3⟩ := guard_some hq3
            try refine sA ?_
            try refine andA ?_
            refine Sp_if hq3 (fun hq3 hc9 => ?_) (fun hq3 hc9 => ?_)
            · try refine sA ?_
              obtain ⟨hp10, hq3⟩ := guard_some hq3
              try refine sA ?_
              try refine andA ?_
              cases hq3
              exact X_cut rfl (weakA [])
            · try refine sA ?_
              cases hq3
              exact X_cut rfl (weakA [])
        · try refine sA ?_
          obtain ⟨hp11, hq3⟩ := guard_some hq3
          try refine sA ?_
          try refine andA ?_
          refine Sp_if hq3 (fun hq3 hc12 => ?_) (fun hq3 hc12 => ?_)
          · try refine sA ?_
            obtain ⟨hp13, hq3⟩ := guard_some hq3
            try refine sA ?_
            try refine andA ?_
            cases hq3
            exact X_cut rfl (weakA [])
          · try refine sA ?_
            cases hq3
            exact X_cut rfl (weakA [])
      · intro s2 hJ; subst hJ
        try dsimp only at hs1
        try refine sA ?_
        refine Bs_if hs1 (fun hs1 hc14 => ?_) (fun hs1 hc14 => ?_)
        · try refine sA ?_
          cases hs1
          cases hk1
          try dsimp only at h
          try refine sA ?_
          have he := Option.some.inj h
          subst he
          exact endsA ⟨[(2, (.lf false (.sc (.bool false))))], [], 0, 36⟩ []
        · try refine sA ?_
          cases hs1
          exact X_backP hk1 (weakA [])
    · try refine sA ?_
      cases hs1
      cases hk1
      try dsimp only at h
      try refine sA ?_
      have he := Option.some.inj h
      subst he
      exact endsA ⟨[(2, (.lf false (.sc (.bool (decide ((a0.size : Int) ≤ 12))))))], [], 0, 36⟩ []
theorem w_spec_l1In {a0 : Int} {a1 : Int} {a2 : Int} {r : Bool} (h : spec_l1In a0 a1 a2 = some r) : Fn Tryd.prog 60 [(.lf false (.sc (.int .i64 a0))), (.lf false (.sc (.int .i64 a1))), (.lf false (.sc (.int .i64 a2)))] [] 0 (.lf false (.sc (.bool r))) [] 0 := by
  unfold spec_l1In at h
  refine fn_code tab_ok mixed [] Tryd.func60 rfl rfl (by simp [Tryd.f60]) (by kernel_rfl) ?_
  simp only [Tryd.f60]
  refine sA ?_
  refine Sp_if h (fun h hc1 => ?_) (fun h hc1 => ?_)
  · try refine sA ?_
    have he := Option.some.inj h
    subst he
    exact endsA ⟨[(6, (.lf false (.sc (.bool (decide (a0 ≤ a2))))))], [], 0, 15⟩ []
  · try refine sA ?_
    have he := Option.some.inj h
    subst he
    exact endsA ⟨[(6, (.lf false (.sc (.bool false))))], [], 0, 15⟩ []
theorem w_spec_l13Version {a0 : Int} {r : Bool} (h : spec_l13Version a0 = some r) : Fn Tryd.prog 35 [(.lf false (.sc (.int .i64 a0)))] [] 0 (.lf false (.sc (.bool r))) [] 0 := by
  unfold spec_l13Version at h
  refine fn_code tab_ok mixed [] Tryd.func35 rfl rfl (by simp [Tryd.f35]) (by kernel_rfl) ?_
  simp only [Tryd.f35]
  refine sA ?_
  obtain ⟨c21, hr1, h⟩ := bind_ok h
  refine Cl_sA (w_spec_l1In hr1) ?_
  try refine sA ?_
  have he := Option.some.inj h
  subst he
  exact endsA ⟨[(2, (.lf false (.sc (.bool c21))))], [], 0, 5⟩ []
theorem w_spec_GoodDomains {a0 : (List DomainT)} {r : Bool} (h : spec_GoodDomains a0 = some r) : Fn Tryd.prog 10 [(.lf true (.sl (a0.map eDomain)))] [] 0 (.lf false (.sc (.bool r))) [] 0 := by
  unfold spec_GoodDomains at h
  refine fn_code tab_ok mixed [(1000, [(0, 0)]), (1001, [(0, 0), (5, 0), (6, 0), (7, 0)]), (1002, [(0, 0), (5, 0), (6, 0), (7, 0), (8, 0)]), (1003, [(0, 0), (3, 0), (4, 0), (5, 0), (6, 0), (7, 0)]), (1004, [(0, 0), (5, 0), (6, 0), (7, 0), (47, 0)]), (1005, [(2, 0)]), (1006, [(0, 0), (5, 0), (6, 0), (7, 0)]), (1007, [(2, 0)]), (4004, [])] Tryd.func10 rfl rfl (by simp [Tryd.f10]) (by kernel_rfl) ?_
  simp only [Tryd.f10]
  refine sA ?_
  obtain ⟨y27, hl1, h⟩ := bind_ok h
  refine W_loopP (fun g13 : spec_GoodDomains_G1 => ⟨[(0, (.lf true (.sl (a0.map eDomain)))), (5, (.lf true (.sl (a0.map eDomain)))), (6, (.lf false (.sc (.int .i64 ((a0.length : Nat) : Int))))), (7, (.lf false (.sc (.int .i64 g13.t7))))], [], 0, 52⟩) (spec_GoodDomains_L1 a0) _ _ hl1 (weakA []) ?_
  · intro n1 g13 z1 hs1 hk1
    unfold spec_GoodDomains_L1 at hs1
    try dsimp only at hs1
    refine sA ?_
    refine Bs_if hs1 (fun hs1 hc2 => ?_) (fun hs1 hc2 => ?_)
    · try refine sA ?_
      obtain ⟨hp3, hs1⟩ := guard_some hs1
      have hn3 : g13.t7.toNat < a0.length := by first | omega | (simp only [List.length_set, List.length_append, List.length_replicate, List.length_map]; omega)
      try refine sA ?_
      try refine andA ?_
      obtain ⟨p26, hq4, hs1⟩ := bind_ok hs1
      refine Sq_cut (fun s2 => s2 = ⟨[(0, (.lf true (.sl (a0.map eDomain)))), (5, (.lf true (.sl (a0.map eDomain)))), (6, (.lf false (.sc (.int .i64 ((a0.length : Nat) : Int))))), (7, (.lf false (.sc (.int .i64 g13.t7)))), (47, (.lf false (.sc (.bool p26.t47))))], [], 0, 52⟩) ?_ ?_
      · try refine sA ?_
        obtain ⟨c24, hr5, hq4⟩ := bind_ok hq4
        refine Cl_sA (w_spec_l1Name hr5) ?_
        try refine sA ?_
        refine Sp_if hq4 (fun hq4 hc6 => ?_) (fun hq4 hc6 => ?_)
        · try refine sA ?_
          cases hq4
          exact X_cut rfl (weakA [])
        · try refine sA ?_
          refine Sp_if hq4 (fun hq4 hc7 => ?_) (fun hq4 hc7 => ?_)
          · try refine sA ?_
            cases hq4
            exact X_cut rfl (weakA [])
          · try refine sA ?_
            obtain ⟨c25, hr8, hq4⟩ := bind_ok hq4
            refine Cl_sA (w_spec_l13Version hr8) ?_
            try refine sA ?_
            refine Sp_if hq4 (fun hq4 hc9 => ?_) (fun hq4 hc9 => ?_)
            · try refine sA ?_
              cases hq4
              exact X_cut rfl (weakA [])
            · try refine sA ?_
              refine Sp_if hq4 (fun hq4 hc10 => ?_) (fun hq4 hc10 => ?_)
              · try refine sA ?_
                cases hq4
                exact X_cut rfl (weakA [])
              · try refine sA ?_
                refine Sp_if hq4 (fun hq4 hc11 => ?_) (fun hq4 hc11 => ?_)
                · try refine sA ?_
                  obtain ⟨hp12, hq4⟩ := guard_some hq4
                  have hn12 : (wI (g13.t7 - 1)).toNat < a0.length := by first | omega | (simp only [List.length_set, List.length_append, List.length_replicate, List.length_map]; omega)
                  try refine sA ?_
                  try refine andA ?_
                  cases hq4
                  exact X_cut rfl (weakA [])
                · try refine sA ?_
                  cases hq4
                  exact X_cut rfl (weakA [])
      · intro s2 hJ; subst hJ
        try dsimp only at hs1
        try refine sA ?_
        refine Bs_if hs1 (fun hs1 hc13 => ?_) (fun hs1 hc13 => ?_)
        · try refine sA ?_
          cases hs1
          cases hk1
          try dsimp only at h
          try refine sA ?_
          have he := Option.some.inj h
          subst he
          exact endsA ⟨[(2, (.lf false (.sc (.bool false))))], [], 0, 52⟩ []
        · try refine sA ?_
          cases hs1
          exact X_backP hk1 (weakA [])
    · try refine sA ?_
      cases hs1
      cases hk1
      try dsimp only at h
      try refine sA ?_
      have he := Option.some.inj h
      subst he
      exact endsA ⟨[(2, (.lf false (.sc (.bool (decide (((a0.length : Nat) : Int) ≤ 12))))))], [], 0, 52⟩ []
theorem w_spec_l13Next {a0 : Int} {a1 : Int} {r : Int} (h : spec_l13Next a0 a1 = some r) : Fn Tryd.prog 68 [(.lf false (.sc (.int .i64 a0))), (.lf false (.sc (.int .i64 a1)))] [] 0 (.lf false (.sc (.int .i64 r))) [] 0 := by
  unfold spec_l13Next at h
  refine fn_code tab_ok mixed [(1000, [(0, 0), (1, 0)]), (1001, [(0, 0), (5, 0)]), (1002, [(5, 0), (14, 0)]), (1003, [(5, 0)]), (1004, [(4, 0)])] Tryd.func68 rfl rfl (by simp [Tryd.f68]) (by kernel_rfl) ?_
  simp only [Tryd.f68]
  refine sA ?_
  refine Bs_if h (fun h hc1 => ?_) (fun h hc1 => ?_)
  · try refine sA ?_
    have he := Option.some.inj h
    subst he
    exact endsA ⟨[(4, (.lf false (.sc (.int .i64 (wI ((wI ((wI (a0 - (a0.tmod 10))) + a1)) + 10))))))], [], 0, 18⟩ []
  · try refine sA ?_
    have he := Option.some.inj h
    subst he
    exact endsA ⟨[(4, (.lf false (.sc (.int .i64 (wI ((wI (a0 - (a0.tmod 10))) + a1))))))], [], 0, 18⟩ []
theorem w_spec_NextVersion {a0 : Int} {a1 : Int} {r : (Int × Bool)} (h : spec_NextVersion a0 a1 = some r) : Fn Tryd.prog 46 [(.lf false (.sc (.int .i64 a0))), (.lf false (.sc (.int .i64 a1)))] [] 0 (.tu [(.lf false (.sc (.int .i64 r.1))), (.lf false (.sc (.bool r.2)))]) [] 0 := by
  unfold spec_NextVersion at h
  refine fn_code tab_ok mixed [(1000, [(0, 0), (1, 0)]), (1001, [(0, 0), (1, 0), (14, 0)]), (1002, [(4, 0), (5, 0)]), (1003, [(6, 0)]), (1004, [(6, 0), (20, 0)]), (1005, [(4, 0), (5, 0)]), (1006, [(4, 0), (5, 0)]), (4001, [])] Tryd.func46 rfl rfl (by simp [Tryd.f46]) (by kernel_rfl) ?_
  simp only [Tryd.f46]
  refine sA ?_
  obtain ⟨p34, hq1, h⟩ := bind_ok h
  refine Sq_cut (fun s2 => s2 = ⟨[(0, (.lf false (.sc (.int .i64 a0)))), (1, (.lf false (.sc (.int .i64 a1)))), (14, (.lf false (.sc (.bool p34.t14))))], [], 0, 22⟩) ?_ ?_
  · try refine sA ?_
    obtain ⟨c32, hr2, hq1⟩ := bind_ok hq1
    refine Cl_sA (w_spec_l13Version hr2) ?_
    try refine sA ?_
    refine Sp_if hq1 (fun hq1 hc3 => ?_) (fun hq1 hc3 => ?_)
    · try refine sA ?_
      cases hq1
      exact X_cut rfl (weakA [])
    · try refine sA ?_
      obtain ⟨c33, hr4, hq1⟩ := bind_ok hq1
      refine Cl_sA (w_spec_l1In hr4) ?_
      try refine sA ?_
      cases hq1
      exact X_cut rfl (weakA [])
  · intro s2 hJ; subst hJ
    try dsimp only at h
    try refine sA ?_
    refine Bs_if h (fun h hc5 => ?_) (fun h hc5 => ?_)
    · try refine sA ?_
      have he := Option.some.inj h
      subst he
      exact endsA ⟨[(4, (.lf false (.sc (.int .i64 0)))), (5, (.lf false (.sc (.bool false))))], [], 0, 22⟩ []
    · try refine sA ?_
      obtain ⟨c35, hr6, h⟩ := bind_ok h
      refine Cl_sA (w_spec_l13Next hr6) ?_
      try refine sA ?_
      obtain ⟨c36, hr7, h⟩ := bind_ok h
      refine Cl_sA (w_spec_l13Version hr7) ?_
      try refine sA ?_
      refine Bs_if h (fun h hc8 => ?_) (fun h hc8 => ?_)
      · try refine sA ?_
        have he := Option.some.inj h
        subst he
        exact endsA ⟨[(4, (.lf false (.sc (.int .i64 0)))), (5, (.lf false (.sc (.bool false))))], [], 0, 22⟩ []
      · try refine sA ?_
        have he := Option.some.inj h
        subst he
        exact endsA ⟨[(4, (.lf false (.sc (.int .i64 c35)))), (5, (.lf false (.sc (.bool true))))], [], 0, 22⟩ []
theorem w_spec_FailOver {a0 : (List DomainT)} {a1 : ByteArray} {a2 : Int} {r : ((List DomainT) × Bool)} (h : spec_FailOver a0 a1 a2 = some r) : Fn Tryd.prog 18 [(.lf true (.sl (a0.map eDomain))), (.lf false (.sc (.string a1))), (.lf false (.sc (.int .i64 a2)))] [] 0 (.tu [(.os 0 3 0 r.1.length r.1.length false), (.lf false (.sc (.bool r.2)))]) [(0, some (true, .arr false 3 (r.1.map eDomain)))] 1 := by
  unfold spec_FailOver at h
  refine fn_code tab_ok mixed [(1000, [(0, 0), (1, 0), (2, 0)]), (1001, [(0, 0), (1, 0), (2, 0), (15, 0)]), (1002, [(6, 0), (7, 0)]), (1003, [(1, 0), (2, 0), (8, 0)]), (1004, [(1, 0), (2, 0), (8, 0), (19, 0), (20, 0), (21, 0)]), (1005, [(1, 0), (2, 0), (8, 0), (19, 0), (20, 0), (21, 0), (22, 0)]), (1006, [(1, 0), (2, 0), (8, 0), (9, 0), (10, 0), (19, 0), (20, 0), (21, 0)]), (1007, [(1, 0), (2, 0), (8, 0), (9, 0), (10, 0), (19, 0), (20, 0), (21, 0), (29, 0)]), (1008, [(8, 0), (9, 0), (11, 0), (12, 0)]), (1009, [(8, 0), (9, 0), (11, 0), (38, 0)]), (1010, [(6, 0), (7, 0)]), (1011, [(8, 0)]), (1012, [(6, 0), (7, 0)]), (1013, [(1, 0), (2, 0), (8, 0), (19, 0), (20, 0), (21, 0)]), (1014, [(6, 0), (7, 0)])] Tryd.func18 rfl rfl (by simp [Tryd.f18]) (by kernel_rfl) ?_
  simp only [Tryd.f18]
  refine sA ?_
  obtain ⟨c30, hr1, h⟩ := bind_ok h
  refine Cl_sA (w_spec_GoodDomains hr1) ?_
  try refine sA ?_
  refine Bs_if h (fun h hc2 => ?_) (fun h hc2 => ?_)
  · try refine sA ?_
    have he := Option.some.inj h
    subst he
    exact endsA ⟨[(6, (.os 0 3 0 (([] : List DomainT).length) (([] : List DomainT).length) false)), (7, (.lf false (.sc (.bool false))))], [(0, some (true, .arr false 3 (([] : List DomainT).map eDomain)))], 1, 46⟩ [none]
  · try refine sA ?_
    obtain ⟨hp3, h⟩ := guard_some h
    try refine sA ?_
    try refine andA ?_
    obtain ⟨y39, hl4, h⟩ := bind_ok h
    refine W_loopP (fun g31 : spec_FailOver_G1 => ⟨[(1, (.lf false (.sc (.string a1)))), (2, (.lf false (.sc (.int .i64 a2)))), (8, (.os 0 3 0 a0.length a0.length false)), (19, (.os 0 3 0 a0.length a0.length false)), (20, (.lf false (.sc (.int .i64 ((a0.length : Nat) : Int))))), (21, (.lf false (.sc (.int .i64 g31.t21))))], [(0, some (true, .arr true 3 ((([]) ++ a0).map eDomain)))], 1, 46⟩) (spec_FailOver_L1 a0 a1 a2) _ _ hl4 (weakA [some 1]) ?_
    · intro n1 g31 z1 hs1 hk1
      unfold spec_FailOver_L1 at hs1
      try dsimp only at hs1
      refine sA ?_
      refine Bs_if hs1 (fun hs1 hc5 => ?_) (fun hs1 hc5 => ?_)
      · try refine sA ?_
        obtain ⟨hp6, hs1⟩ := guard_some hs1
        have hn6 : g31.t21.toNat < a0.length := by first | omega | (simp only [List.length_set, List.length_append, List.length_replicate, List.length_map]; omega)
        try refine sA ?_
        try refine andA ?_
        try refine andB ?_
        try refine sA ?_
        refine Bs_if hs1 (fun hs1 hc8 => ?_) (fun hs1 hc8 => ?_)
        · try refine sA ?_
          obtain ⟨c38, hr9, hs1⟩ := bind_ok hs1
          refine Cl_sA (w_spec_NextVersion hr9) ?_
          try refine sA ?_
          refine Bs_if hs1 (fun hs1 hc10 => ?_) (fun hs1 hc10 => ?_)
          · try refine sA ?_
            cases hs1
            cases hk1
            try dsimp only at h
            try refine sA ?_
            have he := Option.some.inj h
            subst he
            exact endsA ⟨[(6, (.os 0 3 0 (([] : List DomainT).length) (([] : List DomainT).length) false)), (7, (.lf false (.sc (.bool false))))], [(0, some (true, .arr false 3 (([] : List DomainT).map eDomain)))], 1, 46⟩ [none]
          · try refine sA ?_
            obtain ⟨hp11, hs1⟩ := guard_some hs1
            have hn11 : g31.t21.toNat < a0.length := by first | omega | (simp only [List.length_set, List.length_append, List.length_replicate, List.length_map]; omega)
            try refine sA ?_
            try refine andA ?_
            try refine andB ?_
            try refine sA ?_
            cases hs1
            cases hk1
            try dsimp only at h
            try refine sA ?_
            have he := Option.some.inj h
            subst he
            exact endsA ⟨[(6, (.os 0 3 0 (((([]) ++ a0).set g31.t21.toNat (⟨(nth (([]) ++ a0) g31.t21.toNat).Name, c38.1, (nth (([]) ++ a0) g31.t21.toNat).Note⟩ : DomainT)).length) (((([]) ++ a0).set g31.t21.toNat (⟨(nth (([]) ++ a0) g31.t21.toNat).Name, c38.1, (nth (([]) ++ a0) g31.t21.toNat).Note⟩ : DomainT)).length) false)), (7, (.lf false (.sc (.bool true))))], [(0, some (true, .arr false 3 (((([]) ++ a0).set g31.t21.toNat (⟨(nth (([]) ++ a0) g31.t21.toNat).Name, c38.1, (nth (([]) ++ a0) g31.t21.toNat).Note⟩ : DomainT)).map eDomain)))], 1, 46⟩ [some 0]
        · try refine sA ?_
          cases hs1
          exact X_backP hk1 (weakA [some 0])
      · try refine sA ?_
        cases hs1
        cases hk1
        try dsimp only at h
        try refine sA ?_
        have he := Option.some.inj h
        subst he
        exact endsA ⟨[(6, (.os 0 3 0 (([] : List DomainT).length) (([] : List DomainT).length) false)), (7, (.lf false (.sc (.bool false))))], [(0, some (true, .arr false 3 (([] : List DomainT).map eDomain)))], 1, 46⟩ [none]
theorem w_impl_domainAt_c1_r {a0 : DomainT} {a1 : ByteArray} {r : Bool} (h : impl_domainAt_c1_r a0 a1 = some r) : Fn Tryd.prog 64 [(.ag [(.lf false (.sc (.string a0.Name))), (.lf false (.sc (.int .i64 a0.Version))), (.lf false (.sc (.string a0.Note)))]), (.ra true [.sc (.string a1)])] [] 0 (.lf false (.sc (.bool r))) [] 0 := by
  unfold impl_domainAt_c1_r at h
  refine fn_code tab_ok mixed [] Tryd.func64 rfl rfl (by simp [Tryd.f64]) (by kernel_rfl) ?_
  simp only [Tryd.f64]
  refine sA ?_
  have he := Option.some.inj h
  subst he
  exact endsA ⟨[(3, (.lf false (.sc (.bool (a0.Name.toList == a1.toList)))))], [], 0, 8⟩ []
theorem w_slices_IndexFunc_impl_Domain_impl_domainAt_c1r {a0 : (List DomainT)} {a1 : ByteArray} {r : Int} (h : slices_IndexFunc_impl_Domain_impl_domainAt_c1r a0 a1 = some r) : Fn Tryd.prog 63 [(.lf true (.sl (a0.map eDomain))), (.fn 64 [(.ra true [.sc (.string a1)])])] [] 0 (.lf false (.sc (.int .i64 r))) [] 0 := by
  unfold slices_IndexFunc_impl_Domain_impl_domainAt_c1r at h
  refine fn_code tab_ok mixed [(1000, [(0, 0), (1, 0)]), (1001, [(0, 0), (1, 0), (7, 0), (8, 0)]), (1002, [(0, 0), (1, 0), (7, 0), (8, 0), (9, 0)]), (1003, [(0, 0), (1, 0), (5, 0), (7, 0), (8, 0)]), (1004, [(0, 0), (1, 0), (5, 0), (7, 0), (8, 0), (16, 0)]), (1005, [(4, 0)]), (1006, [(0, 0), (1, 0), (7, 0), (8, 0)]), (1007, [(4, 0)])] Tryd.func63 rfl rfl (by simp [Tryd.f63]) (by kernel_rfl) ?_
  simp only [Tryd.f63]
  refine sA ?_
  obtain ⟨y47, hl1, h⟩ := bind_ok h
  refine W_loopP (fun g44 : slices_IndexFunc_impl_Domain_impl_domainAt_c1r_G1 => ⟨[(0, (.lf true (.sl (a0.map eDomain)))), (1, (.fn 64 [(.ra true [.sc (.string a1)])])), (7, (.lf false (.sc (.int .i64 ((a0.length : Nat) : Int))))), (8, (.lf false (.sc (.int .i64 g44.t8))))], [], 0, 19⟩) (slices_IndexFunc_impl_Domain_impl_domainAt_c1r_L1 a0 a1) _ _ hl1 (weakA []) ?_
  · intro n1 g44 z1 hs1 hk1
    unfold slices_IndexFunc_impl_Domain_impl_domainAt_c1r_L1 at hs1
    try dsimp only at hs1
    refine sA ?_
    refine Bs_if hs1 (fun hs1 hc2 => ?_) (fun hs1 hc2 => ?_)
    · try refine sA ?_
      obtain ⟨hp3, hs1⟩ := guard_some hs1
      have hn3 : g44.t8.toNat < a0.length := by first | omega | (simp only [List.length_set, List.length_append, List.length_replicate, List.length_map]; omega)
      try refine sA ?_
      try refine andA ?_
      obtain ⟨c46, hr4, hs1⟩ := bind_ok hs1
      refine Cl_sA (w_impl_domainAt_c1_r hr4) ?_
      try refine sA ?_
      refine Bs_if hs1 (fun hs1 hc5 => ?_) (fun hs1 hc5 => ?_)
      · try refine sA ?_
        cases hs1
        cases hk1
        try dsimp only at h
        try refine sA ?_
        have he := Option.some.inj h
        subst he
        exact endsA ⟨[(4, (.lf false (.sc (.int .i64 g44.t8))))], [], 0, 19⟩ []
      · try refine sA ?_
        cases hs1
        exact X_backP hk1 (weakA [])
    · try refine sA ?_
      cases hs1
      cases hk1
      try dsimp only at h
      try refine sA ?_
      have he := Option.some.inj h
      subst he
      exact endsA ⟨[(4, (.lf false (.sc (.int .i64 (-1)))))], [], 0, 19⟩ []
theorem w_impl_domainAt {a0 : (List DomainT)} {a1 : ByteArray} {r : Int} (h : impl_domainAt a0 a1 = some r) : Fn Tryd.prog 40 [(.lf true (.sl (a0.map eDomain))), (.lf false (.sc (.string a1)))] [] 0 (.lf false (.sc (.int .i64 r))) [] 0 := by
  unfold impl_domainAt at h
  refine fn_code tab_ok mixed [] Tryd.func40 rfl rfl (by simp [Tryd.f40]) (by kernel_rfl) ?_
  simp only [Tryd.f40]
  refine sA ?_
  obtain ⟨c50, hr1, h⟩ := bind_ok h
  refine Cl_sA (w_slices_IndexFunc_impl_Domain_impl_domainAt_c1r hr1) ?_
  try refine sA ?_
  have he := Option.some.inj h
  subst he
  exact endsA ⟨[(4, (.lf false (.sc (.int .i64 c50))))], [], 0, 8⟩ []
theorem w_strings_Trim {a0 a1 : ByteArray} {r : ByteArray} (h : strings_Trim a0 a1 = some r) : Fn Tryd.prog 61 [.lf false (.sc (.string a0)), .lf false (.sc (.string a1))] [] 0 (.lf false (.sc (.string r))) [] 0 := by
  unfold strings_Trim at h
  obtain ⟨⟨hp1, hp2, hp3⟩, h⟩ := guard_some h
  have he := Option.some.inj h; subst he
  exact fn_str2 (Ent.of Tryd.func61 rfl (by simp [Tryd.f61])) fun w => Go.Proofs.Any.strings_Trim_laid Go.Proofs.Tryd.lays160 (by kernel_rfl) a0 a1 w hp1 hp2 (ascii_of_all hp3)
theorem w_impl_goodName {a0 : ByteArray} {r : Bool} (h : impl_goodName a0 = some r) : Fn Tryd.prog 37 [(.lf false (.sc (.string a0)))] [] 0 (.lf false (.sc (.bool r))) [] 0 := by
  unfold impl_goodName at h
  refine fn_code tab_ok mixed [] Tryd.func37 rfl rfl (by simp [Tryd.f37]) (by kernel_rfl) ?_
  simp only [Tryd.f37]
  refine sA ?_
  refine Sp_if h (fun h hc1 => ?_) (fun h hc1 => ?_)
  · try refine sA ?_
    obtain ⟨c53, hr2, h⟩ := bind_ok h
    refine Cl_sA (w_strings_Trim hr2) ?_
    try refine sA ?_
    have he := Option.some.inj h
    subst he
    exact endsA ⟨[(2, (.lf false (.sc (.bool (c53.toList == ByteArray.empty.toList)))))], [], 0, 11⟩ []
  · try refine sA ?_
    have he := Option.some.inj h
    subst he
    exact endsA ⟨[(2, (.lf false (.sc (.bool false))))], [], 0, 11⟩ []
theorem w_impl_in {a0 : Int} {a1 : Int} {a2 : Int} {r : Bool} (h : impl_in a0 a1 a2 = some r) : Fn Tryd.prog 62 [(.lf false (.sc (.int .i64 a0))), (.lf false (.sc (.int .i64 a1))), (.lf false (.sc (.int .i64 a2)))] [] 0 (.lf false (.sc (.bool r))) [] 0 := by
  unfold impl_in at h
  refine fn_code tab_ok mixed [] Tryd.func62 rfl rfl (by simp [Tryd.f62]) (by kernel_rfl) ?_
  simp only [Tryd.f62]
  refine sA ?_
  refine Sp_if h (fun h hc1 => ?_) (fun h hc1 => ?_)
  · try refine sA ?_
    have he := Option.some.inj h
    subst he
    exact endsA ⟨[(6, (.lf false (.sc (.bool (decide (a0 ≤ a2))))))], [], 0, 15⟩ []
  · try refine sA ?_
    have he := Option.some.inj h
    subst he
    exact endsA ⟨[(6, (.lf false (.sc (.bool false))))], [], 0, 15⟩ []
theorem w_impl_isVersion {a0 : Int} {r : Bool} (h : impl_isVersion a0 = some r) : Fn Tryd.prog 38 [(.lf false (.sc (.int .i64 a0)))] [] 0 (.lf false (.sc (.bool r))) [] 0 := by
  unfold impl_isVersion at h
  refine fn_code tab_ok mixed [] Tryd.func38 rfl rfl (by simp [Tryd.f38]) (by kernel_rfl) ?_
  simp only [Tryd.f38]
  refine sA ?_
  obtain ⟨c55, hr1, h⟩ := bind_ok h
  refine Cl_sA (w_impl_in hr1) ?_
  try refine sA ?_
  have he := Option.some.inj h
  subst he
  exact endsA ⟨[(2, (.lf false (.sc (.bool c55))))], [], 0, 5⟩ []
theorem w_impl_GoodDomains {a0 : (List DomainT)} {r : Bool} (h : impl_GoodDomains a0 = some r) : Fn Tryd.prog 12 [(.lf true (.sl (a0.map eDomain)))] [] 0 (.lf false (.sc (.bool r))) [] 0 := by
  unfold impl_GoodDomains at h
  refine fn_code tab_ok mixed [(1000, [(0, 0)]), (1001, [(0, 0), (7, 0)]), (1002, [(2, 0)]), (1003, [(0, 0), (8, 0), (9, 0), (10, 0)]), (1004, [(0, 0), (8, 0), (9, 0), (10, 0), (11, 0)]), (1005, [(0, 0), (3, 0), (4, 0), (8, 0), (9, 0), (10, 0)]), (1006, [(0, 0), (8, 0), (9, 0), (10, 0), (50, 0)]), (1007, [(2, 0)]), (1008, [(0, 0), (8, 0), (9, 0), (10, 0)]), (1009, [(2, 0)]), (4006, [])] Tryd.func12 rfl rfl (by simp [Tryd.f12]) (by kernel_rfl) ?_
  simp only [Tryd.f12]
  refine sA ?_
  refine Bs_if h (fun h hc1 => ?_) (fun h hc1 => ?_)
  · try refine sA ?_
    have he := Option.some.inj h
    subst he
    exact endsA ⟨[(2, (.lf false (.sc (.bool false))))], [], 0, 52⟩ []
  · try refine sA ?_
    obtain ⟨y61, hl2, h⟩ := bind_ok h
    refine W_loopP (fun g52 : impl_GoodDomains_G1 => ⟨[(0, (.lf true (.sl (a0.map eDomain)))), (8, (.lf true (.sl (a0.map eDomain)))), (9, (.lf false (.sc (.int .i64 ((a0.length : Nat) : Int))))), (10, (.lf false (.sc (.int .i64 g52.t10))))], [], 0, 52⟩) (impl_GoodDomains_L1 a0) _ _ hl2 (weakA []) ?_
    · intro n1 g52 z1 hs1 hk1
      unfold impl_GoodDomains_L1 at hs1
      try dsimp only at hs1
      refine sA ?_
      refine Bs_if hs1 (fun hs1 hc3 => ?_) (fun hs1 hc3 => ?_)
      · try refine sA ?_
        obtain ⟨hp4, hs1⟩ := guard_some hs1
        have hn4 : g52.t10.toNat < a0.length := by first | omega | (simp only [List.length_set, List.length_append, List.length_replicate, List.length_map]; omega)
        try refine sA ?_
        try refine andA ?_
        obtain ⟨p60, hq5, hs1⟩ := bind_ok hs1
        refine Sq_cut (fun s2 => s2 = ⟨[(0, (.lf true (.sl (a0.map eDomain)))), (8, (.lf true (.sl (a0.map eDomain)))), (9, (.lf false (.sc (.int .i64 ((a0.length : Nat) : Int))))), (10, (.lf false (.sc (.int .i64 g52.t10)))), (50, (.lf false (.sc (.bool p60.t50))))], [], 0, 52⟩) ?_ ?_
        · try refine sA ?_
          refine Sp_if hq5 (fun hq5 hc6 => ?_) (fun hq5 hc6 => ?_)
          · try refine sA ?_
            cases hq5
            exact X_cut rfl (weakA [])
          · try refine sA ?_
            obtain ⟨c58, hr7, hq5⟩ := bind_ok hq5
            refine Cl_sA (w_impl_goodName hr7) ?_
            try refine sA ?_
            refine Sp_if hq5 (fun hq5 hc8 => ?_) (fun hq5 hc8 => ?_)
            · try refine sA ?_
              cases hq5
              exact X_cut rfl (weakA [])
            · try refine sA ?_
              obtain ⟨c59, hr9, hq5⟩ := bind_ok hq5
              refine Cl_sA (w_impl_isVersion hr9) ?_
              try refine sA ?_
              refine Sp_if hq5 (fun hq5 hc10 => ?_) (fun hq5 hc10 => ?_)
              · try refine sA ?_
                cases hq5
                exact X_cut rfl (weakA [])
              · try refine sA ?_
                refine Sp_if hq5 (fun hq5 hc11 => ?_) (fun hq5 hc11 => ?_)
                · try refine sA ?_
                  cases hq5
                  exact X_cut rfl (weakA [])
                · try refine sA ?_
                  refine Sp_if hq5 (fun hq5 hc12 => ?_) (fun hq5 hc12 => ?_)
                  · try refine sA ?_
                    obtain ⟨hp13, hq5⟩ := guard_some hq5
                    have hn13 : (wI (g52.t10 - 1)).toNat < a0.length := by first | omega | (simp only [List.length_set, List.length_append, List.length_replicate, List.length_map]; omega)
                    try refine sA ?_
                    try refine andA ?_
                    cases hq5
                    exact X_cut rfl (weakA [])
                  · try refine sA ?_
                    cases hq5
                    exact X_cut rfl (weakA [])
        · intro s2 hJ; subst hJ
          try dsimp only at hs1
          try refine sA ?_
          refine Bs_if hs1 (fun hs1 hc14 => ?_) (fun hs1 hc14 => ?_)
          · try refine sA ?_
            cases hs1
            cases hk1
            try dsimp only at h
            try refine sA ?_
            have he := Option.some.inj h
            subst he
            exact endsA ⟨[(2, (.lf false (.sc (.bool false))))], [], 0, 52⟩ []
          · try refine sA ?_
            cases hs1
            exact X_backP hk1 (weakA [])
      · try refine sA ?_
        cases hs1
        cases hk1
        try dsimp only at h
        try refine sA ?_
        have he := Option.some.inj h
        subst he
        exact endsA ⟨[(2, (.lf false (.sc (.bool true))))], [], 0, 52⟩ []
theorem w_impl_isRegion {a0 : Int} {r : Bool} (h : impl_isRegion a0 = some r) : Fn Tryd.prog 69 [(.lf false (.sc (.int .i64 a0)))] [] 0 (.lf false (.sc (.bool r))) [] 0 := by
  unfold impl_isRegion at h
  refine fn_code tab_ok mixed [] Tryd.func69 rfl rfl (by simp [Tryd.f69]) (by kernel_rfl) ?_
  simp only [Tryd.f69]
  refine sA ?_
  obtain ⟨c67, hr1, h⟩ := bind_ok h
  refine Cl_sA (w_impl_in hr1) ?_
  try refine sA ?_
  have he := Option.some.inj h
  subst he
  exact endsA ⟨[(2, (.lf false (.sc (.bool c67))))], [], 0, 5⟩ []
theorem w_impl_NextVersion {a0 : Int} {a1 : Int} {r : (Int × Bool)} (h : impl_NextVersion a0 a1 = some r) : Fn Tryd.prog 47 [(.lf false (.sc (.int .i64 a0))), (.lf false (.sc (.int .i64 a1)))] [] 0 (.tu [(.lf false (.sc (.int .i64 r.1))), (.lf false (.sc (.bool r.2)))]) [] 0 := by
  unfold impl_NextVersion at h
  refine fn_code tab_ok mixed [(1000, [(0, 0), (1, 0)]), (1001, [(0, 0), (1, 0), (14, 0)]), (1002, [(4, 0), (5, 0)]), (1003, [(0, 0), (6, 0)]), (1004, [(6, 0), (23, 0)]), (1005, [(6, 0)]), (1006, [(6, 0), (28, 0)]), (1007, [(4, 0), (5, 0)]), (1008, [(4, 0), (5, 0)]), (2023, []), (4001, [])] Tryd.func47 rfl rfl (by simp [Tryd.f47]) (by kernel_rfl) ?_
  simp only [Tryd.f47]
  refine sA ?_
  obtain ⟨p69, hq1, h⟩ := bind_ok h
  refine Sq_cut (fun s2 => s2 = ⟨[(0, (.lf false (.sc (.int .i64 a0)))), (1, (.lf false (.sc (.int .i64 a1)))), (14, (.lf false (.sc (.bool p69.t14))))], [], 0, 30⟩) ?_ ?_
  · try refine sA ?_
    obtain ⟨c66, hr2, hq1⟩ := bind_ok hq1
    refine Cl_sA (w_impl_isVersion hr2) ?_
    try refine sA ?_
    refine Sp_if hq1 (fun hq1 hc3 => ?_) (fun hq1 hc3 => ?_)
    · try refine sA ?_
      cases hq1
      exact X_cut rfl (weakA [])
    · try refine sA ?_
      obtain ⟨c68, hr4, hq1⟩ := bind_ok hq1
      refine Cl_sA (w_impl_isRegion hr4) ?_
      try refine sA ?_
      cases hq1
      exact X_cut rfl (weakA [])
  · intro s2 hJ; subst hJ
    try dsimp only at h
    try refine sA ?_
    refine Bs_if h (fun h hc5 => ?_) (fun h hc5 => ?_)
    · try refine sA ?_
      have he := Option.some.inj h
      subst he
      exact endsA ⟨[(4, (.lf false (.sc (.int .i64 0)))), (5, (.lf false (.sc (.bool false))))], [], 0, 30⟩ []
    · try refine sA ?_
      obtain ⟨p70, hq6, h⟩ := bind_ok h
      refine Sq_cut (fun s2 => s2 = ⟨[(6, (.lf false (.sc (.int .i64 p70.t6))))], [], 0, 30⟩) ?_ ?_
      · try refine sA ?_
        refine Bs_if hq6 (fun hq6 hc7 => ?_) (fun hq6 hc7 => ?_)
        · try refine sA ?_
          cases hq6
          exact X_cut rfl (weakA [])
        · try refine sA ?_
          cases hq6
          exact X_cut rfl (weakA [])
      · intro s2 hJ; subst hJ
        try dsimp only at h
        try refine sA ?_
        obtain ⟨c71, hr8, h⟩ := bind_ok h
        refine Cl_sA (w_impl_isVersion hr8) ?_
        try refine sA ?_
        refine Bs_if h (fun h hc9 => ?_) (fun h hc9 => ?_)
        · try refine sA ?_
          have he := Option.some.inj h
          subst he
          exact endsA ⟨[(4, (.lf false (.sc (.int .i64 0)))), (5, (.lf false (.sc (.bool false))))], [], 0, 30⟩ []
        · try refine sA ?_
          have he := Option.some.inj h
          subst he
          exact endsA ⟨[(4, (.lf false (.sc (.int .i64 p70.t6)))), (5, (.lf false (.sc (.bool true))))], [], 0, 30⟩ []
theorem w_slices_Clone_impl_Domain {a0 : (List DomainT)} {r : (List DomainT)} (h : slices_Clone_impl_Domain a0 = some r) : Fn Tryd.prog 48 [(.lf true (.sl (a0.map eDomain)))] [] 0 (.os 0 3 0 r.length r.length false) [(0, some (true, .arr false 3 (r.map eDomain)))] 1 := by
  unfold slices_Clone_impl_Domain at h
  obtain ⟨hp, h⟩ := guard_some h
  have he := Option.some.inj h; subst he
  refine fn_code tab_ok mixed [] Tryd.func48 rfl rfl (by simp [Tryd.f48]) (by kernel_rfl) ?_
  simp only [Tryd.f48]
  simp (disch := assumption) only [go_sem, Nat.reduceAdd, Nat.reduceMul, Nat.reduceSub, Nat.reduceEqDiff, ↓reduceIte, Nat.reduceLT, reduceCtorEq, Nat.reduceLeDiff, Int.reduceToNat, Int.reduceEq, Int.reduceLE, Int.reduceLT, Nat.reduceBEq]
  intro b hb
  refine Bs_splitC (b = true) (by simp) (fun hc => ?_) (fun hc => ?_)
  · have h0 : a0 = [] := by simpa using hb (by simpa using hc)
    subst h0
    try simp (disch := assumption) only [go_sem, Nat.reduceAdd, Nat.reduceMul, Nat.reduceSub, Nat.reduceEqDiff, ↓reduceIte, Nat.reduceLT, reduceCtorEq, Nat.reduceLeDiff, Int.reduceToNat, Int.reduceEq, Int.reduceLE, Int.reduceLT, Nat.reduceBEq]
    refine ends_weak ⟨[(2, (.os 0 3 0 0 0 false))], [(0, some (true, .arr false 3 (([] : List DomainT).map eDomain)))], 1, 8⟩ (weak_of (m := 0) [none] rfl rfl rfl (by rfl) ?_ ?_) ?_
    all_goals ((try simp (disch := assumption) only [go_sem, Nat.reduceAdd, Nat.reduceMul, Nat.reduceSub, Nat.reduceEqDiff, ↓reduceIte, Nat.reduceLT, reduceCtorEq, Nat.reduceLeDiff, Int.reduceToNat, Int.reduceEq, Int.reduceLE, Int.reduceLT, Nat.reduceBEq]); (repeat' first | done | rfl | omega | refine And.intro ?_ ?_ | (simp; done) | (simp; omega)))
  · try simp (disch := assumption) only [go_sem, Nat.reduceAdd, Nat.reduceMul, Nat.reduceSub, Nat.reduceEqDiff, ↓reduceIte, Nat.reduceLT, reduceCtorEq, Nat.reduceLeDiff, Int.reduceToNat, Int.reduceEq, Int.reduceLE, Int.reduceLT, Nat.reduceBEq]
    first | refine And.intro (by first | omega | exact ⟨by omega, fun _ => mapLen fun _ => rfl⟩ | (refine ⟨?_, by omega⟩; first | exact mapLen fun _ => rfl | simp)) ?_ | skip
    try simp (disch := assumption) only [go_sem, Nat.reduceAdd, Nat.reduceMul, Nat.reduceSub, Nat.reduceEqDiff, ↓reduceIte, Nat.reduceLT, reduceCtorEq, Nat.reduceLeDiff, Int.reduceToNat, Int.reduceEq, Int.reduceLE, Int.reduceLT, Nat.reduceBEq]
    refine ends_weak ⟨[(2, (.os 0 3 0 a0.length a0.length false))], [(0, some (true, .arr false 3 (a0.map eDomain)))], 1, 8⟩ (weak_of (m := 0) [some 1] rfl rfl rfl (by rfl) ?_ ?_) ?_
    all_goals ((try simp (disch := assumption) only [go_sem, Nat.reduceAdd, Nat.reduceMul, Nat.reduceSub, Nat.reduceEqDiff, ↓reduceIte, Nat.reduceLT, reduceCtorEq, Nat.reduceLeDiff, Int.reduceToNat, Int.reduceEq, Int.reduceLE, Int.reduceLT, Nat.reduceBEq]); (repeat' first | done | rfl | omega | refine And.intro ?_ ?_ | (simp; done) | (simp; omega)))
theorem w_impl_FailOver {a0 : (List DomainT)} {a1 : ByteArray} {a2 : Int} {r : ((List DomainT) × Bool)} (h : impl_FailOver a0 a1 a2 = some r) : Fn Tryd.prog 19 [(.lf true (.sl (a0.map eDomain))), (.lf false (.sc (.string a1))), (.lf false (.sc (.int .i64 a2)))] [] 0 (.tu [(.os 0 3 0 r.1.length r.1.length false), (.lf false (.sc (.bool r.2)))]) [(0, some (true, .arr false 3 (r.1.map eDomain)))] 1 := by
  unfold impl_FailOver at h
  refine fn_code tab_ok mixed [(1000, [(0, 0), (1, 0), (2, 0)]), (1001, [(0, 0), (2, 0), (8, 0)]), (1002, [(0, 0), (2, 0), (8, 0), (21, 0)]), (1003, [(6, 0), (7, 0)]), (1004, [(0, 0), (8, 0), (9, 0), (10, 0)]), (1005, [(0, 0), (8, 0), (9, 0), (33, 0)]), (1006, [(6, 0), (7, 0)]), (1007, [(8, 0), (9, 0), (11, 0)]), (1008, [(11, 0)]), (1009, [(6, 0), (7, 0)]), (4002, [])] Tryd.func19 rfl rfl (by simp [Tryd.f19]) (by kernel_rfl) ?_
  simp only [Tryd.f19]
  refine sA ?_
  obtain ⟨c51, hr1, h⟩ := bind_ok h
  refine Cl_sA (w_impl_domainAt hr1) ?_
  try refine sA ?_
  obtain ⟨p65, hq2, h⟩ := bind_ok h
  refine Sq_cut (fun s2 => s2 = ⟨[(0, (.lf true (.sl (a0.map eDomain)))), (2, (.lf false (.sc (.int .i64 a2)))), (8, (.lf false (.sc (.int .i64 c51)))), (21, (.lf false (.sc (.bool p65.t21))))], [], 0, 42⟩) ?_ ?_
  · try refine sA ?_
    obtain ⟨c64, hr3, hq2⟩ := bind_ok hq2
    refine Cl_sA (w_impl_GoodDomains hr3) ?_
    try refine sA ?_
    refine Sp_if hq2 (fun hq2 hc4 => ?_) (fun hq2 hc4 => ?_)
    · try refine sA ?_
      cases hq2
      exact X_cut rfl (weakA [])
    · try refine sA ?_
      cases hq2
      exact X_cut rfl (weakA [])
  · intro s2 hJ; subst hJ
    try dsimp only at h
    try refine sA ?_
    refine Bs_if h (fun h hc5 => ?_) (fun h hc5 => ?_)
    · try refine sA ?_
      have he := Option.some.inj h
      subst he
      exact endsA ⟨[(6, (.os 0 3 0 (([] : List DomainT).length) (([] : List DomainT).length) false)), (7, (.lf false (.sc (.bool false))))], [(0, some (true, .arr false 3 (([] : List DomainT).map eDomain)))], 1, 42⟩ [none]
    · try refine sA ?_
      obtain ⟨hp6, h⟩ := guard_some h
      have hn6 : c51.toNat < a0.length := by first | omega | (simp only [List.length_set, List.length_append, List.length_replicate, List.length_map]; omega)
      try refine sA ?_
      try refine andA ?_
      obtain ⟨c72, hr7, h⟩ := bind_ok h
      refine Cl_sA (w_impl_NextVersion hr7) ?_
      try refine sA ?_
      refine Bs_if h (fun h hc8 => ?_) (fun h hc8 => ?_)
      · try refine sA ?_
        have he := Option.some.inj h
        subst he
        exact endsA ⟨[(6, (.os 0 3 0 (([] : List DomainT).length) (([] : List DomainT).length) false)), (7, (.lf false (.sc (.bool false))))], [(0, some (true, .arr false 3 (([] : List DomainT).map eDomain)))], 1, 42⟩ [none]
      · try refine sA ?_
        obtain ⟨c73, hr9, h⟩ := bind_ok h
        refine Cl_sA (w_slices_Clone_impl_Domain hr9) ?_
        try refine sA ?_
        obtain ⟨hp10, h⟩ := guard_some h
        have hn10 : c51.toNat < c73.length := by first | omega | (simp only [List.length_set, List.length_append, List.length_replicate, List.length_map]; omega)
        try refine sA ?_
        try refine andA ?_
        try refine andB ?_
        try refine sA ?_
        have he := Option.some.inj h
        subst he
        exact endsA ⟨[(6, (.os 0 3 0 ((c73.set c51.toNat (⟨(nth c73 c51.toNat).Name, c72.1, (nth c73 c51.toNat).Note⟩ : DomainT)).length) ((c73.set c51.toNat (⟨(nth c73 c51.toNat).Name, c72.1, (nth c73 c51.toNat).Note⟩ : DomainT)).length) false)), (7, (.lf false (.sc (.bool true))))], [(0, some (true, .arr false 3 ((c73.set c51.toNat (⟨(nth c73 c51.toNat).Name, c72.1, (nth c73 c51.toNat).Note⟩ : DomainT)).map eDomain)))], 1, 42⟩ [some 0]
theorem w_laws_eqDomain {a0 : DomainT} {a1 : DomainT} {r : Bool} (h : laws_eqDomain a0 a1 = some r) : Fn Tryd.prog 39 [(.ag [(.lf false (.sc (.string a0.Name))), (.lf false (.sc (.int .i64 a0.Version))), (.lf false (.sc (.string a0.Note)))]), (.ag [(.lf false (.sc (.string a1.Name))), (.lf false (.sc (.int .i64 a1.Version))), (.lf false (.sc (.string a1.Note)))])] [] 0 (.lf false (.sc (.bool r))) [] 0 := by
  unfold laws_eqDomain at h
  refine fn_code tab_ok mixed [(1000, [(2, 0), (3, 0)]), (1001, [(2, 0), (3, 0), (9, 0)]), (1002, [(4, 0)]), (1003, [(2, 0), (3, 0), (14, 0)]), (1004, [(4, 0)]), (1005, [(19, 0)]), (1006, [(4, 0)]), (1007, [(4, 0)])] Tryd.func39 rfl rfl (by simp [Tryd.f39]) (by kernel_rfl) ?_
  simp only [Tryd.f39]
  refine sA ?_
  refine Bs_if h (fun h hc1 => ?_) (fun h hc1 => ?_)
  · try refine sA ?_
    have he := Option.some.inj h
    subst he
    exact endsA ⟨[(4, (.lf false (.sc (.bool false))))], [], 0, 20⟩ []
  · try refine sA ?_
    refine Bs_if h (fun h hc2 => ?_) (fun h hc2 => ?_)
    · try refine sA ?_
      have he := Option.some.inj h
      subst he
      exact endsA ⟨[(4, (.lf false (.sc (.bool false))))], [], 0, 20⟩ []
    · try refine sA ?_
      refine Bs_if h (fun h hc3 => ?_) (fun h hc3 => ?_)
      · try refine sA ?_
        have he := Option.some.inj h
        subst he
        exact endsA ⟨[(4, (.lf false (.sc (.bool false))))], [], 0, 20⟩ []
      · try refine sA ?_
        have he := Option.some.inj h
        subst he
        exact endsA ⟨[(4, (.lf false (.sc (.bool true))))], [], 0, 20⟩ []
theorem w_laws_eqDomainS {a0 : (List DomainT)} {a1 : (List DomainT)} {r : Bool} (h : laws_eqDomainS a0 a1 = some r) : Fn Tryd.prog 13 [(.lf true (.sl (a0.map eDomain))), (.lf true (.sl (a1.map eDomain)))] [] 0 (.lf false (.sc (.bool r))) [] 0 := by
  unfold laws_eqDomainS at h
  refine fn_code tab_ok mixed [(1000, [(0, 0), (1, 0)]), (1001, [(0, 0), (1, 0), (10, 0)]), (1002, [(4, 0)]), (1003, [(0, 0), (1, 0), (5, 0)]), (1004, [(0, 0), (1, 0), (5, 0), (14, 0)]), (1005, [(0, 0), (1, 0), (5, 0)]), (1006, [(0, 0), (1, 0), (5, 0), (26, 0)]), (1007, [(4, 0)]), (1008, [(4, 0)])] Tryd.func13 rfl rfl (by simp [Tryd.f13]) (by kernel_rfl) ?_
  simp only [Tryd.f13]
  refine sA ?_
  refine Bs_if h (fun h hc1 => ?_) (fun h hc1 => ?_)
  · try refine sA ?_
    have he := Option.some.inj h
    subst he
    exact endsA ⟨[(4, (.lf false (.sc (.bool false))))], [], 0, 27⟩ []
  · try refine sA ?_
    obtain ⟨y78, hl2, h⟩ := bind_ok h
    refine W_loopP (fun g75 : laws_eqDomainS_G1 => ⟨[(0, (.lf true (.sl (a0.map eDomain)))), (1, (.lf true (.sl (a1.map eDomain)))), (5, (.lf false (.sc (.int .i64 g75.t5))))], [], 0, 27⟩) (laws_eqDomainS_L1 a0 a1) _ _ hl2 (weakA []) ?_
    · intro n1 g75 z1 hs1 hk1
      unfold laws_eqDomainS_L1 at hs1
      try dsimp only at hs1
      refine sA ?_
      refine Bs_if hs1 (fun hs1 hc3 => ?_) (fun hs1 hc3 => ?_)
      · try refine sA ?_
        obtain ⟨hp4, hs1⟩ := guard_some hs1
        have hn4 : g75.t5.toNat < a0.length := by first | omega | (simp only [List.length_set, List.length_append, List.length_replicate, List.length_map]; omega)
        try refine sA ?_
        try refine andA ?_
        obtain ⟨hp5, hs1⟩ := guard_some hs1
        have hn5 : g75.t5.toNat < a1.length := by first | omega | (simp only [List.length_set, List.length_append, List.length_replicate, List.length_map]; omega)
        try refine sA ?_
        try refine andA ?_
        obtain ⟨c77, hr6, hs1⟩ := bind_ok hs1
        refine Cl_sA (w_laws_eqDomain hr6) ?_
        try refine sA ?_
        refine Bs_if hs1 (fun hs1 hc7 => ?_) (fun hs1 hc7 => ?_)
        · try refine sA ?_
          cases hs1
          cases hk1
          try dsimp only at h
          try refine sA ?_
          have he := Option.some.inj h
          subst he
          exact endsA ⟨[(4, (.lf false (.sc (.bool false))))], [], 0, 27⟩ []
        · try refine sA ?_
          cases hs1
          exact X_backP hk1 (weakA [])
      · try refine sA ?_
        cases hs1
        cases hk1
        try dsimp only at h
        try refine sA ?_
        have he := Option.some.inj h
        subst he
        exact endsA ⟨[(4, (.lf false (.sc (.bool true))))], [], 0, 27⟩ []
theorem w_laws_markText {a0 : Int} {r : ByteArray} (h : laws_markText a0 = some r) : Fn Tryd.prog 49 [(.lf false (.sc (.int .i64 a0)))] [] 0 (.lf false (.sc (.string r))) [] 0 := by
  unfold laws_markText at h
  refine fn_code tab_ok mixed [(1000, [(0, 0)]), (1001, [(0, 0), (5, 0)]), (1002, [(2, 0)]), (1003, [(0, 0), (3, 0)]), (1004, [(0, 0), (3, 0), (7, 0)]), (1005, [(0, 0), (3, 0)]), (1006, [(0, 0), (3, 0)]), (1007, [(2, 0)])] Tryd.func49 rfl rfl (by simp [Tryd.f49]) (by kernel_rfl) ?_
  simp only [Tryd.f49]
  refine sA ?_
  refine Bs_if h (fun h hc1 => ?_) (fun h hc1 => ?_)
  · try refine sA ?_
    have he := Option.some.inj h
    subst he
    exact endsA ⟨[(2, (.lf false (.sc (.string (⟨#[109, 48]⟩ : ByteArray)))))], [], 0, 20⟩ []
  · try refine sA ?_
    obtain ⟨y87, hl2, h⟩ := bind_ok h
    refine W_loopP (fun g86 : laws_markText_G1 => ⟨[(0, (.lf false (.sc (.int .i64 g86.t0)))), (3, (.lf false (.sc (.string g86.t3))))], [], 0, 20⟩) (laws_markText_L1) _ _ hl2 (weakA []) ?_
    · intro n1 g86 z1 hs1 hk1
      unfold laws_markText_L1 at hs1
      try dsimp only at hs1
      refine sA ?_
      refine Bs_if hs1 (fun hs1 hc3 => ?_) (fun hs1 hc3 => ?_)
      · try refine sA ?_
        obtain ⟨hp4, hs1⟩ := guard_some hs1
        try refine sA ?_
        try refine andA ?_
        cases hs1
        exact X_backP hk1 (weakA [])
      · try refine sA ?_
        cases hs1
        cases hk1
        try dsimp only at h
        try refine sA ?_
        obtain ⟨hp5, h⟩ := guard_some h
        try refine sA ?_
        try refine andA ?_
        have he := Option.some.inj h
        subst he
        exact endsA ⟨[(2, (.lf false (.sc (.string ((⟨#[109]⟩ : ByteArray) ++ g86.t3)))))], [], 0, 20⟩ []
theorem w_laws_markDomainS_w {a0 : (List DomainT)} {a1 : Int} {m0 : Nat} {x0 : Bool} {r : (Int × (List DomainT))} (h : laws_markDomainS_w a0 a1 = some r) : Fn Tryd.prog 20 [(.os 0 3 0 a0.length m0 x0), (.lf false (.sc (.int .i64 a1)))] [(0, some (false, .arr true 3 (a0.map eDomain)))] 1 (.lf false (.sc (.int .i64 r.1))) [(0, some (false, .arr false 3 (r.2.map eDomain)))] 1 := by
  unfold laws_markDomainS_w at h
  refine fn_code tab_ok mixed [(1000, [(0, 0), (1, 0)]), (1001, [(0, 0), (1, 0), (5, 0)]), (1002, [(0, 0), (1, 0), (5, 0), (9, 0)]), (1003, [(0, 0), (1, 0), (5, 0)]), (1004, [(0, 0), (1, 0), (5, 0)]), (1005, [(0, 0), (1, 0), (5, 0)]), (1006, [(0, 0), (1, 0), (5, 0)]), (1007, [(0, 0), (1, 0), (5, 0)]), (1008, [(0, 0), (1, 0), (5, 0)]), (1009, [(0, 0), (1, 0), (5, 0)]), (1010, [(4, 0)])] Tryd.func20 rfl rfl (by simp [Tryd.f20]) (by kernel_rfl) ?_
  simp only [Tryd.f20]
  refine sA ?_
  obtain ⟨y94, hl1, h⟩ := bind_ok h
  refine W_loopP (fun g89 : laws_markDomainS_w_G1 => ⟨[(0, (.os 0 3 0 g89.c0.length g89.c0.length false)), (1, (.lf false (.sc (.int .i64 g89.t1)))), (5, (.lf false (.sc (.int .i64 g89.t5))))], [(0, some (false, .arr true 3 (g89.c0.map eDomain)))], 1, 36⟩) (laws_markDomainS_w_L1) _ _ hl1 (weakA [some 0]) ?_
  · intro n1 g89 z1 hs1 hk1
    unfold laws_markDomainS_w_L1 at hs1
    try dsimp only at hs1
    refine sA ?_
    refine Bs_if hs1 (fun hs1 hc2 => ?_) (fun hs1 hc2 => ?_)
    · try refine sA ?_
      obtain ⟨c92, hr3, hs1⟩ := bind_ok hs1
      refine Cl_sA (w_laws_markText hr3) ?_
      try refine sA ?_
      obtain ⟨hp4, hs1⟩ := guard_some hs1
      have hn4 : g89.t5.toNat < g89.c0.length := by first | omega | (simp only [List.length_set, List.length_append, List.length_replicate, List.length_map]; omega)
      try refine sA ?_
      try refine andA ?_
      try refine andB ?_
      try refine sA ?_
      obtain ⟨hp6, hs1⟩ := guard_some hs1
      have hn6 : g89.t5.toNat < g89.c0.length := by first | omega | (simp only [List.length_set, List.length_append, List.length_replicate, List.length_map]; omega)
      try refine sA ?_
      try refine andA ?_
      try refine andB ?_
      try refine sA ?_
      obtain ⟨c93, hr8, hs1⟩ := bind_ok hs1
      refine Cl_sA (w_laws_markText hr8) ?_
      try refine sA ?_
      obtain ⟨hp9, hs1⟩ := guard_some hs1
      have hn9 : g89.t5.toNat < g89.c0.length := by first | omega | (simp only [List.length_set, List.length_append, List.length_replicate, List.length_map]; omega)
      try refine sA ?_
      try refine andA ?_
      try refine andB ?_
      try refine sA ?_
      cases hs1
      exact X_backP hk1 (weakA [some 0])
    · try refine sA ?_
      cases hs1
      cases hk1
      try dsimp only at h
      try refine sA ?_
      have he := Option.some.inj h
      subst he
      exact endsA ⟨[(4, (.lf false (.sc (.int .i64 g89.t1))))], [(0, some (false, .arr false 3 (g89.c0.map eDomain)))], 1, 36⟩ [some 0]
theorem w_laws_heldDomainS {a0 : (List DomainT)} {a1 : Int} {r : Int} (h : laws_heldDomainS a0 a1 = some r) : Fn Tryd.prog 21 [(.lf true (.sl (a0.map eDomain))), (.lf false (.sc (.int .i64 a1)))] [] 0 (.lf false (.sc (.int .i64 r))) [] 0 := by
  unfold laws_heldDomainS at h
  refine fn_code tab_ok mixed [(4, [(4, 6)]), (10, [(4, 6)]), (1000, [(0, 0), (1, 0)]), (1001, [(0, 0), (1, 0), (5, 0)]), (1002, [(0, 0), (1, 0), (5, 0), (9, 0)]), (1003, [(0, 0), (1, 0), (5, 0)]), (1004, [(0, 0), (1, 0), (5, 0), (19, 0)]), (1005, [(4, 0)]), (1006, [(0, 0), (1, 0), (5, 0)]), (1007, [(0, 0), (1, 0), (5, 0), (28, 0)]), (1008, [(4, 0)]), (1009, [(0, 0), (1, 0), (5, 0)]), (1010, [(0, 0), (1, 0), (5, 0), (38, 0)]), (1011, [(4, 0)]), (1012, [(0, 0), (1, 0), (5, 0)]), (1013, [(4, 0)])] Tryd.func21 rfl rfl (by simp [Tryd.f21]) (by kernel_rfl) ?_
  simp only [Tryd.f21]
  refine sA ?_
  obtain ⟨y104, hl1, h⟩ := bind_ok h
  refine W_loopP (fun g99 : laws_heldDomainS_G1 => ⟨[(0, (.lf true (.sl (a0.map eDomain)))), (1, (.lf false (.sc (.int .i64 g99.t1)))), (5, (.lf false (.sc (.int .i64 g99.t5))))], [], 0, 42⟩) (laws_heldDomainS_L1 a0) _ _ hl1 (weakA []) ?_
  · intro n1 g99 z1 hs1 hk1
    unfold laws_heldDomainS_L1 at hs1
    try dsimp only at hs1
    refine sA ?_
    refine Bs_if hs1 (fun hs1 hc2 => ?_) (fun hs1 hc2 => ?_)
    · try refine sA ?_
      obtain ⟨hp3, hs1⟩ := guard_some hs1
      have hn3 : g99.t5.toNat < a0.length := by first | omega | (simp only [List.length_set, List.length_append, List.length_replicate, List.length_map]; omega)
      try refine sA ?_
      try refine andA ?_
      obtain ⟨c102, hr4, hs1⟩ := bind_ok hs1
      refine Cl_sA (w_laws_markText hr4) ?_
      try refine sA ?_
      refine Bs_if hs1 (fun hs1 hc5 => ?_) (fun hs1 hc5 => ?_)
      · try refine sA ?_
        cases hs1
        cases hk1
        try dsimp only at h
        try refine sA ?_
        have he := Option.some.inj h
        subst he
        exact endsA ⟨[(4, (.lf false (.sc (.int .i64 (-1)))))], [], 0, 42⟩ []
      · try refine sA ?_
        obtain ⟨hp6, hs1⟩ := guard_some hs1
        have hn6 : g99.t5.toNat < a0.length := by first | omega | (simp only [List.length_set, List.length_append, List.length_replicate, List.length_map]; omega)
        try refine sA ?_
        try refine andA ?_
        refine Bs_if hs1 (fun hs1 hc7 => ?_) (fun hs1 hc7 => ?_)
        · try refine sA ?_
          cases hs1
          cases hk1
          try dsimp only at h
          try refine sA ?_
          have he := Option.some.inj h
          subst he
          exact endsA ⟨[(4, (.lf false (.sc (.int .i64 (-1)))))], [], 0, 42⟩ []
        · try refine sA ?_
          obtain ⟨hp8, hs1⟩ := guard_some hs1
          have hn8 : g99.t5.toNat < a0.length := by first | omega | (simp only [List.length_set, List.length_append, List.length_replicate, List.length_map]; omega)
          try refine sA ?_
          try refine andA ?_
          obtain ⟨c103, hr9, hs1⟩ := bind_ok hs1
          refine Cl_sA (w_laws_markText hr9) ?_
          try refine sA ?_
          refine Bs_if hs1 (fun hs1 hc10 => ?_) (fun hs1 hc10 => ?_)
          · try refine sA ?_
            cases hs1
            cases hk1
            try dsimp only at h
            try refine sA ?_
            have he := Option.some.inj h
            subst he
            exact endsA ⟨[(4, (.lf false (.sc (.int .i64 (-1)))))], [], 0, 42⟩ []
          · try refine sA ?_
            cases hs1
            exact X_backP hk1 (weakA [])
    · try refine sA ?_
      cases hs1
      cases hk1
      try dsimp only at h
      try refine sA ?_
      have he := Option.some.inj h
      subst he
      exact endsA ⟨[(4, (.lf false (.sc (.int .i64 g99.t1))))], [], 0, 42⟩ []
theorem w_laws_FnExactFailOver {a0 : (List DomainT)} {a1 : ByteArray} {a2 : Int} {r : Bool} (h : laws_FnExactFailOver a0 a1 a2 = some r) : Fn Tryd.prog 6 [(.lf true (.sl (a0.map eDomain))), (.lf false (.sc (.string a1))), (.lf false (.sc (.int .i64 a2)))] [] 0 (.lf false (.sc (.bool r))) [] 0 := by
  unfold laws_FnExactFailOver at h
  refine fn_code tab_ok mixed [(1000, [(0, 0), (1, 0), (2, 0)]), (1001, [(0, 0), (1, 0), (2, 0), (20, 0)]), (1002, [(6, 0)]), (1003, [(0, 0), (1, 0), (2, 0), (7, 0)]), (1004, [(0, 0), (1, 0), (2, 0), (7, 0)]), (1005, [(0, 0), (1, 0), (2, 0), (25, 0)]), (1006, [(6, 0)]), (1007, [(0, 0), (1, 0), (2, 0), (8, 0), (9, 0)]), (1008, [(0, 0), (1, 0), (2, 0), (8, 0), (9, 0), (10, 0)]), (1009, [(0, 0), (1, 0), (2, 0), (8, 0), (9, 0), (10, 0), (11, 0), (12, 0)]), (1010, [(0, 0), (1, 0), (2, 0), (8, 0), (9, 0), (10, 0), (11, 0), (12, 0), (51, 0)]), (1011, [(6, 0)]), (1012, [(0, 0), (1, 0), (2, 0), (8, 0), (9, 0), (10, 0), (11, 0), (12, 0), (56, 0)]), (1013, [(6, 0)]), (1014, [(0, 0), (1, 0), (2, 0), (8, 0), (9, 0), (10, 0), (11, 0), (12, 0), (13, 0)]), (1015, [(0, 0), (1, 0), (2, 0), (8, 0), (9, 0), (11, 0), (12, 0), (13, 0)]), (1016, [(0, 0), (1, 0), (2, 0), (8, 0), (9, 0), (11, 0), (72, 0)]), (1017, [(6, 0)]), (1018, [(0, 0), (1, 0), (2, 0), (8, 0), (9, 0), (11, 0), (14, 0)]), (1019, [(0, 0), (1, 0), (2, 0), (8, 0), (9, 0), (11, 0), (14, 0)]), (1020, [(0, 0), (1, 0), (2, 0), (8, 0), (9, 0), (11, 0), (14, 0), (15, 0)]), (1021, [(0, 0), (1, 0), (2, 0), (8, 0), (9, 0), (11, 0), (14, 0), (15, 0)]), (1022, [(0, 0), (1, 0), (2, 0), (8, 0), (9, 0), (11, 0), (14, 0), (15, 0), (80, 0)]), (1023, [(6, 0)]), (1024, [(0, 0), (1, 0), (2, 0), (8, 0), (9, 0), (11, 0), (14, 0), (83, 0)]), (1025, [(6, 0)]), (1026, [(8, 0), (9, 0), (11, 0), (14, 0), (16, 0), (17, 0)]), (1027, [(11, 0), (14, 0), (100, 0)]), (1028, [(6, 0)]), (1029, [(11, 0), (14, 0), (15, 0)]), (1030, [(14, 0), (15, 0)]), (1031, [(14, 0), (15, 0), (105, 0)]), (1032, [(6, 0)]), (1033, [(108, 0)]), (1034, [(6, 0)]), (1035, [(6, 0)]), (4010, []), (4016, []), (4027, [])] Tryd.func6 rfl rfl (by simp [Tryd.f6]) (by kernel_rfl) ?_
  simp only [Tryd.f6]
  refine sA ?_
  refine Bs_if h (fun h hc1 => ?_) (fun h hc1 => ?_)
  · try refine sA ?_
    have he := Option.some.inj h
    subst he
    exact endsA ⟨[(6, (.lf false (.sc (.bool true))))], [], 0, 109⟩ []
  · try refine sA ?_
    obtain ⟨c7, hr2, h⟩ := bind_ok h
    refine Cl_sA (w_laws_szDomainS hr2) ?_
    try refine sA ?_
    refine Bs_if h (fun h hc3 => ?_) (fun h hc3 => ?_)
    · try refine sA ?_
      have he := Option.some.inj h
      subst he
      exact endsA ⟨[(6, (.lf false (.sc (.bool true))))], [], 0, 109⟩ []
    · try refine sA ?_
      obtain ⟨c12, hr4, h⟩ := bind_ok h
      refine Cl_sA (w_laws_toDomainS hr4) ?_
      try refine sA ?_
      obtain ⟨c42, hr5, h⟩ := bind_ok h
      refine Cl_sA (w_spec_FailOver hr5) ?_
      try refine sA ?_
      obtain ⟨c43, hr6, h⟩ := bind_ok h
      refine Cl_sA (w_laws_toDomainS hr6) ?_
      try refine sA ?_
      obtain ⟨c74, hr7, h⟩ := bind_ok h
      refine Cl_sA (w_impl_FailOver hr7) ?_
      try refine sA ?_
      obtain ⟨p82, hq8, h⟩ := bind_ok h
      refine Sq_cut (fun s2 => s2 = ⟨[(0, (.lf true (.sl (a0.map eDomain)))), (1, (.lf false (.sc (.string a1)))), (2, (.lf false (.sc (.int .i64 a2)))), (8, (.os 0 3 0 c42.1.length c42.1.length false)), (9, (.lf false (.sc (.bool c42.2)))), (10, (.os 1 3 0 c43.length c43.length false)), (11, (.os 2 3 0 c74.1.length c74.1.length false)), (12, (.lf false (.sc (.bool c74.2)))), (51, (.lf false (.sc (.bool p82.t51))))], [(0, some (true, .arr false 3 (c42.1.map eDomain))), (1, some (true, .arr false 3 (c43.map eDomain))), (2, some (true, .arr false 3 (c74.1.map eDomain)))], 3, 109⟩) ?_ ?_
      · try refine sA ?_
        obtain ⟨c81, hr9, hq8⟩ := bind_ok hq8
        refine Cl_sA (w_laws_eqDomainS hr9) ?_
        try refine sA ?_
        refine Sp_if hq8 (fun hq8 hc10 => ?_) (fun hq8 hc10 => ?_)
        · try refine sA ?_
          cases hq8
          exact X_cut rfl (weakA [some 1, some 2, some 3])
        · try refine sA ?_
          cases hq8
          exact X_cut rfl (weakA [some 1, some 2, some 3])
      · intro s2 hJ; subst hJ
        try dsimp only at h
        try refine sA ?_
        refine Bs_if h (fun h hc11 => ?_) (fun h hc11 => ?_)
        · try refine sA ?_
          have he := Option.some.inj h
          subst he
          exact endsA ⟨[(6, (.lf false (.sc (.bool false))))], [], 0, 109⟩ []
        · try refine sA ?_
          obtain ⟨c83, hr12, h⟩ := bind_ok h
          refine Cl_sA (w_laws_toDomainS hr12) ?_
          try refine sA ?_
          obtain ⟨c84, hr13, h⟩ := bind_ok h
          refine Cl_sA (w_laws_eqDomainS hr13) ?_
          try refine sA ?_
          refine Bs_if h (fun h hc14 => ?_) (fun h hc14 => ?_)
          · try refine sA ?_
            have he := Option.some.inj h
            subst he
            exact endsA ⟨[(6, (.lf false (.sc (.bool false))))], [], 0, 109⟩ []
          · try refine sA ?_
            obtain ⟨c95, hr15, h⟩ := bind_ok h
            refine Cl_hA [1] (w_laws_markDomainS_w hr15) ?_
            try refine sA ?_
            obtain ⟨hp16, h⟩ := guard_some h
            have hl16 : c43.length ≤ c95.2.length := by omega
            have ht16 : List.take (c43.length) c95.2 = c95.2 := by rw [← hp16]; exact List.take_length
            try simp (disch := first | assumption | (simp only [List.length_set]; assumption)) only [go_sem, Nat.reduceAdd, Nat.reduceMul, Nat.reduceSub, Nat.reduceEqDiff, ↓reduceIte, Nat.reduceLT, reduceCtorEq, Nat.reduceLeDiff, Int.reduceToNat, Int.reduceEq, Int.reduceLE, Int.reduceLT, Nat.reduceBEq, hl16, ht16]
            obtain ⟨p97, hq17, h⟩ := bind_ok h
            refine Sq_cut (fun s2 => s2 = ⟨[(0, (.lf true (.sl (a0.map eDomain)))), (1, (.lf false (.sc (.string a1)))), (2, (.lf false (.sc (.int .i64 a2)))), (8, (.os 0 3 0 c42.1.length c42.1.length false)), (9, (.lf false (.sc (.bool c42.2)))), (11, (.os 1 3 0 c74.1.length c74.1.length false)), (72, (.lf false (.sc (.bool p97.t72))))], [(0, some (true, .arr false 3 (c42.1.map eDomain))), (1, some (true, .arr false 3 (c74.1.map eDomain)))], 2, 109⟩) ?_ ?_
            · try simp (disch := first | assumption | (simp only [List.length_set]; assumption)) only [go_sem, Nat.reduceAdd, Nat.reduceMul, Nat.reduceSub, Nat.reduceEqDiff, ↓reduceIte, Nat.reduceLT, reduceCtorEq, Nat.reduceLeDiff, Int.reduceToNat, Int.reduceEq, Int.reduceLE, Int.reduceLT, Nat.reduceBEq, hl16, ht16]
              refine Sp_if hq17 (fun hq17 hc18 => ?_) (fun hq17 hc18 => ?_)
              · try simp (disch := first | assumption | (simp only [List.length_set]; assumption)) only [go_sem, Nat.reduceAdd, Nat.reduceMul, Nat.reduceSub, Nat.reduceEqDiff, ↓reduceIte, Nat.reduceLT, reduceCtorEq, Nat.reduceLeDiff, Int.reduceToNat, Int.reduceEq, Int.reduceLE, Int.reduceLT, Nat.reduceBEq, hl16, ht16]
                cases hq17
                refine X_cut rfl ?_
                refine weak_of (m := 0) [some 0, some 2] rfl rfl rfl (by rfl) ?_ ?_
                all_goals ((try simp (disch := first | assumption | (simp only [List.length_set]; assumption)) only [go_sem, Nat.reduceAdd, Nat.reduceMul, Nat.reduceSub, Nat.reduceEqDiff, ↓reduceIte, Nat.reduceLT, reduceCtorEq, Nat.reduceLeDiff, Int.reduceToNat, Int.reduceEq, Int.reduceLE, Int.reduceLT, Nat.reduceBEq, hl16, ht16]); (repeat' first | done | rfl | omega | refine And.intro ?_ ?_ | (simp; done) | (simp; omega)))
              · try simp (disch := first | assumption | (simp only [List.length_set]; assumption)) only [go_sem, Nat.reduceAdd, Nat.reduceMul, Nat.reduceSub, Nat.reduceEqDiff, ↓reduceIte, Nat.reduceLT, reduceCtorEq, Nat.reduceLeDiff, Int.reduceToNat, Int.reduceEq, Int.reduceLE, Int.reduceLT, Nat.reduceBEq, hl16, ht16]
                obtain ⟨c96, hr19, hq17⟩ := bind_ok hq17
                refine Cl_shown (w_laws_eqDomainS hr19) (by first | rfl | (simp (disch := first | assumption | (simp only [List.length_set]; assumption)) only [go_sem, Nat.reduceAdd, Nat.reduceMul, Nat.reduceSub, Nat.reduceEqDiff, ↓reduceIte, Nat.reduceLT, reduceCtorEq, Nat.reduceLeDiff, Int.reduceToNat, Int.reduceEq, Int.reduceLE, Int.reduceLT, Nat.reduceBEq, hl16, ht16]; first | done | rfl) | (simp only [List.length_append, List.length_cons, List.length_nil, List.length_map, List.length_set, List.length_replicate, Nat.zero_add, Nat.reduceAdd]; rfl) | (simp (disch := first | assumption | (simp only [List.length_set]; assumption)) only [go_sem, Nat.reduceAdd, Nat.reduceMul, Nat.reduceSub, Nat.reduceEqDiff, ↓reduceIte, Nat.reduceLT, reduceCtorEq, Nat.reduceLeDiff, Int.reduceToNat, Int.reduceEq, Int.reduceLE, Int.reduceLT, Nat.reduceBEq, hl16, ht16]; simp only [List.length_append, List.length_cons, List.length_nil, List.length_map, List.length_set, List.length_replicate, Nat.zero_add, Nat.reduceAdd]; rfl)) (FitAll.refl _) (.inr ⟨rfl, by simp [freeOb, free1]⟩) ?_
                try simp (disch := first | assumption | (simp only [List.length_set]; assumption)) only [go_sem, Nat.reduceAdd, Nat.reduceMul, Nat.reduceSub, Nat.reduceEqDiff, ↓reduceIte, Nat.reduceLT, reduceCtorEq, Nat.reduceLeDiff, Int.reduceToNat, Int.reduceEq, Int.reduceLE, Int.reduceLT, Nat.reduceBEq, hl16, ht16]
                refine Sp_if hq17 (fun hq17 hc20 => ?_) (fun hq17 hc20 => ?_)
                · try simp (disch := first | assumption | (simp only [List.length_set]; assumption)) only [go_sem, Nat.reduceAdd, Nat.reduceMul, Nat.reduceSub, Nat.reduceEqDiff, ↓reduceIte, Nat.reduceLT, reduceCtorEq, Nat.reduceLeDiff, Int.reduceToNat, Int.reduceEq, Int.reduceLE, Int.reduceLT, Nat.reduceBEq, hl16, ht16]
                  cases hq17
                  refine X_cut rfl ?_
                  refine weak_of (m := 0) [some 0, some 2] rfl rfl rfl (by rfl) ?_ ?_
                  all_goals ((try simp (disch := first | assumption | (simp only [List.length_set]; assumption)) only [go_sem, Nat.reduceAdd, Nat.reduceMul, Nat.reduceSub, Nat.reduceEqDiff, ↓reduceIte, Nat.reduceLT, reduceCtorEq, Nat.reduceLeDiff, Int.reduceToNat, Int.reduceEq, Int.reduceLE, Int.reduceLT, Nat.reduceBEq, hl16, ht16]); (repeat' first | done | rfl | omega | refine And.intro ?_ ?_ | (simp; done) | (simp; omega)))
                · try simp (disch := first | assumption | (simp only [List.length_set]; assumption)) only [go_sem, Nat.reduceAdd, Nat.reduceMul, Nat.reduceSub, Nat.reduceEqDiff, ↓reduceIte, Nat.reduceLT, reduceCtorEq, Nat.reduceLeDiff, Int.reduceToNat, Int.reduceEq, Int.reduceLE, Int.reduceLT, Nat.reduceBEq, hl16, ht16]
                  cases hq17
                  refine X_cut rfl ?_
                  refine weak_of (m := 0) [some 0, some 2] rfl rfl rfl (by rfl) ?_ ?_
                  all_goals ((try simp (disch := first | assumption | (simp only [List.length_set]; assumption)) only [go_sem, Nat.reduceAdd, Nat.reduceMul, Nat.reduceSub, Nat.reduceEqDiff, ↓reduceIte, Nat.reduceLT, reduceCtorEq, Nat.reduceLeDiff, Int.reduceToNat, Int.reduceEq, Int.reduceLE, Int.reduceLT, Nat.reduceBEq, hl16, ht16]); (repeat' first | done | rfl | omega | refine And.intro ?_ ?_ | (simp; done) | (simp; omega)))
            · intro s2 hJ; subst hJ
              try dsimp only at h
              try simp (disch := first | assumption | (simp only [List.length_set]; assumption)) only [go_sem, Nat.reduceAdd, Nat.reduceMul, Nat.reduceSub, Nat.reduceEqDiff, ↓reduceIte, Nat.reduceLT, reduceCtorEq, Nat.reduceLeDiff, Int.reduceToNat, Int.reduceEq, Int.reduceLE, Int.reduceLT, Nat.reduceBEq, hl16, ht16]
              refine Bs_if h (fun h hc21 => ?_) (fun h hc21 => ?_)
              · try simp (disch := first | assumption | (simp only [List.length_set]; assumption)) only [go_sem, Nat.reduceAdd, Nat.reduceMul, Nat.reduceSub, Nat.reduceEqDiff, ↓reduceIte, Nat.reduceLT, reduceCtorEq, Nat.reduceLeDiff, Int.reduceToNat, Int.reduceEq, Int.reduceLE, Int.reduceLT, Nat.reduceBEq, hl16, ht16]
                have he := Option.some.inj h
                subst he
                refine ends_weak ⟨[(6, (.lf false (.sc (.bool false))))], [], 0, 109⟩ (weak_of (m := 0) [] rfl rfl rfl (by rfl) ?_ ?_) ?_
                all_goals ((try simp (disch := first | assumption | (simp only [List.length_set]; assumption)) only [go_sem, Nat.reduceAdd, Nat.reduceMul, Nat.reduceSub, Nat.reduceEqDiff, ↓reduceIte, Nat.reduceLT, reduceCtorEq, Nat.reduceLeDiff, Int.reduceToNat, Int.reduceEq, Int.reduceLE, Int.reduceLT, Nat.reduceBEq, hl16, ht16]); (repeat' first | done | rfl | omega | refine And.intro ?_ ?_ | (simp; done) | (simp; omega)))
              · try simp (disch := first | assumption | (simp only [List.length_set]; assumption)) only [go_sem, Nat.reduceAdd, Nat.reduceMul, Nat.reduceSub, Nat.reduceEqDiff, ↓reduceIte, Nat.reduceLT, reduceCtorEq, Nat.reduceLeDiff, Int.reduceToNat, Int.reduceEq, Int.reduceLE, Int.reduceLT, Nat.reduceBEq, hl16, ht16]
                obtain ⟨c98, hr22, h⟩ := bind_ok h
                refine Cl_hand (ids := [1]) (w_laws_markDomainS_w hr22) (by first | rfl | (simp (disch := first | assumption | (simp only [List.length_set]; assumption)) only [go_sem, Nat.reduceAdd, Nat.reduceMul, Nat.reduceSub, Nat.reduceEqDiff, ↓reduceIte, Nat.reduceLT, reduceCtorEq, Nat.reduceLeDiff, Int.reduceToNat, Int.reduceEq, Int.reduceLE, Int.reduceLT, Nat.reduceBEq, hl16, ht16]; first | done | rfl) | (simp only [List.length_append, List.length_cons, List.length_nil, List.length_map, List.length_set, List.length_replicate, Nat.zero_add, Nat.reduceAdd]; rfl) | (simp (disch := first | assumption | (simp only [List.length_set]; assumption)) only [go_sem, Nat.reduceAdd, Nat.reduceMul, Nat.reduceSub, Nat.reduceEqDiff, ↓reduceIte, Nat.reduceLT, reduceCtorEq, Nat.reduceLeDiff, Int.reduceToNat, Int.reduceEq, Int.reduceLE, Int.reduceLT, Nat.reduceBEq, hl16, ht16]; simp only [List.length_append, List.length_cons, List.length_nil, List.length_map, List.length_set, List.length_replicate, Nat.zero_add, Nat.reduceAdd]; rfl)) (FitAll.refl _) (by first | rfl | (simp (disch := first | assumption | (simp only [List.length_set]; assumption)) only [go_sem, Nat.reduceAdd, Nat.reduceMul, Nat.reduceSub, Nat.reduceEqDiff, ↓reduceIte, Nat.reduceLT, reduceCtorEq, Nat.reduceLeDiff, Int.reduceToNat, Int.reduceEq, Int.reduceLE, Int.reduceLT, Nat.reduceBEq, hl16, ht16]; first | done | rfl) | (simp only [List.length_append, List.length_cons, List.length_nil, List.length_map, List.length_set, List.length_replicate, Nat.zero_add, Nat.reduceAdd]; rfl) | (simp (disch := first | assumption | (simp only [List.length_set]; assumption)) only [go_sem, Nat.reduceAdd, Nat.reduceMul, Nat.reduceSub, Nat.reduceEqDiff, ↓reduceIte, Nat.reduceLT, reduceCtorEq, Nat.reduceLeDiff, Int.reduceToNat, Int.reduceEq, Int.reduceLE, Int.reduceLT, Nat.reduceBEq, hl16, ht16]; simp only [List.length_append, List.length_cons, List.length_nil, List.length_map, List.length_set, List.length_replicate, Nat.zero_add, Nat.reduceAdd]; rfl)) (by decide) (by first | rfl | (simp (disch := first | assumption | (simp only [List.length_set]; assumption)) only [go_sem, Nat.reduceAdd, Nat.reduceMul, Nat.reduceSub, Nat.reduceEqDiff, ↓reduceIte, Nat.reduceLT, reduceCtorEq, Nat.reduceLeDiff, Int.reduceToNat, Int.reduceEq, Int.reduceLE, Int.reduceLT, Nat.reduceBEq, hl16, ht16]; done)) (by rfl) ?_
                try simp (disch := first | assumption | (simp only [List.length_set]; assumption)) only [go_sem, Nat.reduceAdd, Nat.reduceMul, Nat.reduceSub, Nat.reduceEqDiff, ↓reduceIte, Nat.reduceLT, reduceCtorEq, Nat.reduceLeDiff, Int.reduceToNat, Int.reduceEq, Int.reduceLE, Int.reduceLT, Nat.reduceBEq, hl16, ht16]
                obtain ⟨hp23, h⟩ := guard_some h
                have hl23 : c74.1.length ≤ c98.2.length := by omega
                have ht23 : List.take (c74.1.length) c98.2 = c98.2 := by rw [← hp23]; exact List.take_length
                try simp (disch := first | assumption | (simp only [List.length_set]; assumption)) only [go_sem, Nat.reduceAdd, Nat.reduceMul, Nat.reduceSub, Nat.reduceEqDiff, ↓reduceIte, Nat.reduceLT, reduceCtorEq, Nat.reduceLeDiff, Int.reduceToNat, Int.reduceEq, Int.reduceLE, Int.reduceLT, Nat.reduceBEq, hl16, ht16, hl23, ht23]
                obtain ⟨c107, hr24, h⟩ := bind_ok h
                refine Cl_shown (w_laws_heldDomainS hr24) (by first | rfl | (simp (disch := first | assumption | (simp only [List.length_set]; assumption)) only [go_sem, Nat.reduceAdd, Nat.reduceMul, Nat.reduceSub, Nat.reduceEqDiff, ↓reduceIte, Nat.reduceLT, reduceCtorEq, Nat.reduceLeDiff, Int.reduceToNat, Int.reduceEq, Int.reduceLE, Int.reduceLT, Nat.reduceBEq, hl16, ht16, hl23, ht23]; first | done | rfl) | (simp only [List.length_append, List.length_cons, List.length_nil, List.length_map, List.length_set, List.length_replicate, Nat.zero_add, Nat.reduceAdd]; rfl) | (simp (disch := first | assumption | (simp only [List.length_set]; assumption)) only [go_sem, Nat.reduceAdd, Nat.reduceMul, Nat.reduceSub, Nat.reduceEqDiff, ↓reduceIte, Nat.reduceLT, reduceCtorEq, Nat.reduceLeDiff, Int.reduceToNat, Int.reduceEq, Int.reduceLE, Int.reduceLT, Nat.reduceBEq, hl16, ht16, hl23, ht23]; simp only [List.length_append, List.length_cons, List.length_nil, List.length_map, List.length_set, List.length_replicate, Nat.zero_add, Nat.reduceAdd]; rfl)) (FitAll.refl _) (.inr ⟨rfl, by simp [freeOb, free1]⟩) ?_
                try simp (disch := first | assumption | (simp only [List.length_set]; assumption)) only [go_sem, Nat.reduceAdd, Nat.reduceMul, Nat.reduceSub, Nat.reduceEqDiff, ↓reduceIte, Nat.reduceLT, reduceCtorEq, Nat.reduceLeDiff, Int.reduceToNat, Int.reduceEq, Int.reduceLE, Int.reduceLT, Nat.reduceBEq, hl16, ht16, hl23, ht23]
                refine Bs_if h (fun h hc25 => ?_) (fun h hc25 => ?_)
                · try simp (disch := first | assumption | (simp only [List.length_set]; assumption)) only [go_sem, Nat.reduceAdd, Nat.reduceMul, Nat.reduceSub, Nat.reduceEqDiff, ↓reduceIte, Nat.reduceLT, reduceCtorEq, Nat.reduceLeDiff, Int.reduceToNat, Int.reduceEq, Int.reduceLE, Int.reduceLT, Nat.reduceBEq, hl16, ht16, hl23, ht23]
                  have he := Option.some.inj h
                  subst he
                  refine ends_weak ⟨[(6, (.lf false (.sc (.bool false))))], [], 0, 109⟩ (weak_of (m := 0) [] rfl rfl rfl (by rfl) ?_ ?_) ?_
                  all_goals ((try simp (disch := first | assumption | (simp only [List.length_set]; assumption)) only [go_sem, Nat.reduceAdd, Nat.reduceMul, Nat.reduceSub, Nat.reduceEqDiff, ↓reduceIte, Nat.reduceLT, reduceCtorEq, Nat.reduceLeDiff, Int.reduceToNat, Int.reduceEq, Int.reduceLE, Int.reduceLT, Nat.reduceBEq, hl16, ht16, hl23, ht23]); (repeat' first | done | rfl | omega | refine And.intro ?_ ?_ | (simp; done) | (simp; omega)))
                · try simp (disch := first | assumption | (simp only [List.length_set]; assumption)) only [go_sem, Nat.reduceAdd, Nat.reduceMul, Nat.reduceSub, Nat.reduceEqDiff, ↓reduceIte, Nat.reduceLT, reduceCtorEq, Nat.reduceLeDiff, Int.reduceToNat, Int.reduceEq, Int.reduceLE, Int.reduceLT, Nat.reduceBEq, hl16, ht16, hl23, ht23]
                  refine Bs_if h (fun h hc26 => ?_) (fun h hc26 => ?_)
                  · try simp (disch := first | assumption | (simp only [List.length_set]; assumption)) only [go_sem, Nat.reduceAdd, Nat.reduceMul, Nat.reduceSub, Nat.reduceEqDiff, ↓reduceIte, Nat.reduceLT, reduceCtorEq, Nat.reduceLeDiff, Int.reduceToNat, Int.reduceEq, Int.reduceLE, Int.reduceLT, Nat.reduceBEq, hl16, ht16, hl23, ht23]
                    have he := Option.some.inj h
                    subst he
                    refine ends_weak ⟨[(6, (.lf false (.sc (.bool false))))], [], 0, 109⟩ (weak_of (m := 0) [] rfl rfl rfl (by rfl) ?_ ?_) ?_
                    all_goals ((try simp (disch := first | assumption | (simp only [List.length_set]; assumption)) only [go_sem, Nat.reduceAdd, Nat.reduceMul, Nat.reduceSub, Nat.reduceEqDiff, ↓reduceIte, Nat.reduceLT, reduceCtorEq, Nat.reduceLeDiff, Int.reduceToNat, Int.reduceEq, Int.reduceLE, Int.reduceLT, Nat.reduceBEq, hl16, ht16, hl23, ht23]); (repeat' first | done | rfl | omega | refine And.intro ?_ ?_ | (simp; done) | (simp; omega)))
                  · try simp (disch := first | assumption | (simp only [List.length_set]; assumption)) only [go_sem, Nat.reduceAdd, Nat.reduceMul, Nat.reduceSub, Nat.reduceEqDiff, ↓reduceIte, Nat.reduceLT, reduceCtorEq, Nat.reduceLeDiff, Int.reduceToNat, Int.reduceEq, Int.reduceLE, Int.reduceLT, Nat.reduceBEq, hl16, ht16, hl23, ht23]
                    obtain ⟨c108, hr27, h⟩ := bind_ok h
                    refine Cl_shown (w_laws_toDomainS hr27) (by first | rfl | (simp (disch := first | assumption | (simp only [List.length_set]; assumption)) only [go_sem, Nat.reduceAdd, Nat.reduceMul, Nat.reduceSub, Nat.reduceEqDiff, ↓reduceIte, Nat.reduceLT, reduceCtorEq, Nat.reduceLeDiff, Int.reduceToNat, Int.reduceEq, Int.reduceLE, Int.reduceLT, Nat.reduceBEq, hl16, ht16, hl23, ht23]; first | done | rfl) | (simp only [List.length_append, List.length_cons, List.length_nil, List.length_map, List.length_set, List.length_replicate, Nat.zero_add, Nat.reduceAdd]; rfl) | (simp (disch := first | assumption | (simp only [List.length_set]; assumption)) only [go_sem, Nat.reduceAdd, Nat.reduceMul, Nat.reduceSub, Nat.reduceEqDiff, ↓reduceIte, Nat.reduceLT, reduceCtorEq, Nat.reduceLeDiff, Int.reduceToNat, Int.reduceEq, Int.reduceLE, Int.reduceLT, Nat.reduceBEq, hl16, ht16, hl23, ht23]; simp only [List.length_append, List.length_cons, List.length_nil, List.length_map, List.length_set, List.length_replicate, Nat.zero_add, Nat.reduceAdd]; rfl)) (FitAll.refl _) (.inl (by first | rfl | (simp (disch := first | assumption | (simp only [List.length_set]; assumption)) only [go_sem, Nat.reduceAdd, Nat.reduceMul, Nat.reduceSub, Nat.reduceEqDiff, ↓reduceIte, Nat.reduceLT, reduceCtorEq, Nat.reduceLeDiff, Int.reduceToNat, Int.reduceEq, Int.reduceLE, Int.reduceLT, Nat.reduceBEq, hl16, ht16, hl23, ht23]; done))) ?_
                    try simp (disch := first | assumption | (simp only [List.length_set]; assumption)) only [go_sem, Nat.reduceAdd, Nat.reduceMul, Nat.reduceSub, Nat.reduceEqDiff, ↓reduceIte, Nat.reduceLT, reduceCtorEq, Nat.reduceLeDiff, Int.reduceToNat, Int.reduceEq, Int.reduceLE, Int.reduceLT, Nat.reduceBEq, hl16, ht16, hl23, ht23]
                    obtain ⟨c109, hr28, h⟩ := bind_ok h
                    refine Cl_shown (w_impl_FailOver hr28) (by first | rfl | (simp (disch := first | assumption | (simp only [List.length_set]; assumption)) only [go_sem, Nat.reduceAdd, Nat.reduceMul, Nat.reduceSub, Nat.reduceEqDiff, ↓reduceIte, Nat.reduceLT, reduceCtorEq, Nat.reduceLeDiff, Int.reduceToNat, Int.reduceEq, Int.reduceLE, Int.reduceLT, Nat.reduceBEq, hl16, ht16, hl23, ht23]; first | done | rfl) | (simp only [List.length_append, List.length_cons, List.length_nil, List.length_map, List.length_set, List.length_replicate, Nat.zero_add, Nat.reduceAdd]; rfl) | (simp (disch := first | assumption | (simp only [List.length_set]; assumption)) only [go_sem, Nat.reduceAdd, Nat.reduceMul, Nat.reduceSub, Nat.reduceEqDiff, ↓reduceIte, Nat.reduceLT, reduceCtorEq, Nat.reduceLeDiff, Int.reduceToNat, Int.reduceEq, Int.reduceLE, Int.reduceLT, Nat.reduceBEq, hl16, ht16, hl23, ht23]; simp only [List.length_append, List.length_cons, List.length_nil, List.length_map, List.length_set, List.length_replicate, Nat.zero_add, Nat.reduceAdd]; rfl)) (FitAll.refl _) (.inr ⟨rfl, by simp [freeOb, free1]⟩) ?_
                    try simp (disch := first | assumption | (simp only [List.length_set]; assumption)) only [go_sem, Nat.reduceAdd, Nat.reduceMul, Nat.reduceSub, Nat.reduceEqDiff, ↓reduceIte, Nat.reduceLT, reduceCtorEq, Nat.reduceLeDiff, Int.reduceToNat, Int.reduceEq, Int.reduceLE, Int.reduceLT, Nat.reduceBEq, hl16, ht16, hl23, ht23]
                    obtain ⟨p111, hq29, h⟩ := bind_ok h
                    refine Sq_cut (fun s2 => s2 = ⟨[(11, (.os 0 3 0 c74.1.length c74.1.length false)), (14, (.lf false (.sc (.int .i64 c98.1)))), (100, (.lf false (.sc (.bool p111.t100))))], [(0, some (true, .arr false 3 (c98.2.map eDomain)))], 1, 109⟩) ?_ ?_
                    · try simp (disch := first | assumption | (simp only [List.length_set]; assumption)) only [go_sem, Nat.reduceAdd, Nat.reduceMul, Nat.reduceSub, Nat.reduceEqDiff, ↓reduceIte, Nat.reduceLT, reduceCtorEq, Nat.reduceLeDiff, Int.reduceToNat, Int.reduceEq, Int.reduceLE, Int.reduceLT, Nat.reduceBEq, hl16, ht16, hl23, ht23]
                      obtain ⟨c110, hr30, hq29⟩ := bind_ok hq29
                      refine Cl_shown (w_laws_eqDomainS hr30) (by first | rfl | (simp (disch := first | assumption | (simp only [List.length_set]; assumption)) only [go_sem, Nat.reduceAdd, Nat.reduceMul, Nat.reduceSub, Nat.reduceEqDiff, ↓reduceIte, Nat.reduceLT, reduceCtorEq, Nat.reduceLeDiff, Int.reduceToNat, Int.reduceEq, Int.reduceLE, Int.reduceLT, Nat.reduceBEq, hl16, ht16, hl23, ht23]; first | done | rfl) | (simp only [List.length_append, List.length_cons, List.length_nil, List.length_map, List.length_set, List.length_replicate, Nat.zero_add, Nat.reduceAdd]; rfl) | (simp (disch := first | assumption | (simp only [List.length_set]; assumption)) only [go_sem, Nat.reduceAdd, Nat.reduceMul, Nat.reduceSub, Nat.reduceEqDiff, ↓reduceIte, Nat.reduceLT, reduceCtorEq, Nat.reduceLeDiff, Int.reduceToNat, Int.reduceEq, Int.reduceLE, Int.reduceLT, Nat.reduceBEq, hl16, ht16, hl23, ht23]; simp only [List.length_append, List.length_cons, List.length_nil, List.length_map, List.length_set, List.length_replicate, Nat.zero_add, Nat.reduceAdd]; rfl)) (FitAll.refl _) (.inr ⟨rfl, by simp [freeOb, free1]⟩) ?_
                      try simp (disch := first | assumption | (simp only [List.length_set]; assumption)) only [go_sem, Nat.reduceAdd, Nat.reduceMul, Nat.reduceSub, Nat.reduceEqDiff, ↓reduceIte, Nat.reduceLT, reduceCtorEq, Nat.reduceLeDiff, Int.reduceToNat, Int.reduceEq, Int.reduceLE, Int.reduceLT, Nat.reduceBEq, hl16, ht16, hl23, ht23]
                      refine Sp_if hq29 (fun hq29 hc31 => ?_) (fun hq29 hc31 => ?_)
                      · try simp (disch := first | assumption | (simp only [List.length_set]; assumption)) only [go_sem, Nat.reduceAdd, Nat.reduceMul, Nat.reduceSub, Nat.reduceEqDiff, ↓reduceIte, Nat.reduceLT, reduceCtorEq, Nat.reduceLeDiff, Int.reduceToNat, Int.reduceEq, Int.reduceLE, Int.reduceLT, Nat.reduceBEq, hl16, ht16, hl23, ht23]
                        cases hq29
                        refine X_cut rfl ?_
                        refine weak_of (m := 0) [some 1] rfl rfl rfl (by rfl) ?_ ?_
                        all_goals ((try simp (disch := first | assumption | (simp only [List.length_set]; assumption)) only [go_sem, Nat.reduceAdd, Nat.reduceMul, Nat.reduceSub, Nat.reduceEqDiff, ↓reduceIte, Nat.reduceLT, reduceCtorEq, Nat.reduceLeDiff, Int.reduceToNat, Int.reduceEq, Int.reduceLE, Int.reduceLT, Nat.reduceBEq, hl16, ht16, hl23, ht23]); (repeat' first | done | rfl | omega | refine And.intro ?_ ?_ | (simp; done) | (simp; omega)))
                      · try simp (disch := first | assumption | (simp only [List.length_set]; assumption)) only [go_sem, Nat.reduceAdd, Nat.reduceMul, Nat.reduceSub, Nat.reduceEqDiff, ↓reduceIte, Nat.reduceLT, reduceCtorEq, Nat.reduceLeDiff, Int.reduceToNat, Int.reduceEq, Int.reduceLE, Int.reduceLT, Nat.reduceBEq, hl16, ht16, hl23, ht23]
                        cases hq29
                        refine X_cut rfl ?_
                        refine weak_of (m := 0) [some 1] rfl rfl rfl (by rfl) ?_ ?_
                        all_goals ((try simp (disch := first | assumption | (simp only [List.length_set]; assumption)) only [go_sem, Nat.reduceAdd, Nat.reduceMul, Nat.reduceSub, Nat.reduceEqDiff, ↓reduceIte, Nat.reduceLT, reduceCtorEq, Nat.reduceLeDiff, Int.reduceToNat, Int.reduceEq, Int.reduceLE, Int.reduceLT, Nat.reduceBEq, hl16, ht16, hl23, ht23]); (repeat' first | done | rfl | omega | refine And.intro ?_ ?_ | (simp; done) | (simp; omega)))
                    · intro s2 hJ; subst hJ
                      try dsimp only at h
                      try simp (disch := first | assumption | (simp only [List.length_set]; assumption)) only [go_sem, Nat.reduceAdd, Nat.reduceMul, Nat.reduceSub, Nat.reduceEqDiff, ↓reduceIte, Nat.reduceLT, reduceCtorEq, Nat.reduceLeDiff, Int.reduceToNat, Int.reduceEq, Int.reduceLE, Int.reduceLT, Nat.reduceBEq, hl16, ht16, hl23, ht23]
                      refine Bs_if h (fun h hc32 => ?_) (fun h hc32 => ?_)
                      · try simp (disch := first | assumption | (simp only [List.length_set]; assumption)) only [go_sem, Nat.reduceAdd, Nat.reduceMul, Nat.reduceSub, Nat.reduceEqDiff, ↓reduceIte, Nat.reduceLT, reduceCtorEq, Nat.reduceLeDiff, Int.reduceToNat, Int.reduceEq, Int.reduceLE, Int.reduceLT, Nat.reduceBEq, hl16, ht16, hl23, ht23]
                        have he := Option.some.inj h
                        subst he
                        refine ends_weak ⟨[(6, (.lf false (.sc (.bool false))))], [], 0, 109⟩ (weak_of (m := 0) [] rfl rfl rfl (by rfl) ?_ ?_) ?_
                        all_goals ((try simp (disch := first | assumption | (simp only [List.length_set]; assumption)) only [go_sem, Nat.reduceAdd, Nat.reduceMul, Nat.reduceSub, Nat.reduceEqDiff, ↓reduceIte, Nat.reduceLT, reduceCtorEq, Nat.reduceLeDiff, Int.reduceToNat, Int.reduceEq, Int.reduceLE, Int.reduceLT, Nat.reduceBEq, hl16, ht16, hl23, ht23]); (repeat' first | done | rfl | omega | refine And.intro ?_ ?_ | (simp; done) | (simp; omega)))
                      · try simp (disch := first | assumption | (simp only [List.length_set]; assumption)) only [go_sem, Nat.reduceAdd, Nat.reduceMul, Nat.reduceSub, Nat.reduceEqDiff, ↓reduceIte, Nat.reduceLT, reduceCtorEq, Nat.reduceLeDiff, Int.reduceToNat, Int.reduceEq, Int.reduceLE, Int.reduceLT, Nat.reduceBEq, hl16, ht16, hl23, ht23]
                        obtain ⟨c112, hr33, h⟩ := bind_ok h
                        refine Cl_shown (w_laws_heldDomainS hr33) (by first | rfl | (simp (disch := first | assumption | (simp only [List.length_set]; assumption)) only [go_sem, Nat.reduceAdd, Nat.reduceMul, Nat.reduceSub, Nat.reduceEqDiff, ↓reduceIte, Nat.reduceLT, reduceCtorEq, Nat.reduceLeDiff, Int.reduceToNat, Int.reduceEq, Int.reduceLE, Int.reduceLT, Nat.reduceBEq, hl16, ht16, hl23, ht23]; first | done | rfl) | (simp only [List.length_append, List.length_cons, List.length_nil, List.length_map, List.length_set, List.length_replicate, Nat.zero_add, Nat.reduceAdd]; rfl) | (simp (disch := first | assumption | (simp only [List.length_set]; assumption)) only [go_sem, Nat.reduceAdd, Nat.reduceMul, Nat.reduceSub, Nat.reduceEqDiff, ↓reduceIte, Nat.reduceLT, reduceCtorEq, Nat.reduceLeDiff, Int.reduceToNat, Int.reduceEq, Int.reduceLE, Int.reduceLT, Nat.reduceBEq, hl16, ht16, hl23, ht23]; simp only [List.length_append, List.length_cons, List.length_nil, List.length_map, List.length_set, List.length_replicate, Nat.zero_add, Nat.reduceAdd]; rfl)) (FitAll.refl _) (.inr ⟨rfl, by simp [freeOb, free1]⟩) ?_
                        try simp (disch := first | assumption | (simp only [List.length_set]; assumption)) only [go_sem, Nat.reduceAdd, Nat.reduceMul, Nat.reduceSub, Nat.reduceEqDiff, ↓reduceIte, Nat.reduceLT, reduceCtorEq, Nat.reduceLeDiff, Int.reduceToNat, Int.reduceEq, Int.reduceLE, Int.reduceLT, Nat.reduceBEq, hl16, ht16, hl23, ht23]
                        refine Bs_if h (fun h hc34 => ?_) (fun h hc34 => ?_)
                        · try simp (disch := first | assumption | (simp only [List.length_set]; assumption)) only [go_sem, Nat.reduceAdd, Nat.reduceMul, Nat.reduceSub, Nat.reduceEqDiff, ↓reduceIte, Nat.reduceLT, reduceCtorEq, Nat.reduceLeDiff, Int.reduceToNat, Int.reduceEq, Int.reduceLE, Int.reduceLT, Nat.reduceBEq, hl16, ht16, hl23, ht23]
                          have he := Option.some.inj h
                          subst he
                          refine ends_weak ⟨[(6, (.lf false (.sc (.bool false))))], [], 0, 109⟩ (weak_of (m := 0) [] rfl rfl rfl (by rfl) ?_ ?_) ?_
                          all_goals ((try simp (disch := first | assumption | (simp only [List.length_set]; assumption)) only [go_sem, Nat.reduceAdd, Nat.reduceMul, Nat.reduceSub, Nat.reduceEqDiff, ↓reduceIte, Nat.reduceLT, reduceCtorEq, Nat.reduceLeDiff, Int.reduceToNat, Int.reduceEq, Int.reduceLE, Int.reduceLT, Nat.reduceBEq, hl16, ht16, hl23, ht23]); (repeat' first | done | rfl | omega | refine And.intro ?_ ?_ | (simp; done) | (simp; omega)))
                        · try simp (disch := first | assumption | (simp only [List.length_set]; assumption)) only [go_sem, Nat.reduceAdd, Nat.reduceMul, Nat.reduceSub, Nat.reduceEqDiff, ↓reduceIte, Nat.reduceLT, reduceCtorEq, Nat.reduceLeDiff, Int.reduceToNat, Int.reduceEq, Int.reduceLE, Int.reduceLT, Nat.reduceBEq, hl16, ht16, hl23, ht23]
                          refine Bs_if h (fun h hc35 => ?_) (fun h hc35 => ?_)
                          · try simp (disch := first | assumption | (simp only [List.length_set]; assumption)) only [go_sem, Nat.reduceAdd, Nat.reduceMul, Nat.reduceSub, Nat.reduceEqDiff, ↓reduceIte, Nat.reduceLT, reduceCtorEq, Nat.reduceLeDiff, Int.reduceToNat, Int.reduceEq, Int.reduceLE, Int.reduceLT, Nat.reduceBEq, hl16, ht16, hl23, ht23]
                            have he := Option.some.inj h
                            subst he
                            refine ends_weak ⟨[(6, (.lf false (.sc (.bool false))))], [], 0, 109⟩ (weak_of (m := 0) [] rfl rfl rfl (by rfl) ?_ ?_) ?_
                            all_goals ((try simp (disch := first | assumption | (simp only [List.length_set]; assumption)) only [go_sem, Nat.reduceAdd, Nat.reduceMul, Nat.reduceSub, Nat.reduceEqDiff, ↓reduceIte, Nat.reduceLT, reduceCtorEq, Nat.reduceLeDiff, Int.reduceToNat, Int.reduceEq, Int.reduceLE, Int.reduceLT, Nat.reduceBEq, hl16, ht16, hl23, ht23]); (repeat' first | done | rfl | omega | refine And.intro ?_ ?_ | (simp; done) | (simp; omega)))
                          · try simp (disch := first | assumption | (simp only [List.length_set]; assumption)) only [go_sem, Nat.reduceAdd, Nat.reduceMul, Nat.reduceSub, Nat.reduceEqDiff, ↓reduceIte, Nat.reduceLT, reduceCtorEq, Nat.reduceLeDiff, Int.reduceToNat, Int.reduceEq, Int.reduceLE, Int.reduceLT, Nat.reduceBEq, hl16, ht16, hl23, ht23]
                            have he := Option.some.inj h
                            subst he
                            refine ends_weak ⟨[(6, (.lf false (.sc (.bool true))))], [], 0, 109⟩ (weak_of (m := 0) [] rfl rfl rfl (by rfl) ?_ ?_) ?_
                            all_goals ((try simp (disch := first | assumption | (simp only [List.length_set]; assumption)) only [go_sem, Nat.reduceAdd, Nat.reduceMul, Nat.reduceSub, Nat.reduceEqDiff, ↓reduceIte, Nat.reduceLT, reduceCtorEq, Nat.reduceLeDiff, Int.reduceToNat, Int.reduceEq, Int.reduceLE, Int.reduceLT, Nat.reduceBEq, hl16, ht16, hl23, ht23]); (repeat' first | done | rfl | omega | refine And.intro ?_ ?_ | (simp; done) | (simp; omega)))
end Go.TL.YtoabnifimfcbcaaDoor

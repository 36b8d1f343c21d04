import Derived.Test.YtoabnifimfcbcaaDoorTlTabr2D
import Derived.Test.YtoabnifimfcbcaaDoorEnR2D
import Derived.Test.YtoabnifimfcbcaaDoorTlAuto
import Derived.Test.YtoabnifimfcbcaaDoorTlTrimr2D
import Derived.Test.YtoabnifimfcbcaaDoorTlBelow
set_option linter.unusedSimpArgs false
set_option linter.unusedVariables false
set_option linter.unusedVariables false
set_option linter.unusedSimpArgs false
set_option maxRecDepth 8000
set_option maxHeartbeats 0
namespace Go.TL.YtoabnifimfcbcaaDoor
open Go Go.Proofs Go.TL
theorem w_laws_szDomain {a0 : DomainT} {a1 : Int} {r : Int} (h : laws_szDomain a0 a1 = some r) : Fn Tryd.prog 33 [(.ag [(.lf false (.sc (.string a0.Name))), (.lf false (.sc (.int .i64 a0.Version))), (.lf false (.sc (.string a0.Note)))]), (.lf false (.sc (.int .i64 a1)))] [] 0 (.lf false (.sc (.int .i64 r))) [] 0 := by
  unfold laws_szDomain at h
  refine fn_code tab_ok mixed [(1000, [(1, 0), (2, 0)]), (1001, [(1, 0), (2, 0)]), (1002, [(1, 0), (2, 0), (11, 0)]), (1003, [(4, 0)]), (1004, [(1, 0)]), (1005, [(1, 0), (18, 0)]), (1006, [(4, 0)]), (1007, [(4, 0)])] Tryd.func33 rfl rfl (by simp [Tryd.f33]) (by kernel_rfl) ?_
  simp only [Tryd.f33]
  refine sA ?_
  refine Bs_if h (fun h hc1 => ?_) (fun h hc1 => ?_)
  · try refine sA ?_
    have he := Option.some.inj h
    subst he
    exact endsA ⟨[(4, (.lf false (.sc (.int .i64 (-1)))))], [], 0, 20⟩ []
  · try refine sA ?_
    refine Bs_if h (fun h hc2 => ?_) (fun h hc2 => ?_)
    · try refine sA ?_
      have he := Option.some.inj h
      subst he
      exact endsA ⟨[(4, (.lf false (.sc (.int .i64 (-1)))))], [], 0, 20⟩ []
    · try refine sA ?_
      have he := Option.some.inj h
      subst he
      exact endsA ⟨[(4, (.lf false (.sc (.int .i64 (wI ((wI (a1 - (a0.Name.size : Int))) - (a0.Note.size : Int)))))))], [], 0, 20⟩ []
theorem w_laws_szDomainS {a0 : (List DomainT)} {a1 : Int} {r : Int} (h : laws_szDomainS a0 a1 = some r) : Fn Tryd.prog 9 [(.lf true (.sl (a0.map eDomain))), (.lf false (.sc (.int .i64 a1)))] [] 0 (.lf false (.sc (.int .i64 r))) [] 0 := by
  unfold laws_szDomainS at h
  refine fn_code tab_ok mixed [(1000, [(0, 0), (1, 0)]), (1001, [(0, 0), (1, 0)]), (1002, [(0, 0), (1, 0), (11, 0)]), (1003, [(4, 0)]), (1004, [(0, 0), (1, 0), (5, 0)]), (1005, [(0, 0), (1, 0), (5, 0), (15, 0)]), (1006, [(0, 0), (1, 0), (5, 0)]), (1007, [(0, 0), (1, 0), (5, 0)]), (1008, [(0, 0), (1, 0), (5, 0), (25, 0)]), (1009, [(4, 0)]), (1010, [(4, 0)])] Tryd.func9 rfl rfl (by simp [Tryd.f9]) (by kernel_rfl) ?_
  simp only [Tryd.f9]
  refine sA ?_
  refine Bs_if h (fun h hc1 => ?_) (fun h hc1 => ?_)
  · try refine sA ?_
    have he := Option.some.inj h
    subst he
    exact endsA ⟨[(4, (.lf false (.sc (.int .i64 (-1)))))], [], 0, 27⟩ []
  · try refine sA ?_
    obtain ⟨y4, hl2, h⟩ := bind_ok h
    refine W_loopP (fun g1 : laws_szDomainS_G1 => ⟨[(0, (.lf true (.sl (a0.map eDomain)))), (1, (.lf false (.sc (.int .i64 g1.t1)))), (5, (.lf false (.sc (.int .i64 g1.t5))))], [], 0, 27⟩) (laws_szDomainS_L1 a0) _ _ hl2 (weakA []) ?_
    · intro n1 g1 z1 hs1 hk1
      unfold laws_szDomainS_L1 at hs1
      try dsimp only at hs1
      refine sA ?_
      refine Bs_if hs1 (fun hs1 hc3 => ?_) (fun hs1 hc3 => ?_)
      · try refine sA ?_
        obtain ⟨hp4, hs1⟩ := guard_some hs1
        have hn4 : g1.t5.toNat < a0.length := by first | omega | (simp only [List.length_set, List.length_append, List.length_replicate, List.length_map]; omega)
        try refine sA ?_
        try refine andA ?_
        obtain ⟨c3, hr5, hs1⟩ := bind_ok hs1
        refine Cl_sA (w_laws_szDomain hr5) ?_
        try refine sA ?_
        refine Bs_if hs1 (fun hs1 hc6 => ?_) (fun hs1 hc6 => ?_)
        · try refine sA ?_
          cases hs1
          cases hk1
          try dsimp only at h
          try refine sA ?_
          have he := Option.some.inj h
          subst he
          exact endsA ⟨[(4, (.lf false (.sc (.int .i64 (-1)))))], [], 0, 27⟩ []
        · try refine sA ?_
          cases hs1
          exact X_backP hk1 (weakA [])
      · try refine sA ?_
        cases hs1
        cases hk1
        try dsimp only at h
        try refine sA ?_
        have he := Option.some.inj h
        subst he
        exact endsA ⟨[(4, (.lf false (.sc (.int .i64 g1.t1))))], [], 0, 27⟩ []
theorem w_laws_toDomain {a0 : DomainT} {r : DomainT} (h : laws_toDomain a0 = some r) : Fn Tryd.prog 36 [(.ag [(.lf false (.sc (.string a0.Name))), (.lf false (.sc (.int .i64 a0.Version))), (.lf false (.sc (.string a0.Note)))])] [] 0 (.ag [(.lf false (.sc (.string r.Name))), (.lf false (.sc (.int .i64 r.Version))), (.lf false (.sc (.string r.Note)))]) [] 1 := by
  unfold laws_toDomain at h
  refine fn_code tab_ok mixed [(1000, [(1, 0), (2, 0)]), (1001, [(1, 0), (2, 0), (3, 0)]), (1002, [(1, 0), (2, 0), (3, 0)]), (1003, [(1, 0), (2, 0), (3, 0)]), (1004, [(2, 0), (3, 0)]), (1005, [(2, 0)])] Tryd.func36 rfl rfl (by simp [Tryd.f36]) (by kernel_rfl) ?_
  simp only [Tryd.f36]
  refine sA ?_
  have he := Option.some.inj h
  subst he
  exact endsA ⟨[(2, (.pb 0 0))], [(0, some (true, .box [(.lf false (.sc (.string a0.Name))), (.lf false (.sc (.int .i64 a0.Version))), (.lf false (.sc (.string a0.Note)))]))], 1, 14⟩ [some 1]
theorem w_laws_toDomainS {a0 : (List DomainT)} {r : (List DomainT)} (h : laws_toDomainS a0 = some r) : Fn Tryd.prog 11 [(.lf true (.sl (a0.map eDomain)))] [] 0 (.os 0 3 0 r.length r.length false) [(0, some (true, .arr false 3 (r.map eDomain)))] 1 := by
  unfold laws_toDomainS at h
  refine fn_code tab_ok mixed [(1000, [(0, 0)]), (1001, [(0, 0), (3, 0)]), (1002, [(0, 0), (3, 0), (4, 0)]), (1003, [(0, 0), (3, 0), (4, 0), (11, 0)]), (1004, [(0, 0), (3, 0), (4, 0)]), (1005, [(0, 0), (3, 0), (4, 0)]), (1006, [(2, 0)])] Tryd.func11 rfl rfl (by simp [Tryd.f11]) (by kernel_rfl) ?_
  simp only [Tryd.f11]
  simp (disch := first | assumption | (simp only [List.length_set]; assumption)) only [go_sem, Nat.reduceAdd, Nat.reduceMul, Nat.reduceSub, Nat.reduceEqDiff, ↓reduceIte, Nat.reduceLT, reduceCtorEq, Nat.reduceLeDiff, Int.reduceToNat, Int.reduceEq, Int.reduceLE, Int.reduceLT, Nat.reduceBEq, fold_eDomain_rep]
  obtain ⟨hp1, h⟩ := guard_some h
  try simp (disch := first | assumption | (simp only [List.length_set]; assumption)) only [go_sem, Nat.reduceAdd, Nat.reduceMul, Nat.reduceSub, Nat.reduceEqDiff, ↓reduceIte, Nat.reduceLT, reduceCtorEq, Nat.reduceLeDiff, Int.reduceToNat, Int.reduceEq, Int.reduceLE, Int.reduceLT, Nat.reduceBEq, fold_eDomain_rep]
  try refine andA ?_
  obtain ⟨y11, hl2, h⟩ := bind_ok h
  refine W_loopP (fun g8 : laws_toDomainS_G1 => ⟨[(0, (.lf true (.sl (a0.map eDomain)))), (3, (.os 0 3 0 g8.c0.length g8.c0.length false)), (4, (.lf false (.sc (.int .i64 g8.t4))))], [(0, some (true, .arr false 3 (g8.c0.map eDomain)))], 1, 23⟩) (laws_toDomainS_L1 a0) _ _ hl2 (weak_of (m := 0) [some 0] rfl rfl rfl (by rfl) (by ((try simp (disch := first | assumption | (simp only [List.length_set]; assumption)) only [go_sem, Nat.reduceAdd, Nat.reduceMul, Nat.reduceSub, Nat.reduceEqDiff, ↓reduceIte, Nat.reduceLT, reduceCtorEq, Nat.reduceLeDiff, Int.reduceToNat, Int.reduceEq, Int.reduceLE, Int.reduceLT, Nat.reduceBEq, fold_eDomain_rep]); (repeat' first | done | rfl | omega | refine And.intro ?_ ?_ | (simp; done) | (simp; omega)))) (by ((try simp (disch := first | assumption | (simp only [List.length_set]; assumption)) only [go_sem, Nat.reduceAdd, Nat.reduceMul, Nat.reduceSub, Nat.reduceEqDiff, ↓reduceIte, Nat.reduceLT, reduceCtorEq, Nat.reduceLeDiff, Int.reduceToNat, Int.reduceEq, Int.reduceLE, Int.reduceLT, Nat.reduceBEq, fold_eDomain_rep]); (repeat' first | done | rfl | omega | refine And.intro ?_ ?_ | (simp; done) | (simp; omega))))) ?_
  · intro n1 g8 z1 hs1 hk1
    unfold laws_toDomainS_L1 at hs1
    try dsimp only at hs1
    simp (disch := first | assumption | (simp only [List.length_set]; assumption)) only [go_sem, Nat.reduceAdd, Nat.reduceMul, Nat.reduceSub, Nat.reduceEqDiff, ↓reduceIte, Nat.reduceLT, reduceCtorEq, Nat.reduceLeDiff, Int.reduceToNat, Int.reduceEq, Int.reduceLE, Int.reduceLT, Nat.reduceBEq, fold_eDomain_rep]
    refine Bs_if hs1 (fun hs1 hc3 => ?_) (fun hs1 hc3 => ?_)
    · try simp (disch := first | assumption | (simp only [List.length_set]; assumption)) only [go_sem, Nat.reduceAdd, Nat.reduceMul, Nat.reduceSub, Nat.reduceEqDiff, ↓reduceIte, Nat.reduceLT, reduceCtorEq, Nat.reduceLeDiff, Int.reduceToNat, Int.reduceEq, Int.reduceLE, Int.reduceLT, Nat.reduceBEq, fold_eDomain_rep]
      obtain ⟨hp4, hs1⟩ := guard_some hs1
      have hn4 : g8.t4.toNat < a0.length := by first | omega | (simp only [List.length_set, List.length_append, List.length_replicate, List.length_map]; omega)
      try simp (disch := first | assumption | (simp only [List.length_set]; assumption)) only [go_sem, Nat.reduceAdd, Nat.reduceMul, Nat.reduceSub, Nat.reduceEqDiff, ↓reduceIte, Nat.reduceLT, reduceCtorEq, Nat.reduceLeDiff, Int.reduceToNat, Int.reduceEq, Int.reduceLE, Int.reduceLT, Nat.reduceBEq, fold_eDomain_rep]
      try refine andA ?_
      obtain ⟨c10, hr5, hs1⟩ := bind_ok hs1
      refine Cl_shown (w_laws_toDomain hr5) (by first | rfl | (simp (disch := first | assumption | (simp only [List.length_set]; assumption)) only [go_sem, Nat.reduceAdd, Nat.reduceMul, Nat.reduceSub, Nat.reduceEqDiff, ↓reduceIte, Nat.reduceLT, reduceCtorEq, Nat.reduceLeDiff, Int.reduceToNat, Int.reduceEq, Int.reduceLE, Int.reduceLT, Nat.reduceBEq, fold_eDomain_rep]; first | done | rfl) | (simp only [List.length_append, List.length_cons, List.length_nil, List.length_map, List.length_set, List.length_replicate, Nat.zero_add, Nat.reduceAdd]; rfl) | (simp (disch := first | assumption | (simp only [List.length_set]; assumption)) only [go_sem, Nat.reduceAdd, Nat.reduceMul, Nat.reduceSub, Nat.reduceEqDiff, ↓reduceIte, Nat.reduceLT, reduceCtorEq, Nat.reduceLeDiff, Int.reduceToNat, Int.reduceEq, Int.reduceLE, Int.reduceLT, Nat.reduceBEq, fold_eDomain_rep]; simp only [List.length_append, List.length_cons, List.length_nil, List.length_map, List.length_set, List.length_replicate, Nat.zero_add, Nat.reduceAdd]; rfl)) (FitAll.refl _) (.inl (by first | rfl | (simp (disch := first | assumption | (simp only [List.length_set]; assumption)) only [go_sem, Nat.reduceAdd, Nat.reduceMul, Nat.reduceSub, Nat.reduceEqDiff, ↓reduceIte, Nat.reduceLT, reduceCtorEq, Nat.reduceLeDiff, Int.reduceToNat, Int.reduceEq, Int.reduceLE, Int.reduceLT, Nat.reduceBEq, fold_eDomain_rep]; done))) ?_
      try simp (disch := first | assumption | (simp only [List.length_set]; assumption)) only [go_sem, Nat.reduceAdd, Nat.reduceMul, Nat.reduceSub, Nat.reduceEqDiff, ↓reduceIte, Nat.reduceLT, reduceCtorEq, Nat.reduceLeDiff, Int.reduceToNat, Int.reduceEq, Int.reduceLE, Int.reduceLT, Nat.reduceBEq, fold_eDomain_rep]
      obtain ⟨hp6, hs1⟩ := guard_some hs1
      have hn6 : g8.t4.toNat < g8.c0.length := by first | omega | (simp only [List.length_set, List.length_append, List.length_replicate, List.length_map]; omega)
      try simp (disch := first | assumption | (simp only [List.length_set]; assumption)) only [go_sem, Nat.reduceAdd, Nat.reduceMul, Nat.reduceSub, Nat.reduceEqDiff, ↓reduceIte, Nat.reduceLT, reduceCtorEq, Nat.reduceLeDiff, Int.reduceToNat, Int.reduceEq, Int.reduceLE, Int.reduceLT, Nat.reduceBEq, fold_eDomain_rep]
      try refine andA ?_
      try refine andB ?_
      try simp (disch := first | assumption | (simp only [List.length_set]; assumption)) only [go_sem, Nat.reduceAdd, Nat.reduceMul, Nat.reduceSub, Nat.reduceEqDiff, ↓reduceIte, Nat.reduceLT, reduceCtorEq, Nat.reduceLeDiff, Int.reduceToNat, Int.reduceEq, Int.reduceLE, Int.reduceLT, Nat.reduceBEq, fold_eDomain_rep]
      cases hs1
      refine X_backP hk1 ?_
      refine weak_of (m := 0) [some 0] rfl rfl rfl (by rfl) ?_ ?_
      all_goals ((try simp (disch := first | assumption | (simp only [List.length_set]; assumption)) only [go_sem, Nat.reduceAdd, Nat.reduceMul, Nat.reduceSub, Nat.reduceEqDiff, ↓reduceIte, Nat.reduceLT, reduceCtorEq, Nat.reduceLeDiff, Int.reduceToNat, Int.reduceEq, Int.reduceLE, Int.reduceLT, Nat.reduceBEq, fold_eDomain_rep]); (repeat' first | done | rfl | omega | refine And.intro ?_ ?_ | (simp; done) | (simp; omega)))
    · try simp (disch := first | assumption | (simp only [List.length_set]; assumption)) only [go_sem, Nat.reduceAdd, Nat.reduceMul, Nat.reduceSub, Nat.reduceEqDiff, ↓reduceIte, Nat.reduceLT, reduceCtorEq, Nat.reduceLeDiff, Int.reduceToNat, Int.reduceEq, Int.reduceLE, Int.reduceLT, Nat.reduceBEq, fold_eDomain_rep]
      cases hs1
      cases hk1
      try dsimp only at h
      try simp (disch := first | assumption | (simp only [List.length_set]; assumption)) only [go_sem, Nat.reduceAdd, Nat.reduceMul, Nat.reduceSub, Nat.reduceEqDiff, ↓reduceIte, Nat.reduceLT, reduceCtorEq, Nat.reduceLeDiff, Int.reduceToNat, Int.reduceEq, Int.reduceLE, Int.reduceLT, Nat.reduceBEq, fold_eDomain_rep]
      have he := Option.some.inj h
      subst he
      refine ends_weak ⟨[(2, (.os 0 3 0 g8.c0.length g8.c0.length false))], [(0, some (true, .arr false 3 (g8.c0.map eDomain)))], 1, 23⟩ (weak_of (m := 0) [some 0] rfl rfl rfl (by rfl) ?_ ?_) ?_
      all_goals ((try simp (disch := first | assumption | (simp only [List.length_set]; assumption)) only [go_sem, Nat.reduceAdd, Nat.reduceMul, Nat.reduceSub, Nat.reduceEqDiff, ↓reduceIte, Nat.reduceLT, reduceCtorEq, Nat.reduceLeDiff, Int.reduceToNat, Int.reduceEq, Int.reduceLE, Int.reduceLT, Nat.reduceBEq, fold_eDomain_rep]); (repeat' first | done | rfl | omega | refine And.intro ?_ ?_ | (simp; done) | (simp; omega)))
theorem w_spec_l1Name {a0 : ByteArray} {r : Bool} (h : spec_l1Name a0 = some r) : Fn Tryd.prog 34 [(.lf false (.sc (.string a0)))] [] 0 (.lf false (.sc (.bool r))) [] 0 := by
  unfold spec_l1Name at h
  refine fn_code tab_ok mixed [(1000, [(0, 0)]), (1001, [(0, 0), (3, 0)]), (1002, [(0, 0), (3, 0), (7, 0)]), (1003, [(0, 0), (3, 0)]), (1004, [(0, 0), (3, 0), (32, 0)]), (1005, [(2, 0)]), (1006, [(2, 0)]), (4004, [])] Tryd.func34 rfl rfl (by simp [Tryd.f34]) (by kernel_rfl) ?_
  simp only [Tryd.f34]
  refine sA ?_
  obtain ⟨y17, hl1, h⟩ := bind_ok h
  refine W_loopP (fun g14 : spec_l1Name_G1 => ⟨[(0, (.lf false (.sc (.string a0)))), (3, (.lf false (.sc (.int .i64 g14.t3))))], [], 0, 36⟩) (spec_l1Name_L1 a0) _ _ hl1 (weakA []) ?_
  · intro n1 g14 z1 hs1 hk1
    unfold spec_l1Name_L1 at hs1
    try dsimp only at hs1
    refine sA ?_
    refine Bs_if hs1 (fun hs1 hc2 => ?_) (fun hs1 hc2 => ?_)
    · try refine sA ?_
      obtain ⟨p16, hq3, hs1⟩ := bind_ok hs1
      refine Sq_cut (fun s2 => s2 = ⟨[(0, (.lf false (.sc (.string a0)))), (3, (.lf false (.sc (.int .i64 g14.t3)))), (32, (.lf false (.sc (.bool p16.t32))))], [], 0, 36⟩) ?_ ?_
      · try refine sA ?_
        obtain ⟨hp4, hq3⟩ := guard_some hq3
        try refine sA ?_
        try refine andA ?_
        refine Sp_if hq3 (fun hq3 hc5 => ?_) (fun hq3 hc5 => ?_)
        · try refine sA ?_
          obtain ⟨hp6, hq3⟩ := guard_some hq3
          try refine sA ?_
          try refine andA ?_
          refine Sp_if hq3 (fun hq3 hc7 => ?_) (fun hq3 hc7 => ?_)
          · try refine sA ?_
            cases hq3
            exact X_cut rfl (weakA [])
          · try refine sA ?_
            obtain ⟨hp8, hq3⟩ := guard_some hq3
            try refine sA ?_
            try refine andA ?_
            refine Sp_if hq3 (fun hq3 hc9 => ?_) (fun hq3 hc9 => ?_)
            · try refine sA ?_
              obtain ⟨hp10, hq3⟩ := guard_some hq3
              try refine sA ?_
              try refine andA ?_
              cases hq3
              exact X_cut rfl (weakA [])
            · try refine sA ?_
              cases hq3
              exact X_cut rfl (weakA [])
        · try refine sA ?_
          obtain ⟨hp11, hq3⟩ := guard_some hq3
          try refine sA ?_
          try refine andA ?_
          refine Sp_if hq3 (fun hq3 hc12 => ?_) (fun hq3 hc12 => ?_)
          · try refine sA ?_
            obtain ⟨hp13, hq3⟩ := guard_some hq3
            try refine sA ?_
            try refine andA ?_
            cases hq3
            exact X_cut rfl (weakA [])
          · try refine sA ?_
            cases hq3
            exact X_cut rfl (weakA [])
      · intro s2 hJ; subst hJ
        try dsimp only at hs1
        try refine sA ?_
        refine Bs_if hs1 (fun hs1 hc14 => ?_) (fun hs1 hc14 => ?_)
        · try refine sA ?_
          cases hs1
          cases hk1
          try dsimp only at h
          try refine sA ?_
          have he := Option.some.inj h
          subst he
          exact endsA ⟨[(2, (.lf false (.sc (.bool false))))], [], 0, 36⟩ []
        · try refine sA ?_
          cases hs1
          exact X_backP hk1 (weakA [])
    · try refine sA ?_
      cases hs1
      cases hk1
      try dsimp only at h
      try refine sA ?_
      have he := Option.some.inj h
      subst he
      exact endsA ⟨[(2, (.lf false (.sc (.bool (decide ((a0.size : Int) ≤ 12))))))], [], 0, 36⟩ []
theorem w_spec_l1In {a0 : Int} {a1 : Int} {a2 : Int} {r : Bool} (h : spec_l1In a0 a1 a2 = some r) : Fn Tryd.prog 60 [(.lf false (.sc (.int .i64 a0))), (.lf false (.sc (.int .i64 a1))), (.lf false (.sc (.int .i64 a2)))] [] 0 (.lf false (.sc (.bool r))) [] 0 := by
  unfold spec_l1In at h
  refine fn_code tab_ok mixed [] Tryd.func60 rfl rfl (by simp [Tryd.f60]) (by kernel_rfl) ?_
  simp only [Tryd.f60]
  refine sA ?_
  refine Sp_if h (fun h hc1 => ?_) (fun h hc1 => ?_)
  · try refine sA ?_
    have he := Option.some.inj h
    subst he
    exact endsA ⟨[(6, (.lf false (.sc (.bool (decide (a0 ≤ a2))))))], [], 0, 15⟩ []
  · try refine sA ?_
    have he := Option.some.inj h
    subst he
    exact endsA ⟨[(6, (.lf false (.sc (.bool false))))], [], 0, 15⟩ []
theorem w_spec_l13Version {a0 : Int} {r : Bool} (h : spec_l13Version a0 = some r) : Fn Tryd.prog 35 [(.lf false (.sc (.int .i64 a0)))] [] 0 (.lf false (.sc (.bool r))) [] 0 := by
  unfold spec_l13Version at h
  refine fn_code tab_ok mixed [] Tryd.func35 rfl rfl (by simp [Tryd.f35]) (by kernel_rfl) ?_
  simp only [Tryd.f35]
  refine sA ?_
  obtain ⟨c21, hr1, h⟩ := bind_ok h
  refine Cl_sA (w_spec_l1In hr1) ?_
  try refine sA ?_
  have he := Option.some.inj h
  subst he
  exact endsA ⟨[(2, (.lf false (.sc (.bool c21))))], [], 0, 5⟩ []
theorem w_spec_GoodDomains {a0 : (List DomainT)} {r : Bool} (h : spec_GoodDomains a0 = some r) : Fn Tryd.prog 10 [(.lf true (.sl (a0.map eDomain)))] [] 0 (.lf false (.sc (.bool r))) [] 0 := by
  unfold spec_GoodDomains at h
  refine fn_code tab_ok mixed [(1000, [(0, 0)]), (1001, [(0, 0), (5, 0), (6, 0), (7, 0)]), (1002, [(0, 0), (5, 0), (6, 0), (7, 0), (8, 0)]), (1003, [(0, 0), (3, 0), (4, 0), (5, 0), (6, 0), (7, 0)]), (1004, [(0, 0), (5, 0), (6, 0), (7, 0), (47, 0)]), (1005, [(2, 0)]), (1006, [(0, 0), (5, 0), (6, 0), (7, 0)]), (1007, [(2, 0)]), (4004, [])] Tryd.func10 rfl rfl (by simp [Tryd.f10]) (by kernel_rfl) ?_
  simp only [Tryd.f10]
  refine sA ?_
  obtain ⟨y27, hl1, h⟩ := bind_ok h
  refine W_loopP (fun g13 : spec_GoodDomains_G1 => ⟨[(0, (.lf true (.sl (a0.map eDomain)))), (5, (.lf true (.sl (a0.map eDomain)))), (6, (.lf false (.sc (.int .i64 ((a0.length : Nat) : Int))))), (7, (.lf false (.sc (.int .i64 g13.t7))))], [], 0, 52⟩) (spec_GoodDomains_L1 a0) _ _ hl1 (weakA []) ?_
  · intro n1 g13 z1 hs1 hk1
    unfold spec_GoodDomains_L1 at hs1
    try dsimp only at hs1
    refine sA ?_
    refine Bs_if hs1 (fun hs1 hc2 => ?_) (fun hs1 hc2 => ?_)
    · try refine sA ?_
      obtain ⟨hp3, hs1⟩ := guard_some hs1
      have hn3 : g13.t7.toNat < a0.length := by first | omega | (simp only [List.length_set, List.length_append, List.length_replicate, List.length_map]; omega)
      try refine sA ?_
      try refine andA ?_
      obtain ⟨p26, hq4, hs1⟩ := bind_ok hs1
      refine Sq_cut (fun s2 => s2 = ⟨[(0, (.lf true (.sl (a0.map eDomain)))), (5, (.lf true (.sl (a0.map eDomain)))), (6, (.lf false (.sc (.int .i64 ((a0.length : Nat) : Int))))), (7, (.lf false (.sc (.int .i64 g13.t7)))), (47, (.lf false (.sc (.bool p26.t47))))], [], 0, 52⟩) ?_ ?_
      · try refine sA ?_
        obtain ⟨c24, hr5, hq4⟩ := bind_ok hq4
        refine Cl_sA (w_spec_l1Name hr5) ?_
        try refine sA ?_
        refine Sp_if hq4 (fun hq4 hc6 => ?_) (fun hq4 hc6 => ?_)
        · try refine sA ?_
          cases hq4
          exact X_cut rfl (weakA [])
        · try refine sA ?_
          refine Sp_if hq4 (fun hq4 hc7 => ?_) (fun hq4 hc7 => ?_)
          · try refine sA ?_
            cases hq4
            exact X_cut rfl (weakA [])
          · try refine sA ?_
            obtain ⟨c25, hr8, hq4⟩ := bind_ok hq4
            refine Cl_sA (w_spec_l13Version hr8) ?_
            try refine sA ?_
            refine Sp_if hq4 (fun hq4 hc9 => ?_) (fun hq4 hc9 => ?_)
            · try refine sA ?_
              cases hq4
              exact X_cut rfl (weakA [])
            · try refine sA ?_
              refine Sp_if hq4 (fun hq4 hc10 => ?_) (fun hq4 hc10 => ?_)
              · try refine sA ?_
                cases hq4
                exact X_cut rfl (weakA [])
              · try refine sA ?_
                refine Sp_if hq4 (fun hq4 hc11 => ?_) (fun hq4 hc11 => ?_)
                · try refine sA ?_
                  obtain ⟨hp12, hq4⟩ := guard_some hq4
                  have hn12 : (wI (g13.t7 - 1)).toNat < a0.length := by first | omega | (simp only [List.length_set, List.length_append, List.length_replicate, List.length_map]; omega)
                  try refine sA ?_
                  try refine andA ?_
                  cases hq4
                  exact X_cut rfl (weakA [])
                · try refine sA ?_
                  cases hq4
                  exact X_cut rfl (weakA [])
      · intro s2 hJ; subst hJ
        try dsimp only at hs1
        try refine sA ?_
        refine Bs_if hs1 (fun hs1 hc13 => ?_) (fun hs1 hc13 => ?_)
        · try refine sA ?_
          cases hs1
          cases hk1
          try dsimp only at h
          try refine sA ?_
          have he := Option.some.inj h
          subst he
          exact endsA ⟨[(2, (.lf false (.sc (.bool false))))], [], 0, 52⟩ []
        · try refine sA ?_
          cases hs1
          exact X_backP hk1 (weakA [])
    · try refine sA ?_
      cases hs1
      cases hk1
      try dsimp only at h
      try refine sA ?_
      have he := Option.some.inj h
      subst he
      exact endsA ⟨[(2, (.lf false (.sc (.bool (decide (((a0.length : Nat) : Int) ≤ 12))))))], [], 0, 52⟩ []
theorem w_spec_LeaderOf {a0 : (List DomainT)} {a1 : ByteArray} {r : (Int × Bool)} (h : spec_LeaderOf a0 a1 = some r) : Fn Tryd.prog 14 [(.lf true (.sl (a0.map eDomain))), (.lf false (.sc (.string a1)))] [] 0 (.tu [(.lf false (.sc (.int .i64 r.1))), (.lf false (.sc (.bool r.2)))]) [] 0 := by
  unfold spec_LeaderOf at h
  refine fn_code tab_ok mixed [(1000, [(0, 0), (1, 0)]), (1001, [(0, 0), (1, 0), (10, 0)]), (1002, [(4, 0), (5, 0)]), (1003, [(1, 0), (11, 0), (12, 0), (13, 0)]), (1004, [(1, 0), (11, 0), (12, 0), (13, 0), (14, 0)]), (1005, [(1, 0), (7, 0), (11, 0), (12, 0), (13, 0)]), (1006, [(1, 0), (7, 0), (11, 0), (12, 0), (13, 0), (20, 0)]), (1007, [(4, 0), (5, 0)]), (1008, [(1, 0), (11, 0), (12, 0), (13, 0)]), (1009, [(4, 0), (5, 0)])] Tryd.func14 rfl rfl (by simp [Tryd.f14]) (by kernel_rfl) ?_
  simp only [Tryd.f14]
  refine sA ?_
  obtain ⟨c30, hr1, h⟩ := bind_ok h
  refine Cl_sA (w_spec_GoodDomains hr1) ?_
  try refine sA ?_
  refine Bs_if h (fun h hc2 => ?_) (fun h hc2 => ?_)
  · try refine sA ?_
    have he := Option.some.inj h
    subst he
    exact endsA ⟨[(4, (.lf false (.sc (.int .i64 0)))), (5, (.lf false (.sc (.bool false))))], [], 0, 25⟩ []
  · try refine sA ?_
    obtain ⟨y32, hl3, h⟩ := bind_ok h
    refine W_loopP (fun g31 : spec_LeaderOf_G1 => ⟨[(1, (.lf false (.sc (.string a1)))), (11, (.lf true (.sl (a0.map eDomain)))), (12, (.lf false (.sc (.int .i64 ((a0.length : Nat) : Int))))), (13, (.lf false (.sc (.int .i64 g31.t13))))], [], 0, 25⟩) (spec_LeaderOf_L1 a0 a1) _ _ hl3 (weakA []) ?_
    · intro n1 g31 z1 hs1 hk1
      unfold spec_LeaderOf_L1 at hs1
      try dsimp only at hs1
      refine sA ?_
      refine Bs_if hs1 (fun hs1 hc4 => ?_) (fun hs1 hc4 => ?_)
      · try refine sA ?_
        obtain ⟨hp5, hs1⟩ := guard_some hs1
        have hn5 : g31.t13.toNat < a0.length := by first | omega | (simp only [List.length_set, List.length_append, List.length_replicate, List.length_map]; omega)
        try refine sA ?_
        try refine andA ?_
        refine Bs_if hs1 (fun hs1 hc6 => ?_) (fun hs1 hc6 => ?_)
        · try refine sA ?_
          cases hs1
          cases hk1
          try dsimp only at h
          try refine sA ?_
          have he := Option.some.inj h
          subst he
          exact endsA ⟨[(4, (.lf false (.sc (.int .i64 (((nth a0 g31.t13.toNat).Version).tmod 10))))), (5, (.lf false (.sc (.bool true))))], [], 0, 25⟩ []
        · try refine sA ?_
          cases hs1
          exact X_backP hk1 (weakA [])
      · try refine sA ?_
        cases hs1
        cases hk1
        try dsimp only at h
        try refine sA ?_
        have he := Option.some.inj h
        subst he
        exact endsA ⟨[(4, (.lf false (.sc (.int .i64 0)))), (5, (.lf false (.sc (.bool false))))], [], 0, 25⟩ []
theorem w_impl_domainAt_c1_r {a0 : DomainT} {a1 : ByteArray} {r : Bool} (h : impl_domainAt_c1_r a0 a1 = some r) : Fn Tryd.prog 64 [(.ag [(.lf false (.sc (.string a0.Name))), (.lf false (.sc (.int .i64 a0.Version))), (.lf false (.sc (.string a0.Note)))]), (.ra true [.sc (.string a1)])] [] 0 (.lf false (.sc (.bool r))) [] 0 := by
  unfold impl_domainAt_c1_r at h
  refine fn_code tab_ok mixed [] Tryd.func64 rfl rfl (by simp [Tryd.f64]) (by kernel_rfl) ?_
  simp only [Tryd.f64]
  refine sA ?_
  have he := Option.some.inj h
  subst he
  exact endsA ⟨[(3, (.lf false (.sc (.bool (a0.Name.toList == a1.toList)))))], [], 0, 8⟩ []
theorem w_slices_IndexFunc_impl_Domain_impl_domainAt_c1r {a0 : (List DomainT)} {a1 : ByteArray} {r : Int} (h : slices_IndexFunc_impl_Domain_impl_domainAt_c1r a0 a1 = some r) : Fn Tryd.prog 63 [(.lf true (.sl (a0.map eDomain))), (.fn 64 [(.ra true [.sc (.string a1)])])] [] 0 (.lf false (.sc (.int .i64 r))) [] 0 := by
  unfold slices_IndexFunc_impl_Domain_impl_domainAt_c1r at h
  refine fn_code tab_ok mixed [(1000, [(0, 0), (1, 0)]), (1001, [(0, 0), (1, 0), (7, 0), (8, 0)]), (1002, [(0, 0), (1, 0), (7, 0), (8, 0), (9, 0)]), (1003, [(0, 0), (1, 0), (5, 0), (7, 0), (8, 0)]), (1004, [(0, 0), (1, 0), (5, 0), (7, 0), (8, 0), (16, 0)]), (1005, [(4, 0)]), (1006, [(0, 0), (1, 0), (7, 0), (8, 0)]), (1007, [(4, 0)])] Tryd.func63 rfl rfl (by simp [Tryd.f63]) (by kernel_rfl) ?_
  simp only [Tryd.f63]
  refine sA ?_
  obtain ⟨y40, hl1, h⟩ := bind_ok h
  refine W_loopP (fun g37 : slices_IndexFunc_impl_Domain_impl_domainAt_c1r_G1 => ⟨[(0, (.lf true (.sl (a0.map eDomain)))), (1, (.fn 64 [(.ra true [.sc (.string a1)])])), (7, (.lf false (.sc (.int .i64 ((a0.length : Nat) : Int))))), (8, (.lf false (.sc (.int .i64 g37.t8))))], [], 0, 19⟩) (slices_IndexFunc_impl_Domain_impl_domainAt_c1r_L1 a0 a1) _ _ hl1 (weakA []) ?_
  · intro n1 g37 z1 hs1 hk1
    unfold slices_IndexFunc_impl_Domain_impl_domainAt_c1r_L1 at hs1
    try dsimp only at hs1
    refine sA ?_
    refine Bs_if hs1 (fun hs1 hc2 => ?_) (fun hs1 hc2 => ?_)
    · try refine sA ?_
      obtain ⟨hp3, hs1⟩ := guard_some hs1
      have hn3 : g37.t8.toNat < a0.length := by first | omega | (simp only [List.length_set, List.length_append, List.length_replicate, List.length_map]; omega)
      try refine sA ?_
      try refine andA ?_
      obtain ⟨c39, hr4, hs1⟩ := bind_ok hs1
      refine Cl_sA (w_impl_domainAt_c1_r hr4) ?_
      try refine sA ?_
      refine Bs_if hs1 (fun hs1 hc5 => ?_) (fun hs1 hc5 => ?_)
      · try refine sA ?_
        cases hs1
        cases hk1
        try dsimp only at h
        try refine sA ?_
        have he := Option.some.inj h
        subst he
        exact endsA ⟨[(4, (.lf false (.sc (.int .i64 g37.t8))))], [], 0, 19⟩ []
      · try refine sA ?_
        cases hs1
        exact X_backP hk1 (weakA [])
    · try refine sA ?_
      cases hs1
      cases hk1
      try dsimp only at h
      try refine sA ?_
      have he := Option.some.inj h
      subst he
      exact endsA ⟨[(4, (.lf false (.sc (.int .i64 (-1)))))], [], 0, 19⟩ []
theorem w_impl_domainAt {a0 : (List DomainT)} {a1 : ByteArray} {r : Int} (h : impl_domainAt a0 a1 = some r) : Fn Tryd.prog 40 [(.lf true (.sl (a0.map eDomain))), (.lf false (.sc (.string a1)))] [] 0 (.lf false (.sc (.int .i64 r))) [] 0 := by
  unfold impl_domainAt at h
  refine fn_code tab_ok mixed [] Tryd.func40 rfl rfl (by simp [Tryd.f40]) (by kernel_rfl) ?_
  simp only [Tryd.f40]
  refine sA ?_
  obtain ⟨c43, hr1, h⟩ := bind_ok h
  refine Cl_sA (w_slices_IndexFunc_impl_Domain_impl_domainAt_c1r hr1) ?_
  try refine sA ?_
  have he := Option.some.inj h
  subst he
  exact endsA ⟨[(4, (.lf false (.sc (.int .i64 c43))))], [], 0, 8⟩ []
theorem w_strings_Trim {a0 a1 : ByteArray} {r : ByteArray} (h : strings_Trim a0 a1 = some r) : Fn Tryd.prog 61 [.lf false (.sc (.string a0)), .lf false (.sc (.string a1))] [] 0 (.lf false (.sc (.string r))) [] 0 := by
  unfold strings_Trim at h
  obtain ⟨⟨hp1, hp2, hp3⟩, h⟩ := guard_some h
  have he := Option.some.inj h; subst he
  exact fn_str2 (Ent.of Tryd.func61 rfl (by simp [Tryd.f61])) fun w => Go.Proofs.Any.strings_Trim_laid Go.Proofs.Tryd.lays160 (by kernel_rfl) a0 a1 w hp1 hp2 (ascii_of_all hp3)
theorem w_impl_goodName {a0 : ByteArray} {r : Bool} (h : impl_goodName a0 = some r) : Fn Tryd.prog 37 [(.lf false (.sc (.string a0)))] [] 0 (.lf false (.sc (.bool r))) [] 0 := by
  unfold impl_goodName at h
  refine fn_code tab_ok mixed [] Tryd.func37 rfl rfl (by simp [Tryd.f37]) (by kernel_rfl) ?_
  simp only [Tryd.f37]
  refine sA ?_
  refine Sp_if h (fun h hc1 => ?_) (fun h hc1 => ?_)
  · try refine sA ?_
    obtain ⟨c46, hr2, h⟩ := bind_ok h
    refine Cl_sA (w_strings_Trim hr2) ?_
    try refine sA ?_
    have he := Option.some.inj h
    subst he
    exact endsA ⟨[(2, (.lf false (.sc (.bool (c46.toList == ByteArray.empty.toList)))))], [], 0, 11⟩ []
  · try refine sA ?_
    have he := Option.some.inj h
    subst he
    exact endsA ⟨[(2, (.lf false (.sc (.bool false))))], [], 0, 11⟩ []
theorem w_impl_in {a0 : Int} {a1 : Int} {a2 : Int} {r : Bool} (h : impl_in a0 a1 a2 = some r) : Fn Tryd.prog 62 [(.lf false (.sc (.int .i64 a0))), (.lf false (.sc (.int .i64 a1))), (.lf false (.sc (.int .i64 a2)))] [] 0 (.lf false (.sc (.bool r))) [] 0 := by
  unfold impl_in at h
  refine fn_code tab_ok mixed [] Tryd.func62 rfl rfl (by simp [Tryd.f62]) (by kernel_rfl) ?_
  simp only [Tryd.f62]
  refine sA ?_
  refine Sp_if h (fun h hc1 => ?_) (fun h hc1 => ?_)
  · try refine sA ?_
    have he := Option.some.inj h
    subst he
    exact endsA ⟨[(6, (.lf false (.sc (.bool (decide (a0 ≤ a2))))))], [], 0, 15⟩ []
  · try refine sA ?_
    have he := Option.some.inj h
    subst he
    exact endsA ⟨[(6, (.lf false (.sc (.bool false))))], [], 0, 15⟩ []
theorem w_impl_isVersion {a0 : Int} {r : Bool} (h : impl_isVersion a0 = some r) : Fn Tryd.prog 38 [(.lf false (.sc (.int .i64 a0)))] [] 0 (.lf false (.sc (.bool r))) [] 0 := by
  unfold impl_isVersion at h
  refine fn_code tab_ok mixed [] Tryd.func38 rfl rfl (by simp [Tryd.f38]) (by kernel_rfl) ?_
  simp only [Tryd.f38]
  refine sA ?_
  obtain ⟨c48, hr1, h⟩ := bind_ok h
  refine Cl_sA (w_impl_in hr1) ?_
  try refine sA ?_
  have he := Option.some.inj h
  subst he
  exact endsA ⟨[(2, (.lf false (.sc (.bool c48))))], [], 0, 5⟩ []
theorem w_impl_GoodDomains {a0 : (List DomainT)} {r : Bool} (h : impl_GoodDomains a0 = some r) : Fn Tryd.prog 12 [(.lf true (.sl (a0.map eDomain)))] [] 0 (.lf false (.sc (.bool r))) [] 0 := by
  unfold impl_GoodDomains at h
  refine fn_code tab_ok mixed [(1000, [(0, 0)]), (1001, [(0, 0), (7, 0)]), (1002, [(2, 0)]), (1003, [(0, 0), (8, 0), (9, 0), (10, 0)]), (1004, [(0, 0), (8, 0), (9, 0), (10, 0), (11, 0)]), (1005, [(0, 0), (3, 0), (4, 0), (8, 0), (9, 0), (10, 0)]), (1006, [(0, 0), (8, 0), (9, 0), (10, 0), (50, 0)]), (1007, [(2, 0)]), (1008, [(0, 0), (8, 0), (9, 0), (10, 0)]), (1009, [(2, 0)]), (4006, [])] Tryd.func12 rfl rfl (by simp [Tryd.f12]) (by kernel_rfl) ?_
  simp only [Tryd.f12]
  refine sA ?_
  refine Bs_if h (fun h hc1 => ?_) (fun h hc1 => ?_)
  · try refine sA ?_
    have he := Option.some.inj h
    subst he
    exact endsA ⟨[(2, (.lf false (.sc (.bool false))))], [], 0, 52⟩ []
  · try refine sA ?_
    obtain ⟨y54, hl2, h⟩ := bind_ok h
    refine W_loopP (fun g45 : impl_GoodDomains_G1 => ⟨[(0, (.lf true (.sl (a0.map eDomain)))), (8, (.lf true (.sl (a0.map eDomain)))), (9, (.lf false (.sc (.int .i64 ((a0.length : Nat) : Int))))), (10, (.lf false (.sc (.int .i64 g45.t10))))], [], 0, 52⟩) (impl_GoodDomains_L1 a0) _ _ hl2 (weakA []) ?_
    · intro n1 g45 z1 hs1 hk1
      unfold impl_GoodDomains_L1 at hs1
      try dsimp only at hs1
      refine sA ?_
      refine Bs_if hs1 (fun hs1 hc3 => ?_) (fun hs1 hc3 => ?_)
      · try refine sA ?_
        obtain ⟨hp4, hs1⟩ := guard_some hs1
        have hn4 : g45.t10.toNat < a0.length := by first | omega | (simp only [List.length_set, List.length_append, List.length_replicate, List.length_map]; omega)
        try refine sA ?_
        try refine andA ?_
        obtain ⟨p53, hq5, hs1⟩ := bind_ok hs1
        refine Sq_cut (fun s2 => s2 = ⟨[(0, (.lf true (.sl (a0.map eDomain)))), (8, (.lf true (.sl (a0.map eDomain)))), (9, (.lf false (.sc (.int .i64 ((a0.length : Nat) : Int))))), (10, (.lf false (.sc (.int .i64 g45.t10)))), (50, (.lf false (.sc (.bool p53.t50))))], [], 0, 52⟩) ?_ ?_
        · try refine sA ?_
          refine Sp_if hq5 (fun hq5 hc6 => ?_) (fun hq5 hc6 => ?_)
          · try refine sA ?_
            cases hq5
            exact X_cut rfl (weakA [])
          · try refine sA ?_
            obtain ⟨c51, hr7, hq5⟩ := bind_ok hq5
            refine Cl_sA (w_impl_goodName hr7) ?_
            try refine sA ?_
            refine Sp_if hq5 (fun hq5 hc8 => ?_) (fun hq5 hc8 => ?_)
            · try refine sA ?_
              cases hq5
              exact X_cut rfl (weakA [])
            · try refine sA ?_
              obtain ⟨c52, hr9, hq5⟩ := bind_ok hq5
              refine Cl_sA (w_impl_isVersion hr9) ?_
              try refine sA ?_
              refine Sp_if hq5 (fun hq5 hc10 => ?_) (fun hq5 hc10 => ?_)
              · try refine sA ?_
                cases hq5
                exact X_cut rfl (weakA [])
              · try refine sA ?_
                refine Sp_if hq5 (fun hq5 hc11 => ?_) (fun hq5 hc11 => ?_)
                · try refine sA ?_
                  cases hq5
                  exact X_cut rfl (weakA [])
                · try refine sA ?_
                  refine Sp_if hq5 (fun hq5 hc12 => ?_) (fun hq5 hc12 => ?_)
                  · try refine sA ?_
                    obtain ⟨hp13, hq5⟩ := guard_some hq5
                    have hn13 : (wI (g45.t10 - 1)).toNat < a0.length := by first | omega | (simp only [List.length_set, List.length_append, List.length_replicate, List.length_map]; omega)
                    try refine sA ?_
                    try refine andA ?_
                    cases hq5
                    exact X_cut rfl (weakA [])
                  · try refine sA ?_
                    cases hq5
                    exact X_cut rfl (weakA [])
        · intro s2 hJ; subst hJ
          try dsimp only at hs1
          try refine sA ?_
          refine Bs_if hs1 (fun hs1 hc14 => ?_) (fun hs1 hc14 => ?_)
          · try refine sA ?_
            cases hs1
            cases hk1
            try dsimp only at h
            try refine sA ?_
            have he := Option.some.inj h
            subst he
            exact endsA ⟨[(2, (.lf false (.sc (.bool false))))], [], 0, 52⟩ []
          · try refine sA ?_
            cases hs1
            exact X_backP hk1 (weakA [])
      · try refine sA ?_
        cases hs1
        cases hk1
        try dsimp only at h
        try refine sA ?_
        have he := Option.some.inj h
        subst he
        exact endsA ⟨[(2, (.lf false (.sc (.bool true))))], [], 0, 52⟩ []
theorem w_impl_RegionOf {a0 : Int} {r : (Int × Bool)} (h : impl_RegionOf a0 = some r) : Fn Tryd.prog 41 [(.lf false (.sc (.int .i64 a0)))] [] 0 (.tu [(.lf false (.sc (.int .i64 r.1))), (.lf false (.sc (.bool r.2)))]) [] 0 := by
  unfold impl_RegionOf at h
  refine fn_code tab_ok mixed [(1000, [(0, 0)]), (1001, [(0, 0), (6, 0)]), (1002, [(2, 0), (3, 0)]), (1003, [(2, 0), (3, 0)])] Tryd.func41 rfl rfl (by simp [Tryd.f41]) (by kernel_rfl) ?_
  simp only [Tryd.f41]
  refine sA ?_
  obtain ⟨c59, hr1, h⟩ := bind_ok h
  refine Cl_sA (w_impl_isVersion hr1) ?_
  try refine sA ?_
  refine Bs_if h (fun h hc2 => ?_) (fun h hc2 => ?_)
  · try refine sA ?_
    have he := Option.some.inj h
    subst he
    exact endsA ⟨[(2, (.lf false (.sc (.int .i64 0)))), (3, (.lf false (.sc (.bool false))))], [], 0, 9⟩ []
  · try refine sA ?_
    have he := Option.some.inj h
    subst he
    exact endsA ⟨[(2, (.lf false (.sc (.int .i64 (a0.tmod 10))))), (3, (.lf false (.sc (.bool true))))], [], 0, 9⟩ []
theorem w_impl_LeaderOf {a0 : (List DomainT)} {a1 : ByteArray} {r : (Int × Bool)} (h : impl_LeaderOf a0 a1 = some r) : Fn Tryd.prog 15 [(.lf true (.sl (a0.map eDomain))), (.lf false (.sc (.string a1)))] [] 0 (.tu [(.lf false (.sc (.int .i64 r.1))), (.lf false (.sc (.bool r.2)))]) [] 0 := by
  unfold impl_LeaderOf at h
  refine fn_code tab_ok mixed [(1000, [(0, 0), (1, 0)]), (1001, [(0, 0), (6, 0)]), (1002, [(0, 0), (6, 0), (16, 0)]), (1003, [(4, 0), (5, 0)]), (1004, [(4, 0), (5, 0)]), (4002, [])] Tryd.func15 rfl rfl (by simp [Tryd.f15]) (by kernel_rfl) ?_
  simp only [Tryd.f15]
  refine sA ?_
  obtain ⟨c44, hr1, h⟩ := bind_ok h
  refine Cl_sA (w_impl_domainAt hr1) ?_
  try refine sA ?_
  obtain ⟨p58, hq2, h⟩ := bind_ok h
  refine Sq_cut (fun s2 => s2 = ⟨[(0, (.lf true (.sl (a0.map eDomain)))), (6, (.lf false (.sc (.int .i64 c44)))), (16, (.lf false (.sc (.bool p58.t16))))], [], 0, 25⟩) ?_ ?_
  · try refine sA ?_
    obtain ⟨c57, hr3, hq2⟩ := bind_ok hq2
    refine Cl_sA (w_impl_GoodDomains hr3) ?_
    try refine sA ?_
    refine Sp_if hq2 (fun hq2 hc4 => ?_) (fun hq2 hc4 => ?_)
    · try refine sA ?_
      cases hq2
      exact X_cut rfl (weakA [])
    · try refine sA ?_
      cases hq2
      exact X_cut rfl (weakA [])
  · intro s2 hJ; subst hJ
    try dsimp only at h
    try refine sA ?_
    refine Bs_if h (fun h hc5 => ?_) (fun h hc5 => ?_)
    · try refine sA ?_
      have he := Option.some.inj h
      subst he
      exact endsA ⟨[(4, (.lf false (.sc (.int .i64 0)))), (5, (.lf false (.sc (.bool false))))], [], 0, 25⟩ []
    · try refine sA ?_
      obtain ⟨hp6, h⟩ := guard_some h
      have hn6 : c44.toNat < a0.length := by first | omega | (simp only [List.length_set, List.length_append, List.length_replicate, List.length_map]; omega)
      try refine sA ?_
      try refine andA ?_
      obtain ⟨c60, hr7, h⟩ := bind_ok h
      refine Cl_sA (w_impl_RegionOf hr7) ?_
      try refine sA ?_
      have he := Option.some.inj h
      subst he
      exact endsA ⟨[(4, (.lf false (.sc (.int .i64 c60.1)))), (5, (.lf false (.sc (.bool c60.2))))], [], 0, 25⟩ []
theorem w_laws_eqDomain {a0 : DomainT} {a1 : DomainT} {r : Bool} (h : laws_eqDomain a0 a1 = some r) : Fn Tryd.prog 39 [(.ag [(.lf false (.sc (.string a0.Name))), (.lf false (.sc (.int .i64 a0.Version))), (.lf false (.sc (.string a0.Note)))]), (.ag [(.lf false (.sc (.string a1.Name))), (.lf false (.sc (.int .i64 a1.Version))), (.lf false (.sc (.string a1.Note)))])] [] 0 (.lf false (.sc (.bool r))) [] 0 := by
  unfold laws_eqDomain at h
  refine fn_code tab_ok mixed [(1000, [(2, 0), (3, 0)]), (1001, [(2, 0), (3, 0), (9, 0)]), (1002, [(4, 0)]), (1003, [(2, 0), (3, 0), (14, 0)]), (1004, [(4, 0)]), (1005, [(19, 0)]), (1006, [(4, 0)]), (1007, [(4, 0)])] Tryd.func39 rfl rfl (by simp [Tryd.f39]) (by kernel_rfl) ?_
  simp only [Tryd.f39]
  refine sA ?_
  refine Bs_if h (fun h hc1 => ?_) (fun h hc1 => ?_)
  · try refine sA ?_
    have he := Option.some.inj h
    subst he
    exact endsA ⟨[(4, (.lf false (.sc (.bool false))))], [], 0, 20⟩ []
  · try refine sA ?_
    refine Bs_if h (fun h hc2 => ?_) (fun h hc2 => ?_)
    · try refine sA ?_
      have he := Option.some.inj h
      subst he
      exact endsA ⟨[(4, (.lf false (.sc (.bool false))))], [], 0, 20⟩ []
    · try refine sA ?_
      refine Bs_if h (fun h hc3 => ?_) (fun h hc3 => ?_)
      · try refine sA ?_
        have he := Option.some.inj h
        subst he
        exact endsA ⟨[(4, (.lf false (.sc (.bool false))))], [], 0, 20⟩ []
      · try refine sA ?_
        have he := Option.some.inj h
        subst he
        exact endsA ⟨[(4, (.lf false (.sc (.bool true))))], [], 0, 20⟩ []
theorem w_laws_eqDomainS {a0 : (List DomainT)} {a1 : (List DomainT)} {r : Bool} (h : laws_eqDomainS a0 a1 = some r) : Fn Tryd.prog 13 [(.lf true (.sl (a0.map eDomain))), (.lf true (.sl (a1.map eDomain)))] [] 0 (.lf false (.sc (.bool r))) [] 0 := by
  unfold laws_eqDomainS at h
  refine fn_code tab_ok mixed [(1000, [(0, 0), (1, 0)]), (1001, [(0, 0), (1, 0), (10, 0)]), (1002, [(4, 0)]), (1003, [(0, 0), (1, 0), (5, 0)]), (1004, [(0, 0), (1, 0), (5, 0), (14, 0)]), (1005, [(0, 0), (1, 0), (5, 0)]), (1006, [(0, 0), (1, 0), (5, 0), (26, 0)]), (1007, [(4, 0)]), (1008, [(4, 0)])] Tryd.func13 rfl rfl (by simp [Tryd.f13]) (by kernel_rfl) ?_
  simp only [Tryd.f13]
  refine sA ?_
  refine Bs_if h (fun h hc1 => ?_) (fun h hc1 => ?_)
  · try refine sA ?_
    have he := Option.some.inj h
    subst he
    exact endsA ⟨[(4, (.lf false (.sc (.bool false))))], [], 0, 27⟩ []
  · try refine sA ?_
    obtain ⟨y67, hl2, h⟩ := bind_ok h
    refine W_loopP (fun g64 : laws_eqDomainS_G1 => ⟨[(0, (.lf true (.sl (a0.map eDomain)))), (1, (.lf true (.sl (a1.map eDomain)))), (5, (.lf false (.sc (.int .i64 g64.t5))))], [], 0, 27⟩) (laws_eqDomainS_L1 a0 a1) _ _ hl2 (weakA []) ?_
    · intro n1 g64 z1 hs1 hk1
      unfold laws_eqDomainS_L1 at hs1
      try dsimp only at hs1
      refine sA ?_
      refine Bs_if hs1 (fun hs1 hc3 => ?_) (fun hs1 hc3 => ?_)
      · try refine sA ?_
        obtain ⟨hp4, hs1⟩ := guard_some hs1
        have hn4 : g64.t5.toNat < a0.length := by first | omega | (simp only [List.length_set, List.length_append, List.length_replicate, List.length_map]; omega)
        try refine sA ?_
        try refine andA ?_
        obtain ⟨hp5, hs1⟩ := guard_some hs1
        have hn5 : g64.t5.toNat < a1.length := by first | omega | (simp only [List.length_set, List.length_append, List.length_replicate, List.length_map]; omega)
        try refine sA ?_
        try refine andA ?_
        obtain ⟨c66, hr6, hs1⟩ := bind_ok hs1
        refine Cl_sA (w_laws_eqDomain hr6) ?_
        try refine sA ?_
        refine Bs_if hs1 (fun hs1 hc7 => ?_) (fun hs1 hc7 => ?_)
        · try refine sA ?_
          cases hs1
          cases hk1
          try dsimp only at h
          try refine sA ?_
          have he := Option.some.inj h
          subst he
          exact endsA ⟨[(4, (.lf false (.sc (.bool false))))], [], 0, 27⟩ []
        · try refine sA ?_
          cases hs1
          exact X_backP hk1 (weakA [])
      · try refine sA ?_
        cases hs1
        cases hk1
        try dsimp only at h
        try refine sA ?_
        have he := Option.some.inj h
        subst he
        exact endsA ⟨[(4, (.lf false (.sc (.bool true))))], [], 0, 27⟩ []
theorem w_laws_FnExactLeaderOf {a0 : (List DomainT)} {a1 : ByteArray} {r : Bool} (h : laws_FnExactLeaderOf a0 a1 = some r) : Fn Tryd.prog 4 [(.lf true (.sl (a0.map eDomain))), (.lf false (.sc (.string a1)))] [] 0 (.lf false (.sc (.bool r))) [] 0 := by
  unfold laws_FnExactLeaderOf at h
  refine fn_code tab_ok mixed [(1000, [(0, 0), (1, 0)]), (1001, [(0, 0), (1, 0), (13, 0)]), (1002, [(4, 0)]), (1003, [(0, 0), (1, 0), (5, 0)]), (1004, [(0, 0), (1, 0), (5, 0)]), (1005, [(0, 0), (1, 0), (18, 0)]), (1006, [(4, 0)]), (1007, [(0, 0), (1, 0), (6, 0), (7, 0)]), (1008, [(0, 0), (1, 0), (6, 0), (7, 0), (8, 0)]), (1009, [(0, 0), (6, 0), (7, 0), (8, 0), (9, 0), (10, 0)]), (1010, [(0, 0), (8, 0), (41, 0)]), (1011, [(4, 0)]), (1012, [(46, 0)]), (1013, [(4, 0)]), (1014, [(4, 0)]), (4010, [])] Tryd.func4 rfl rfl (by simp [Tryd.f4]) (by kernel_rfl) ?_
  simp only [Tryd.f4]
  refine sA ?_
  refine Bs_if h (fun h hc1 => ?_) (fun h hc1 => ?_)
  · try refine sA ?_
    have he := Option.some.inj h
    subst he
    exact endsA ⟨[(4, (.lf false (.sc (.bool true))))], [], 0, 47⟩ []
  · try refine sA ?_
    obtain ⟨c7, hr2, h⟩ := bind_ok h
    refine Cl_sA (w_laws_szDomainS hr2) ?_
    try refine sA ?_
    refine Bs_if h (fun h hc3 => ?_) (fun h hc3 => ?_)
    · try refine sA ?_
      have he := Option.some.inj h
      subst he
      exact endsA ⟨[(4, (.lf false (.sc (.bool true))))], [], 0, 47⟩ []
    · try refine sA ?_
      obtain ⟨c12, hr4, h⟩ := bind_ok h
      refine Cl_sA (w_laws_toDomainS hr4) ?_
      try refine sA ?_
      obtain ⟨c35, hr5, h⟩ := bind_ok h
      refine Cl_sA (w_spec_LeaderOf hr5) ?_
      try refine sA ?_
      obtain ⟨c36, hr6, h⟩ := bind_ok h
      refine Cl_sA (w_laws_toDomainS hr6) ?_
      try refine sA ?_
      obtain ⟨c61, hr7, h⟩ := bind_ok h
      refine Cl_sA (w_impl_LeaderOf hr7) ?_
      try refine sA ?_
      obtain ⟨p62, hq8, h⟩ := bind_ok h
      refine Sq_cut (fun s2 => s2 = ⟨[(0, (.lf true (.sl (a0.map eDomain)))), (8, (.os 0 3 0 c36.length c36.length false)), (41, (.lf false (.sc (.bool p62.t41))))], [(0, some (true, .arr false 3 (c36.map eDomain)))], 1, 47⟩) ?_ ?_
      · try refine sA ?_
        refine Sp_if hq8 (fun hq8 hc9 => ?_) (fun hq8 hc9 => ?_)
        · try refine sA ?_
          cases hq8
          exact X_cut rfl (weakA [some 1])
        · try refine sA ?_
          cases hq8
          exact X_cut rfl (weakA [some 1])
      · intro s2 hJ; subst hJ
        try dsimp only at h
        try refine sA ?_
        refine Bs_if h (fun h hc10 => ?_) (fun h hc10 => ?_)
        · try refine sA ?_
          have he := Option.some.inj h
          subst he
          exact endsA ⟨[(4, (.lf false (.sc (.bool false))))], [], 0, 47⟩ []
        · try refine sA ?_
          obtain ⟨c63, hr11, h⟩ := bind_ok h
          refine Cl_sA (w_laws_toDomainS hr11) ?_
          try refine sA ?_
          obtain ⟨c70, hr12, h⟩ := bind_ok h
          refine Cl_sA (w_laws_eqDomainS hr12) ?_
          try refine sA ?_
          refine Bs_if h (fun h hc13 => ?_) (fun h hc13 => ?_)
          · try refine sA ?_
            have he := Option.some.inj h
            subst he
            exact endsA ⟨[(4, (.lf false (.sc (.bool false))))], [], 0, 47⟩ []
          · try refine sA ?_
            have he := Option.some.inj h
            subst he
            exact endsA ⟨[(4, (.lf false (.sc (.bool true))))], [], 0, 47⟩ []
end Go.TL.YtoabnifimfcbcaaDoor

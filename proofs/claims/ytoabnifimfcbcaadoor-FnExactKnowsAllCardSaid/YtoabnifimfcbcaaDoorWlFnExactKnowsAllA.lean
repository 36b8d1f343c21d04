import Derived.Test.YtoabnifimfcbcaaDoorTlTabr2D
import Derived.Test.YtoabnifimfcbcaaDoorEnR2D
import Derived.Test.YtoabnifimfcbcaaDoorTlAuto
import Derived.Test.YtoabnifimfcbcaaDoorTlTrimr2D
import Derived.Test.YtoabnifimfcbcaaDoorTlBelow
set_option linter.unusedSimpArgs false
set_option linter.unusedVariables false
set_option linter.unusedVariables false
set_option linter.unusedSimpArgs false
set_option maxRecDepth 8000
set_option maxHeartbeats 0
namespace Go.TL.YtoabnifimfcbcaaDoor
open Go Go.Proofs Go.TL
theorem w_laws_szDomain {a0 : DomainT} {a1 : Int} {r : Int} (h : laws_szDomain a0 a1 = some r) : Fn Tryd.prog 33 [(.ag [(.lf false (.sc (.string a0.Name))), (.lf false (.sc (.int .i64 a0.Version))), (.lf false (.sc (.string a0.Note)))]), (.lf false (.sc (.int .i64 a1)))] [] 0 (.lf false (.sc (.int .i64 r))) [] 0 := by
  unfold laws_szDomain at h
  refine fn_code tab_ok mixed [(1000, [(1, 0), (2, 0)]), (1001, [(1, 0), (2, 0)]), (1002, [(1, 0), (2, 0), (11, 0)]), (1003, [(4, 0)]), (1004, [(1, 0)]), (1005, [(1, 0), (18, 0)]), (1006, [(4, 0)]), (1007, [(4, 0)])] Tryd.func33 rfl rfl (by simp [Tryd.f33]) (by kernel_rfl) ?_
  simp only [Tryd.f33]
  refine sA ?_
  refine Bs_if h (fun h hc1 => ?_) (fun h hc1 => ?_)
  · try refine sA ?_
    have he := Option.some.inj h
    subst he
    exact endsA ⟨[(4, (.lf false (.sc (.int .i64 (-1)))))], [], 0, 20⟩ []
  · try refine sA ?_
    refine Bs_if h (fun h hc2 => ?_) (fun h hc2 => ?_)
    · try refine sA ?_
      have he := Option.some.inj h
      subst he
      exact endsA ⟨[(4, (.lf false (.sc (.int .i64 (-1)))))], [], 0, 20⟩ []
    · try refine sA ?_
      have he := Option.some.inj h
      subst he
      exact endsA ⟨[(4, (.lf false (.sc (.int .i64 (wI ((wI (a1 - (a0.Name.size : Int))) - (a0.Note.size : Int)))))))], [], 0, 20⟩ []
theorem w_laws_szDomainS {a0 : (List DomainT)} {a1 : Int} {r : Int} (h : laws_szDomainS a0 a1 = some r) : Fn Tryd.prog 9 [(.lf true (.sl (a0.map eDomain))), (.lf false (.sc (.int .i64 a1)))] [] 0 (.lf false (.sc (.int .i64 r))) [] 0 := by
  unfold laws_szDomainS at h
  refine fn_code tab_ok mixed [(1000, [(0, 0), (1, 0)]), (1001, [(0, 0), (1, 0)]), (1002, [(0, 0), (1, 0), (11, 0)]), (1003, [(4, 0)]), (1004, [(0, 0), (1, 0), (5, 0)]), (1005, [(0, 0), (1, 0), (5, 0), (15, 0)]), (1006, [(0, 0), (1, 0), (5, 0)]), (1007, [(0, 0), (1, 0), (5, 0)]), (1008, [(0, 0), (1, 0), (5, 0), (25, 0)]), (1009, [(4, 0)]), (1010, [(4, 0)])] Tryd.func9 rfl rfl (by simp [Tryd.f9]) (by kernel_rfl) ?_
  simp only [Tryd.f9]
  refine sA ?_
  refine Bs_if h (fun h hc1 => ?_) (fun h hc1 => ?_)
  · try refine sA ?_
    have he := Option.some.inj h
    subst he
    exact endsA ⟨[(4, (.lf false (.sc (.int .i64 (-1)))))], [], 0, 27⟩ []
  · try refine sA ?_
    obtain ⟨y4, hl2, h⟩ := bind_ok h
    refine W_loopP (fun g1 : laws_szDomainS_G1 => ⟨[(0, (.lf true (.sl (a0.map eDomain)))), (1, (.lf false (.sc (.int .i64 g1.t1)))), (5, (.lf false (.sc (.int .i64 g1.t5))))], [], 0, 27⟩) (laws_szDomainS_L1 a0) _ _ hl2 (weakA []) ?_
    · intro n1 g1 z1 hs1 hk1
      unfold laws_szDomainS_L1 at hs1
      try dsimp only at hs1
      refine sA ?_
      refine Bs_if hs1 (fun hs1 hc3 => ?_) (fun hs1 hc3 => ?_)
      · try refine sA ?_
        obtain ⟨hp4, hs1⟩ := guard_some hs1
        have hn4 : g1.t5.toNat < a0.length := by first | omega | (simp only [List.length_set, List.length_append, List.length_replicate, List.length_map]; omega)
        try refine sA ?_
        try refine andA ?_
        obtain ⟨c3, hr5, hs1⟩ := bind_ok hs1
        refine Cl_sA (w_laws_szDomain hr5) ?_
        try refine sA ?_
        refine Bs_if hs1 (fun hs1 hc6 => ?_) (fun hs1 hc6 => ?_)
        · try refine sA ?_
          cases hs1
          cases hk1
          try dsimp only at h
          try refine sA ?_
          have he := Option.some.inj h
          subst he
          exact endsA ⟨[(4, (.lf false (.sc (.int .i64 (-1)))))], [], 0, 27⟩ []
        · try refine sA ?_
          cases hs1
          exact X_backP hk1 (weakA [])
      · try refine sA ?_
        cases hs1
        cases hk1
        try dsimp only at h
        try refine sA ?_
        have he := Option.some.inj h
        subst he
        exact endsA ⟨[(4, (.lf false (.sc (.int .i64 g1.t1))))], [], 0, 27⟩ []
theorem w_laws_toDomain {a0 : DomainT} {r : DomainT} (h : laws_toDomain a0 = some r) : Fn Tryd.prog 36 [(.ag [(.lf false (.sc (.string a0.Name))), (.lf false (.sc (.int .i64 a0.Version))), (.lf false (.sc (.string a0.Note)))])] [] 0 (.ag [(.lf false (.sc (.string r.Name))), (.lf false (.sc (.int .i64 r.Version))), (.lf false (.sc (.string r.Note)))]) [] 1 := by
  unfold laws_toDomain at h
  refine fn_code tab_ok mixed [(1000, [(1, 0), (2, 0)]), (1001, [(1, 0), (2, 0), (3, 0)]), (1002, [(1, 0), (2, 0), (3, 0)]), (1003, [(1, 0), (2, 0), (3, 0)]), (1004, [(2, 0), (3, 0)]), (1005, [(2, 0)])] Tryd.func36 rfl rfl (by simp [Tryd.f36]) (by kernel_rfl) ?_
  simp only [Tryd.f36]
  refine sA ?_
  have he := Option.some.inj h
  subst he
  exact endsA ⟨[(2, (.pb 0 0))], [(0, some (true, .box [(.lf false (.sc (.string a0.Name))), (.lf false (.sc (.int .i64 a0.Version))), (.lf false (.sc (.string a0.Note)))]))], 1, 14⟩ [some 1]
theorem w_laws_toDomainS {a0 : (List DomainT)} {r : (List DomainT)} (h : laws_toDomainS a0 = some r) : Fn Tryd.prog 11 [(.lf true (.sl (a0.map eDomain)))] [] 0 (.os 0 3 0 r.length r.length false) [(0, some (true, .arr false 3 (r.map eDomain)))] 1 := by
  unfold laws_toDomainS at h
  refine fn_code tab_ok mixed [(1000, [(0, 0)]), (1001, [(0, 0), (3, 0)]), (1002, [(0, 0), (3, 0), (4, 0)]), (1003, [(0, 0), (3, 0), (4, 0), (11, 0)]), (1004, [(0, 0), (3, 0), (4, 0)]), (1005, [(0, 0), (3, 0), (4, 0)]), (1006, [(2, 0)])] Tryd.func11 rfl rfl (by simp [Tryd.f11]) (by kernel_rfl) ?_
  simp only [Tryd.f11]
  simp (disch := first | assumption | (simp only [List.length_set]; assumption)) only [go_sem, Nat.reduceAdd, Nat.reduceMul, Nat.reduceSub, Nat.reduceEqDiff, ↓reduceIte, Nat.reduceLT, reduceCtorEq, Nat.reduceLeDiff, Int.reduceToNat, Int.reduceEq, Int.reduceLE, Int.reduceLT, Nat.reduceBEq, fold_eDomain_rep]
  obtain ⟨hp1, h⟩ := guard_some h
  try simp (disch := first | assumption | (simp only [List.length_set]; assumption)) only [go_sem, Nat.reduceAdd, Nat.reduceMul, Nat.reduceSub, Nat.reduceEqDiff, ↓reduceIte, Nat.reduceLT, reduceCtorEq, Nat.reduceLeDiff, Int.reduceToNat, Int.reduceEq, Int.reduceLE, Int.reduceLT, Nat.reduceBEq, fold_eDomain_rep]
  try refine andA ?_
  obtain ⟨y12, hl2, h⟩ := bind_ok h
  refine W_loopP (fun g9 : laws_toDomainS_G1 => ⟨[(0, (.lf true (.sl (a0.map eDomain)))), (3, (.os 0 3 0 g9.c0.length g9.c0.length false)), (4, (.lf false (.sc (.int .i64 g9.t4))))], [(0, some (true, .arr false 3 (g9.c0.map eDomain)))], 1, 23⟩) (laws_toDomainS_L1 a0) _ _ hl2 (weak_of (m := 0) [some 0] rfl rfl rfl (by rfl) (by ((try simp (disch := first | assumption | (simp only [List.length_set]; assumption)) only [go_sem, Nat.reduceAdd, Nat.reduceMul, Nat.reduceSub, Nat.reduceEqDiff, ↓reduceIte, Nat.reduceLT, reduceCtorEq, Nat.reduceLeDiff, Int.reduceToNat, Int.reduceEq, Int.reduceLE, Int.reduceLT, Nat.reduceBEq, fold_eDomain_rep]); (repeat' first | done | rfl | omega | refine And.intro ?_ ?_ | (simp; done) | (simp; omega)))) (by ((try simp (disch := first | assumption | (simp only [List.length_set]; assumption)) only [go_sem, Nat.reduceAdd, Nat.reduceMul, Nat.reduceSub, Nat.reduceEqDiff, ↓reduceIte, Nat.reduceLT, reduceCtorEq, Nat.reduceLeDiff, Int.reduceToNat, Int.reduceEq, Int.reduceLE, Int.reduceLT, Nat.reduceBEq, fold_eDomain_rep]); (repeat' first | done | rfl | omega | refine And.intro ?_ ?_ | (simp; done) | (simp; omega))))) ?_
  · intro n1 g9 z1 hs1 hk1
    unfold laws_toDomainS_L1 at hs1
    try dsimp only at hs1
    simp (disch := first | assumption | (simp only [List.length_set]; assumption)) only [go_sem, Nat.reduceAdd, Nat.reduceMul, Nat.reduceSub, Nat.reduceEqDiff, ↓reduceIte, Nat.reduceLT, reduceCtorEq, Nat.reduceLeDiff, Int.reduceToNat, Int.reduceEq, Int.reduceLE, Int.reduceLT, Nat.reduceBEq, fold_eDomain_rep]
    refine Bs_if hs1 (fun hs1 hc3 => ?_) (fun hs1 hc3 => ?_)
    · try simp (disch := first | assumption | (simp only [List.length_set]; assumption)) only [go_sem, Nat.reduceAdd, Nat.reduceMul, Nat.reduceSub, Nat.reduceEqDiff, ↓reduceIte, Nat.reduceLT, reduceCtorEq, Nat.reduceLeDiff, Int.reduceToNat, Int.reduceEq, Int.reduceLE, Int.reduceLT, Nat.reduceBEq, fold_eDomain_rep]
      obtain ⟨hp4, hs1⟩ := guard_some hs1
      have hn4 : g9.t4.toNat < a0.length := by first | omega | (simp only [List.length_set, List.length_append, List.length_replicate, List.length_map]; omega)
      try simp (disch := first | assumption | (simp only [List.length_set]; assumption)) only [go_sem, Nat.reduceAdd, Nat.reduceMul, Nat.reduceSub, Nat.reduceEqDiff, ↓reduceIte, Nat.reduceLT, reduceCtorEq, Nat.reduceLeDiff, Int.reduceToNat, Int.reduceEq, Int.reduceLE, Int.reduceLT, Nat.reduceBEq, fold_eDomain_rep]
      try refine andA ?_
      obtain ⟨c11, hr5, hs1⟩ := bind_ok hs1
      refine Cl_shown (w_laws_toDomain hr5) (by first | rfl | (simp (disch := first | assumption | (simp only [List.length_set]; assumption)) only [go_sem, Nat.reduceAdd, Nat.reduceMul, Nat.reduceSub, Nat.reduceEqDiff, ↓reduceIte, Nat.reduceLT, reduceCtorEq, Nat.reduceLeDiff, Int.reduceToNat, Int.reduceEq, Int.reduceLE, Int.reduceLT, Nat.reduceBEq, fold_eDomain_rep]; first | done | rfl) | (simp only [List.length_append, List.length_cons, List.length_nil, List.length_map, List.length_set, List.length_replicate, Nat.zero_add, Nat.reduceAdd]; rfl) | (simp (disch := first | assumption | (simp only [List.length_set]; assumption)) only [go_sem, Nat.reduceAdd, Nat.reduceMul, Nat.reduceSub, Nat.reduceEqDiff, ↓reduceIte, Nat.reduceLT, reduceCtorEq, Nat.reduceLeDiff, Int.reduceToNat, Int.reduceEq, Int.reduceLE, Int.reduceLT, Nat.reduceBEq, fold_eDomain_rep]; simp only [List.length_append, List.length_cons, List.length_nil, List.length_map, List.length_set, List.length_replicate, Nat.zero_add, Nat.reduceAdd]; rfl)) (FitAll.refl _) (.inl (by first | rfl | (simp (disch := first | assumption | (simp only [List.length_set]; assumption)) only [go_sem, Nat.reduceAdd, Nat.reduceMul, Nat.reduceSub, Nat.reduceEqDiff, ↓reduceIte, Nat.reduceLT, reduceCtorEq, Nat.reduceLeDiff, Int.reduceToNat, Int.reduceEq, Int.reduceLE, Int.reduceLT, Nat.reduceBEq, fold_eDomain_rep]; done))) ?_
      try simp (disch := first | assumption | (simp only [List.length_set]; assumption)) only [go_sem, Nat.reduceAdd, Nat.reduceMul, Nat.reduceSub, Nat.reduceEqDiff, ↓reduceIte, Nat.reduceLT, reduceCtorEq, Nat.reduceLeDiff, Int.reduceToNat, Int.reduceEq, Int.reduceLE, Int.reduceLT, Nat.reduceBEq, fold_eDomain_rep]
      obtain ⟨hp6, hs1⟩ := guard_some hs1
      have hn6 : g9.t4.toNat < g9.c0.length := by first | omega | (simp only [List.length_set, List.length_append, List.length_replicate, List.length_map]; omega)
      try simp (disch := first | assumption | (simp only [List.length_set]; assumption)) only [go_sem, Nat.reduceAdd, Nat.reduceMul, Nat.reduceSub, Nat.reduceEqDiff, ↓reduceIte, Nat.reduceLT, reduceCtorEq, Nat.reduceLeDiff, Int.reduceToNat, Int.reduceEq, Int.reduceLE, Int.reduceLT, Nat.reduceBEq, fold_eDomain_rep]
      try refine andA ?_
      try refine andB ?_
      try simp (disch := first | assumption | (simp only [List.length_set]; assumption)) only [go_sem, Nat.reduceAdd, Nat.reduceMul, Nat.reduceSub, Nat.reduceEqDiff, ↓reduceIte, Nat.reduceLT, reduceCtorEq, Nat.reduceLeDiff, Int.reduceToNat, Int.reduceEq, Int.reduceLE, Int.reduceLT, Nat.reduceBEq, fold_eDomain_rep]
      cases hs1
      refine X_backP hk1 ?_
      refine weak_of (m := 0) [some 0] rfl rfl rfl (by rfl) ?_ ?_
      all_goals ((try simp (disch := first | assumption | (simp only [List.length_set]; assumption)) only [go_sem, Nat.reduceAdd, Nat.reduceMul, Nat.reduceSub, Nat.reduceEqDiff, ↓reduceIte, Nat.reduceLT, reduceCtorEq, Nat.reduceLeDiff, Int.reduceToNat, Int.reduceEq, Int.reduceLE, Int.reduceLT, Nat.reduceBEq, fold_eDomain_rep]); (repeat' first | done | rfl | omega | refine And.intro ?_ ?_ | (simp; done) | (simp; omega)))
    · try simp (disch := first | assumption | (simp only [List.length_set]; assumption)) only [go_sem, Nat.reduceAdd, Nat.reduceMul, Nat.reduceSub, Nat.reduceEqDiff, ↓reduceIte, Nat.reduceLT, reduceCtorEq, Nat.reduceLeDiff, Int.reduceToNat, Int.reduceEq, Int.reduceLE, Int.reduceLT, Nat.reduceBEq, fold_eDomain_rep]
      cases hs1
      cases hk1
      try dsimp only at h
      try simp (disch := first | assumption | (simp only [List.length_set]; assumption)) only [go_sem, Nat.reduceAdd, Nat.reduceMul, Nat.reduceSub, Nat.reduceEqDiff, ↓reduceIte, Nat.reduceLT, reduceCtorEq, Nat.reduceLeDiff, Int.reduceToNat, Int.reduceEq, Int.reduceLE, Int.reduceLT, Nat.reduceBEq, fold_eDomain_rep]
      have he := Option.some.inj h
      subst he
      refine ends_weak ⟨[(2, (.os 0 3 0 g9.c0.length g9.c0.length false))], [(0, some (true, .arr false 3 (g9.c0.map eDomain)))], 1, 23⟩ (weak_of (m := 0) [some 0] rfl rfl rfl (by rfl) ?_ ?_) ?_
      all_goals ((try simp (disch := first | assumption | (simp only [List.length_set]; assumption)) only [go_sem, Nat.reduceAdd, Nat.reduceMul, Nat.reduceSub, Nat.reduceEqDiff, ↓reduceIte, Nat.reduceLT, reduceCtorEq, Nat.reduceLeDiff, Int.reduceToNat, Int.reduceEq, Int.reduceLE, Int.reduceLT, Nat.reduceBEq, fold_eDomain_rep]); (repeat' first | done | rfl | omega | refine And.intro ?_ ?_ | (simp; done) | (simp; omega)))
theorem w_spec_l1Name {a0 : ByteArray} {r : Bool} (h : spec_l1Name a0 = some r) : Fn Tryd.prog 34 [(.lf false (.sc (.string a0)))] [] 0 (.lf false (.sc (.bool r))) [] 0 := by
  unfold spec_l1Name at h
  refine fn_code tab_ok mixed [(1000, [(0, 0)]), (1001, [(0, 0), (3, 0)]), (1002, [(0, 0), (3, 0), (7, 0)]), (1003, [(0, 0), (3, 0)]), (1004, [(0, 0), (3, 0), (32, 0)]), (1005, [(2, 0)]), (1006, [(2, 0)]), (4004, [])] Tryd.func34 rfl rfl (by simp [Tryd.f34]) (by kernel_rfl) ?_
  simp only [Tryd.f34]
  refine sA ?_
  obtain ⟨y19, hl1, h⟩ := bind_ok h
  refine W_loopP (fun g16 : spec_l1Name_G1 => ⟨[(0, (.lf false (.sc (.string a0)))), (3, (.lf false (.sc (.int .i64 g16.t3))))], [], 0, 36⟩) (spec_l1Name_L1 a0) _ _ hl1 (weakA []) ?_
  · intro n1 g16 z1 hs1 hk1
    unfold spec_l1Name_L1 at hs1
    try dsimp only at hs1
    refine sA ?_
    refine Bs_if hs1 (fun hs1 hc2 => ?_) (fun hs1 hc2 => ?_)
    · try refine sA ?_
      obtain ⟨p18, hq3, hs1⟩ := bind_ok hs1
      refine Sq_cut (fun s2 => s2 = ⟨[(0, (.lf false (.sc (.string a0)))), (3, (.lf false (.sc (.int .i64 g16.t3)))), (32, (.lf false (.sc (.bool p18.t32))))], [], 0, 36⟩) ?_ ?_
      · try refine sA ?_
        obtain ⟨hp4, hq3⟩ := guard_some hq3
        try refine sA ?_
        try refine andA ?_
        refine Sp_if hq3 (fun hq3 hc5 => ?_) (fun hq3 hc5 => ?_)
        · try refine sA ?_
          obtain ⟨hp6, hq3⟩ := guard_some hq3
          try refine sA ?_
          try refine andA ?_
          refine Sp_if hq3 (fun hq3 hc7 => ?_) (fun hq3 hc7 => ?_)
          · try refine sA ?_
            cases hq3
            exact X_cut rfl (weakA [])
          · try refine sA ?_
            obtain ⟨hp8, hq3⟩ := guard_some hq3
            try refine sA ?_
            try refine andA ?_
            refine Sp_if hq3 (fun hq3 hc9 => ?_) (fun hq3 hc9 => ?_)
            · try refine sA ?_
              obtain ⟨hp10, hq3⟩ := guard_some hq3
              try refine sA ?_
              try refine andA ?_
              cases hq3
              exact X_cut rfl (weakA [])
            · try refine sA ?_
              cases hq3
              exact X_cut rfl (weakA [])
        · try refine sA ?_
          obtain ⟨hp11, hq3⟩ := guard_some hq3
          try refine sA ?_
          try refine andA ?_
          refine Sp_if hq3 (fun hq3 hc12 => ?_) (fun hq3 hc12 => ?_)
          · try refine sA ?_
            obtain ⟨hp13, hq3⟩ := guard_some hq3
            try refine sA ?_
            try refine andA ?_
            cases hq3
            exact X_cut rfl (weakA [])
          · try refine sA ?_
            cases hq3
            exact X_cut rfl (weakA [])
      · intro s2 hJ; subst hJ
        try dsimp only at hs1
        try refine sA ?_
        refine Bs_if hs1 (fun hs1 hc14 => ?_) (fun hs1 hc14 => ?_)
        · try refine sA ?_
          cases hs1
          cases hk1
          try dsimp only at h
          try refine sA ?_
          have he := Option.some.inj h
          subst he
          exact endsA ⟨[(2, (.lf false (.sc (.bool false))))], [], 0, 36⟩ []
        · try refine sA ?_
          cases hs1
          exact X_backP hk1 (weakA [])
    · try refine sA ?_
      cases hs1
      cases hk1
      try dsimp only at h
      try refine sA ?_
      have he := Option.some.inj h
      subst he
      exact endsA ⟨[(2, (.lf false (.sc (.bool (decide ((a0.size : Int) ≤ 12))))))], [], 0, 36⟩ []
theorem w_spec_l1In {a0 : Int} {a1 : Int} {a2 : Int} {r : Bool} (h : spec_l1In a0 a1 a2 = some r) : Fn Tryd.prog 60 [(.lf false (.sc (.int .i64 a0))), (.lf false (.sc (.int .i64 a1))), (.lf false (.sc (.int .i64 a2)))] [] 0 (.lf false (.sc (.bool r))) [] 0 := by
  unfold spec_l1In at h
  refine fn_code tab_ok mixed [] Tryd.func60 rfl rfl (by simp [Tryd.f60]) (by kernel_rfl) ?_
  simp only [Tryd.f60]
  refine sA ?_
  refine Sp_if h (fun h hc1 => ?_) (fun h hc1 => ?_)
  · try refine sA ?_
    have he := Option.some.inj h
    subst he
    exact endsA ⟨[(6, (.lf false (.sc (.bool (decide (a0 ≤ a2))))))], [], 0, 15⟩ []
  · try refine sA ?_
    have he := Option.some.inj h
    subst he
    exact endsA ⟨[(6, (.lf false (.sc (.bool false))))], [], 0, 15⟩ []
theorem w_spec_l13Version {a0 : Int} {r : Bool} (h : spec_l13Version a0 = some r) : Fn Tryd.prog 35 [(.lf false (.sc (.int .i64 a0)))] [] 0 (.lf false (.sc (.bool r))) [] 0 := by
  unfold spec_l13Version at h
  refine fn_code tab_ok mixed [] Tryd.func35 rfl rfl (by simp [Tryd.f35]) (by kernel_rfl) ?_
  simp only [Tryd.f35]
  refine sA ?_
  obtain ⟨c23, hr1, h⟩ := bind_ok h
  refine Cl_sA (w_spec_l1In hr1) ?_
  try refine sA ?_
  have he := Option.some.inj h
  subst he
  exact endsA ⟨[(2, (.lf false (.sc (.bool c23))))], [], 0, 5⟩ []
theorem w_spec_GoodDomains {a0 : (List DomainT)} {r : Bool} (h : spec_GoodDomains a0 = some r) : Fn Tryd.prog 10 [(.lf true (.sl (a0.map eDomain)))] [] 0 (.lf false (.sc (.bool r))) [] 0 := by
  unfold spec_GoodDomains at h
  refine fn_code tab_ok mixed [(1000, [(0, 0)]), (1001, [(0, 0), (5, 0), (6, 0), (7, 0)]), (1002, [(0, 0), (5, 0), (6, 0), (7, 0), (8, 0)]), (1003, [(0, 0), (3, 0), (4, 0), (5, 0), (6, 0), (7, 0)]), (1004, [(0, 0), (5, 0), (6, 0), (7, 0), (47, 0)]), (1005, [(2, 0)]), (1006, [(0, 0), (5, 0), (6, 0), (7, 0)]), (1007, [(2, 0)]), (4004, [])] Tryd.func10 rfl rfl (by simp [Tryd.f10]) (by kernel_rfl) ?_
  simp only [Tryd.f10]
  refine sA ?_
  obtain ⟨y29, hl1, h⟩ := bind_ok h
  refine W_loopP (fun g15 : spec_GoodDomains_G1 => ⟨[(0, (.lf true (.sl (a0.map eDomain)))), (5, (.lf true (.sl (a0.map eDomain)))), (6, (.lf false (.sc (.int .i64 ((a0.length : Nat) : Int))))), (7, (.lf false (.sc (.int .i64 g15.t7))))], [], 0, 52⟩) (spec_GoodDomains_L1 a0) _ _ hl1 (weakA []) ?_
  · intro n1 g15 z1 hs1 hk1
    unfold spec_GoodDomains_L1 at hs1
    try dsimp only at hs1
    refine sA ?_
    refine Bs_if hs1 (fun hs1 hc2 => ?_) (fun hs1 hc2 => ?_)
    · try refine sA ?_
      obtain ⟨hp3, hs1⟩ := guard_some hs1
      have hn3 : g15.t7.toNat < a0.length := by first | omega | (simp only [List.length_set, List.length_append, List.length_replicate, List.length_map]; omega)
      try refine sA ?_
      try refine andA ?_
      obtain ⟨p28, hq4, hs1⟩ := bind_ok hs1
      refine Sq_cut (fun s2 => s2 = ⟨[(0, (.lf true (.sl (a0.map eDomain)))), (5, (.lf true (.sl (a0.map eDomain)))), (6, (.lf false (.sc (.int .i64 ((a0.length : Nat) : Int))))), (7, (.lf false (.sc (.int .i64 g15.t7)))), (47, (.lf false (.sc (.bool p28.t47))))], [], 0, 52⟩) ?_ ?_
      · try refine sA ?_
        obtain ⟨c26, hr5, hq4⟩ := bind_ok hq4
        refine Cl_sA (w_spec_l1Name hr5) ?_
        try refine sA ?_
        refine Sp_if hq4 (fun hq4 hc6 => ?_) (fun hq4 hc6 => ?_)
        · try refine sA ?_
          cases hq4
          exact X_cut rfl (weakA [])
        · try refine sA ?_
          refine Sp_if hq4 (fun hq4 hc7 => ?_) (fun hq4 hc7 => ?_)
          · try refine sA ?_
            cases hq4
            exact X_cut rfl (weakA [])
          · try refine sA ?_
            obtain ⟨c27, hr8, hq4⟩ := bind_ok hq4
            refine Cl_sA (w_spec_l13Version hr8) ?_
            try refine sA ?_
            refine Sp_if hq4 (fun hq4 hc9 => ?_) (fun hq4 hc9 => ?_)
            · try refine sA ?_
              cases hq4
              exact X_cut rfl (weakA [])
            · try refine sA ?_
              refine Sp_if hq4 (fun hq4 hc10 => ?_) (fun hq4 hc10 => ?_)
              · try refine sA ?_
                cases hq4
                exact X_cut rfl (weakA [])
              · try refine sA ?_
                refine Sp_if hq4 (fun hq4 hc11 => ?_) (fun hq4 hc11 => ?_)
                · try refine sA ?_
                  obtain ⟨hp12, hq4⟩ := guard_some hq4
                  have hn12 : (wI (g15.t7 - 1)).toNat < a0.length := by first | omega | (simp only [List.length_set, List.length_append, List.length_replicate, List.length_map]; omega)
                  try refine sA ?_
                  try refine andA ?_
                  cases hq4
                  exact X_cut rfl (weakA [])
                · try refine sA ?_
                  cases hq4
                  exact X_cut rfl (weakA [])
      · intro s2 hJ; subst hJ
        try dsimp only at hs1
        try refine sA ?_
        refine Bs_if hs1 (fun hs1 hc13 => ?_) (fun hs1 hc13 => ?_)
        · try refine sA ?_
          cases hs1
          cases hk1
          try dsimp only at h
          try refine sA ?_
          have he := Option.some.inj h
          subst he
          exact endsA ⟨[(2, (.lf false (.sc (.bool false))))], [], 0, 52⟩ []
        · try refine sA ?_
          cases hs1
          exact X_backP hk1 (weakA [])
    · try refine sA ?_
      cases hs1
      cases hk1
      try dsimp only at h
      try refine sA ?_
      have he := Option.some.inj h
      subst he
      exact endsA ⟨[(2, (.lf false (.sc (.bool (decide (((a0.length : Nat) : Int) ≤ 12))))))], [], 0, 52⟩ []
theorem w_spec_l13Less {a0 : DomainT} {a1 : DomainT} {r : Bool} (h : spec_l13Less a0 a1 = some r) : Fn Tryd.prog 42 [(.ag [(.lf false (.sc (.string a0.Name))), (.lf false (.sc (.int .i64 a0.Version))), (.lf false (.sc (.string a0.Note)))]), (.ag [(.lf false (.sc (.string a1.Name))), (.lf false (.sc (.int .i64 a1.Version))), (.lf false (.sc (.string a1.Note)))])] [] 0 (.lf false (.sc (.bool r))) [] 0 := by
  unfold spec_l13Less at h
  refine fn_code tab_ok mixed [] Tryd.func42 rfl rfl (by simp [Tryd.f42]) (by kernel_rfl) ?_
  simp only [Tryd.f42]
  refine sA ?_
  refine Sp_if h (fun h hc1 => ?_) (fun h hc1 => ?_)
  · try refine sA ?_
    have he := Option.some.inj h
    subst he
    exact endsA ⟨[(4, (.lf false (.sc (.bool true))))], [], 0, 24⟩ []
  · try refine sA ?_
    refine Sp_if h (fun h hc2 => ?_) (fun h hc2 => ?_)
    · try refine sA ?_
      have he := Option.some.inj h
      subst he
      exact endsA ⟨[(4, (.lf false (.sc (.bool (sLt a0.Note a1.Note)))))], [], 0, 24⟩ []
    · try refine sA ?_
      have he := Option.some.inj h
      subst he
      exact endsA ⟨[(4, (.lf false (.sc (.bool false))))], [], 0, 24⟩ []
theorem w_spec_KnowsAll {a0 : (List DomainT)} {a1 : (List DomainT)} {r : (Bool × Bool)} (h : spec_KnowsAll a0 a1 = some r) : Fn Tryd.prog 16 [(.lf true (.sl (a0.map eDomain))), (.lf true (.sl (a1.map eDomain)))] [] 0 (.tu [(.lf false (.sc (.bool r.1))), (.lf false (.sc (.bool r.2)))]) [] 0 := by
  unfold spec_KnowsAll at h
  refine fn_code tab_ok mixed [(1000, [(0, 0), (1, 0)]), (1001, [(0, 0), (1, 0), (18, 0)]), (1002, [(4, 0), (5, 0)]), (1003, [(1, 0), (19, 0), (20, 0), (21, 0)]), (1004, [(1, 0), (19, 0), (20, 0), (21, 0), (22, 0)]), (1005, [(1, 0), (7, 0), (19, 0), (20, 0), (21, 0)]), (1006, [(1, 0), (7, 0), (8, 0), (19, 0), (20, 0), (21, 0)]), (1007, [(1, 0), (7, 0), (8, 0), (19, 0), (20, 0), (21, 0), (25, 0), (26, 0), (27, 0)]), (1008, [(1, 0), (7, 0), (8, 0), (19, 0), (20, 0), (21, 0), (25, 0), (26, 0), (27, 0), (28, 0)]), (1009, [(1, 0), (7, 0), (8, 0), (10, 0), (19, 0), (20, 0), (21, 0), (25, 0), (26, 0), (27, 0)]), (1010, [(1, 0), (7, 0), (8, 0), (19, 0), (20, 0), (21, 0), (25, 0), (26, 0), (27, 0)]), (1011, [(1, 0), (7, 0), (8, 0), (19, 0), (20, 0), (21, 0), (25, 0), (26, 0), (27, 0)]), (1012, [(1, 0), (19, 0), (20, 0), (21, 0), (47, 0)]), (1013, [(4, 0), (5, 0)]), (1014, [(1, 0), (19, 0), (20, 0), (21, 0)]), (1015, [(4, 0), (5, 0)]), (4001, [])] Tryd.func16 rfl rfl (by simp [Tryd.f16]) (by kernel_rfl) ?_
  simp only [Tryd.f16]
  refine sA ?_
  obtain ⟨p34, hq1, h⟩ := bind_ok h
  refine Sq_cut (fun s2 => s2 = ⟨[(0, (.lf true (.sl (a0.map eDomain)))), (1, (.lf true (.sl (a1.map eDomain)))), (18, (.lf false (.sc (.bool p34.t18))))], [], 0, 49⟩) ?_ ?_
  · try refine sA ?_
    obtain ⟨c32, hr2, hq1⟩ := bind_ok hq1
    refine Cl_sA (w_spec_GoodDomains hr2) ?_
    try refine sA ?_
    refine Sp_if hq1 (fun hq1 hc3 => ?_) (fun hq1 hc3 => ?_)
    · try refine sA ?_
      cases hq1
      exact X_cut rfl (weakA [])
    · try refine sA ?_
      obtain ⟨c33, hr4, hq1⟩ := bind_ok hq1
      refine Cl_sA (w_spec_GoodDomains hr4) ?_
      try refine sA ?_
      cases hq1
      exact X_cut rfl (weakA [])
  · intro s2 hJ; subst hJ
    try dsimp only at h
    try refine sA ?_
    refine Bs_if h (fun h hc5 => ?_) (fun h hc5 => ?_)
    · try refine sA ?_
      have he := Option.some.inj h
      subst he
      exact endsA ⟨[(4, (.lf false (.sc (.bool false)))), (5, (.lf false (.sc (.bool false))))], [], 0, 49⟩ []
    · try refine sA ?_
      obtain ⟨y44, hl6, h⟩ := bind_ok h
      refine W_loopP (fun g35 : spec_KnowsAll_G1 => ⟨[(1, (.lf true (.sl (a1.map eDomain)))), (19, (.lf true (.sl (a0.map eDomain)))), (20, (.lf false (.sc (.int .i64 ((a0.length : Nat) : Int))))), (21, (.lf false (.sc (.int .i64 g35.t21))))], [], 0, 49⟩) (spec_KnowsAll_L1 a0 a1) _ _ hl6 (weakA []) ?_
      · intro n1 g35 z1 hs1 hk1
        unfold spec_KnowsAll_L1 at hs1
        try dsimp only at hs1
        refine sA ?_
        refine Bs_if hs1 (fun hs1 hc7 => ?_) (fun hs1 hc7 => ?_)
        · try refine sA ?_
          obtain ⟨hp8, hs1⟩ := guard_some hs1
          have hn8 : g35.t21.toNat < a0.length := by first | omega | (simp only [List.length_set, List.length_append, List.length_replicate, List.length_map]; omega)
          try refine sA ?_
          try refine andA ?_
          obtain ⟨y43, hl9, hs1⟩ := bind_ok hs1
          refine W_loopP (fun g40 : spec_KnowsAll_G2 => ⟨[(1, (.lf true (.sl (a1.map eDomain)))), (7, (.pb 0 0)), (8, (.lf false (.sc (.bool g40.t8)))), (19, (.lf true (.sl (a0.map eDomain)))), (20, (.lf false (.sc (.int .i64 ((a0.length : Nat) : Int))))), (21, (.lf false (.sc (.int .i64 g35.t21)))), (25, (.lf true (.sl (a1.map eDomain)))), (26, (.lf false (.sc (.int .i64 ((a1.length : Nat) : Int))))), (27, (.lf false (.sc (.int .i64 g40.t27))))], [(0, some (true, .box [(.lf false (.sc (.string ((nth a0 g35.t21.toNat).Name)))), (.lf false (.sc (.int .i64 ((nth a0 g35.t21.toNat).Version)))), (.lf false (.sc (.string ((nth a0 g35.t21.toNat).Note))))]))], 1, 49⟩) (spec_KnowsAll_L2 a1 a0 g35) _ _ hl9 (weakA [some 0]) ?_
          · intro n2 g40 z2 hs2 hk2
            unfold spec_KnowsAll_L2 at hs2
            try dsimp only at hs2
            refine sA ?_
            refine Bs_if hs2 (fun hs2 hc10 => ?_) (fun hs2 hc10 => ?_)
            · try refine sA ?_
              obtain ⟨hp11, hs2⟩ := guard_some hs2
              have hn11 : g40.t27.toNat < a1.length := by first | omega | (simp only [List.length_set, List.length_append, List.length_replicate, List.length_map]; omega)
              try refine sA ?_
              try refine andA ?_
              refine Sp_if hs2 (fun hs2 hc12 => ?_) (fun hs2 hc12 => ?_)
              · try refine sA ?_
                cases hs2
                exact X_backP hk2 (weakA [some 0])
              · try refine sA ?_
                refine Sp_if hs2 (fun hs2 hc13 => ?_) (fun hs2 hc13 => ?_)
                · try refine sA ?_
                  obtain ⟨c42, hr14, hs2⟩ := bind_ok hs2
                  refine Cl_sA (w_spec_l13Less hr14) ?_
                  try refine sA ?_
                  cases hs2
                  exact X_backP hk2 (weakA [some 0])
                · try refine sA ?_
                  cases hs2
                  exact X_backP hk2 (weakA [some 0])
            · try refine sA ?_
              cases hs2
              cases hk2
              try dsimp only at hs1
              try refine sA ?_
              refine Bs_if hs1 (fun hs1 hc15 => ?_) (fun hs1 hc15 => ?_)
              · try refine sA ?_
                cases hs1
                cases hk1
                try dsimp only at h
                try refine sA ?_
                have he := Option.some.inj h
                subst he
                exact endsA ⟨[(4, (.lf false (.sc (.bool false)))), (5, (.lf false (.sc (.bool true))))], [], 0, 49⟩ []
              · try refine sA ?_
                cases hs1
                exact X_backP hk1 (weakA [])
        · try refine sA ?_
          cases hs1
          cases hk1
          try dsimp only at h
          try refine sA ?_
          have he := Option.some.inj h
          subst he
          exact endsA ⟨[(4, (.lf false (.sc (.bool true)))), (5, (.lf false (.sc (.bool true))))], [], 0, 49⟩ []
theorem w_strings_Trim {a0 a1 : ByteArray} {r : ByteArray} (h : strings_Trim a0 a1 = some r) : Fn Tryd.prog 61 [.lf false (.sc (.string a0)), .lf false (.sc (.string a1))] [] 0 (.lf false (.sc (.string r))) [] 0 := by
  unfold strings_Trim at h
  obtain ⟨⟨hp1, hp2, hp3⟩, h⟩ := guard_some h
  have he := Option.some.inj h; subst he
  exact fn_str2 (Ent.of Tryd.func61 rfl (by simp [Tryd.f61])) fun w => Go.Proofs.Any.strings_Trim_laid Go.Proofs.Tryd.lays160 (by kernel_rfl) a0 a1 w hp1 hp2 (ascii_of_all hp3)
theorem w_impl_goodName {a0 : ByteArray} {r : Bool} (h : impl_goodName a0 = some r) : Fn Tryd.prog 37 [(.lf false (.sc (.string a0)))] [] 0 (.lf false (.sc (.bool r))) [] 0 := by
  unfold impl_goodName at h
  refine fn_code tab_ok mixed [] Tryd.func37 rfl rfl (by simp [Tryd.f37]) (by kernel_rfl) ?_
  simp only [Tryd.f37]
  refine sA ?_
  refine Sp_if h (fun h hc1 => ?_) (fun h hc1 => ?_)
  · try refine sA ?_
    obtain ⟨c51, hr2, h⟩ := bind_ok h
    refine Cl_sA (w_strings_Trim hr2) ?_
    try refine sA ?_
    have he := Option.some.inj h
    subst he
    exact endsA ⟨[(2, (.lf false (.sc (.bool (c51.toList == ByteArray.empty.toList)))))], [], 0, 11⟩ []
  · try refine sA ?_
    have he := Option.some.inj h
    subst he
    exact endsA ⟨[(2, (.lf false (.sc (.bool false))))], [], 0, 11⟩ []
theorem w_impl_in {a0 : Int} {a1 : Int} {a2 : Int} {r : Bool} (h : impl_in a0 a1 a2 = some r) : Fn Tryd.prog 62 [(.lf false (.sc (.int .i64 a0))), (.lf false (.sc (.int .i64 a1))), (.lf false (.sc (.int .i64 a2)))] [] 0 (.lf false (.sc (.bool r))) [] 0 := by
  unfold impl_in at h
  refine fn_code tab_ok mixed [] Tryd.func62 rfl rfl (by simp [Tryd.f62]) (by kernel_rfl) ?_
  simp only [Tryd.f62]
  refine sA ?_
  refine Sp_if h (fun h hc1 => ?_) (fun h hc1 => ?_)
  · try refine sA ?_
    have he := Option.some.inj h
    subst he
    exact endsA ⟨[(6, (.lf false (.sc (.bool (decide (a0 ≤ a2))))))], [], 0, 15⟩ []
  · try refine sA ?_
    have he := Option.some.inj h
    subst he
    exact endsA ⟨[(6, (.lf false (.sc (.bool false))))], [], 0, 15⟩ []
theorem w_impl_isVersion {a0 : Int} {r : Bool} (h : impl_isVersion a0 = some r) : Fn Tryd.prog 38 [(.lf false (.sc (.int .i64 a0)))] [] 0 (.lf false (.sc (.bool r))) [] 0 := by
  unfold impl_isVersion at h
  refine fn_code tab_ok mixed [] Tryd.func38 rfl rfl (by simp [Tryd.f38]) (by kernel_rfl) ?_
  simp only [Tryd.f38]
  refine sA ?_
  obtain ⟨c53, hr1, h⟩ := bind_ok h
  refine Cl_sA (w_impl_in hr1) ?_
  try refine sA ?_
  have he := Option.some.inj h
  subst he
  exact endsA ⟨[(2, (.lf false (.sc (.bool c53))))], [], 0, 5⟩ []
theorem w_impl_GoodDomains {a0 : (List DomainT)} {r : Bool} (h : impl_GoodDomains a0 = some r) : Fn Tryd.prog 12 [(.lf true (.sl (a0.map eDomain)))] [] 0 (.lf false (.sc (.bool r))) [] 0 := by
  unfold impl_GoodDomains at h
  refine fn_code tab_ok mixed [(1000, [(0, 0)]), (1001, [(0, 0), (7, 0)]), (1002, [(2, 0)]), (1003, [(0, 0), (8, 0), (9, 0), (10, 0)]), (1004, [(0, 0), (8, 0), (9, 0), (10, 0), (11, 0)]), (1005, [(0, 0), (3, 0), (4, 0), (8, 0), (9, 0), (10, 0)]), (1006, [(0, 0), (8, 0), (9, 0), (10, 0), (50, 0)]), (1007, [(2, 0)]), (1008, [(0, 0), (8, 0), (9, 0), (10, 0)]), (1009, [(2, 0)]), (4006, [])] Tryd.func12 rfl rfl (by simp [Tryd.f12]) (by kernel_rfl) ?_
  simp only [Tryd.f12]
  refine sA ?_
  refine Bs_if h (fun h hc1 => ?_) (fun h hc1 => ?_)
  · try refine sA ?_
    have he := Option.some.inj h
    subst he
    exact endsA ⟨[(2, (.lf false (.sc (.bool false))))], [], 0, 52⟩ []
  · try refine sA ?_
    obtain ⟨y59, hl2, h⟩ := bind_ok h
    refine W_loopP (fun g50 : impl_GoodDomains_G1 => ⟨[(0, (.lf true (.sl (a0.map eDomain)))), (8, (.lf true (.sl (a0.map eDomain)))), (9, (.lf false (.sc (.int .i64 ((a0.length : Nat) : Int))))), (10, (.lf false (.sc (.int .i64 g50.t10))))], [], 0, 52⟩) (impl_GoodDomains_L1 a0) _ _ hl2 (weakA []) ?_
    · intro n1 g50 z1 hs1 hk1
      unfold impl_GoodDomains_L1 at hs1
      try dsimp only at hs1
      refine sA ?_
      refine Bs_if hs1 (fun hs1 hc3 => ?_) (fun hs1 hc3 => ?_)
      · try refine sA ?_
        obtain ⟨hp4, hs1⟩ := guard_some hs1
        have hn4 : g50.t10.toNat < a0.length := by first | omega | (simp only [List.length_set, List.length_append, List.length_replicate, List.length_map]; omega)
        try refine sA ?_
        try refine andA ?_
        obtain ⟨p58, hq5, hs1⟩ := bind_ok hs1
        refine Sq_cut (fun s2 => s2 = ⟨[(0, (.lf true (.sl (a0.map eDomain)))), (8, (.lf true (.sl (a0.map eDomain)))), (9, (.lf false (.sc (.int .i64 ((a0.length : Nat) : Int))))), (10, (.lf false (.sc (.int .i64 g50.t10)))), (50, (.lf false (.sc (.bool p58.t50))))], [], 0, 52⟩) ?_ ?_
        · try refine sA ?_
          refine Sp_if hq5 (fun hq5 hc6 => ?_) (fun hq5 hc6 => ?_)
          · try refine sA ?_
            cases hq5
            exact X_cut rfl (weakA [])
          · try refine sA ?_
            obtain ⟨c56, hr7, hq5⟩ := bind_ok hq5
            refine Cl_sA (w_impl_goodName hr7) ?_
            try refine sA ?_
            refine Sp_if hq5 (fun hq5 hc8 => ?_) (fun hq5 hc8 => ?_)
            · try refine sA ?_
              cases hq5
              exact X_cut rfl (weakA [])
            · try refine sA ?_
              obtain ⟨c57, hr9, hq5⟩ := bind_ok hq5
              refine Cl_sA (w_impl_isVersion hr9) ?_
              try refine sA ?_
              refine Sp_if hq5 (fun hq5 hc10 => ?_) (fun hq5 hc10 => ?_)
              · try refine sA ?_
                cases hq5
                exact X_cut rfl (weakA [])
              · try refine sA ?_
                refine Sp_if hq5 (fun hq5 hc11 => ?_) (fun hq5 hc11 => ?_)
                · try refine sA ?_
                  cases hq5
                  exact X_cut rfl (weakA [])
                · try refine sA ?_
                  refine Sp_if hq5 (fun hq5 hc12 => ?_) (fun hq5 hc12 => ?_)
                  · try refine sA ?_
                    obtain ⟨hp13, hq5⟩ := guard_some hq5
                    have hn13 : (wI (g50.t10 - 1)).toNat < a0.length := by first | omega | (simp only [List.length_set, List.length_append, List.length_replicate, List.length_map]; omega)
                    try refine sA ?_
                    try refine andA ?_
                    cases hq5
                    exact X_cut rfl (weakA [])
                  · try refine sA ?_
                    cases hq5
                    exact X_cut rfl (weakA [])
        · intro s2 hJ; subst hJ
          try dsimp only at hs1
          try refine sA ?_
          refine Bs_if hs1 (fun hs1 hc14 => ?_) (fun hs1 hc14 => ?_)
          · try refine sA ?_
            cases hs1
            cases hk1
            try dsimp only at h
            try refine sA ?_
            have he := Option.some.inj h
            subst he
            exact endsA ⟨[(2, (.lf false (.sc (.bool false))))], [], 0, 52⟩ []
          · try refine sA ?_
            cases hs1
            exact X_backP hk1 (weakA [])
      · try refine sA ?_
        cases hs1
        cases hk1
        try dsimp only at h
        try refine sA ?_
        have he := Option.some.inj h
        subst he
        exact endsA ⟨[(2, (.lf false (.sc (.bool true))))], [], 0, 52⟩ []
theorem w_impl_domainAt_c1_r {a0 : DomainT} {a1 : ByteArray} {r : Bool} (h : impl_domainAt_c1_r a0 a1 = some r) : Fn Tryd.prog 64 [(.ag [(.lf false (.sc (.string a0.Name))), (.lf false (.sc (.int .i64 a0.Version))), (.lf false (.sc (.string a0.Note)))]), (.ra true [.sc (.string a1)])] [] 0 (.lf false (.sc (.bool r))) [] 0 := by
  unfold impl_domainAt_c1_r at h
  refine fn_code tab_ok mixed [] Tryd.func64 rfl rfl (by simp [Tryd.f64]) (by kernel_rfl) ?_
  simp only [Tryd.f64]
  refine sA ?_
  have he := Option.some.inj h
  subst he
  exact endsA ⟨[(3, (.lf false (.sc (.bool (a0.Name.toList == a1.toList)))))], [], 0, 8⟩ []
theorem w_slices_IndexFunc_impl_Domain_impl_domainAt_c1r {a0 : (List DomainT)} {a1 : ByteArray} {r : Int} (h : slices_IndexFunc_impl_Domain_impl_domainAt_c1r a0 a1 = some r) : Fn Tryd.prog 63 [(.lf true (.sl (a0.map eDomain))), (.fn 64 [(.ra true [.sc (.string a1)])])] [] 0 (.lf false (.sc (.int .i64 r))) [] 0 := by
  unfold slices_IndexFunc_impl_Domain_impl_domainAt_c1r at h
  refine fn_code tab_ok mixed [(1000, [(0, 0), (1, 0)]), (1001, [(0, 0), (1, 0), (7, 0), (8, 0)]), (1002, [(0, 0), (1, 0), (7, 0), (8, 0), (9, 0)]), (1003, [(0, 0), (1, 0), (5, 0), (7, 0), (8, 0)]), (1004, [(0, 0), (1, 0), (5, 0), (7, 0), (8, 0), (16, 0)]), (1005, [(4, 0)]), (1006, [(0, 0), (1, 0), (7, 0), (8, 0)]), (1007, [(4, 0)])] Tryd.func63 rfl rfl (by simp [Tryd.f63]) (by kernel_rfl) ?_
  simp only [Tryd.f63]
  refine sA ?_
  obtain ⟨y69, hl1, h⟩ := bind_ok h
  refine W_loopP (fun g66 : slices_IndexFunc_impl_Domain_impl_domainAt_c1r_G1 => ⟨[(0, (.lf true (.sl (a0.map eDomain)))), (1, (.fn 64 [(.ra true [.sc (.string a1)])])), (7, (.lf false (.sc (.int .i64 ((a0.length : Nat) : Int))))), (8, (.lf false (.sc (.int .i64 g66.t8))))], [], 0, 19⟩) (slices_IndexFunc_impl_Domain_impl_domainAt_c1r_L1 a0 a1) _ _ hl1 (weakA []) ?_
  · intro n1 g66 z1 hs1 hk1
    unfold slices_IndexFunc_impl_Domain_impl_domainAt_c1r_L1 at hs1
    try dsimp only at hs1
    refine sA ?_
    refine Bs_if hs1 (fun hs1 hc2 => ?_) (fun hs1 hc2 => ?_)
    · try refine sA ?_
      obtain ⟨hp3, hs1⟩ := guard_some hs1
      have hn3 : g66.t8.toNat < a0.length := by first | omega | (simp only [List.length_set, List.length_append, List.length_replicate, List.length_map]; omega)
      try refine sA ?_
      try refine andA ?_
      obtain ⟨c68, hr4, hs1⟩ := bind_ok hs1
      refine Cl_sA (w_impl_domainAt_c1_r hr4) ?_
      try refine sA ?_
      refine Bs_if hs1 (fun hs1 hc5 => ?_) (fun hs1 hc5 => ?_)
      · try refine sA ?_
        cases hs1
        cases hk1
        try dsimp only at h
        try refine sA ?_
        have he := Option.some.inj h
        subst he
        exact endsA ⟨[(4, (.lf false (.sc (.int .i64 g66.t8))))], [], 0, 19⟩ []
      · try refine sA ?_
        cases hs1
        exact X_backP hk1 (weakA [])
    · try refine sA ?_
      cases hs1
      cases hk1
      try dsimp only at h
      try refine sA ?_
      have he := Option.some.inj h
      subst he
      exact endsA ⟨[(4, (.lf false (.sc (.int .i64 (-1)))))], [], 0, 19⟩ []
theorem w_impl_domainAt {a0 : (List DomainT)} {a1 : ByteArray} {r : Int} (h : impl_domainAt a0 a1 = some r) : Fn Tryd.prog 40 [(.lf true (.sl (a0.map eDomain))), (.lf false (.sc (.string a1)))] [] 0 (.lf false (.sc (.int .i64 r))) [] 0 := by
  unfold impl_domainAt at h
  refine fn_code tab_ok mixed [] Tryd.func40 rfl rfl (by simp [Tryd.f40]) (by kernel_rfl) ?_
  simp only [Tryd.f40]
  refine sA ?_
  obtain ⟨c72, hr1, h⟩ := bind_ok h
  refine Cl_sA (w_slices_IndexFunc_impl_Domain_impl_domainAt_c1r hr1) ?_
  try refine sA ?_
  have he := Option.some.inj h
  subst he
  exact endsA ⟨[(4, (.lf false (.sc (.int .i64 c72))))], [], 0, 8⟩ []
theorem w_cmp_isNaN_int {a0 : Int} {r : Bool} (h : cmp_isNaN_int a0 = some r) : Fn Tryd.prog 82 [(.lf false (.sc (.int .i64 a0)))] [] 0 (.lf false (.sc (.bool r))) [] 0 := by
  unfold cmp_isNaN_int at h
  refine fn_code tab_ok mixed [] Tryd.func82 rfl rfl (by simp [Tryd.f82]) (by kernel_rfl) ?_
  simp only [Tryd.f82]
  refine sA ?_
  have he := Option.some.inj h
  subst he
  exact endsA ⟨[(2, (.lf false (.sc (.bool (a0 != a0)))))], [], 0, 6⟩ []
theorem w_cmp_Compare_int {a0 : Int} {a1 : Int} {r : Int} (h : cmp_Compare_int a0 a1 = some r) : Fn Tryd.prog 66 [(.lf false (.sc (.int .i64 a0))), (.lf false (.sc (.int .i64 a1)))] [] 0 (.lf false (.sc (.int .i64 r))) [] 0 := by
  unfold cmp_Compare_int at h
  refine fn_code tab_ok mixed [(1000, [(0, 0), (1, 0)]), (1001, [(0, 0), (1, 0), (5, 0)]), (1002, [(0, 0), (1, 0), (5, 0), (6, 0)]), (1003, [(0, 0), (1, 0), (6, 0), (11, 0)]), (1004, [(12, 0)]), (1005, [(4, 0)]), (1006, [(4, 0)]), (1007, [(0, 0), (1, 0), (13, 0)]), (1008, [(4, 0)]), (1009, [(0, 0), (1, 0), (16, 0)]), (1010, [(4, 0)]), (1011, [(19, 0)]), (1012, [(4, 0)]), (1013, [(4, 0)])] Tryd.func66 rfl rfl (by simp [Tryd.f66]) (by kernel_rfl) ?_
  simp only [Tryd.f66]
  refine sA ?_
  obtain ⟨c74, hr1, h⟩ := bind_ok h
  refine Cl_sA (w_cmp_isNaN_int hr1) ?_
  try refine sA ?_
  obtain ⟨c75, hr2, h⟩ := bind_ok h
  refine Cl_sA (w_cmp_isNaN_int hr2) ?_
  try refine sA ?_
  refine Bs_if h (fun h hc3 => ?_) (fun h hc3 => ?_)
  · try refine sA ?_
    refine Bs_if h (fun h hc4 => ?_) (fun h hc4 => ?_)
    · try refine sA ?_
      have he := Option.some.inj h
      subst he
      exact endsA ⟨[(4, (.lf false (.sc (.int .i64 0))))], [], 0, 20⟩ []
    · try refine sA ?_
      have he := Option.some.inj h
      subst he
      exact endsA ⟨[(4, (.lf false (.sc (.int .i64 (-1)))))], [], 0, 20⟩ []
  · try refine sA ?_
    refine Bs_if h (fun h hc5 => ?_) (fun h hc5 => ?_)
    · try refine sA ?_
      have he := Option.some.inj h
      subst he
      exact endsA ⟨[(4, (.lf false (.sc (.int .i64 1))))], [], 0, 20⟩ []
    · try refine sA ?_
      refine Bs_if h (fun h hc6 => ?_) (fun h hc6 => ?_)
      · try refine sA ?_
        have he := Option.some.inj h
        subst he
        exact endsA ⟨[(4, (.lf false (.sc (.int .i64 (-1)))))], [], 0, 20⟩ []
      · try refine sA ?_
        refine Bs_if h (fun h hc7 => ?_) (fun h hc7 => ?_)
        · try refine sA ?_
          have he := Option.some.inj h
          subst he
          exact endsA ⟨[(4, (.lf false (.sc (.int .i64 1))))], [], 0, 20⟩ []
        · try refine sA ?_
          have he := Option.some.inj h
          subst he
          exact endsA ⟨[(4, (.lf false (.sc (.int .i64 0))))], [], 0, 20⟩ []
theorem w_cmp_isNaN_string {a0 : ByteArray} {r : Bool} (h : cmp_isNaN_string a0 = some r) : Fn Tryd.prog 83 [(.lf false (.sc (.string a0)))] [] 0 (.lf false (.sc (.bool r))) [] 0 := by
  unfold cmp_isNaN_string at h
  refine fn_code tab_ok mixed [] Tryd.func83 rfl rfl (by simp [Tryd.f83]) (by kernel_rfl) ?_
  simp only [Tryd.f83]
  refine sA ?_
  have he := Option.some.inj h
  subst he
  exact endsA ⟨[(2, (.lf false (.sc (.bool (!(a0.toList == a0.toList))))))], [], 0, 6⟩ []
theorem w_cmp_Compare_string {a0 : ByteArray} {a1 : ByteArray} {r : Int} (h : cmp_Compare_string a0 a1 = some r) : Fn Tryd.prog 67 [(.lf false (.sc (.string a0))), (.lf false (.sc (.string a1)))] [] 0 (.lf false (.sc (.int .i64 r))) [] 0 := by
  unfold cmp_Compare_string at h
  refine fn_code tab_ok mixed [(1000, [(0, 0), (1, 0)]), (1001, [(0, 0), (1, 0), (5, 0)]), (1002, [(0, 0), (1, 0), (5, 0), (6, 0)]), (1003, [(0, 0), (1, 0), (6, 0), (11, 0)]), (1004, [(12, 0)]), (1005, [(4, 0)]), (1006, [(4, 0)]), (1007, [(0, 0), (1, 0), (13, 0)]), (1008, [(4, 0)]), (1009, [(0, 0), (1, 0), (16, 0)]), (1010, [(4, 0)]), (1011, [(19, 0)]), (1012, [(4, 0)]), (1013, [(4, 0)])] Tryd.func67 rfl rfl (by simp [Tryd.f67]) (by kernel_rfl) ?_
  simp only [Tryd.f67]
  refine sA ?_
  obtain ⟨c77, hr1, h⟩ := bind_ok h
  refine Cl_sA (w_cmp_isNaN_string hr1) ?_
  try refine sA ?_
  obtain ⟨c78, hr2, h⟩ := bind_ok h
  refine Cl_sA (w_cmp_isNaN_string hr2) ?_
  try refine sA ?_
  refine Bs_if h (fun h hc3 => ?_) (fun h hc3 => ?_)
  · try refine sA ?_
    refine Bs_if h (fun h hc4 => ?_) (fun h hc4 => ?_)
    · try refine sA ?_
      have he := Option.some.inj h
      subst he
      exact endsA ⟨[(4, (.lf false (.sc (.int .i64 0))))], [], 0, 20⟩ []
    · try refine sA ?_
      have he := Option.some.inj h
      subst he
      exact endsA ⟨[(4, (.lf false (.sc (.int .i64 (-1)))))], [], 0, 20⟩ []
  · try refine sA ?_
    refine Bs_if h (fun h hc5 => ?_) (fun h hc5 => ?_)
    · try refine sA ?_
      have he := Option.some.inj h
      subst he
      exact endsA ⟨[(4, (.lf false (.sc (.int .i64 1))))], [], 0, 20⟩ []
    · try refine sA ?_
      refine Bs_if h (fun h hc6 => ?_) (fun h hc6 => ?_)
      · try refine sA ?_
        have he := Option.some.inj h
        subst he
        exact endsA ⟨[(4, (.lf false (.sc (.int .i64 (-1)))))], [], 0, 20⟩ []
      · try refine sA ?_
        refine Bs_if h (fun h hc7 => ?_) (fun h hc7 => ?_)
        · try refine sA ?_
          have he := Option.some.inj h
          subst he
          exact endsA ⟨[(4, (.lf false (.sc (.int .i64 1))))], [], 0, 20⟩ []
        · try refine sA ?_
          have he := Option.some.inj h
          subst he
          exact endsA ⟨[(4, (.lf false (.sc (.int .i64 0))))], [], 0, 20⟩ []
theorem w_cmp_Or_int {a0 : (List Int)} {r : Int} (h : cmp_Or_int a0 = some r) : Fn Tryd.prog 65 [(.lf true (.sl (a0.map eI)))] [] 0 (.lf false (.sc (.int .i64 r))) [] 0 := by
  unfold cmp_Or_int at h
  refine fn_code tab_ok mixed [(1000, [(0, 0)]), (1001, [(0, 0), (3, 0)]), (1002, [(3, 0), (6, 0), (7, 0), (8, 0)]), (1003, [(3, 0), (6, 0), (7, 0), (8, 0), (9, 0)]), (1004, [(3, 0), (5, 0), (6, 0), (7, 0), (8, 0)]), (1005, [(3, 0), (5, 0), (6, 0), (7, 0), (8, 0), (14, 0)]), (1006, [(2, 0)]), (1007, [(3, 0), (6, 0), (7, 0), (8, 0)]), (1008, [(2, 0)])] Tryd.func65 rfl rfl (by simp [Tryd.f65]) (by kernel_rfl) ?_
  simp only [Tryd.f65]
  refine sA ?_
  obtain ⟨y81, hl1, h⟩ := bind_ok h
  refine W_loopP (fun g80 : cmp_Or_int_G1 => ⟨[(3, (.lf false (.sc (.int .i64 0)))), (6, (.lf true (.sl (a0.map eI)))), (7, (.lf false (.sc (.int .i64 ((a0.length : Nat) : Int))))), (8, (.lf false (.sc (.int .i64 g80.t8))))], [], 0, 18⟩) (cmp_Or_int_L1 a0) _ _ hl1 (weakA []) ?_
  · intro n1 g80 z1 hs1 hk1
    unfold cmp_Or_int_L1 at hs1
    try dsimp only at hs1
    refine sA ?_
    refine Bs_if hs1 (fun hs1 hc2 => ?_) (fun hs1 hc2 => ?_)
    · try refine sA ?_
      obtain ⟨hp3, hs1⟩ := guard_some hs1
      have hn3 : g80.t8.toNat < a0.length := by first | omega | (simp only [List.length_set, List.length_append, List.length_replicate, List.length_map]; omega)
      try refine sA ?_
      try refine andA ?_
      refine Bs_if hs1 (fun hs1 hc4 => ?_) (fun hs1 hc4 => ?_)
      · try refine sA ?_
        cases hs1
        cases hk1
        try dsimp only at h
        try refine sA ?_
        have he := Option.some.inj h
        subst he
        exact endsA ⟨[(2, (.lf false (.sc (.int .i64 (nth a0 g80.t8.toNat)))))], [], 0, 18⟩ []
      · try refine sA ?_
        cases hs1
        exact X_backP hk1 (weakA [])
    · try refine sA ?_
      cases hs1
      cases hk1
      try dsimp only at h
      try refine sA ?_
      have he := Option.some.inj h
      subst he
      exact endsA ⟨[(2, (.lf false (.sc (.int .i64 0))))], [], 0, 18⟩ []
theorem w_impl_greater {a0 : DomainT} {a1 : DomainT} {r : Int} (h : impl_greater a0 a1 = some r) : Fn Tryd.prog 45 [(.ag [(.lf false (.sc (.string a0.Name))), (.lf false (.sc (.int .i64 a0.Version))), (.lf false (.sc (.string a0.Note)))]), (.ag [(.lf false (.sc (.string a1.Name))), (.lf false (.sc (.int .i64 a1.Version))), (.lf false (.sc (.string a1.Note)))])] [] 0 (.lf false (.sc (.int .i64 r))) [] 0 := by
  unfold impl_greater at h
  refine fn_code tab_ok mixed [(1, [(6, 4), (8, 4)])] Tryd.func45 rfl rfl (by simp [Tryd.f45]) (by kernel_rfl) ?_
  simp only [Tryd.f45]
  refine sA ?_
  obtain ⟨c76, hr1, h⟩ := bind_ok h
  refine Cl_sA (w_cmp_Compare_int hr1) ?_
  try refine sA ?_
  obtain ⟨c79, hr2, h⟩ := bind_ok h
  refine Cl_sA (w_cmp_Compare_string hr2) ?_
  try refine sA ?_
  obtain ⟨c84, hr3, h⟩ := bind_ok h
  refine Cl_sA (w_cmp_Or_int hr3) ?_
  try refine sA ?_
  have he := Option.some.inj h
  subst he
  exact endsA ⟨[(4, (.lf false (.sc (.int .i64 c84))))], [], 0, 17⟩ []
theorem w_impl_KnowsAll_c1_r {a0 : DomainT} {a1 : (List DomainT)} {r : Bool} (h : impl_KnowsAll_c1_r a0 a1 = some r) : Fn Tryd.prog 44 [(.ag [(.lf false (.sc (.string a0.Name))), (.lf false (.sc (.int .i64 a0.Version))), (.lf false (.sc (.string a0.Note)))]), (.ra true [.sl (a1.map eDomain)])] [] 0 (.lf false (.sc (.bool r))) [] 0 := by
  unfold impl_KnowsAll_c1_r at h
  refine fn_code tab_ok mixed [(1000, [(1, 0), (2, 0)]), (1001, [(1, 0), (2, 0), (4, 0)]), (1002, [(3, 0)])] Tryd.func44 rfl rfl (by simp [Tryd.f44]) (by kernel_rfl) ?_
  simp only [Tryd.f44]
  refine sA ?_
  obtain ⟨c73, hr1, h⟩ := bind_ok h
  refine Cl_sA (w_impl_domainAt hr1) ?_
  try refine sA ?_
  refine Sp_if h (fun h hc2 => ?_) (fun h hc2 => ?_)
  · try refine sA ?_
    have he := Option.some.inj h
    subst he
    exact endsA ⟨[(3, (.lf false (.sc (.bool true))))], [], 0, 20⟩ []
  · try refine sA ?_
    obtain ⟨hp3, h⟩ := guard_some h
    have hn3 : c73.toNat < a1.length := by first | omega | (simp only [List.length_set, List.length_append, List.length_replicate, List.length_map]; omega)
    try refine sA ?_
    try refine andA ?_
    obtain ⟨c85, hr4, h⟩ := bind_ok h
    refine Cl_sA (w_impl_greater hr4) ?_
    try refine sA ?_
    have he := Option.some.inj h
    subst he
    exact endsA ⟨[(3, (.lf false (.sc (.bool (decide (c85 < 0))))))], [], 0, 20⟩ []
theorem w_slices_IndexFunc_impl_Domain_impl_KnowsAll_c1r {a0 : (List DomainT)} {a1 : (List DomainT)} {r : Int} (h : slices_IndexFunc_impl_Domain_impl_KnowsAll_c1r a0 a1 = some r) : Fn Tryd.prog 63 [(.lf true (.sl (a0.map eDomain))), (.fn 44 [(.ra true [.sl (a1.map eDomain)])])] [] 0 (.lf false (.sc (.int .i64 r))) [] 0 := by
  unfold slices_IndexFunc_impl_Domain_impl_KnowsAll_c1r at h
  refine fn_code tab_ok mixed [(1000, [(0, 0), (1, 0)]), (1001, [(0, 0), (1, 0), (7, 0), (8, 0)]), (1002, [(0, 0), (1, 0), (7, 0), (8, 0), (9, 0)]), (1003, [(0, 0), (1, 0), (5, 0), (7, 0), (8, 0)]), (1004, [(0, 0), (1, 0), (5, 0), (7, 0), (8, 0), (16, 0)]), (1005, [(4, 0)]), (1006, [(0, 0), (1, 0), (7, 0), (8, 0)]), (1007, [(4, 0)])] Tryd.func63 rfl rfl (by simp [Tryd.f63]) (by kernel_rfl) ?_
  simp only [Tryd.f63]
  refine sA ?_
  obtain ⟨y88, hl1, h⟩ := bind_ok h
  refine W_loopP (fun g65 : slices_IndexFunc_impl_Domain_impl_KnowsAll_c1r_G1 => ⟨[(0, (.lf true (.sl (a0.map eDomain)))), (1, (.fn 44 [(.ra true [.sl (a1.map eDomain)])])), (7, (.lf false (.sc (.int .i64 ((a0.length : Nat) : Int))))), (8, (.lf false (.sc (.int .i64 g65.t8))))], [], 0, 19⟩) (slices_IndexFunc_impl_Domain_impl_KnowsAll_c1r_L1 a0 a1) _ _ hl1 (weakA []) ?_
  · intro n1 g65 z1 hs1 hk1
    unfold slices_IndexFunc_impl_Domain_impl_KnowsAll_c1r_L1 at hs1
    try dsimp only at hs1
    refine sA ?_
    refine Bs_if hs1 (fun hs1 hc2 => ?_) (fun hs1 hc2 => ?_)
    · try refine sA ?_
      obtain ⟨hp3, hs1⟩ := guard_some hs1
      have hn3 : g65.t8.toNat < a0.length := by first | omega | (simp only [List.length_set, List.length_append, List.length_replicate, List.length_map]; omega)
      try refine sA ?_
      try refine andA ?_
      obtain ⟨c87, hr4, hs1⟩ := bind_ok hs1
      refine Cl_sA (w_impl_KnowsAll_c1_r hr4) ?_
      try refine sA ?_
      refine Bs_if hs1 (fun hs1 hc5 => ?_) (fun hs1 hc5 => ?_)
      · try refine sA ?_
        cases hs1
        cases hk1
        try dsimp only at h
        try refine sA ?_
        have he := Option.some.inj h
        subst he
        exact endsA ⟨[(4, (.lf false (.sc (.int .i64 g65.t8))))], [], 0, 19⟩ []
      · try refine sA ?_
        cases hs1
        exact X_backP hk1 (weakA [])
    · try refine sA ?_
      cases hs1
      cases hk1
      try dsimp only at h
      try refine sA ?_
      have he := Option.some.inj h
      subst he
      exact endsA ⟨[(4, (.lf false (.sc (.int .i64 (-1)))))], [], 0, 19⟩ []
theorem w_slices_ContainsFunc_impl_Domain_impl_KnowsAll_c1r {a0 : (List DomainT)} {a1 : (List DomainT)} {r : Bool} (h : slices_ContainsFunc_impl_Domain_impl_KnowsAll_c1r a0 a1 = some r) : Fn Tryd.prog 43 [(.lf true (.sl (a0.map eDomain))), (.fn 44 [(.ra true [.sl (a1.map eDomain)])])] [] 0 (.lf false (.sc (.bool r))) [] 0 := by
  unfold slices_ContainsFunc_impl_Domain_impl_KnowsAll_c1r at h
  refine fn_code tab_ok mixed [] Tryd.func43 rfl rfl (by simp [Tryd.f43]) (by kernel_rfl) ?_
  simp only [Tryd.f43]
  refine sA ?_
  obtain ⟨c91, hr1, h⟩ := bind_ok h
  refine Cl_sA (w_slices_IndexFunc_impl_Domain_impl_KnowsAll_c1r hr1) ?_
  try refine sA ?_
  have he := Option.some.inj h
  subst he
  exact endsA ⟨[(4, (.lf false (.sc (.bool (decide (c91 ≥ 0))))))], [], 0, 9⟩ []
theorem w_impl_KnowsAll {a0 : (List DomainT)} {a1 : (List DomainT)} {r : (Bool × Bool)} (h : impl_KnowsAll a0 a1 = some r) : Fn Tryd.prog 17 [(.lf true (.sl (a0.map eDomain))), (.lf true (.sl (a1.map eDomain)))] [] 0 (.tu [(.lf false (.sc (.bool r.1))), (.lf false (.sc (.bool r.2)))]) [] 0 := by
  unfold impl_KnowsAll at h
  refine fn_code tab_ok mixed [(1000, [(0, 0), (3, 0)]), (1001, [(0, 0), (3, 0), (13, 0)]), (1002, [(4, 0), (5, 0)]), (1003, [(4, 0), (5, 0)]), (4001, [])] Tryd.func17 rfl rfl (by simp [Tryd.f17]) (by kernel_rfl) ?_
  simp only [Tryd.f17]
  refine sA ?_
  obtain ⟨p64, hq1, h⟩ := bind_ok h
  refine Sq_cut (fun s2 => s2 = ⟨[(0, (.lf true (.sl (a0.map eDomain)))), (3, (.pb 0 0)), (13, (.lf false (.sc (.bool p64.t13))))], [(0, some (true, .box [(.lf true (.sl (a1.map eDomain)))]))], 1, 18⟩) ?_ ?_
  · try refine sA ?_
    obtain ⟨c62, hr2, hq1⟩ := bind_ok hq1
    refine Cl_sA (w_impl_GoodDomains hr2) ?_
    try refine sA ?_
    refine Sp_if hq1 (fun hq1 hc3 => ?_) (fun hq1 hc3 => ?_)
    · try refine sA ?_
      cases hq1
      exact X_cut rfl (weakA [some 0])
    · try refine sA ?_
      obtain ⟨c63, hr4, hq1⟩ := bind_ok hq1
      refine Cl_sA (w_impl_GoodDomains hr4) ?_
      try refine sA ?_
      cases hq1
      exact X_cut rfl (weakA [some 0])
  · intro s2 hJ; subst hJ
    try dsimp only at h
    try refine sA ?_
    refine Bs_if h (fun h hc5 => ?_) (fun h hc5 => ?_)
    · try refine sA ?_
      have he := Option.some.inj h
      subst he
      exact endsA ⟨[(4, (.lf false (.sc (.bool false)))), (5, (.lf false (.sc (.bool false))))], [], 0, 18⟩ []
    · try refine sA ?_
      obtain ⟨c92, hr6, h⟩ := bind_ok h
      refine Cl_sA (w_slices_ContainsFunc_impl_Domain_impl_KnowsAll_c1r hr6) ?_
      try refine sA ?_
      have he := Option.some.inj h
      subst he
      exact endsA ⟨[(4, (.lf false (.sc (.bool (!c92))))), (5, (.lf false (.sc (.bool true))))], [], 0, 18⟩ []
theorem w_laws_eqDomain {a0 : DomainT} {a1 : DomainT} {r : Bool} (h : laws_eqDomain a0 a1 = some r) : Fn Tryd.prog 39 [(.ag [(.lf false (.sc (.string a0.Name))), (.lf false (.sc (.int .i64 a0.Version))), (.lf false (.sc (.string a0.Note)))]), (.ag [(.lf false (.sc (.string a1.Name))), (.lf false (.sc (.int .i64 a1.Version))), (.lf false (.sc (.string a1.Note)))])] [] 0 (.lf false (.sc (.bool r))) [] 0 := by
  unfold laws_eqDomain at h
  refine fn_code tab_ok mixed [(1000, [(2, 0), (3, 0)]), (1001, [(2, 0), (3, 0), (9, 0)]), (1002, [(4, 0)]), (1003, [(2, 0), (3, 0), (14, 0)]), (1004, [(4, 0)]), (1005, [(19, 0)]), (1006, [(4, 0)]), (1007, [(4, 0)])] Tryd.func39 rfl rfl (by simp [Tryd.f39]) (by kernel_rfl) ?_
  simp only [Tryd.f39]
  refine sA ?_
  refine Bs_if h (fun h hc1 => ?_) (fun h hc1 => ?_)
  · try refine sA ?_
    have he := Option.some.inj h
    subst he
    exact endsA ⟨[(4, (.lf false (.sc (.bool false))))], [], 0, 20⟩ []
  · try refine sA ?_
    refine Bs_if h (fun h hc2 => ?_) (fun h hc2 => ?_)
    · try refine sA ?_
      have he := Option.some.inj h
      subst he
      exact endsA ⟨[(4, (.lf false (.sc (.bool false))))], [], 0, 20⟩ []
    · try refine sA ?_
      refine Bs_if h (fun h hc3 => ?_) (fun h hc3 => ?_)
      · try refine sA ?_
        have he := Option.some.inj h
        subst he
        exact endsA ⟨[(4, (.lf false (.sc (.bool false))))], [], 0, 20⟩ []
      · try refine sA ?_
        have he := Option.some.inj h
        subst he
        exact endsA ⟨[(4, (.lf false (.sc (.bool true))))], [], 0, 20⟩ []
theorem w_laws_eqDomainS {a0 : (List DomainT)} {a1 : (List DomainT)} {r : Bool} (h : laws_eqDomainS a0 a1 = some r) : Fn Tryd.prog 13 [(.lf true (.sl (a0.map eDomain))), (.lf true (.sl (a1.map eDomain)))] [] 0 (.lf false (.sc (.bool r))) [] 0 := by
  unfold laws_eqDomainS at h
  refine fn_code tab_ok mixed [(1000, [(0, 0), (1, 0)]), (1001, [(0, 0), (1, 0), (10, 0)]), (1002, [(4, 0)]), (1003, [(0, 0), (1, 0), (5, 0)]), (1004, [(0, 0), (1, 0), (5, 0), (14, 0)]), (1005, [(0, 0), (1, 0), (5, 0)]), (1006, [(0, 0), (1, 0), (5, 0), (26, 0)]), (1007, [(4, 0)]), (1008, [(4, 0)])] Tryd.func13 rfl rfl (by simp [Tryd.f13]) (by kernel_rfl) ?_
  simp only [Tryd.f13]
  refine sA ?_
  refine Bs_if h (fun h hc1 => ?_) (fun h hc1 => ?_)
  · try refine sA ?_
    have he := Option.some.inj h
    subst he
    exact endsA ⟨[(4, (.lf false (.sc (.bool false))))], [], 0, 27⟩ []
  · try refine sA ?_
    obtain ⟨y99, hl2, h⟩ := bind_ok h
    refine W_loopP (fun g96 : laws_eqDomainS_G1 => ⟨[(0, (.lf true (.sl (a0.map eDomain)))), (1, (.lf true (.sl (a1.map eDomain)))), (5, (.lf false (.sc (.int .i64 g96.t5))))], [], 0, 27⟩) (laws_eqDomainS_L1 a0 a1) _ _ hl2 (weakA []) ?_
    · intro n1 g96 z1 hs1 hk1
      unfold laws_eqDomainS_L1 at hs1
      try dsimp only at hs1
      refine sA ?_
      refine Bs_if hs1 (fun hs1 hc3 => ?_) (fun hs1 hc3 => ?_)
      · try refine sA ?_
        obtain ⟨hp4, hs1⟩ := guard_some hs1
        have hn4 : g96.t5.toNat < a0.length := by first | omega | (simp only [List.length_set, List.length_append, List.length_replicate, List.length_map]; omega)
        try refine sA ?_
        try refine andA ?_
        obtain ⟨hp5, hs1⟩ := guard_some hs1
        have hn5 : g96.t5.toNat < a1.length := by first | omega | (simp only [List.length_set, List.length_append, List.length_replicate, List.length_map]; omega)
        try refine sA ?_
        try refine andA ?_
        obtain ⟨c98, hr6, hs1⟩ := bind_ok hs1
        refine Cl_sA (w_laws_eqDomain hr6) ?_
        try refine sA ?_
        refine Bs_if hs1 (fun hs1 hc7 => ?_) (fun hs1 hc7 => ?_)
        · try refine sA ?_
          cases hs1
          cases hk1
          try dsimp only at h
          try refine sA ?_
          have he := Option.some.inj h
          subst he
          exact endsA ⟨[(4, (.lf false (.sc (.bool false))))], [], 0, 27⟩ []
        · try refine sA ?_
          cases hs1
          exact X_backP hk1 (weakA [])
      · try refine sA ?_
        cases hs1
        cases hk1
        try dsimp only at h
        try refine sA ?_
        have he := Option.some.inj h
        subst he
        exact endsA ⟨[(4, (.lf false (.sc (.bool true))))], [], 0, 27⟩ []
theorem w_laws_FnExactKnowsAll {a0 : (List DomainT)} {a1 : (List DomainT)} {r : Bool} (h : laws_FnExactKnowsAll a0 a1 = some r) : Fn Tryd.prog 5 [(.lf true (.sl (a0.map eDomain))), (.lf true (.sl (a1.map eDomain)))] [] 0 (.lf false (.sc (.bool r))) [] 0 := by
  unfold laws_FnExactKnowsAll at h
  refine fn_code tab_ok mixed [(1000, [(0, 0), (1, 0)]), (1001, [(0, 0), (1, 0), (5, 0)]), (1002, [(0, 0), (1, 0), (5, 0)]), (1003, [(0, 0), (1, 0), (5, 0), (16, 0)]), (1004, [(4, 0)]), (1005, [(0, 0), (1, 0), (5, 0)]), (1006, [(0, 0), (1, 0), (21, 0)]), (1007, [(4, 0)]), (1008, [(0, 0), (1, 0), (6, 0), (7, 0)]), (1009, [(0, 0), (1, 0), (6, 0), (7, 0), (8, 0)]), (1010, [(0, 0), (1, 0), (6, 0), (7, 0), (8, 0), (9, 0)]), (1011, [(0, 0), (1, 0), (6, 0), (7, 0), (8, 0), (9, 0), (10, 0), (11, 0)]), (1012, [(0, 0), (1, 0), (8, 0), (9, 0), (47, 0)]), (1013, [(4, 0)]), (1014, [(1, 0), (9, 0), (52, 0)]), (1015, [(4, 0)]), (1016, [(57, 0)]), (1017, [(4, 0)]), (1018, [(4, 0)]), (4012, [])] Tryd.func5 rfl rfl (by simp [Tryd.f5]) (by kernel_rfl) ?_
  simp only [Tryd.f5]
  refine sA ?_
  obtain ⟨c7, hr1, h⟩ := bind_ok h
  refine Cl_sA (w_laws_szDomainS hr1) ?_
  try refine sA ?_
  refine Bs_if h (fun h hc2 => ?_) (fun h hc2 => ?_)
  · try refine sA ?_
    have he := Option.some.inj h
    subst he
    exact endsA ⟨[(4, (.lf false (.sc (.bool true))))], [], 0, 58⟩ []
  · try refine sA ?_
    obtain ⟨c8, hr3, h⟩ := bind_ok h
    refine Cl_sA (w_laws_szDomainS hr3) ?_
    try refine sA ?_
    refine Bs_if h (fun h hc4 => ?_) (fun h hc4 => ?_)
    · try refine sA ?_
      have he := Option.some.inj h
      subst he
      exact endsA ⟨[(4, (.lf false (.sc (.bool true))))], [], 0, 58⟩ []
    · try refine sA ?_
      obtain ⟨c13, hr5, h⟩ := bind_ok h
      refine Cl_sA (w_laws_toDomainS hr5) ?_
      try refine sA ?_
      obtain ⟨c14, hr6, h⟩ := bind_ok h
      refine Cl_sA (w_laws_toDomainS hr6) ?_
      try refine sA ?_
      obtain ⟨c47, hr7, h⟩ := bind_ok h
      refine Cl_sA (w_spec_KnowsAll hr7) ?_
      try refine sA ?_
      obtain ⟨c48, hr8, h⟩ := bind_ok h
      refine Cl_sA (w_laws_toDomainS hr8) ?_
      try refine sA ?_
      obtain ⟨c49, hr9, h⟩ := bind_ok h
      refine Cl_sA (w_laws_toDomainS hr9) ?_
      try refine sA ?_
      obtain ⟨c93, hr10, h⟩ := bind_ok h
      refine Cl_sA (w_impl_KnowsAll hr10) ?_
      try refine sA ?_
      obtain ⟨p94, hq11, h⟩ := bind_ok h
      refine Sq_cut (fun s2 => s2 = ⟨[(0, (.lf true (.sl (a0.map eDomain)))), (1, (.lf true (.sl (a1.map eDomain)))), (8, (.os 0 3 0 c48.length c48.length false)), (9, (.os 1 3 0 c49.length c49.length false)), (47, (.lf false (.sc (.bool p94.t47))))], [(0, some (true, .arr false 3 (c48.map eDomain))), (1, some (true, .arr false 3 (c49.map eDomain)))], 2, 58⟩) ?_ ?_
      · try refine sA ?_
        refine Sp_if hq11 (fun hq11 hc12 => ?_) (fun hq11 hc12 => ?_)
        · try refine sA ?_
          cases hq11
          exact X_cut rfl (weakA [some 2, some 3])
        · try refine sA ?_
          cases hq11
          exact X_cut rfl (weakA [some 2, some 3])
      · intro s2 hJ; subst hJ
        try dsimp only at h
        try refine sA ?_
        refine Bs_if h (fun h hc13 => ?_) (fun h hc13 => ?_)
        · try refine sA ?_
          have he := Option.some.inj h
          subst he
          exact endsA ⟨[(4, (.lf false (.sc (.bool false))))], [], 0, 58⟩ []
        · try refine sA ?_
          obtain ⟨c95, hr14, h⟩ := bind_ok h
          refine Cl_sA (w_laws_toDomainS hr14) ?_
          try refine sA ?_
          obtain ⟨c102, hr15, h⟩ := bind_ok h
          refine Cl_sA (w_laws_eqDomainS hr15) ?_
          try refine sA ?_
          refine Bs_if h (fun h hc16 => ?_) (fun h hc16 => ?_)
          · try refine sA ?_
            have he := Option.some.inj h
            subst he
            exact endsA ⟨[(4, (.lf false (.sc (.bool false))))], [], 0, 58⟩ []
          · try refine sA ?_
            obtain ⟨c103, hr17, h⟩ := bind_ok h
            refine Cl_sA (w_laws_toDomainS hr17) ?_
            try refine sA ?_
            obtain ⟨c104, hr18, h⟩ := bind_ok h
            refine Cl_sA (w_laws_eqDomainS hr18) ?_
            try refine sA ?_
            refine Bs_if h (fun h hc19 => ?_) (fun h hc19 => ?_)
            · try refine sA ?_
              have he := Option.some.inj h
              subst he
              exact endsA ⟨[(4, (.lf false (.sc (.bool false))))], [], 0, 58⟩ []
            · try refine sA ?_
              have he := Option.some.inj h
              subst he
              exact endsA ⟨[(4, (.lf false (.sc (.bool true))))], [], 0, 58⟩ []
end Go.TL.YtoabnifimfcbcaaDoor

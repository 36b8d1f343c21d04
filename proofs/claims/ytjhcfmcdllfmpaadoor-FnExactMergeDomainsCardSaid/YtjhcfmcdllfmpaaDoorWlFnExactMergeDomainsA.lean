import Derived.Test.YtjhcfmcdllfmpaaDoorTlTabr3D
import Derived.Test.YtjhcfmcdllfmpaaDoorEnR3M
import Derived.Test.YtjhcfmcdllfmpaaDoorTlAuto
import Derived.Test.YtjhcfmcdllfmpaaDoorTlTrimr3D
import Derived.Test.YtjhcfmcdllfmpaaDoorTlBelow
import Derived.Test.YtjhcfmcdllfmpaaDoorTlSrtr3D
import Derived.Test.YtjhcfmcdllfmpaaDoorTlSrCr3D
import Derived.Test.YtjhcfmcdllfmpaaDoorTlSort
set_option linter.unusedSimpArgs false
set_option linter.unusedVariables false
set_option linter.unusedVariables false
set_option linter.unusedSimpArgs false
set_option maxRecDepth 8000
set_option maxHeartbeats 0
namespace Go.TL.YtjhcfmcdllfmpaaDoor
open Go Go.Proofs Go.TL
theorem w_laws_szDomain {a0 : DomainT} {a1 : Int} {r : Int} (h : laws_szDomain a0 a1 = some r) : Fn Tryd.prog 92 [(.ag [(.lf false (.sc (.string a0.Name))), (.lf false (.sc (.int .i64 a0.Version))), (.lf false (.sc (.string a0.Note)))]), (.lf false (.sc (.int .i64 a1)))] [] 0 (.lf false (.sc (.int .i64 r))) [] 0 := by
  unfold laws_szDomain at h
  refine fn_code tab_ok mixed [(1000, [(1, 0), (2, 0)]), (1001, [(1, 0), (2, 0)]), (1002, [(1, 0), (2, 0), (11, 0)]), (1003, [(4, 0)]), (1004, [(1, 0)]), (1005, [(1, 0), (18, 0)]), (1006, [(4, 0)]), (1007, [(4, 0)])] Tryd.func92 rfl rfl (by simp [Tryd.f92]) (by kernel_rfl) ?_
  simp only [Tryd.f92]
  refine sA ?_
  refine Bs_if h (fun h hc1 => ?_) (fun h hc1 => ?_)
  · try refine sA ?_
    have he := Option.some.inj h
    subst he
    exact endsA ⟨[(4, (.lf false (.sc (.int .i64 (-1)))))], [], 0, 20⟩ []
  · try refine sA ?_
    refine Bs_if h (fun h hc2 => ?_) (fun h hc2 => ?_)
    · try refine sA ?_
      have he := Option.some.inj h
      subst he
      exact endsA ⟨[(4, (.lf false (.sc (.int .i64 (-1)))))], [], 0, 20⟩ []
    · try refine sA ?_
      have he := Option.some.inj h
      subst he
      exact endsA ⟨[(4, (.lf false (.sc (.int .i64 (wI ((wI (a1 - (a0.Name.size : Int))) - (a0.Note.size : Int)))))))], [], 0, 20⟩ []
theorem w_laws_szDomainS {a0 : (List DomainT)} {a1 : Int} {r : Int} (h : laws_szDomainS a0 a1 = some r) : Fn Tryd.prog 42 [(.lf true (.sl (a0.map eDomain))), (.lf false (.sc (.int .i64 a1)))] [] 0 (.lf false (.sc (.int .i64 r))) [] 0 := by
  unfold laws_szDomainS at h
  refine fn_code tab_ok mixed [(1000, [(0, 0), (1, 0)]), (1001, [(0, 0), (1, 0)]), (1002, [(0, 0), (1, 0), (11, 0)]), (1003, [(4, 0)]), (1004, [(0, 0), (1, 0), (5, 0)]), (1005, [(0, 0), (1, 0), (5, 0), (15, 0)]), (1006, [(0, 0), (1, 0), (5, 0)]), (1007, [(0, 0), (1, 0), (5, 0)]), (1008, [(0, 0), (1, 0), (5, 0), (25, 0)]), (1009, [(4, 0)]), (1010, [(4, 0)])] Tryd.func42 rfl rfl (by simp [Tryd.f42]) (by kernel_rfl) ?_
  simp only [Tryd.f42]
  refine sA ?_
  refine Bs_if h (fun h hc1 => ?_) (fun h hc1 => ?_)
  · try refine sA ?_
    have he := Option.some.inj h
    subst he
    exact endsA ⟨[(4, (.lf false (.sc (.int .i64 (-1)))))], [], 0, 27⟩ []
  · try refine sA ?_
    obtain ⟨y4, hl2, h⟩ := bind_ok h
    refine W_loopP (fun g1 : laws_szDomainS_G1 => ⟨[(0, (.lf true (.sl (a0.map eDomain)))), (1, (.lf false (.sc (.int .i64 g1.t1)))), (5, (.lf false (.sc (.int .i64 g1.t5))))], [], 0, 27⟩) (laws_szDomainS_L1 a0) _ _ hl2 (weakA []) ?_
    · intro n1 g1 z1 hs1 hk1
      unfold laws_szDomainS_L1 at hs1
      try dsimp only at hs1
      refine sA ?_
      refine Bs_if hs1 (fun hs1 hc3 => ?_) (fun hs1 hc3 => ?_)
      · try refine sA ?_
        obtain ⟨hp4, hs1⟩ := guard_some hs1
        have hn4 : g1.t5.toNat < a0.length := by first | omega | (simp only [List.length_set, List.length_append, List.length_replicate, List.length_map]; omega)
        try refine sA ?_
        try refine andA ?_
        obtain ⟨c3, hr5, hs1⟩ := bind_ok hs1
        refine Cl_sA (w_laws_szDomain hr5) ?_
        try refine sA ?_
        refine Bs_if hs1 (fun hs1 hc6 => ?_) (fun hs1 hc6 => ?_)
        · try refine sA ?_
          cases hs1
          cases hk1
          try dsimp only at h
          try refine sA ?_
          have he := Option.some.inj h
          subst he
          exact endsA ⟨[(4, (.lf false (.sc (.int .i64 (-1)))))], [], 0, 27⟩ []
        · try refine sA ?_
          cases hs1
          exact X_backP hk1 (weakA [])
      · try refine sA ?_
        cases hs1
        cases hk1
        try dsimp only at h
        try refine sA ?_
        have he := Option.some.inj h
        subst he
        exact endsA ⟨[(4, (.lf false (.sc (.int .i64 g1.t1))))], [], 0, 27⟩ []
theorem w_laws_toDomain {a0 : DomainT} {r : DomainT} (h : laws_toDomain a0 = some r) : Fn Tryd.prog 94 [(.ag [(.lf false (.sc (.string a0.Name))), (.lf false (.sc (.int .i64 a0.Version))), (.lf false (.sc (.string a0.Note)))])] [] 0 (.ag [(.lf false (.sc (.string r.Name))), (.lf false (.sc (.int .i64 r.Version))), (.lf false (.sc (.string r.Note)))]) [] 1 := by
  unfold laws_toDomain at h
  refine fn_code tab_ok mixed [(1000, [(1, 0), (2, 0)]), (1001, [(1, 0), (2, 0), (3, 0)]), (1002, [(1, 0), (2, 0), (3, 0)]), (1003, [(1, 0), (2, 0), (3, 0)]), (1004, [(2, 0), (3, 0)]), (1005, [(2, 0)])] Tryd.func94 rfl rfl (by simp [Tryd.f94]) (by kernel_rfl) ?_
  simp only [Tryd.f94]
  refine sA ?_
  have he := Option.some.inj h
  subst he
  exact endsA ⟨[(2, (.pb 0 0))], [(0, some (true, .box [(.lf false (.sc (.string a0.Name))), (.lf false (.sc (.int .i64 a0.Version))), (.lf false (.sc (.string a0.Note)))]))], 1, 14⟩ [some 1]
theorem w_laws_toDomainS {a0 : (List DomainT)} {r : (List DomainT)} (h : laws_toDomainS a0 = some r) : Fn Tryd.prog 44 [(.lf true (.sl (a0.map eDomain)))] [] 0 (.os 0 3 0 r.length r.length false) [(0, some (true, .arr false 3 (r.map eDomain)))] 1 := by
  unfold laws_toDomainS at h
  refine fn_code tab_ok mixed [(1000, [(0, 0)]), (1001, [(0, 0), (3, 0)]), (1002, [(0, 0), (3, 0), (4, 0)]), (1003, [(0, 0), (3, 0), (4, 0), (11, 0)]), (1004, [(0, 0), (3, 0), (4, 0)]), (1005, [(0, 0), (3, 0), (4, 0)]), (1006, [(2, 0)])] Tryd.func44 rfl rfl (by simp [Tryd.f44]) (by kernel_rfl) ?_
  simp only [Tryd.f44]
  simp (disch := first | assumption | (simp only [List.length_set]; assumption)) only [go_sem, Nat.reduceAdd, Nat.reduceMul, Nat.reduceSub, Nat.reduceEqDiff, ↓reduceIte, Nat.reduceLT, reduceCtorEq, Nat.reduceLeDiff, Int.reduceToNat, Int.reduceEq, Int.reduceLE, Int.reduceLT, Nat.reduceBEq, fold_eDomain_rep]
  obtain ⟨hp1, h⟩ := guard_some h
  try simp (disch := first | assumption | (simp only [List.length_set]; assumption)) only [go_sem, Nat.reduceAdd, Nat.reduceMul, Nat.reduceSub, Nat.reduceEqDiff, ↓reduceIte, Nat.reduceLT, reduceCtorEq, Nat.reduceLeDiff, Int.reduceToNat, Int.reduceEq, Int.reduceLE, Int.reduceLT, Nat.reduceBEq, fold_eDomain_rep]
  try refine andA ?_
  obtain ⟨y12, hl2, h⟩ := bind_ok h
  refine W_loopP (fun g9 : laws_toDomainS_G1 => ⟨[(0, (.lf true (.sl (a0.map eDomain)))), (3, (.os 0 3 0 g9.c0.length g9.c0.length false)), (4, (.lf false (.sc (.int .i64 g9.t4))))], [(0, some (true, .arr false 3 (g9.c0.map eDomain)))], 1, 23⟩) (laws_toDomainS_L1 a0) _ _ hl2 (weak_of (m := 0) [some 0] rfl rfl rfl (by rfl) (by ((try simp (disch := first | assumption | (simp only [List.length_set]; assumption)) only [go_sem, Nat.reduceAdd, Nat.reduceMul, Nat.reduceSub, Nat.reduceEqDiff, ↓reduceIte, Nat.reduceLT, reduceCtorEq, Nat.reduceLeDiff, Int.reduceToNat, Int.reduceEq, Int.reduceLE, Int.reduceLT, Nat.reduceBEq, fold_eDomain_rep]); (repeat' first | done | rfl | omega | refine And.intro ?_ ?_ | (simp; done) | (simp; omega)))) (by ((try simp (disch := first | assumption | (simp only [List.length_set]; assumption)) only [go_sem, Nat.reduceAdd, Nat.reduceMul, Nat.reduceSub, Nat.reduceEqDiff, ↓reduceIte, Nat.reduceLT, reduceCtorEq, Nat.reduceLeDiff, Int.reduceToNat, Int.reduceEq, Int.reduceLE, Int.reduceLT, Nat.reduceBEq, fold_eDomain_rep]); (repeat' first | done | rfl | omega | refine And.intro ?_ ?_ | (simp; done) | (simp; omega))))) ?_
  · intro n1 g9 z1 hs1 hk1
    unfold laws_toDomainS_L1 at hs1
    try dsimp only at hs1
    simp (disch := first | assumption | (simp only [List.length_set]; assumption)) only [go_sem, Nat.reduceAdd, Nat.reduceMul, Nat.reduceSub, Nat.reduceEqDiff, ↓reduceIte, Nat.reduceLT, reduceCtorEq, Nat.reduceLeDiff, Int.reduceToNat, Int.reduceEq, Int.reduceLE, Int.reduceLT, Nat.reduceBEq, fold_eDomain_rep]
    refine Bs_if hs1 (fun hs1 hc3 => ?_) (fun hs1 hc3 => ?_)
    · try simp (disch := first | assumption | (simp only [List.length_set]; assumption)) only [go_sem, Nat.reduceAdd, Nat.reduceMul, Nat.reduceSub, Nat.reduceEqDiff, ↓reduceIte, Nat.reduceLT, reduceCtorEq, Nat.reduceLeDiff, Int.reduceToNat, Int.reduceEq, Int.reduceLE, Int.reduceLT, Nat.reduceBEq, fold_eDomain_rep]
      obtain ⟨hp4, hs1⟩ := guard_some hs1
      have hn4 : g9.t4.toNat < a0.length := by first | omega | (simp only [List.length_set, List.length_append, List.length_replicate, List.length_map]; omega)
      try simp (disch := first | assumption | (simp only [List.length_set]; assumption)) only [go_sem, Nat.reduceAdd, Nat.reduceMul, Nat.reduceSub, Nat.reduceEqDiff, ↓reduceIte, Nat.reduceLT, reduceCtorEq, Nat.reduceLeDiff, Int.reduceToNat, Int.reduceEq, Int.reduceLE, Int.reduceLT, Nat.reduceBEq, fold_eDomain_rep]
      try refine andA ?_
      obtain ⟨c11, hr5, hs1⟩ := bind_ok hs1
      refine Cl_shown (w_laws_toDomain hr5) (by first | rfl | (simp (disch := first | assumption | (simp only [List.length_set]; assumption)) only [go_sem, Nat.reduceAdd, Nat.reduceMul, Nat.reduceSub, Nat.reduceEqDiff, ↓reduceIte, Nat.reduceLT, reduceCtorEq, Nat.reduceLeDiff, Int.reduceToNat, Int.reduceEq, Int.reduceLE, Int.reduceLT, Nat.reduceBEq, fold_eDomain_rep]; first | done | rfl) | (simp only [List.length_append, List.length_cons, List.length_nil, List.length_map, List.length_set, List.length_replicate, Nat.zero_add, Nat.reduceAdd]; rfl) | (simp (disch := first | assumption | (simp only [List.length_set]; assumption)) only [go_sem, Nat.reduceAdd, Nat.reduceMul, Nat.reduceSub, Nat.reduceEqDiff, ↓reduceIte, Nat.reduceLT, reduceCtorEq, Nat.reduceLeDiff, Int.reduceToNat, Int.reduceEq, Int.reduceLE, Int.reduceLT, Nat.reduceBEq, fold_eDomain_rep]; simp only [List.length_append, List.length_cons, List.length_nil, List.length_map, List.length_set, List.length_replicate, Nat.zero_add, Nat.reduceAdd]; rfl)) (FitAll.refl _) (.inl (by first | rfl | (simp (disch := first | assumption | (simp only [List.length_set]; assumption)) only [go_sem, Nat.reduceAdd, Nat.reduceMul, Nat.reduceSub, Nat.reduceEqDiff, ↓reduceIte, Nat.reduceLT, reduceCtorEq, Nat.reduceLeDiff, Int.reduceToNat, Int.reduceEq, Int.reduceLE, Int.reduceLT, Nat.reduceBEq, fold_eDomain_rep]; done))) ?_
      try simp (disch := first | assumption | (simp only [List.length_set]; assumption)) only [go_sem, Nat.reduceAdd, Nat.reduceMul, Nat.reduceSub, Nat.reduceEqDiff, ↓reduceIte, Nat.reduceLT, reduceCtorEq, Nat.reduceLeDiff, Int.reduceToNat, Int.reduceEq, Int.reduceLE, Int.reduceLT, Nat.reduceBEq, fold_eDomain_rep]
      obtain ⟨hp6, hs1⟩ := guard_some hs1
      have hn6 : g9.t4.toNat < g9.c0.length := by first | omega | (simp only [List.length_set, List.length_append, List.length_replicate, List.length_map]; omega)
      try simp (disch := first | assumption | (simp only [List.length_set]; assumption)) only [go_sem, Nat.reduceAdd, Nat.reduceMul, Nat.reduceSub, Nat.reduceEqDiff, ↓reduceIte, Nat.reduceLT, reduceCtorEq, Nat.reduceLeDiff, Int.reduceToNat, Int.reduceEq, Int.reduceLE, Int.reduceLT, Nat.reduceBEq, fold_eDomain_rep]
      try refine andA ?_
      try refine andB ?_
      try simp (disch := first | assumption | (simp only [List.length_set]; assumption)) only [go_sem, Nat.reduceAdd, Nat.reduceMul, Nat.reduceSub, Nat.reduceEqDiff, ↓reduceIte, Nat.reduceLT, reduceCtorEq, Nat.reduceLeDiff, Int.reduceToNat, Int.reduceEq, Int.reduceLE, Int.reduceLT, Nat.reduceBEq, fold_eDomain_rep]
      cases hs1
      refine X_backP hk1 ?_
      refine weak_of (m := 0) [some 0] rfl rfl rfl (by rfl) ?_ ?_
      all_goals ((try simp (disch := first | assumption | (simp only [List.length_set]; assumption)) only [go_sem, Nat.reduceAdd, Nat.reduceMul, Nat.reduceSub, Nat.reduceEqDiff, ↓reduceIte, Nat.reduceLT, reduceCtorEq, Nat.reduceLeDiff, Int.reduceToNat, Int.reduceEq, Int.reduceLE, Int.reduceLT, Nat.reduceBEq, fold_eDomain_rep]); (repeat' first | done | rfl | omega | refine And.intro ?_ ?_ | (simp; done) | (simp; omega)))
    · try simp (disch := first | assumption | (simp only [List.length_set]; assumption)) only [go_sem, Nat.reduceAdd, Nat.reduceMul, Nat.reduceSub, Nat.reduceEqDiff, ↓reduceIte, Nat.reduceLT, reduceCtorEq, Nat.reduceLeDiff, Int.reduceToNat, Int.reduceEq, Int.reduceLE, Int.reduceLT, Nat.reduceBEq, fold_eDomain_rep]
      cases hs1
      cases hk1
      try dsimp only at h
      try simp (disch := first | assumption | (simp only [List.length_set]; assumption)) only [go_sem, Nat.reduceAdd, Nat.reduceMul, Nat.reduceSub, Nat.reduceEqDiff, ↓reduceIte, Nat.reduceLT, reduceCtorEq, Nat.reduceLeDiff, Int.reduceToNat, Int.reduceEq, Int.reduceLE, Int.reduceLT, Nat.reduceBEq, fold_eDomain_rep]
      have he := Option.some.inj h
      subst he
      refine ends_weak ⟨[(2, (.os 0 3 0 g9.c0.length g9.c0.length false))], [(0, some (true, .arr false 3 (g9.c0.map eDomain)))], 1, 23⟩ (weak_of (m := 0) [some 0] rfl rfl rfl (by rfl) ?_ ?_) ?_
      all_goals ((try simp (disch := first | assumption | (simp only [List.length_set]; assumption)) only [go_sem, Nat.reduceAdd, Nat.reduceMul, Nat.reduceSub, Nat.reduceEqDiff, ↓reduceIte, Nat.reduceLT, reduceCtorEq, Nat.reduceLeDiff, Int.reduceToNat, Int.reduceEq, Int.reduceLE, Int.reduceLT, Nat.reduceBEq, fold_eDomain_rep]); (repeat' first | done | rfl | omega | refine And.intro ?_ ?_ | (simp; done) | (simp; omega)))
theorem w_spec_l1Name {a0 : ByteArray} {r : Bool} (h : spec_l1Name a0 = some r) : Fn Tryd.prog 86 [(.lf false (.sc (.string a0)))] [] 0 (.lf false (.sc (.bool r))) [] 0 := by
  unfold spec_l1Name at h
  refine fn_code tab_ok mixed [(1000, [(0, 0)]), (1001, [(0, 0), (3, 0)]), (1002, [(0, 0), (3, 0), (7, 0)]), (1003, [(0, 0), (3, 0)]), (1004, [(0, 0), (3, 0), (32, 0)]), (1005, [(2, 0)]), (1006, [(2, 0)]), (4004, [])] Tryd.func86 rfl rfl (by simp [Tryd.f86]) (by kernel_rfl) ?_
  simp only [Tryd.f86]
  refine sA ?_
  obtain ⟨y19, hl1, h⟩ := bind_ok h
  refine W_loopP (fun g16 : spec_l1Name_G1 => ⟨[(0, (.lf false (.sc (.string a0)))), (3, (.lf false (.sc (.int .i64 g16.t3))))], [], 0, 36⟩) (spec_l1Name_L1 a0) _ _ hl1 (weakA []) ?_
  · intro n1 g16 z1 hs1 hk1
    unfold spec_l1Name_L1 at hs1
    try dsimp only at hs1
    refine sA ?_
    refine Bs_if hs1 (fun hs1 hc2 => ?_) (fun hs1 hc2 => ?_)
    · try refine sA ?_
      obtain ⟨p18, hq3, hs1⟩ := bind_ok hs1
      refine Sq_cut (fun s2 => s2 = ⟨[(0, (.lf false (.sc (.string a0)))), (3, (.lf false (.sc (.int .i64 g16.t3)))), (32, (.lf false (.sc (.bool p18.t32))))], [], 0, 36⟩) ?_ ?_
      · try refine sA ?_
        obtain ⟨hp4, hq3⟩ := guard_some hq3
        try refine sA ?_
        try refine andA ?_
        refine Sp_if hq3 (fun hq3 hc5 => ?_) (fun hq3 hc5 => ?_)
        · try refine sA ?_
          obtain ⟨hp6, hq3⟩ := guard_some hq3
          try refine sA ?_
          try refine andA ?_
          refine Sp_if hq3 (fun hq3 hc7 => ?_) (fun hq3 hc7 => ?_)
          · try refine sA ?_
            cases hq3
            exact X_cut rfl (weakA [])
          · try refine sA ?_
            obtain ⟨hp8, hq3⟩ := guard_some hq3
            try refine sA ?_
            try refine andA ?_
            refine Sp_if hq3 (fun hq3 hc9 => ?_) (fun hq3 hc9 => ?_)
            · try refine sA ?_
              obtain ⟨hp10, hq3⟩ := guard_some hq3
              try refine sA ?_
              try refine andA ?_
              cases hq3
              exact X_cut rfl (weakA [])
            · try refine sA ?_
              cases hq3
              exact X_cut rfl (weakA [])
        · try refine sA ?_
          obtain ⟨hp11, hq3⟩ := guard_some hq3
          try refine sA ?_
          try refine andA ?_
          refine Sp_if hq3 (fun hq3 hc12 => ?_) (fun hq3 hc12 => ?_)
          · try refine sA ?_
            obtain ⟨hp13, hq3⟩ := guard_some hq3
            try refine sA ?_
            try refine andA ?_
            cases hq3
            exact X_cut rfl (weakA [])
          · try refine sA ?_
            cases hq3
            exact X_cut rfl (weakA [])
      · intro s2 hJ; subst hJ
        try dsimp only at hs1
        try refine sA ?_
        refine Bs_if hs1 (fun hs1 hc14 => ?_) (fun hs1 hc14 => ?_)
        · try refine sA ?_
          cases hs1
          cases hk1
          try dsimp only at h
          try refine sA ?_
          have he := Option.some.inj h
          subst he
          exact endsA ⟨[(2, (.lf false (.sc (.bool false))))], [], 0, 36⟩ []
        · try refine sA ?_
          cases hs1
          exact X_backP hk1 (weakA [])
    · try refine sA ?_
      cases hs1
      cases hk1
      try dsimp only at h
      try refine sA ?_
      have he := Option.some.inj h
      subst he
      exact endsA ⟨[(2, (.lf false (.sc (.bool (decide ((a0.size : Int) ≤ 12))))))], [], 0, 36⟩ []
theorem w_spec_l1In {a0 : Int} {a1 : Int} {a2 : Int} {r : Bool} (h : spec_l1In a0 a1 a2 = some r) : Fn Tryd.prog 84 [(.lf false (.sc (.int .i64 a0))), (.lf false (.sc (.int .i64 a1))), (.lf false (.sc (.int .i64 a2)))] [] 0 (.lf false (.sc (.bool r))) [] 0 := by
  unfold spec_l1In at h
  refine fn_code tab_ok mixed [] Tryd.func84 rfl rfl (by simp [Tryd.f84]) (by kernel_rfl) ?_
  simp only [Tryd.f84]
  refine sA ?_
  refine Sp_if h (fun h hc1 => ?_) (fun h hc1 => ?_)
  · try refine sA ?_
    have he := Option.some.inj h
    subst he
    exact endsA ⟨[(6, (.lf false (.sc (.bool (decide (a0 ≤ a2))))))], [], 0, 15⟩ []
  · try refine sA ?_
    have he := Option.some.inj h
    subst he
    exact endsA ⟨[(6, (.lf false (.sc (.bool false))))], [], 0, 15⟩ []
theorem w_spec_l13Version {a0 : Int} {r : Bool} (h : spec_l13Version a0 = some r) : Fn Tryd.prog 104 [(.lf false (.sc (.int .i64 a0)))] [] 0 (.lf false (.sc (.bool r))) [] 0 := by
  unfold spec_l13Version at h
  refine fn_code tab_ok mixed [] Tryd.func104 rfl rfl (by simp [Tryd.f104]) (by kernel_rfl) ?_
  simp only [Tryd.f104]
  refine sA ?_
  obtain ⟨c23, hr1, h⟩ := bind_ok h
  refine Cl_sA (w_spec_l1In hr1) ?_
  try refine sA ?_
  have he := Option.some.inj h
  subst he
  exact endsA ⟨[(2, (.lf false (.sc (.bool c23))))], [], 0, 5⟩ []
theorem w_spec_GoodDomains {a0 : (List DomainT)} {r : Bool} (h : spec_GoodDomains a0 = some r) : Fn Tryd.prog 52 [(.lf true (.sl (a0.map eDomain)))] [] 0 (.lf false (.sc (.bool r))) [] 0 := by
  unfold spec_GoodDomains at h
  refine fn_code tab_ok mixed [(1000, [(0, 0)]), (1001, [(0, 0), (5, 0), (6, 0), (7, 0)]), (1002, [(0, 0), (5, 0), (6, 0), (7, 0), (8, 0)]), (1003, [(0, 0), (3, 0), (4, 0), (5, 0), (6, 0), (7, 0)]), (1004, [(0, 0), (5, 0), (6, 0), (7, 0), (47, 0)]), (1005, [(2, 0)]), (1006, [(0, 0), (5, 0), (6, 0), (7, 0)]), (1007, [(2, 0)]), (4004, [])] Tryd.func52 rfl rfl (by simp [Tryd.f52]) (by kernel_rfl) ?_
  simp only [Tryd.f52]
  refine sA ?_
  obtain ⟨y29, hl1, h⟩ := bind_ok h
  refine W_loopP (fun g15 : spec_GoodDomains_G1 => ⟨[(0, (.lf true (.sl (a0.map eDomain)))), (5, (.lf true (.sl (a0.map eDomain)))), (6, (.lf false (.sc (.int .i64 ((a0.length : Nat) : Int))))), (7, (.lf false (.sc (.int .i64 g15.t7))))], [], 0, 52⟩) (spec_GoodDomains_L1 a0) _ _ hl1 (weakA []) ?_
  · intro n1 g15 z1 hs1 hk1
    unfold spec_GoodDomains_L1 at hs1
    try dsimp only at hs1
    refine sA ?_
    refine Bs_if hs1 (fun hs1 hc2 => ?_) (fun hs1 hc2 => ?_)
    · try refine sA ?_
      obtain ⟨hp3, hs1⟩ := guard_some hs1
      have hn3 : g15.t7.toNat < a0.length := by first | omega | (simp only [List.length_set, List.length_append, List.length_replicate, List.length_map]; omega)
      try refine sA ?_
      try refine andA ?_
      obtain ⟨p28, hq4, hs1⟩ := bind_ok hs1
      refine Sq_cut (fun s2 => s2 = ⟨[(0, (.lf true (.sl (a0.map eDomain)))), (5, (.lf true (.sl (a0.map eDomain)))), (6, (.lf false (.sc (.int .i64 ((a0.length : Nat) : Int))))), (7, (.lf false (.sc (.int .i64 g15.t7)))), (47, (.lf false (.sc (.bool p28.t47))))], [], 0, 52⟩) ?_ ?_
      · try refine sA ?_
        obtain ⟨c26, hr5, hq4⟩ := bind_ok hq4
        refine Cl_sA (w_spec_l1Name hr5) ?_
        try refine sA ?_
        refine Sp_if hq4 (fun hq4 hc6 => ?_) (fun hq4 hc6 => ?_)
        · try refine sA ?_
          cases hq4
          exact X_cut rfl (weakA [])
        · try refine sA ?_
          refine Sp_if hq4 (fun hq4 hc7 => ?_) (fun hq4 hc7 => ?_)
          · try refine sA ?_
            cases hq4
            exact X_cut rfl (weakA [])
          · try refine sA ?_
            obtain ⟨c27, hr8, hq4⟩ := bind_ok hq4
            refine Cl_sA (w_spec_l13Version hr8) ?_
            try refine sA ?_
            refine Sp_if hq4 (fun hq4 hc9 => ?_) (fun hq4 hc9 => ?_)
            · try refine sA ?_
              cases hq4
              exact X_cut rfl (weakA [])
            · try refine sA ?_
              refine Sp_if hq4 (fun hq4 hc10 => ?_) (fun hq4 hc10 => ?_)
              · try refine sA ?_
                cases hq4
                exact X_cut rfl (weakA [])
              · try refine sA ?_
                refine Sp_if hq4 (fun hq4 hc11 => ?_) (fun hq4 hc11 => ?_)
                · try refine sA ?_
                  obtain ⟨hp12, hq4⟩ := guard_some hq4
                  have hn12 : (wI (g15.t7 - 1)).toNat < a0.length := by first | omega | (simp only [List.length_set, List.length_append, List.length_replicate, List.length_map]; omega)
                  try refine sA ?_
                  try refine andA ?_
                  cases hq4
                  exact X_cut rfl (weakA [])
                · try refine sA ?_
                  cases hq4
                  exact X_cut rfl (weakA [])
      · intro s2 hJ; subst hJ
        try dsimp only at hs1
        try refine sA ?_
        refine Bs_if hs1 (fun hs1 hc13 => ?_) (fun hs1 hc13 => ?_)
        · try refine sA ?_
          cases hs1
          cases hk1
          try dsimp only at h
          try refine sA ?_
          have he := Option.some.inj h
          subst he
          exact endsA ⟨[(2, (.lf false (.sc (.bool false))))], [], 0, 52⟩ []
        · try refine sA ?_
          cases hs1
          exact X_backP hk1 (weakA [])
    · try refine sA ?_
      cases hs1
      cases hk1
      try dsimp only at h
      try refine sA ?_
      have he := Option.some.inj h
      subst he
      exact endsA ⟨[(2, (.lf false (.sc (.bool (decide (((a0.length : Nat) : Int) ≤ 12))))))], [], 0, 52⟩ []
theorem w_spec_l13Less {a0 : DomainT} {a1 : DomainT} {r : Bool} (h : spec_l13Less a0 a1 = some r) : Fn Tryd.prog 93 [(.ag [(.lf false (.sc (.string a0.Name))), (.lf false (.sc (.int .i64 a0.Version))), (.lf false (.sc (.string a0.Note)))]), (.ag [(.lf false (.sc (.string a1.Name))), (.lf false (.sc (.int .i64 a1.Version))), (.lf false (.sc (.string a1.Note)))])] [] 0 (.lf false (.sc (.bool r))) [] 0 := by
  unfold spec_l13Less at h
  refine fn_code tab_ok mixed [] Tryd.func93 rfl rfl (by simp [Tryd.f93]) (by kernel_rfl) ?_
  simp only [Tryd.f93]
  refine sA ?_
  refine Sp_if h (fun h hc1 => ?_) (fun h hc1 => ?_)
  · try refine sA ?_
    have he := Option.some.inj h
    subst he
    exact endsA ⟨[(4, (.lf false (.sc (.bool true))))], [], 0, 24⟩ []
  · try refine sA ?_
    refine Sp_if h (fun h hc2 => ?_) (fun h hc2 => ?_)
    · try refine sA ?_
      have he := Option.some.inj h
      subst he
      exact endsA ⟨[(4, (.lf false (.sc (.bool (sLt a0.Note a1.Note)))))], [], 0, 24⟩ []
    · try refine sA ?_
      have he := Option.some.inj h
      subst he
      exact endsA ⟨[(4, (.lf false (.sc (.bool false))))], [], 0, 24⟩ []
theorem w_spec_MergeDomains {a0 : (List DomainT)} {a1 : (List DomainT)} {r : ((List DomainT) × Bool)} (h : spec_MergeDomains a0 a1 = some r) : Fn Tryd.prog 43 [(.lf true (.sl (a0.map eDomain))), (.lf true (.sl (a1.map eDomain)))] [] 0 (.tu [(.os 0 3 0 r.1.length r.1.length false), (.lf false (.sc (.bool r.2)))]) [(0, some (true, .arr false 3 (r.1.map eDomain)))] 1 := by
  unfold spec_MergeDomains at h
  refine fn_code tab_ok mixed [(1000, [(0, 0), (1, 0)]), (1001, [(0, 0), (1, 0), (17, 0)]), (1002, [(4, 0), (5, 0)]), (1003, [(0, 0), (1, 0), (6, 0)]), (1004, [(0, 0), (1, 0), (6, 0), (7, 0)]), (1005, [(0, 0), (1, 0), (6, 0), (7, 0), (8, 0)]), (1006, [(0, 0), (1, 0), (6, 0), (7, 0), (8, 0), (27, 0)]), (1007, [(0, 0), (1, 0), (6, 0), (7, 0), (8, 0), (9, 0)]), (1008, [(0, 0), (1, 0), (6, 0), (7, 0), (8, 0), (9, 0), (37, 0)]), (1009, [(0, 0), (1, 0), (6, 0), (7, 0), (8, 0), (9, 0)]), (1010, [(0, 0), (1, 0), (6, 0), (7, 0), (8, 0)]), (1011, [(0, 0), (1, 0), (6, 0), (7, 0), (8, 0)]), (1012, [(0, 0), (1, 0), (6, 0), (7, 0), (8, 0)]), (1013, [(0, 0), (1, 0), (6, 0), (7, 0), (8, 0), (50, 0)]), (1014, [(0, 0), (1, 0), (6, 0), (7, 0), (8, 0)]), (1015, [(0, 0), (1, 0), (6, 0), (7, 0), (8, 0)]), (1016, [(0, 0), (1, 0), (6, 0), (7, 0), (8, 0), (83, 0)]), (1017, [(0, 0), (1, 0), (6, 0), (7, 0), (8, 0)]), (1018, [(0, 0), (1, 0), (6, 0), (7, 0), (8, 0)]), (1019, [(6, 0), (112, 0)]), (1020, [(4, 0), (5, 0)]), (1021, [(4, 0), (5, 0)]), (2037, []), (4001, []), (4013, []), (4016, [])] Tryd.func43 rfl rfl (by simp [Tryd.f43]) (by kernel_rfl) ?_
  simp only [Tryd.f43]
  refine sA ?_
  obtain ⟨p34, hq1, h⟩ := bind_ok h
  refine Sq_cut (fun s2 => s2 = ⟨[(0, (.lf true (.sl (a0.map eDomain)))), (1, (.lf true (.sl (a1.map eDomain)))), (17, (.lf false (.sc (.bool p34.t17))))], [], 0, 114⟩) ?_ ?_
  · try refine sA ?_
    obtain ⟨c32, hr2, hq1⟩ := bind_ok hq1
    refine Cl_sA (w_spec_GoodDomains hr2) ?_
    try refine sA ?_
    refine Sp_if hq1 (fun hq1 hc3 => ?_) (fun hq1 hc3 => ?_)
    · try refine sA ?_
      cases hq1
      exact X_cut rfl (weakA [])
    · try refine sA ?_
      obtain ⟨c33, hr4, hq1⟩ := bind_ok hq1
      refine Cl_sA (w_spec_GoodDomains hr4) ?_
      try refine sA ?_
      cases hq1
      exact X_cut rfl (weakA [])
  · intro s2 hJ; subst hJ
    try dsimp only at h
    try refine sA ?_
    refine Bs_if h (fun h hc5 => ?_) (fun h hc5 => ?_)
    · try refine sA ?_
      have he := Option.some.inj h
      subst he
      exact endsA ⟨[(4, (.os 0 3 0 (([] : List DomainT).length) (([] : List DomainT).length) false)), (5, (.lf false (.sc (.bool false))))], [(0, some (true, .arr false 3 (([] : List DomainT).map eDomain)))], 1, 114⟩ [none]
    · try refine sA ?_
      obtain ⟨y52, hl6, h⟩ := bind_ok h
      refine W_loopP (fun g35 : spec_MergeDomains_G1 => ⟨[(0, (.lf true (.sl (a0.map eDomain)))), (1, (.lf true (.sl (a1.map eDomain)))), (6, (.os 0 3 0 g35.c0.length g35.c0.length false)), (7, (.lf false (.sc (.int .i64 g35.t7)))), (8, (.lf false (.sc (.int .i64 g35.t8))))], [(0, some (true, .arr false 3 (g35.c0.map eDomain)))], 1, 114⟩) (spec_MergeDomains_L1 a0 a1) _ _ hl6 (weakA [none]) ?_
      · intro n1 g35 z1 hs1 hk1
        unfold spec_MergeDomains_L1 at hs1
        try dsimp only at hs1
        refine sA ?_
        refine Sp_if hs1 (fun hs1 hc7 => ?_) (fun hs1 hc7 => ?_)
        · try refine sA ?_
          obtain ⟨p44, hq8, hs1⟩ := bind_ok hs1
          refine Sq_cut (fun s2 => s2 = ⟨[(0, (.lf true (.sl (a0.map eDomain)))), (1, (.lf true (.sl (a1.map eDomain)))), (6, (.os 0 3 0 g35.c0.length g35.c0.length false)), (7, (.lf false (.sc (.int .i64 g35.t7)))), (8, (.lf false (.sc (.int .i64 g35.t8)))), (50, (.lf false (.sc (.bool p44.t50))))], [(0, some (true, .arr false 3 (g35.c0.map eDomain)))], 1, 114⟩) ?_ ?_
          · try refine sA ?_
            refine Sp_if hq8 (fun hq8 hc9 => ?_) (fun hq8 hc9 => ?_)
            · try refine sA ?_
              cases hq8
              exact X_cut rfl (weakA [some 0])
            · try refine sA ?_
              refine Sp_if hq8 (fun hq8 hc10 => ?_) (fun hq8 hc10 => ?_)
              · try refine sA ?_
                obtain ⟨hp11, hq8⟩ := guard_some hq8
                have hn11 : g35.t7.toNat < a0.length := by first | omega | (simp only [List.length_set, List.length_append, List.length_replicate, List.length_map]; omega)
                try refine sA ?_
                try refine andA ?_
                obtain ⟨hp12, hq8⟩ := guard_some hq8
                have hn12 : g35.t8.toNat < a1.length := by first | omega | (simp only [List.length_set, List.length_append, List.length_replicate, List.length_map]; omega)
                try refine sA ?_
                try refine andA ?_
                cases hq8
                exact X_cut rfl (weakA [some 0])
              · try refine sA ?_
                cases hq8
                exact X_cut rfl (weakA [some 0])
          · intro s2 hJ; subst hJ
            try dsimp only at hs1
            try refine sA ?_
            refine Bs_if hs1 (fun hs1 hc13 => ?_) (fun hs1 hc13 => ?_)
            · try refine sA ?_
              obtain ⟨hp14, hs1⟩ := guard_some hs1
              have hn14 : g35.t7.toNat < a0.length := by first | omega | (simp only [List.length_set, List.length_append, List.length_replicate, List.length_map]; omega)
              try refine sA ?_
              try refine andA ?_
              obtain ⟨hp15, hs1⟩ := guard_some hs1
              try refine sA ?_
              try refine andA ?_
              cases hs1
              exact X_backP hk1 (weakA [some 2])
            · try refine sA ?_
              obtain ⟨p45, hq16, hs1⟩ := bind_ok hs1
              refine Sq_cut (fun s2 => s2 = ⟨[(0, (.lf true (.sl (a0.map eDomain)))), (1, (.lf true (.sl (a1.map eDomain)))), (6, (.os 0 3 0 g35.c0.length g35.c0.length false)), (7, (.lf false (.sc (.int .i64 g35.t7)))), (8, (.lf false (.sc (.int .i64 g35.t8)))), (83, (.lf false (.sc (.bool p45.t83))))], [(0, some (true, .arr false 3 (g35.c0.map eDomain)))], 1, 114⟩) ?_ ?_
              · try refine sA ?_
                refine Sp_if hq16 (fun hq16 hc17 => ?_) (fun hq16 hc17 => ?_)
                · try refine sA ?_
                  cases hq16
                  exact X_cut rfl (weakA [some 0])
                · try refine sA ?_
                  obtain ⟨hp18, hq16⟩ := guard_some hq16
                  have hn18 : g35.t8.toNat < a1.length := by first | omega | (simp only [List.length_set, List.length_append, List.length_replicate, List.length_map]; omega)
                  try refine sA ?_
                  try refine andA ?_
                  obtain ⟨hp19, hq16⟩ := guard_some hq16
                  have hn19 : g35.t7.toNat < a0.length := by first | omega | (simp only [List.length_set, List.length_append, List.length_replicate, List.length_map]; omega)
                  try refine sA ?_
                  try refine andA ?_
                  cases hq16
                  exact X_cut rfl (weakA [some 0])
              · intro s2 hJ; subst hJ
                try dsimp only at hs1
                try refine sA ?_
                refine Bs_if hs1 (fun hs1 hc20 => ?_) (fun hs1 hc20 => ?_)
                · try refine sA ?_
                  obtain ⟨hp21, hs1⟩ := guard_some hs1
                  have hn21 : g35.t8.toNat < a1.length := by first | omega | (simp only [List.length_set, List.length_append, List.length_replicate, List.length_map]; omega)
                  try refine sA ?_
                  try refine andA ?_
                  obtain ⟨hp22, hs1⟩ := guard_some hs1
                  try refine sA ?_
                  try refine andA ?_
                  cases hs1
                  exact X_backP hk1 (weakA [some 2])
                · try refine sA ?_
                  obtain ⟨hp23, hs1⟩ := guard_some hs1
                  have hn23 : g35.t7.toNat < a0.length := by first | omega | (simp only [List.length_set, List.length_append, List.length_replicate, List.length_map]; omega)
                  try refine sA ?_
                  try refine andA ?_
                  obtain ⟨p47, hq24, hs1⟩ := bind_ok hs1
                  refine Sq_cut (fun s2 => s2 = ⟨[(0, (.lf true (.sl (a0.map eDomain)))), (1, (.lf true (.sl (a1.map eDomain)))), (6, (.os 0 3 0 g35.c0.length g35.c0.length false)), (7, (.lf false (.sc (.int .i64 g35.t7)))), (8, (.lf false (.sc (.int .i64 g35.t8)))), (9, (.pb 1 0))], [(0, some (true, .arr false 3 (g35.c0.map eDomain))), (1, some (true, .box [(.lf false (.sc (.string p47.b1_0))), (.lf false (.sc (.int .i64 p47.b1_1))), (.lf false (.sc (.string p47.b1_2)))]))], 2, 114⟩) ?_ ?_
                  · try refine sA ?_
                    obtain ⟨hp25, hq24⟩ := guard_some hq24
                    have hn25 : g35.t8.toNat < a1.length := by first | omega | (simp only [List.length_set, List.length_append, List.length_replicate, List.length_map]; omega)
                    try refine sA ?_
                    try refine andA ?_
                    obtain ⟨c46, hr26, hq24⟩ := bind_ok hq24
                    refine Cl_sA (w_spec_l13Less hr26) ?_
                    try refine sA ?_
                    refine Bs_if hq24 (fun hq24 hc27 => ?_) (fun hq24 hc27 => ?_)
                    · try refine sA ?_
                      obtain ⟨hp28, hq24⟩ := guard_some hq24
                      have hn28 : g35.t8.toNat < a1.length := by first | omega | (simp only [List.length_set, List.length_append, List.length_replicate, List.length_map]; omega)
                      try refine sA ?_
                      try refine andA ?_
                      cases hq24
                      exact X_cut rfl (weakA [some 0, some 1])
                    · try refine sA ?_
                      cases hq24
                      exact X_cut rfl (weakA [some 0, some 1])
                  · intro s2 hJ; subst hJ
                    try dsimp only at hs1
                    try refine sA ?_
                    obtain ⟨hp29, hs1⟩ := guard_some hs1
                    try refine sA ?_
                    try refine andA ?_
                    cases hs1
                    exact X_backP hk1 (weakA [some 3])
        · try refine sA ?_
          refine Bs_if hs1 (fun hs1 hc30 => ?_) (fun hs1 hc30 => ?_)
          · try refine sA ?_
            obtain ⟨p48, hq31, hs1⟩ := bind_ok hs1
            refine Sq_cut (fun s2 => s2 = ⟨[(0, (.lf true (.sl (a0.map eDomain)))), (1, (.lf true (.sl (a1.map eDomain)))), (6, (.os 0 3 0 g35.c0.length g35.c0.length false)), (7, (.lf false (.sc (.int .i64 g35.t7)))), (8, (.lf false (.sc (.int .i64 g35.t8)))), (50, (.lf false (.sc (.bool p48.t50))))], [(0, some (true, .arr false 3 (g35.c0.map eDomain)))], 1, 114⟩) ?_ ?_
            · try refine sA ?_
              refine Sp_if hq31 (fun hq31 hc32 => ?_) (fun hq31 hc32 => ?_)
              · try refine sA ?_
                cases hq31
                exact X_cut rfl (weakA [some 0])
              · try refine sA ?_
                refine Sp_if hq31 (fun hq31 hc33 => ?_) (fun hq31 hc33 => ?_)
                · try refine sA ?_
                  obtain ⟨hp34, hq31⟩ := guard_some hq31
                  have hn34 : g35.t7.toNat < a0.length := by first | omega | (simp only [List.length_set, List.length_append, List.length_replicate, List.length_map]; omega)
                  try refine sA ?_
                  try refine andA ?_
                  obtain ⟨hp35, hq31⟩ := guard_some hq31
                  have hn35 : g35.t8.toNat < a1.length := by first | omega | (simp only [List.length_set, List.length_append, List.length_replicate, List.length_map]; omega)
                  try refine sA ?_
                  try refine andA ?_
                  cases hq31
                  exact X_cut rfl (weakA [some 0])
                · try refine sA ?_
                  cases hq31
                  exact X_cut rfl (weakA [some 0])
            · intro s2 hJ; subst hJ
              try dsimp only at hs1
              try refine sA ?_
              refine Bs_if hs1 (fun hs1 hc36 => ?_) (fun hs1 hc36 => ?_)
              · try refine sA ?_
                obtain ⟨hp37, hs1⟩ := guard_some hs1
                have hn37 : g35.t7.toNat < a0.length := by first | omega | (simp only [List.length_set, List.length_append, List.length_replicate, List.length_map]; omega)
                try refine sA ?_
                try refine andA ?_
                obtain ⟨hp38, hs1⟩ := guard_some hs1
                try refine sA ?_
                try refine andA ?_
                cases hs1
                exact X_backP hk1 (weakA [some 2])
              · try refine sA ?_
                obtain ⟨p49, hq39, hs1⟩ := bind_ok hs1
                refine Sq_cut (fun s2 => s2 = ⟨[(0, (.lf true (.sl (a0.map eDomain)))), (1, (.lf true (.sl (a1.map eDomain)))), (6, (.os 0 3 0 g35.c0.length g35.c0.length false)), (7, (.lf false (.sc (.int .i64 g35.t7)))), (8, (.lf false (.sc (.int .i64 g35.t8)))), (83, (.lf false (.sc (.bool p49.t83))))], [(0, some (true, .arr false 3 (g35.c0.map eDomain)))], 1, 114⟩) ?_ ?_
                · try refine sA ?_
                  refine Sp_if hq39 (fun hq39 hc40 => ?_) (fun hq39 hc40 => ?_)
                  · try refine sA ?_
                    cases hq39
                    exact X_cut rfl (weakA [some 0])
                  · try refine sA ?_
                    obtain ⟨hp41, hq39⟩ := guard_some hq39
                    have hn41 : g35.t8.toNat < a1.length := by first | omega | (simp only [List.length_set, List.length_append, List.length_replicate, List.length_map]; omega)
                    try refine sA ?_
                    try refine andA ?_
                    obtain ⟨hp42, hq39⟩ := guard_some hq39
                    have hn42 : g35.t7.toNat < a0.length := by first | omega | (simp only [List.length_set, List.length_append, List.length_replicate, List.length_map]; omega)
                    try refine sA ?_
                    try refine andA ?_
                    cases hq39
                    exact X_cut rfl (weakA [some 0])
                · intro s2 hJ; subst hJ
                  try dsimp only at hs1
                  try refine sA ?_
                  refine Bs_if hs1 (fun hs1 hc43 => ?_) (fun hs1 hc43 => ?_)
                  · try refine sA ?_
                    obtain ⟨hp44, hs1⟩ := guard_some hs1
                    have hn44 : g35.t8.toNat < a1.length := by first | omega | (simp only [List.length_set, List.length_append, List.length_replicate, List.length_map]; omega)
                    try refine sA ?_
                    try refine andA ?_
                    obtain ⟨hp45, hs1⟩ := guard_some hs1
                    try refine sA ?_
                    try refine andA ?_
                    cases hs1
                    exact X_backP hk1 (weakA [some 2])
                  · try refine sA ?_
                    obtain ⟨hp46, hs1⟩ := guard_some hs1
                    have hn46 : g35.t7.toNat < a0.length := by first | omega | (simp only [List.length_set, List.length_append, List.length_replicate, List.length_map]; omega)
                    try refine sA ?_
                    try refine andA ?_
                    obtain ⟨p51, hq47, hs1⟩ := bind_ok hs1
                    refine Sq_cut (fun s2 => s2 = ⟨[(0, (.lf true (.sl (a0.map eDomain)))), (1, (.lf true (.sl (a1.map eDomain)))), (6, (.os 0 3 0 g35.c0.length g35.c0.length false)), (7, (.lf false (.sc (.int .i64 g35.t7)))), (8, (.lf false (.sc (.int .i64 g35.t8)))), (9, (.pb 1 0))], [(0, some (true, .arr false 3 (g35.c0.map eDomain))), (1, some (true, .box [(.lf false (.sc (.string p51.b1_0))), (.lf false (.sc (.int .i64 p51.b1_1))), (.lf false (.sc (.string p51.b1_2)))]))], 2, 114⟩) ?_ ?_
                    · try refine sA ?_
                      obtain ⟨hp48, hq47⟩ := guard_some hq47
                      have hn48 : g35.t8.toNat < a1.length := by first | omega | (simp only [List.length_set, List.length_append, List.length_replicate, List.length_map]; omega)
                      try refine sA ?_
                      try refine andA ?_
                      obtain ⟨c50, hr49, hq47⟩ := bind_ok hq47
                      refine Cl_sA (w_spec_l13Less hr49) ?_
                      try refine sA ?_
                      refine Bs_if hq47 (fun hq47 hc50 => ?_) (fun hq47 hc50 => ?_)
                      · try refine sA ?_
                        obtain ⟨hp51, hq47⟩ := guard_some hq47
                        have hn51 : g35.t8.toNat < a1.length := by first | omega | (simp only [List.length_set, List.length_append, List.length_replicate, List.length_map]; omega)
                        try refine sA ?_
                        try refine andA ?_
                        cases hq47
                        exact X_cut rfl (weakA [some 0, some 1])
                      · try refine sA ?_
                        cases hq47
                        exact X_cut rfl (weakA [some 0, some 1])
                    · intro s2 hJ; subst hJ
                      try dsimp only at hs1
                      try refine sA ?_
                      obtain ⟨hp52, hs1⟩ := guard_some hs1
                      try refine sA ?_
                      try refine andA ?_
                      cases hs1
                      exact X_backP hk1 (weakA [some 3])
          · try refine sA ?_
            cases hs1
            cases hk1
            try dsimp only at h
            try refine sA ?_
            refine Bs_if h (fun h hc53 => ?_) (fun h hc53 => ?_)
            · try refine sA ?_
              have he := Option.some.inj h
              subst he
              exact endsA ⟨[(4, (.os 0 3 0 (([] : List DomainT).length) (([] : List DomainT).length) false)), (5, (.lf false (.sc (.bool false))))], [(0, some (true, .arr false 3 (([] : List DomainT).map eDomain)))], 1, 114⟩ [none]
            · try refine sA ?_
              have he := Option.some.inj h
              subst he
              exact endsA ⟨[(4, (.os 0 3 0 g35.c0.length g35.c0.length false)), (5, (.lf false (.sc (.bool true))))], [(0, some (true, .arr false 3 (g35.c0.map eDomain)))], 1, 114⟩ [some 0]
theorem w_strings_Trim {a0 a1 : ByteArray} {r : ByteArray} (h : strings_Trim a0 a1 = some r) : Fn Tryd.prog 129 [.lf false (.sc (.string a0)), .lf false (.sc (.string a1))] [] 0 (.lf false (.sc (.string r))) [] 0 := by
  unfold strings_Trim at h
  obtain ⟨⟨hp1, hp2, hp3⟩, h⟩ := guard_some h
  have he := Option.some.inj h; subst he
  exact fn_str2 (Ent.of Tryd.func129 rfl (by simp [Tryd.f129])) fun w => Go.Proofs.Any.strings_Trim_laid Go.Proofs.Tryd.lays160 (by kernel_rfl) a0 a1 w hp1 hp2 (ascii_of_all hp3)
theorem w_impl_goodName {a0 : ByteArray} {r : Bool} (h : impl_goodName a0 = some r) : Fn Tryd.prog 88 [(.lf false (.sc (.string a0)))] [] 0 (.lf false (.sc (.bool r))) [] 0 := by
  unfold impl_goodName at h
  refine fn_code tab_ok mixed [] Tryd.func88 rfl rfl (by simp [Tryd.f88]) (by kernel_rfl) ?_
  simp only [Tryd.f88]
  refine sA ?_
  refine Sp_if h (fun h hc1 => ?_) (fun h hc1 => ?_)
  · try refine sA ?_
    obtain ⟨c57, hr2, h⟩ := bind_ok h
    refine Cl_sA (w_strings_Trim hr2) ?_
    try refine sA ?_
    have he := Option.some.inj h
    subst he
    exact endsA ⟨[(2, (.lf false (.sc (.bool (c57.toList == ByteArray.empty.toList)))))], [], 0, 11⟩ []
  · try refine sA ?_
    have he := Option.some.inj h
    subst he
    exact endsA ⟨[(2, (.lf false (.sc (.bool false))))], [], 0, 11⟩ []
theorem w_impl_in {a0 : Int} {a1 : Int} {a2 : Int} {r : Bool} (h : impl_in a0 a1 a2 = some r) : Fn Tryd.prog 80 [(.lf false (.sc (.int .i64 a0))), (.lf false (.sc (.int .i64 a1))), (.lf false (.sc (.int .i64 a2)))] [] 0 (.lf false (.sc (.bool r))) [] 0 := by
  unfold impl_in at h
  refine fn_code tab_ok mixed [] Tryd.func80 rfl rfl (by simp [Tryd.f80]) (by kernel_rfl) ?_
  simp only [Tryd.f80]
  refine sA ?_
  refine Sp_if h (fun h hc1 => ?_) (fun h hc1 => ?_)
  · try refine sA ?_
    have he := Option.some.inj h
    subst he
    exact endsA ⟨[(6, (.lf false (.sc (.bool (decide (a0 ≤ a2))))))], [], 0, 15⟩ []
  · try refine sA ?_
    have he := Option.some.inj h
    subst he
    exact endsA ⟨[(6, (.lf false (.sc (.bool false))))], [], 0, 15⟩ []
theorem w_impl_isVersion {a0 : Int} {r : Bool} (h : impl_isVersion a0 = some r) : Fn Tryd.prog 103 [(.lf false (.sc (.int .i64 a0)))] [] 0 (.lf false (.sc (.bool r))) [] 0 := by
  unfold impl_isVersion at h
  refine fn_code tab_ok mixed [] Tryd.func103 rfl rfl (by simp [Tryd.f103]) (by kernel_rfl) ?_
  simp only [Tryd.f103]
  refine sA ?_
  obtain ⟨c59, hr1, h⟩ := bind_ok h
  refine Cl_sA (w_impl_in hr1) ?_
  try refine sA ?_
  have he := Option.some.inj h
  subst he
  exact endsA ⟨[(2, (.lf false (.sc (.bool c59))))], [], 0, 5⟩ []
theorem w_impl_GoodDomains {a0 : (List DomainT)} {r : Bool} (h : impl_GoodDomains a0 = some r) : Fn Tryd.prog 51 [(.lf true (.sl (a0.map eDomain)))] [] 0 (.lf false (.sc (.bool r))) [] 0 := by
  unfold impl_GoodDomains at h
  refine fn_code tab_ok mixed [(1000, [(0, 0)]), (1001, [(0, 0), (7, 0)]), (1002, [(2, 0)]), (1003, [(0, 0), (8, 0), (9, 0), (10, 0)]), (1004, [(0, 0), (8, 0), (9, 0), (10, 0), (11, 0)]), (1005, [(0, 0), (3, 0), (4, 0), (8, 0), (9, 0), (10, 0)]), (1006, [(0, 0), (8, 0), (9, 0), (10, 0), (50, 0)]), (1007, [(2, 0)]), (1008, [(0, 0), (8, 0), (9, 0), (10, 0)]), (1009, [(2, 0)]), (4006, [])] Tryd.func51 rfl rfl (by simp [Tryd.f51]) (by kernel_rfl) ?_
  simp only [Tryd.f51]
  refine sA ?_
  refine Bs_if h (fun h hc1 => ?_) (fun h hc1 => ?_)
  · try refine sA ?_
    have he := Option.some.inj h
    subst he
    exact endsA ⟨[(2, (.lf false (.sc (.bool false))))], [], 0, 52⟩ []
  · try refine sA ?_
    obtain ⟨y65, hl2, h⟩ := bind_ok h
    refine W_loopP (fun g56 : impl_GoodDomains_G1 => ⟨[(0, (.lf true (.sl (a0.map eDomain)))), (8, (.lf true (.sl (a0.map eDomain)))), (9, (.lf false (.sc (.int .i64 ((a0.length : Nat) : Int))))), (10, (.lf false (.sc (.int .i64 g56.t10))))], [], 0, 52⟩) (impl_GoodDomains_L1 a0) _ _ hl2 (weakA []) ?_
    · intro n1 g56 z1 hs1 hk1
      unfold impl_GoodDomains_L1 at hs1
      try dsimp only at hs1
      refine sA ?_
      refine Bs_if hs1 (fun hs1 hc3 => ?_) (fun hs1 hc3 => ?_)
      · try refine sA ?_
        obtain ⟨hp4, hs1⟩ := guard_some hs1
        have hn4 : g56.t10.toNat < a0.length := by first | omega | (simp only [List.length_set, List.length_append, List.length_replicate, List.length_map]; omega)
        try refine sA ?_
        try refine andA ?_
        obtain ⟨p64, hq5, hs1⟩ := bind_ok hs1
        refine Sq_cut (fun s2 => s2 = ⟨[(0, (.lf true (.sl (a0.map eDomain)))), (8, (.lf true (.sl (a0.map eDomain)))), (9, (.lf false (.sc (.int .i64 ((a0.length : Nat) : Int))))), (10, (.lf false (.sc (.int .i64 g56.t10)))), (50, (.lf false (.sc (.bool p64.t50))))], [], 0, 52⟩) ?_ ?_
        · try refine sA ?_
          refine Sp_if hq5 (fun hq5 hc6 => ?_) (fun hq5 hc6 => ?_)
          · try refine sA ?_
            cases hq5
            exact X_cut rfl (weakA [])
          · try refine sA ?_
            obtain ⟨c62, hr7, hq5⟩ := bind_ok hq5
            refine Cl_sA (w_impl_goodName hr7) ?_
            try refine sA ?_
            refine Sp_if hq5 (fun hq5 hc8 => ?_) (fun hq5 hc8 => ?_)
            · try refine sA ?_
              cases hq5
              exact X_cut rfl (weakA [])
            · try refine sA ?_
              obtain ⟨c63, hr9, hq5⟩ := bind_ok hq5
              refine Cl_sA (w_impl_isVersion hr9) ?_
              try refine sA ?_
              refine Sp_if hq5 (fun hq5 hc10 => ?_) (fun hq5 hc10 => ?_)
              · try refine sA ?_
                cases hq5
                exact X_cut rfl (weakA [])
              · try refine sA ?_
                refine Sp_if hq5 (fun hq5 hc11 => ?_) (fun hq5 hc11 => ?_)
                · try refine sA ?_
                  cases hq5
                  exact X_cut rfl (weakA [])
                · try refine sA ?_
                  refine Sp_if hq5 (fun hq5 hc12 => ?_) (fun hq5 hc12 => ?_)
                  · try refine sA ?_
                    obtain ⟨hp13, hq5⟩ := guard_some hq5
                    have hn13 : (wI (g56.t10 - 1)).toNat < a0.length := by first | omega | (simp only [List.length_set, List.length_append, List.length_replicate, List.length_map]; omega)
                    try refine sA ?_
                    try refine andA ?_
                    cases hq5
                    exact X_cut rfl (weakA [])
                  · try refine sA ?_
                    cases hq5
                    exact X_cut rfl (weakA [])
        · intro s2 hJ; subst hJ
          try dsimp only at hs1
          try refine sA ?_
          refine Bs_if hs1 (fun hs1 hc14 => ?_) (fun hs1 hc14 => ?_)
          · try refine sA ?_
            cases hs1
            cases hk1
            try dsimp only at h
            try refine sA ?_
            have he := Option.some.inj h
            subst he
            exact endsA ⟨[(2, (.lf false (.sc (.bool false))))], [], 0, 52⟩ []
          · try refine sA ?_
            cases hs1
            exact X_backP hk1 (weakA [])
      · try refine sA ?_
        cases hs1
        cases hk1
        try dsimp only at h
        try refine sA ?_
        have he := Option.some.inj h
        subst he
        exact endsA ⟨[(2, (.lf false (.sc (.bool true))))], [], 0, 52⟩ []
theorem w_slices_Clone_impl_Domain {a0 : (List DomainT)} {r : (List DomainT)} (h : slices_Clone_impl_Domain a0 = some r) : Fn Tryd.prog 95 [(.lf true (.sl (a0.map eDomain)))] [] 0 (.os 0 3 0 r.length r.length false) [(0, some (true, .arr false 3 (r.map eDomain)))] 1 := by
  unfold slices_Clone_impl_Domain at h
  obtain ⟨hp, h⟩ := guard_some h
  have he := Option.some.inj h; subst he
  refine fn_code tab_ok mixed [] Tryd.func95 rfl rfl (by simp [Tryd.f95]) (by kernel_rfl) ?_
  simp only [Tryd.f95]
  simp (disch := assumption) only [go_sem, Nat.reduceAdd, Nat.reduceMul, Nat.reduceSub, Nat.reduceEqDiff, ↓reduceIte, Nat.reduceLT, reduceCtorEq, Nat.reduceLeDiff, Int.reduceToNat, Int.reduceEq, Int.reduceLE, Int.reduceLT, Nat.reduceBEq]
  intro b hb
  refine Bs_splitC (b = true) (by simp) (fun hc => ?_) (fun hc => ?_)
  · have h0 : a0 = [] := by simpa using hb (by simpa using hc)
    subst h0
    try simp (disch := assumption) only [go_sem, Nat.reduceAdd, Nat.reduceMul, Nat.reduceSub, Nat.reduceEqDiff, ↓reduceIte, Nat.reduceLT, reduceCtorEq, Nat.reduceLeDiff, Int.reduceToNat, Int.reduceEq, Int.reduceLE, Int.reduceLT, Nat.reduceBEq]
    refine ends_weak ⟨[(2, (.os 0 3 0 0 0 false))], [(0, some (true, .arr false 3 (([] : List DomainT).map eDomain)))], 1, 8⟩ (weak_of (m := 0) [none] rfl rfl rfl (by rfl) ?_ ?_) ?_
    all_goals ((try simp (disch := assumption) only [go_sem, Nat.reduceAdd, Nat.reduceMul, Nat.reduceSub, Nat.reduceEqDiff, ↓reduceIte, Nat.reduceLT, reduceCtorEq, Nat.reduceLeDiff, Int.reduceToNat, Int.reduceEq, Int.reduceLE, Int.reduceLT, Nat.reduceBEq]); (repeat' first | done | rfl | omega | refine And.intro ?_ ?_ | (simp; done) | (simp; omega)))
  · try simp (disch := assumption) only [go_sem, Nat.reduceAdd, Nat.reduceMul, Nat.reduceSub, Nat.reduceEqDiff, ↓reduceIte, Nat.reduceLT, reduceCtorEq, Nat.reduceLeDiff, Int.reduceToNat, Int.reduceEq, Int.reduceLE, Int.reduceLT, Nat.reduceBEq]
    first | refine And.intro (by first | omega | exact ⟨by omega, fun _ => mapLen fun _ => rfl⟩ | (refine ⟨?_, by omega⟩; first | exact mapLen fun _ => rfl | simp)) ?_ | skip
    try simp (disch := assumption) only [go_sem, Nat.reduceAdd, Nat.reduceMul, Nat.reduceSub, Nat.reduceEqDiff, ↓reduceIte, Nat.reduceLT, reduceCtorEq, Nat.reduceLeDiff, Int.reduceToNat, Int.reduceEq, Int.reduceLE, Int.reduceLT, Nat.reduceBEq]
    refine ends_weak ⟨[(2, (.os 0 3 0 a0.length a0.length false))], [(0, some (true, .arr false 3 (a0.map eDomain)))], 1, 8⟩ (weak_of (m := 0) [some 1] rfl rfl rfl (by rfl) ?_ ?_) ?_
    all_goals ((try simp (disch := assumption) only [go_sem, Nat.reduceAdd, Nat.reduceMul, Nat.reduceSub, Nat.reduceEqDiff, ↓reduceIte, Nat.reduceLT, reduceCtorEq, Nat.reduceLeDiff, Int.reduceToNat, Int.reduceEq, Int.reduceLE, Int.reduceLT, Nat.reduceBEq]); (repeat' first | done | rfl | omega | refine And.intro ?_ ?_ | (simp; done) | (simp; omega)))
theorem w_impl_domainAt_c1_r {a0 : DomainT} {a1 : ByteArray} {r : Bool} (h : impl_domainAt_c1_r a0 a1 = some r) : Fn Tryd.prog 133 [(.ag [(.lf false (.sc (.string a0.Name))), (.lf false (.sc (.int .i64 a0.Version))), (.lf false (.sc (.string a0.Note)))]), (.ra true [.sc (.string a1)])] [] 0 (.lf false (.sc (.bool r))) [] 0 := by
  unfold impl_domainAt_c1_r at h
  refine fn_code tab_ok mixed [] Tryd.func133 rfl rfl (by simp [Tryd.f133]) (by kernel_rfl) ?_
  simp only [Tryd.f133]
  refine sA ?_
  have he := Option.some.inj h
  subst he
  exact endsA ⟨[(3, (.lf false (.sc (.bool (a0.Name.toList == a1.toList)))))], [], 0, 8⟩ []
theorem w_slices_IndexFunc_impl_Domain_impl_domainAt_c1r {a0 : (List DomainT)} {a1 : ByteArray} {r : Int} (h : slices_IndexFunc_impl_Domain_impl_domainAt_c1r a0 a1 = some r) : Fn Tryd.prog 132 [(.lf true (.sl (a0.map eDomain))), (.fn 133 [(.ra true [.sc (.string a1)])])] [] 0 (.lf false (.sc (.int .i64 r))) [] 0 := by
  unfold slices_IndexFunc_impl_Domain_impl_domainAt_c1r at h
  refine fn_code tab_ok mixed [(1000, [(0, 0), (1, 0)]), (1001, [(0, 0), (1, 0), (7, 0), (8, 0)]), (1002, [(0, 0), (1, 0), (7, 0), (8, 0), (9, 0)]), (1003, [(0, 0), (1, 0), (5, 0), (7, 0), (8, 0)]), (1004, [(0, 0), (1, 0), (5, 0), (7, 0), (8, 0), (16, 0)]), (1005, [(4, 0)]), (1006, [(0, 0), (1, 0), (7, 0), (8, 0)]), (1007, [(4, 0)])] Tryd.func132 rfl rfl (by simp [Tryd.f132]) (by kernel_rfl) ?_
  simp only [Tryd.f132]
  refine sA ?_
  obtain ⟨y76, hl1, h⟩ := bind_ok h
  refine W_loopP (fun g73 : slices_IndexFunc_impl_Domain_impl_domainAt_c1r_G1 => ⟨[(0, (.lf true (.sl (a0.map eDomain)))), (1, (.fn 133 [(.ra true [.sc (.string a1)])])), (7, (.lf false (.sc (.int .i64 ((a0.length : Nat) : Int))))), (8, (.lf false (.sc (.int .i64 g73.t8))))], [], 0, 19⟩) (slices_IndexFunc_impl_Domain_impl_domainAt_c1r_L1 a0 a1) _ _ hl1 (weakA []) ?_
  · intro n1 g73 z1 hs1 hk1
    unfold slices_IndexFunc_impl_Domain_impl_domainAt_c1r_L1 at hs1
    try dsimp only at hs1
    refine sA ?_
    refine Bs_if hs1 (fun hs1 hc2 => ?_) (fun hs1 hc2 => ?_)
    · try refine sA ?_
      obtain ⟨hp3, hs1⟩ := guard_some hs1
      have hn3 : g73.t8.toNat < a0.length := by first | omega | (simp only [List.length_set, List.length_append, List.length_replicate, List.length_map]; omega)
      try refine sA ?_
      try refine andA ?_
      obtain ⟨c75, hr4, hs1⟩ := bind_ok hs1
      refine Cl_sA (w_impl_domainAt_c1_r hr4) ?_
      try refine sA ?_
      refine Bs_if hs1 (fun hs1 hc5 => ?_) (fun hs1 hc5 => ?_)
      · try refine sA ?_
        cases hs1
        cases hk1
        try dsimp only at h
        try refine sA ?_
        have he := Option.some.inj h
        subst he
        exact endsA ⟨[(4, (.lf false (.sc (.int .i64 g73.t8))))], [], 0, 19⟩ []
      · try refine sA ?_
        cases hs1
        exact X_backP hk1 (weakA [])
    · try refine sA ?_
      cases hs1
      cases hk1
      try dsimp only at h
      try refine sA ?_
      have he := Option.some.inj h
      subst he
      exact endsA ⟨[(4, (.lf false (.sc (.int .i64 (-1)))))], [], 0, 19⟩ []
theorem w_impl_domainAt {a0 : (List DomainT)} {a1 : ByteArray} {r : Int} (h : impl_domainAt a0 a1 = some r) : Fn Tryd.prog 96 [(.lf true (.sl (a0.map eDomain))), (.lf false (.sc (.string a1)))] [] 0 (.lf false (.sc (.int .i64 r))) [] 0 := by
  unfold impl_domainAt at h
  refine fn_code tab_ok mixed [] Tryd.func96 rfl rfl (by simp [Tryd.f96]) (by kernel_rfl) ?_
  simp only [Tryd.f96]
  refine sA ?_
  obtain ⟨c79, hr1, h⟩ := bind_ok h
  refine Cl_sA (w_slices_IndexFunc_impl_Domain_impl_domainAt_c1r hr1) ?_
  try refine sA ?_
  have he := Option.some.inj h
  subst he
  exact endsA ⟨[(4, (.lf false (.sc (.int .i64 c79))))], [], 0, 8⟩ []
theorem w_cmp_isNaN_int {a0 : Int} {r : Bool} (h : cmp_isNaN_int a0 = some r) : Fn Tryd.prog 158 [(.lf false (.sc (.int .i64 a0)))] [] 0 (.lf false (.sc (.bool r))) [] 0 := by
  unfold cmp_isNaN_int at h
  refine fn_code tab_ok mixed [] Tryd.func158 rfl rfl (by simp [Tryd.f158]) (by kernel_rfl) ?_
  simp only [Tryd.f158]
  refine sA ?_
  have he := Option.some.inj h
  subst he
  exact endsA ⟨[(2, (.lf false (.sc (.bool (a0 != a0)))))], [], 0, 6⟩ []
theorem w_cmp_Compare_int {a0 : Int} {a1 : Int} {r : Int} (h : cmp_Compare_int a0 a1 = some r) : Fn Tryd.prog 135 [(.lf false (.sc (.int .i64 a0))), (.lf false (.sc (.int .i64 a1)))] [] 0 (.lf false (.sc (.int .i64 r))) [] 0 := by
  unfold cmp_Compare_int at h
  refine fn_code tab_ok mixed [(1000, [(0, 0), (1, 0)]), (1001, [(0, 0), (1, 0), (5, 0)]), (1002, [(0, 0), (1, 0), (5, 0), (6, 0)]), (1003, [(0, 0), (1, 0), (6, 0), (11, 0)]), (1004, [(12, 0)]), (1005, [(4, 0)]), (1006, [(4, 0)]), (1007, [(0, 0), (1, 0), (13, 0)]), (1008, [(4, 0)]), (1009, [(0, 0), (1, 0), (16, 0)]), (1010, [(4, 0)]), (1011, [(19, 0)]), (1012, [(4, 0)]), (1013, [(4, 0)])] Tryd.func135 rfl rfl (by simp [Tryd.f135]) (by kernel_rfl) ?_
  simp only [Tryd.f135]
  refine sA ?_
  obtain ⟨c81, hr1, h⟩ := bind_ok h
  refine Cl_sA (w_cmp_isNaN_int hr1) ?_
  try refine sA ?_
  obtain ⟨c82, hr2, h⟩ := bind_ok h
  refine Cl_sA (w_cmp_isNaN_int hr2) ?_
  try refine sA ?_
  refine Bs_if h (fun h hc3 => ?_) (fun h hc3 => ?_)
  · try refine sA ?_
    refine Bs_if h (fun h hc4 => ?_) (fun h hc4 => ?_)
    · try refine sA ?_
      have he := Option.some.inj h
      subst he
      exact endsA ⟨[(4, (.lf false (.sc (.int .i64 0))))], [], 0, 20⟩ []
    · try refine sA ?_
      have he := Option.some.inj h
      subst he
      exact endsA ⟨[(4, (.lf false (.sc (.int .i64 (-1)))))], [], 0, 20⟩ []
  · try refine sA ?_
    refine Bs_if h (fun h hc5 => ?_) (fun h hc5 => ?_)
    · try refine sA ?_
      have he := Option.some.inj h
      subst he
      exact endsA ⟨[(4, (.lf false (.sc (.int .i64 1))))], [], 0, 20⟩ []
    · try refine sA ?_
      refine Bs_if h (fun h hc6 => ?_) (fun h hc6 => ?_)
      · try refine sA ?_
        have he := Option.some.inj h
        subst he
        exact endsA ⟨[(4, (.lf false (.sc (.int .i64 (-1)))))], [], 0, 20⟩ []
      · try refine sA ?_
        refine Bs_if h (fun h hc7 => ?_) (fun h hc7 => ?_)
        · try refine sA ?_
          have he := Option.some.inj h
          subst he
          exact endsA ⟨[(4, (.lf false (.sc (.int .i64 1))))], [], 0, 20⟩ []
        · try refine sA ?_
          have he := Option.some.inj h
          subst he
          exact endsA ⟨[(4, (.lf false (.sc (.int .i64 0))))], [], 0, 20⟩ []
theorem w_cmp_isNaN_string {a0 : ByteArray} {r : Bool} (h : cmp_isNaN_string a0 = some r) : Fn Tryd.prog 138 [(.lf false (.sc (.string a0)))] [] 0 (.lf false (.sc (.bool r))) [] 0 := by
  unfold cmp_isNaN_string at h
  refine fn_code tab_ok mixed [] Tryd.func138 rfl rfl (by simp [Tryd.f138]) (by kernel_rfl) ?_
  simp only [Tryd.f138]
  refine sA ?_
  have he := Option.some.inj h
  subst he
  exact endsA ⟨[(2, (.lf false (.sc (.bool (!(a0.toList == a0.toList))))))], [], 0, 6⟩ []
theorem w_cmp_Compare_string {a0 : ByteArray} {a1 : ByteArray} {r : Int} (h : cmp_Compare_string a0 a1 = some r) : Fn Tryd.prog 100 [(.lf false (.sc (.string a0))), (.lf false (.sc (.string a1)))] [] 0 (.lf false (.sc (.int .i64 r))) [] 0 := by
  unfold cmp_Compare_string at h
  refine fn_code tab_ok mixed [(1000, [(0, 0), (1, 0)]), (1001, [(0, 0), (1, 0), (5, 0)]), (1002, [(0, 0), (1, 0), (5, 0), (6, 0)]), (1003, [(0, 0), (1, 0), (6, 0), (11, 0)]), (1004, [(12, 0)]), (1005, [(4, 0)]), (1006, [(4, 0)]), (1007, [(0, 0), (1, 0), (13, 0)]), (1008, [(4, 0)]), (1009, [(0, 0), (1, 0), (16, 0)]), (1010, [(4, 0)]), (1011, [(19, 0)]), (1012, [(4, 0)]), (1013, [(4, 0)])] Tryd.func100 rfl rfl (by simp [Tryd.f100]) (by kernel_rfl) ?_
  simp only [Tryd.f100]
  refine sA ?_
  obtain ⟨c84, hr1, h⟩ := bind_ok h
  refine Cl_sA (w_cmp_isNaN_string hr1) ?_
  try refine sA ?_
  obtain ⟨c85, hr2, h⟩ := bind_ok h
  refine Cl_sA (w_cmp_isNaN_string hr2) ?_
  try refine sA ?_
  refine Bs_if h (fun h hc3 => ?_) (fun h hc3 => ?_)
  · try refine sA ?_
    refine Bs_if h (fun h hc4 => ?_) (fun h hc4 => ?_)
    · try refine sA ?_
      have he := Option.some.inj h
      subst he
      exact endsA ⟨[(4, (.lf false (.sc (.int .i64 0))))], [], 0, 20⟩ []
    · try refine sA ?_
      have he := Option.some.inj h
      subst he
      exact endsA ⟨[(4, (.lf false (.sc (.int .i64 (-1)))))], [], 0, 20⟩ []
  · try refine sA ?_
    refine Bs_if h (fun h hc5 => ?_) (fun h hc5 => ?_)
    · try refine sA ?_
      have he := Option.some.inj h
      subst he
      exact endsA ⟨[(4, (.lf false (.sc (.int .i64 1))))], [], 0, 20⟩ []
    · try refine sA ?_
      refine Bs_if h (fun h hc6 => ?_) (fun h hc6 => ?_)
      · try refine sA ?_
        have he := Option.some.inj h
        subst he
        exact endsA ⟨[(4, (.lf false (.sc (.int .i64 (-1)))))], [], 0, 20⟩ []
      · try refine sA ?_
        refine Bs_if h (fun h hc7 => ?_) (fun h hc7 => ?_)
        · try refine sA ?_
          have he := Option.some.inj h
          subst he
          exact endsA ⟨[(4, (.lf false (.sc (.int .i64 1))))], [], 0, 20⟩ []
        · try refine sA ?_
          have he := Option.some.inj h
          subst he
          exact endsA ⟨[(4, (.lf false (.sc (.int .i64 0))))], [], 0, 20⟩ []
theorem w_cmp_Or_int {a0 : (List Int)} {r : Int} (h : cmp_Or_int a0 = some r) : Fn Tryd.prog 134 [(.lf true (.sl (a0.map eI)))] [] 0 (.lf false (.sc (.int .i64 r))) [] 0 := by
  unfold cmp_Or_int at h
  refine fn_code tab_ok mixed [(1000, [(0, 0)]), (1001, [(0, 0), (3, 0)]), (1002, [(3, 0), (6, 0), (7, 0), (8, 0)]), (1003, [(3, 0), (6, 0), (7, 0), (8, 0), (9, 0)]), (1004, [(3, 0), (5, 0), (6, 0), (7, 0), (8, 0)]), (1005, [(3, 0), (5, 0), (6, 0), (7, 0), (8, 0), (14, 0)]), (1006, [(2, 0)]), (1007, [(3, 0), (6, 0), (7, 0), (8, 0)]), (1008, [(2, 0)])] Tryd.func134 rfl rfl (by simp [Tryd.f134]) (by kernel_rfl) ?_
  simp only [Tryd.f134]
  refine sA ?_
  obtain ⟨y88, hl1, h⟩ := bind_ok h
  refine W_loopP (fun g87 : cmp_Or_int_G1 => ⟨[(3, (.lf false (.sc (.int .i64 0)))), (6, (.lf true (.sl (a0.map eI)))), (7, (.lf false (.sc (.int .i64 ((a0.length : Nat) : Int))))), (8, (.lf false (.sc (.int .i64 g87.t8))))], [], 0, 18⟩) (cmp_Or_int_L1 a0) _ _ hl1 (weakA []) ?_
  · intro n1 g87 z1 hs1 hk1
    unfold cmp_Or_int_L1 at hs1
    try dsimp only at hs1
    refine sA ?_
    refine Bs_if hs1 (fun hs1 hc2 => ?_) (fun hs1 hc2 => ?_)
    · try refine sA ?_
      obtain ⟨hp3, hs1⟩ := guard_some hs1
      have hn3 : g87.t8.toNat < a0.length := by first | omega | (simp only [List.length_set, List.length_append, List.length_replicate, List.length_map]; omega)
      try refine sA ?_
      try refine andA ?_
      refine Bs_if hs1 (fun hs1 hc4 => ?_) (fun hs1 hc4 => ?_)
      · try refine sA ?_
        cases hs1
        cases hk1
        try dsimp only at h
        try refine sA ?_
        have he := Option.some.inj h
        subst he
        exact endsA ⟨[(2, (.lf false (.sc (.int .i64 (nth a0 g87.t8.toNat)))))], [], 0, 18⟩ []
      · try refine sA ?_
        cases hs1
        exact X_backP hk1 (weakA [])
    · try refine sA ?_
      cases hs1
      cases hk1
      try dsimp only at h
      try refine sA ?_
      have he := Option.some.inj h
      subst he
      exact endsA ⟨[(2, (.lf false (.sc (.int .i64 0))))], [], 0, 18⟩ []
theorem w_impl_greater {a0 : DomainT} {a1 : DomainT} {r : Int} (h : impl_greater a0 a1 = some r) : Fn Tryd.prog 97 [(.ag [(.lf false (.sc (.string a0.Name))), (.lf false (.sc (.int .i64 a0.Version))), (.lf false (.sc (.string a0.Note)))]), (.ag [(.lf false (.sc (.string a1.Name))), (.lf false (.sc (.int .i64 a1.Version))), (.lf false (.sc (.string a1.Note)))])] [] 0 (.lf false (.sc (.int .i64 r))) [] 0 := by
  unfold impl_greater at h
  refine fn_code tab_ok mixed [(1, [(6, 4), (8, 4)])] Tryd.func97 rfl rfl (by simp [Tryd.f97]) (by kernel_rfl) ?_
  simp only [Tryd.f97]
  refine sA ?_
  obtain ⟨c83, hr1, h⟩ := bind_ok h
  refine Cl_sA (w_cmp_Compare_int hr1) ?_
  try refine sA ?_
  obtain ⟨c86, hr2, h⟩ := bind_ok h
  refine Cl_sA (w_cmp_Compare_string hr2) ?_
  try refine sA ?_
  obtain ⟨c91, hr3, h⟩ := bind_ok h
  refine Cl_sA (w_cmp_Or_int hr3) ?_
  try refine sA ?_
  have he := Option.some.inj h
  subst he
  exact endsA ⟨[(4, (.lf false (.sc (.int .i64 c91))))], [], 0, 17⟩ []
theorem w_slices_SortFunc_impl_Domain_by_name {a0 : List DomainT} {m0 : Nat} {x0 : Bool} {r : List DomainT} (h : slices_SortFunc_impl_Domain_by_name a0 = some r) : Fn Tryd.prog 98 [(.os 0 3 0 a0.length m0 x0), (.fn 99 [])] [(0, some (false, .arr true 3 (a0.map eDomain)))] 1 (.tu []) [(0, some (false, .arr false 3 (r.map eDomain)))] 1 := by
  unfold slices_SortFunc_impl_Domain_by_name at h
  obtain ⟨⟨hp1, hp2⟩, h⟩ := guard_some h
  have he := Option.some.inj h; subst he
  have e1 : Ent Tryd.prog (Tryd.sortD_ren.f 6) := (Ent.of Tryd.func98 rfl (by simp [Tryd.f98]) : Ent Tryd.prog 98)
  have e2 := enters_of (P := Tryd.prog) Tryd.func99 (by kernel_rfl) rfl
  have key := sort_names (α := DomainT) (E := eDomain) (m0 := m0) (x0 := x0) (t0 := true) Go.Proofs.Tryd.sortD e1 Tryd.sortAgg Tryd.sortSize (fun x => [.string x.Name, .int .i64 x.Version, .string x.Note]) (fun x => x.Name) (fun _ => rfl) (fun _ => rfl) (fun x v hv => by simp at hv; rcases hv with rfl | rfl | rfl <;> rfl) e2 (fun x y W => Tryd.closure99 x.Name x.Note y.Name y.Note x.Version y.Version W) hp1 hp2
  have e0 : Tryd.sortD_ren.f 6 = 98 := rfl
  rw [e0] at key
  exact key
theorem w_impl_MergeDomains {a0 : (List DomainT)} {a1 : (List DomainT)} {r : ((List DomainT) × Bool)} (h : impl_MergeDomains a0 a1 = some r) : Fn Tryd.prog 45 [(.lf true (.sl (a0.map eDomain))), (.lf true (.sl (a1.map eDomain)))] [] 0 (.tu [(.os 0 3 0 r.1.length r.1.length false), (.lf false (.sc (.bool r.2)))]) [(0, some (true, .arr false 3 (r.1.map eDomain)))] 1 := by
  unfold impl_MergeDomains at h
  refine fn_code tab_ok mixed [(1000, [(0, 0), (1, 0)]), (1001, [(0, 0), (1, 0), (17, 0)]), (1002, [(4, 0), (5, 0)]), (1003, [(1, 0), (6, 0)]), (1004, [(6, 0), (20, 0), (21, 0), (22, 0)]), (1005, [(6, 0), (20, 0), (21, 0), (22, 0), (23, 0)]), (1006, [(6, 0), (8, 0), (20, 0), (21, 0), (22, 0)]), (1007, [(6, 0), (8, 0), (9, 0), (20, 0), (21, 0), (22, 0)]), (1008, [(6, 0), (8, 0), (9, 0), (20, 0), (21, 0), (22, 0), (30, 0)]), (1009, [(6, 0), (20, 0), (21, 0), (22, 0)]), (1010, [(6, 0), (8, 0), (9, 0), (20, 0), (21, 0), (22, 0), (37, 0)]), (1011, [(6, 0), (20, 0), (21, 0), (22, 0)]), (1012, [(6, 0), (20, 0), (21, 0), (22, 0)]), (1013, [(6, 0)]), (1014, [(6, 0), (54, 0)]), (1015, [(4, 0), (5, 0)]), (1016, [(4, 0), (5, 0)]), (4001, [])] Tryd.func45 rfl rfl (by simp [Tryd.f45]) (by kernel_rfl) ?_
  simp only [Tryd.f45]
  refine sA ?_
  obtain ⟨p70, hq1, h⟩ := bind_ok h
  refine Sq_cut (fun s2 => s2 = ⟨[(0, (.lf true (.sl (a0.map eDomain)))), (1, (.lf true (.sl (a1.map eDomain)))), (17, (.lf false (.sc (.bool p70.t17))))], [], 0, 56⟩) ?_ ?_
  · try refine sA ?_
    obtain ⟨c68, hr2, hq1⟩ := bind_ok hq1
    refine Cl_sA (w_impl_GoodDomains hr2) ?_
    try refine sA ?_
    refine Sp_if hq1 (fun hq1 hc3 => ?_) (fun hq1 hc3 => ?_)
    · try refine sA ?_
      cases hq1
      exact X_cut rfl (weakA [])
    · try refine sA ?_
      obtain ⟨c69, hr4, hq1⟩ := bind_ok hq1
      refine Cl_sA (w_impl_GoodDomains hr4) ?_
      try refine sA ?_
      cases hq1
      exact X_cut rfl (weakA [])
  · intro s2 hJ; subst hJ
    try dsimp only at h
    try refine sA ?_
    refine Bs_if h (fun h hc5 => ?_) (fun h hc5 => ?_)
    · try refine sA ?_
      have he := Option.some.inj h
      subst he
      exact endsA ⟨[(4, (.os 0 3 0 (([] : List DomainT).length) (([] : List DomainT).length) false)), (5, (.lf false (.sc (.bool false))))], [(0, some (true, .arr false 3 (([] : List DomainT).map eDomain)))], 1, 56⟩ [none]
    · try refine sA ?_
      obtain ⟨c71, hr6, h⟩ := bind_ok h
      refine Cl_sA (w_slices_Clone_impl_Domain hr6) ?_
      try refine sA ?_
      obtain ⟨y95, hl7, h⟩ := bind_ok h
      refine W_loopP (fun g72 : impl_MergeDomains_G1 => ⟨[(6, (.os 0 3 0 g72.c0.length g72.c0.length false)), (20, (.lf true (.sl (a1.map eDomain)))), (21, (.lf false (.sc (.int .i64 ((a1.length : Nat) : Int))))), (22, (.lf false (.sc (.int .i64 g72.t22))))], [(0, some (true, .arr false 3 (g72.c0.map eDomain)))], 1, 56⟩) (impl_MergeDomains_L1 a1) _ _ hl7 (weakA [some 0]) ?_
      · intro n1 g72 z1 hs1 hk1
        unfold impl_MergeDomains_L1 at hs1
        try dsimp only at hs1
        refine sA ?_
        refine Bs_if hs1 (fun hs1 hc8 => ?_) (fun hs1 hc8 => ?_)
        · try refine sA ?_
          obtain ⟨hp9, hs1⟩ := guard_some hs1
          have hn9 : g72.t22.toNat < a1.length := by first | omega | (simp only [List.length_set, List.length_append, List.length_replicate, List.length_map]; omega)
          try refine sA ?_
          try refine andA ?_
          obtain ⟨c93, hr10, hs1⟩ := bind_ok hs1
          refine Cl_sA (w_impl_domainAt hr10) ?_
          try refine sA ?_
          refine Bs_if hs1 (fun hs1 hc11 => ?_) (fun hs1 hc11 => ?_)
          · try refine sA ?_
            obtain ⟨hp12, hs1⟩ := guard_some hs1
            try refine sA ?_
            try refine andA ?_
            cases hs1
            exact X_backP hk1 (weakA [some 3])
          · try refine sA ?_
            obtain ⟨hp13, hs1⟩ := guard_some hs1
            have hn13 : c93.toNat < g72.c0.length := by first | omega | (simp only [List.length_set, List.length_append, List.length_replicate, List.length_map]; omega)
            try refine sA ?_
            try refine andA ?_
            try refine andB ?_
            try refine sA ?_
            obtain ⟨c94, hr15, hs1⟩ := bind_ok hs1
            refine Cl_sA (w_impl_greater hr15) ?_
            try refine sA ?_
            refine Bs_if hs1 (fun hs1 hc16 => ?_) (fun hs1 hc16 => ?_)
            · try refine sA ?_
              obtain ⟨hp17, hs1⟩ := guard_some hs1
              have hn17 : c93.toNat < g72.c0.length := by first | omega | (simp only [List.length_set, List.length_append, List.length_replicate, List.length_map]; omega)
              try refine sA ?_
              try refine andA ?_
              try refine andB ?_
              try refine sA ?_
              cases hs1
              exact X_backP hk1 (weakA [some 0])
            · try refine sA ?_
              cases hs1
              exact X_backP hk1 (weakA [some 0])
        · try refine sA ?_
          cases hs1
          cases hk1
          try dsimp only at h
          try refine sA ?_
          obtain ⟨c98, hr19, h⟩ := bind_ok h
          refine Cl_hA [0] (w_slices_SortFunc_impl_Domain_by_name hr19) ?_
          try refine sA ?_
          obtain ⟨hp20, h⟩ := guard_some h
          have hl20 : g72.c0.length ≤ c98.length := by omega
          have ht20 : List.take (g72.c0.length) c98 = c98 := by rw [← hp20]; exact List.take_length
          try simp (disch := first | assumption | (simp only [List.length_set]; assumption)) only [go_sem, Nat.reduceAdd, Nat.reduceMul, Nat.reduceSub, Nat.reduceEqDiff, ↓reduceIte, Nat.reduceLT, reduceCtorEq, Nat.reduceLeDiff, Int.reduceToNat, Int.reduceEq, Int.reduceLE, Int.reduceLT, Nat.reduceBEq, hl20, ht20]
          obtain ⟨c99, hr21, h⟩ := bind_ok h
          refine Cl_shown (w_impl_GoodDomains hr21) (by first | rfl | (simp (disch := first | assumption | (simp only [List.length_set]; assumption)) only [go_sem, Nat.reduceAdd, Nat.reduceMul, Nat.reduceSub, Nat.reduceEqDiff, ↓reduceIte, Nat.reduceLT, reduceCtorEq, Nat.reduceLeDiff, Int.reduceToNat, Int.reduceEq, Int.reduceLE, Int.reduceLT, Nat.reduceBEq, hl20, ht20]; first | done | rfl) | (simp only [List.length_append, List.length_cons, List.length_nil, List.length_map, List.length_set, List.length_replicate, Nat.zero_add, Nat.reduceAdd]; rfl) | (simp (disch := first | assumption | (simp only [List.length_set]; assumption)) only [go_sem, Nat.reduceAdd, Nat.reduceMul, Nat.reduceSub, Nat.reduceEqDiff, ↓reduceIte, Nat.reduceLT, reduceCtorEq, Nat.reduceLeDiff, Int.reduceToNat, Int.reduceEq, Int.reduceLE, Int.reduceLT, Nat.reduceBEq, hl20, ht20]; simp only [List.length_append, List.length_cons, List.length_nil, List.length_map, List.length_set, List.length_replicate, Nat.zero_add, Nat.reduceAdd]; rfl)) (FitAll.refl _) (.inr ⟨rfl, by simp [freeOb, free1]⟩) ?_
          try simp (disch := first | assumption | (simp only [List.length_set]; assumption)) only [go_sem, Nat.reduceAdd, Nat.reduceMul, Nat.reduceSub, Nat.reduceEqDiff, ↓reduceIte, Nat.reduceLT, reduceCtorEq, Nat.reduceLeDiff, Int.reduceToNat, Int.reduceEq, Int.reduceLE, Int.reduceLT, Nat.reduceBEq, hl20, ht20]
          refine Bs_if h (fun h hc22 => ?_) (fun h hc22 => ?_)
          · try simp (disch := first | assumption | (simp only [List.length_set]; assumption)) only [go_sem, Nat.reduceAdd, Nat.reduceMul, Nat.reduceSub, Nat.reduceEqDiff, ↓reduceIte, Nat.reduceLT, reduceCtorEq, Nat.reduceLeDiff, Int.reduceToNat, Int.reduceEq, Int.reduceLE, Int.reduceLT, Nat.reduceBEq, hl20, ht20]
            have he := Option.some.inj h
            subst he
            refine ends_weak ⟨[(4, (.os 0 3 0 (([] : List DomainT).length) (([] : List DomainT).length) false)), (5, (.lf false (.sc (.bool false))))], [(0, some (true, .arr false 3 (([] : List DomainT).map eDomain)))], 1, 56⟩ (weak_of (m := 0) [none] rfl rfl rfl (by rfl) ?_ ?_) ?_
            all_goals ((try simp (disch := first | assumption | (simp only [List.length_set]; assumption)) only [go_sem, Nat.reduceAdd, Nat.reduceMul, Nat.reduceSub, Nat.reduceEqDiff, ↓reduceIte, Nat.reduceLT, reduceCtorEq, Nat.reduceLeDiff, Int.reduceToNat, Int.reduceEq, Int.reduceLE, Int.reduceLT, Nat.reduceBEq, hl20, ht20]); (repeat' first | done | rfl | omega | refine And.intro ?_ ?_ | (simp; done) | (simp; omega)))
          · try simp (disch := first | assumption | (simp only [List.length_set]; assumption)) only [go_sem, Nat.reduceAdd, Nat.reduceMul, Nat.reduceSub, Nat.reduceEqDiff, ↓reduceIte, Nat.reduceLT, reduceCtorEq, Nat.reduceLeDiff, Int.reduceToNat, Int.reduceEq, Int.reduceLE, Int.reduceLT, Nat.reduceBEq, hl20, ht20]
            have he := Option.some.inj h
            subst he
            refine ends_weak ⟨[(4, (.os 0 3 0 c98.length c98.length false)), (5, (.lf false (.sc (.bool true))))], [(0, some (true, .arr false 3 (c98.map eDomain)))], 1, 56⟩ (weak_of (m := 0) [some 0] rfl rfl rfl (by rfl) ?_ ?_) ?_
            all_goals ((try simp (disch := first | assumption | (simp only [List.length_set]; assumption)) only [go_sem, Nat.reduceAdd, Nat.reduceMul, Nat.reduceSub, Nat.reduceEqDiff, ↓reduceIte, Nat.reduceLT, reduceCtorEq, Nat.reduceLeDiff, Int.reduceToNat, Int.reduceEq, Int.reduceLE, Int.reduceLT, Nat.reduceBEq, hl20, ht20]); (repeat' first | done | rfl | omega | refine And.intro ?_ ?_ | (simp; done) | (simp; omega)))
theorem w_laws_eqDomain {a0 : DomainT} {a1 : DomainT} {r : Bool} (h : laws_eqDomain a0 a1 = some r) : Fn Tryd.prog 101 [(.ag [(.lf false (.sc (.string a0.Name))), (.lf false (.sc (.int .i64 a0.Version))), (.lf false (.sc (.string a0.Note)))]), (.ag [(.lf false (.sc (.string a1.Name))), (.lf false (.sc (.int .i64 a1.Version))), (.lf false (.sc (.string a1.Note)))])] [] 0 (.lf false (.sc (.bool r))) [] 0 := by
  unfold laws_eqDomain at h
  refine fn_code tab_ok mixed [(1000, [(2, 0), (3, 0)]), (1001, [(2, 0), (3, 0), (9, 0)]), (1002, [(4, 0)]), (1003, [(2, 0), (3, 0), (14, 0)]), (1004, [(4, 0)]), (1005, [(19, 0)]), (1006, [(4, 0)]), (1007, [(4, 0)])] Tryd.func101 rfl rfl (by simp [Tryd.f101]) (by kernel_rfl) ?_
  simp only [Tryd.f101]
  refine sA ?_
  refine Bs_if h (fun h hc1 => ?_) (fun h hc1 => ?_)
  · try refine sA ?_
    have he := Option.some.inj h
    subst he
    exact endsA ⟨[(4, (.lf false (.sc (.bool false))))], [], 0, 20⟩ []
  · try refine sA ?_
    refine Bs_if h (fun h hc2 => ?_) (fun h hc2 => ?_)
    · try refine sA ?_
      have he := Option.some.inj h
      subst he
      exact endsA ⟨[(4, (.lf false (.sc (.bool false))))], [], 0, 20⟩ []
    · try refine sA ?_
      refine Bs_if h (fun h hc3 => ?_) (fun h hc3 => ?_)
      · try refine sA ?_
        have he := Option.some.inj h
        subst he
        exact endsA ⟨[(4, (.lf false (.sc (.bool false))))], [], 0, 20⟩ []
      · try refine sA ?_
        have he := Option.some.inj h
        subst he
        exact endsA ⟨[(4, (.lf false (.sc (.bool true))))], [], 0, 20⟩ []
theorem w_laws_eqDomainS {a0 : (List DomainT)} {a1 : (List DomainT)} {r : Bool} (h : laws_eqDomainS a0 a1 = some r) : Fn Tryd.prog 46 [(.lf true (.sl (a0.map eDomain))), (.lf true (.sl (a1.map eDomain)))] [] 0 (.lf false (.sc (.bool r))) [] 0 := by
  unfold laws_eqDomainS at h
  refine fn_code tab_ok mixed [(1000, [(0, 0), (1, 0)]), (1001, [(0, 0), (1, 0), (10, 0)]), (1002, [(4, 0)]), (1003, [(0, 0), (1, 0), (5, 0)]), (1004, [(0, 0), (1, 0), (5, 0), (14, 0)]), (1005, [(0, 0), (1, 0), (5, 0)]), (1006, [(0, 0), (1, 0), (5, 0), (26, 0)]), (1007, [(4, 0)]), (1008, [(4, 0)])] Tryd.func46 rfl rfl (by simp [Tryd.f46]) (by kernel_rfl) ?_
  simp only [Tryd.f46]
  refine sA ?_
  refine Bs_if h (fun h hc1 => ?_) (fun h hc1 => ?_)
  · try refine sA ?_
    have he := Option.some.inj h
    subst he
    exact endsA ⟨[(4, (.lf false (.sc (.bool false))))], [], 0, 27⟩ []
  · try refine sA ?_
    obtain ⟨y104, hl2, h⟩ := bind_ok h
    refine W_loopP (fun g101 : laws_eqDomainS_G1 => ⟨[(0, (.lf true (.sl (a0.map eDomain)))), (1, (.lf true (.sl (a1.map eDomain)))), (5, (.lf false (.sc (.int .i64 g101.t5))))], [], 0, 27⟩) (laws_eqDomainS_L1 a0 a1) _ _ hl2 (weakA []) ?_
    · intro n1 g101 z1 hs1 hk1
      unfold laws_eqDomainS_L1 at hs1
      try dsimp only at hs1
      refine sA ?_
      refine Bs_if hs1 (fun hs1 hc3 => ?_) (fun hs1 hc3 => ?_)
      · try refine sA ?_
        obtain ⟨hp4, hs1⟩ := guard_some hs1
        have hn4 : g101.t5.toNat < a0.length := by first | omega | (simp only [List.length_set, List.length_append, List.length_replicate, List.length_map]; omega)
        try refine sA ?_
        try refine andA ?_
        obtain ⟨hp5, hs1⟩ := guard_some hs1
        have hn5 : g101.t5.toNat < a1.length := by first | omega | (simp only [List.length_set, List.length_append, List.length_replicate, List.length_map]; omega)
        try refine sA ?_
        try refine andA ?_
        obtain ⟨c103, hr6, hs1⟩ := bind_ok hs1
        refine Cl_sA (w_laws_eqDomain hr6) ?_
        try refine sA ?_
        refine Bs_if hs1 (fun hs1 hc7 => ?_) (fun hs1 hc7 => ?_)
        · try refine sA ?_
          cases hs1
          cases hk1
          try dsimp only at h
          try refine sA ?_
          have he := Option.some.inj h
          subst he
          exact endsA ⟨[(4, (.lf false (.sc (.bool false))))], [], 0, 27⟩ []
        · try refine sA ?_
          cases hs1
          exact X_backP hk1 (weakA [])
      · try refine sA ?_
        cases hs1
        cases hk1
        try dsimp only at h
        try refine sA ?_
        have he := Option.some.inj h
        subst he
        exact endsA ⟨[(4, (.lf false (.sc (.bool true))))], [], 0, 27⟩ []
theorem w_laws_markText {a0 : Int} {r : ByteArray} (h : laws_markText a0 = some r) : Fn Tryd.prog 70 [(.lf false (.sc (.int .i64 a0)))] [] 0 (.lf false (.sc (.string r))) [] 0 := by
  unfold laws_markText at h
  refine fn_code tab_ok mixed [(1000, [(0, 0)]), (1001, [(0, 0), (5, 0)]), (1002, [(2, 0)]), (1003, [(0, 0), (3, 0)]), (1004, [(0, 0), (3, 0), (7, 0)]), (1005, [(0, 0), (3, 0)]), (1006, [(0, 0), (3, 0)]), (1007, [(2, 0)])] Tryd.func70 rfl rfl (by simp [Tryd.f70]) (by kernel_rfl) ?_
  simp only [Tryd.f70]
  refine sA ?_
  refine Bs_if h (fun h hc1 => ?_) (fun h hc1 => ?_)
  · try refine sA ?_
    have he := Option.some.inj h
    subst he
    exact endsA ⟨[(2, (.lf false (.sc (.string (⟨#[109, 48]⟩ : ByteArray)))))], [], 0, 20⟩ []
  · try refine sA ?_
    obtain ⟨y115, hl2, h⟩ := bind_ok h
    refine W_loopP (fun g114 : laws_markText_G1 => ⟨[(0, (.lf false (.sc (.int .i64 g114.t0)))), (3, (.lf false (.sc (.string g114.t3))))], [], 0, 20⟩) (laws_markText_L1) _ _ hl2 (weakA []) ?_
    · intro n1 g114 z1 hs1 hk1
      unfold laws_markText_L1 at hs1
      try dsimp only at hs1
      refine sA ?_
      refine Bs_if hs1 (fun hs1 hc3 => ?_) (fun hs1 hc3 => ?_)
      · try refine sA ?_
        obtain ⟨hp4, hs1⟩ := guard_some hs1
        try refine sA ?_
        try refine andA ?_
        cases hs1
        exact X_backP hk1 (weakA [])
      · try refine sA ?_
        cases hs1
        cases hk1
        try dsimp only at h
        try refine sA ?_
        obtain ⟨hp5, h⟩ := guard_some h
        try refine sA ?_
        try refine andA ?_
        have he := Option.some.inj h
        subst he
        exact endsA ⟨[(2, (.lf false (.sc (.string ((⟨#[109]⟩ : ByteArray) ++ g114.t3)))))], [], 0, 20⟩ []
theorem w_laws_markDomainS_w {a0 : (List DomainT)} {a1 : Int} {m0 : Nat} {x0 : Bool} {r : (Int × (List DomainT))} (h : laws_markDomainS_w a0 a1 = some r) : Fn Tryd.prog 47 [(.os 0 3 0 a0.length m0 x0), (.lf false (.sc (.int .i64 a1)))] [(0, some (false, .arr true 3 (a0.map eDomain)))] 1 (.lf false (.sc (.int .i64 r.1))) [(0, some (false, .arr false 3 (r.2.map eDomain)))] 1 := by
  unfold laws_markDomainS_w at h
  refine fn_code tab_ok mixed [(1000, [(0, 0), (1, 0)]), (1001, [(0, 0), (1, 0), (5, 0)]), (1002, [(0, 0), (1, 0), (5, 0), (9, 0)]), (1003, [(0, 0), (1, 0), (5, 0)]), (1004, [(0, 0), (1, 0), (5, 0)]), (1005, [(0, 0), (1, 0), (5, 0)]), (1006, [(0, 0), (1, 0), (5, 0)]), (1007, [(0, 0), (1, 0), (5, 0)]), (1008, [(0, 0), (1, 0), (5, 0)]), (1009, [(0, 0), (1, 0), (5, 0)]), (1010, [(4, 0)])] Tryd.func47 rfl rfl (by simp [Tryd.f47]) (by kernel_rfl) ?_
  simp only [Tryd.f47]
  refine sA ?_
  obtain ⟨y122, hl1, h⟩ := bind_ok h
  refine W_loopP (fun g117 : laws_markDomainS_w_G1 => ⟨[(0, (.os 0 3 0 g117.c0.length g117.c0.length false)), (1, (.lf false (.sc (.int .i64 g117.t1)))), (5, (.lf false (.sc (.int .i64 g117.t5))))], [(0, some (false, .arr true 3 (g117.c0.map eDomain)))], 1, 36⟩) (laws_markDomainS_w_L1) _ _ hl1 (weakA [some 0]) ?_
  · intro n1 g117 z1 hs1 hk1
    unfold laws_markDomainS_w_L1 at hs1
    try dsimp only at hs1
    refine sA ?_
    refine Bs_if hs1 (fun hs1 hc2 => ?_) (fun hs1 hc2 => ?_)
    · try refine sA ?_
      obtain ⟨c120, hr3, hs1⟩ := bind_ok hs1
      refine Cl_sA (w_laws_markText hr3) ?_
      try refine sA ?_
      obtain ⟨hp4, hs1⟩ := guard_some hs1
      have hn4 : g117.t5.toNat < g117.c0.length := by first | omega | (simp only [List.length_set, List.length_append, List.length_replicate, List.length_map]; omega)
      try refine sA ?_
      try refine andA ?_
      try refine andB ?_
      try refine sA ?_
      obtain ⟨hp6, hs1⟩ := guard_some hs1
      have hn6 : g117.t5.toNat < g117.c0.length := by first | omega | (simp only [List.length_set, List.length_append, List.length_replicate, List.length_map]; omega)
      try refine sA ?_
      try refine andA ?_
      try refine andB ?_
      try refine sA ?_
      obtain ⟨c121, hr8, hs1⟩ := bind_ok hs1
      refine Cl_sA (w_laws_markText hr8) ?_
      try refine sA ?_
      obtain ⟨hp9, hs1⟩ := guard_some hs1
      have hn9 : g117.t5.toNat < g117.c0.length := by first | omega | (simp only [List.length_set, List.length_append, List.length_replicate, List.length_map]; omega)
      try refine sA ?_
      try refine andA ?_
      try refine andB ?_
      try refine sA ?_
      cases hs1
      exact X_backP hk1 (weakA [some 0])
    · try refine sA ?_
      cases hs1
      cases hk1
      try dsimp only at h
      try refine sA ?_
      have he := Option.some.inj h
      subst he
      exact endsA ⟨[(4, (.lf false (.sc (.int .i64 g117.t1))))], [(0, some (false, .arr false 3 (g117.c0.map eDomain)))], 1, 36⟩ [some 0]
theorem w_laws_heldDomainS {a0 : (List DomainT)} {a1 : Int} {r : Int} (h : laws_heldDomainS a0 a1 = some r) : Fn Tryd.prog 48 [(.lf true (.sl (a0.map eDomain))), (.lf false (.sc (.int .i64 a1)))] [] 0 (.lf false (.sc (.int .i64 r))) [] 0 := by
  unfold laws_heldDomainS at h
  refine fn_code tab_ok mixed [(4, [(4, 6)]), (10, [(4, 6)]), (1000, [(0, 0), (1, 0)]), (1001, [(0, 0), (1, 0), (5, 0)]), (1002, [(0, 0), (1, 0), (5, 0), (9, 0)]), (1003, [(0, 0), (1, 0), (5, 0)]), (1004, [(0, 0), (1, 0), (5, 0), (19, 0)]), (1005, [(4, 0)]), (1006, [(0, 0), (1, 0), (5, 0)]), (1007, [(0, 0), (1, 0), (5, 0), (28, 0)]), (1008, [(4, 0)]), (1009, [(0, 0), (1, 0), (5, 0)]), (1010, [(0, 0), (1, 0), (5, 0), (38, 0)]), (1011, [(4, 0)]), (1012, [(0, 0), (1, 0), (5, 0)]), (1013, [(4, 0)])] Tryd.func48 rfl rfl (by simp [Tryd.f48]) (by kernel_rfl) ?_
  simp only [Tryd.f48]
  refine sA ?_
  obtain ⟨y133, hl1, h⟩ := bind_ok h
  refine W_loopP (fun g128 : laws_heldDomainS_G1 => ⟨[(0, (.lf true (.sl (a0.map eDomain)))), (1, (.lf false (.sc (.int .i64 g128.t1)))), (5, (.lf false (.sc (.int .i64 g128.t5))))], [], 0, 42⟩) (laws_heldDomainS_L1 a0) _ _ hl1 (weakA []) ?_
  · intro n1 g128 z1 hs1 hk1
    unfold laws_heldDomainS_L1 at hs1
    try dsimp only at hs1
    refine sA ?_
    refine Bs_if hs1 (fun hs1 hc2 => ?_) (fun hs1 hc2 => ?_)
    · try refine sA ?_
      obtain ⟨hp3, hs1⟩ := guard_some hs1
      have hn3 : g128.t5.toNat < a0.length := by first | omega | (simp only [List.length_set, List.length_append, List.length_replicate, List.length_map]; omega)
      try refine sA ?_
      try refine andA ?_
      obtain ⟨c131, hr4, hs1⟩ := bind_ok hs1
      refine Cl_sA (w_laws_markText hr4) ?_
      try refine sA ?_
      refine Bs_if hs1 (fun hs1 hc5 => ?_) (fun hs1 hc5 => ?_)
      · try refine sA ?_
        cases hs1
        cases hk1
        try dsimp only at h
        try refine sA ?_
        have he := Option.some.inj h
        subst he
        exact endsA ⟨[(4, (.lf false (.sc (.int .i64 (-1)))))], [], 0, 42⟩ []
      · try refine sA ?_
        obtain ⟨hp6, hs1⟩ := guard_some hs1
        have hn6 : g128.t5.toNat < a0.length := by first | omega | (simp only [List.length_set, List.length_append, List.length_replicate, List.length_map]; omega)
        try refine sA ?_
        try refine andA ?_
        refine Bs_if hs1 (fun hs1 hc7 => ?_) (fun hs1 hc7 => ?_)
        · try refine sA ?_
          cases hs1
          cases hk1
          try dsimp only at h
          try refine sA ?_
          have he := Option.some.inj h
          subst he
          exact endsA ⟨[(4, (.lf false (.sc (.int .i64 (-1)))))], [], 0, 42⟩ []
        · try refine sA ?_
          obtain ⟨hp8, hs1⟩ := guard_some hs1
          have hn8 : g128.t5.toNat < a0.length := by first | omega | (simp only [List.length_set, List.length_append, List.length_replicate, List.length_map]; omega)
          try refine sA ?_
          try refine andA ?_
          obtain ⟨c132, hr9, hs1⟩ := bind_ok hs1
          refine Cl_sA (w_laws_markText hr9) ?_
          try refine sA ?_
          refine Bs_if hs1 (fun hs1 hc10 => ?_) (fun hs1 hc10 => ?_)
          · try refine sA ?_
            cases hs1
            cases hk1
            try dsimp only at h
            try refine sA ?_
            have he := Option.some.inj h
            subst he
            exact endsA ⟨[(4, (.lf false (.sc (.int .i64 (-1)))))], [], 0, 42⟩ []
          · try refine sA ?_
            cases hs1
            exact X_backP hk1 (weakA [])
    · try refine sA ?_
      cases hs1
      cases hk1
      try dsimp only at h
      try refine sA ?_
      have he := Option.some.inj h
      subst he
      exact endsA ⟨[(4, (.lf false (.sc (.int .i64 g128.t1))))], [], 0, 42⟩ []
theorem w_laws_FnExactMergeDomains {a0 : (List DomainT)} {a1 : (List DomainT)} {r : Bool} (h : laws_FnExactMergeDomains a0 a1 = some r) : Fn Tryd.prog 8 [(.lf true (.sl (a0.map eDomain))), (.lf true (.sl (a1.map eDomain)))] [] 0 (.lf false (.sc (.bool r))) [] 0 := by
  unfold laws_FnExactMergeDomains at h
  refine fn_code tab_ok mixed [(1000, [(0, 0), (1, 0)]), (1001, [(0, 0), (1, 0), (5, 0)]), (1002, [(0, 0), (1, 0), (5, 0)]), (1003, [(0, 0), (1, 0), (5, 0), (21, 0)]), (1004, [(4, 0)]), (1005, [(0, 0), (1, 0), (5, 0)]), (1006, [(0, 0), (1, 0), (26, 0)]), (1007, [(4, 0)]), (1008, [(0, 0), (1, 0), (6, 0), (7, 0)]), (1009, [(0, 0), (1, 0), (6, 0), (7, 0), (8, 0)]), (1010, [(0, 0), (1, 0), (6, 0), (7, 0), (8, 0), (9, 0)]), (1011, [(0, 0), (1, 0), (6, 0), (7, 0), (8, 0), (9, 0), (10, 0), (11, 0)]), (1012, [(0, 0), (1, 0), (6, 0), (7, 0), (8, 0), (9, 0), (10, 0), (11, 0), (53, 0)]), (1013, [(4, 0)]), (1014, [(0, 0), (1, 0), (6, 0), (7, 0), (8, 0), (9, 0), (10, 0), (11, 0), (58, 0)]), (1015, [(4, 0)]), (1016, [(0, 0), (1, 0), (6, 0), (7, 0), (8, 0), (9, 0), (10, 0), (11, 0), (63, 0)]), (1017, [(4, 0)]), (1018, [(0, 0), (1, 0), (6, 0), (7, 0), (8, 0), (9, 0), (10, 0), (11, 0), (12, 0)]), (1019, [(0, 0), (1, 0), (6, 0), (7, 0), (9, 0), (10, 0), (11, 0), (12, 0)]), (1020, [(0, 0), (1, 0), (6, 0), (7, 0), (10, 0), (11, 0), (12, 0)]), (1021, [(0, 0), (1, 0), (6, 0), (7, 0), (10, 0), (82, 0)]), (1022, [(4, 0)]), (1023, [(0, 0), (1, 0), (6, 0), (7, 0), (10, 0), (13, 0)]), (1024, [(0, 0), (1, 0), (6, 0), (7, 0), (10, 0), (13, 0)]), (1025, [(0, 0), (1, 0), (6, 0), (7, 0), (10, 0), (13, 0), (14, 0)]), (1026, [(0, 0), (1, 0), (6, 0), (7, 0), (10, 0), (13, 0), (14, 0)]), (1027, [(0, 0), (1, 0), (6, 0), (7, 0), (10, 0), (13, 0), (14, 0), (90, 0)]), (1028, [(4, 0)]), (1029, [(0, 0), (1, 0), (6, 0), (7, 0), (10, 0), (13, 0), (93, 0)]), (1030, [(4, 0)]), (1031, [(6, 0), (7, 0), (10, 0), (13, 0), (15, 0), (16, 0)]), (1032, [(10, 0), (13, 0), (110, 0)]), (1033, [(4, 0)]), (1034, [(10, 0), (13, 0), (14, 0)]), (1035, [(13, 0), (14, 0)]), (1036, [(13, 0), (14, 0), (115, 0)]), (1037, [(4, 0)]), (1038, [(118, 0)]), (1039, [(4, 0)]), (1040, [(4, 0)]), (4012, []), (4021, []), (4032, [])] Tryd.func8 rfl rfl (by simp [Tryd.f8]) (by kernel_rfl) ?_
  simp only [Tryd.f8]
  refine sA ?_
  obtain ⟨c7, hr1, h⟩ := bind_ok h
  refine Cl_sA (w_laws_szDomainS hr1) ?_
  try refine sA ?_
  refine Bs_if h (fun h hc2 => ?_) (fun h hc2 => ?_)
  · try refine sA ?_
    have he := Option.some.inj h
    subst he
    exact endsA ⟨[(4, (.lf false (.sc (.bool true))))], [], 0, 119⟩ []
  · try refine sA ?_
    obtain ⟨c8, hr3, h⟩ := bind_ok h
    refine Cl_sA (w_laws_szDomainS hr3) ?_
    try refine sA ?_
    refine Bs_if h (fun h hc4 => ?_) (fun h hc4 => ?_)
    · try refine sA ?_
      have he := Option.some.inj h
      subst he
      exact endsA ⟨[(4, (.lf false (.sc (.bool true))))], [], 0, 119⟩ []
    · try refine sA ?_
      obtain ⟨c13, hr5, h⟩ := bind_ok h
      refine Cl_sA (w_laws_toDomainS hr5) ?_
      try refine sA ?_
      obtain ⟨c14, hr6, h⟩ := bind_ok h
      refine Cl_sA (w_laws_toDomainS hr6) ?_
      try refine sA ?_
      obtain ⟨c53, hr7, h⟩ := bind_ok h
      refine Cl_sA (w_spec_MergeDomains hr7) ?_
      try refine sA ?_
      obtain ⟨c54, hr8, h⟩ := bind_ok h
      refine Cl_sA (w_laws_toDomainS hr8) ?_
      try refine sA ?_
      obtain ⟨c55, hr9, h⟩ := bind_ok h
      refine Cl_sA (w_laws_toDomainS hr9) ?_
      try refine sA ?_
      obtain ⟨c100, hr10, h⟩ := bind_ok h
      refine Cl_sA (w_impl_MergeDomains hr10) ?_
      try refine sA ?_
      obtain ⟨p108, hq11, h⟩ := bind_ok h
      refine Sq_cut (fun s2 => s2 = ⟨[(0, (.lf true (.sl (a0.map eDomain)))), (1, (.lf true (.sl (a1.map eDomain)))), (6, (.os 0 3 0 c53.1.length c53.1.length false)), (7, (.lf false (.sc (.bool c53.2)))), (8, (.os 1 3 0 c54.length c54.length false)), (9, (.os 2 3 0 c55.length c55.length false)), (10, (.os 3 3 0 c100.1.length c100.1.length false)), (11, (.lf false (.sc (.bool c100.2)))), (53, (.lf false (.sc (.bool p108.t53))))], [(0, some (true, .arr false 3 (c53.1.map eDomain))), (1, some (true, .arr false 3 (c54.map eDomain))), (2, some (true, .arr false 3 (c55.map eDomain))), (3, some (true, .arr false 3 (c100.1.map eDomain)))], 4, 119⟩) ?_ ?_
      · try refine sA ?_
        obtain ⟨c107, hr12, hq11⟩ := bind_ok hq11
        refine Cl_sA (w_laws_eqDomainS hr12) ?_
        try refine sA ?_
        refine Sp_if hq11 (fun hq11 hc13 => ?_) (fun hq11 hc13 => ?_)
        · try refine sA ?_
          cases hq11
          exact X_cut rfl (weakA [some 2, some 3, some 4, some 5])
        · try refine sA ?_
          cases hq11
          exact X_cut rfl (weakA [some 2, some 3, some 4, some 5])
      · intro s2 hJ; subst hJ
        try dsimp only at h
        try refine sA ?_
        refine Bs_if h (fun h hc14 => ?_) (fun h hc14 => ?_)
        · try refine sA ?_
          have he := Option.some.inj h
          subst he
          exact endsA ⟨[(4, (.lf false (.sc (.bool false))))], [], 0, 119⟩ []
        · try refine sA ?_
          obtain ⟨c109, hr15, h⟩ := bind_ok h
          refine Cl_sA (w_laws_toDomainS hr15) ?_
          try refine sA ?_
          obtain ⟨c110, hr16, h⟩ := bind_ok h
          refine Cl_sA (w_laws_eqDomainS hr16) ?_
          try refine sA ?_
          refine Bs_if h (fun h hc17 => ?_) (fun h hc17 => ?_)
          · try refine sA ?_
            have he := Option.some.inj h
            subst he
            exact endsA ⟨[(4, (.lf false (.sc (.bool false))))], [], 0, 119⟩ []
          · try refine sA ?_
            obtain ⟨c111, hr18, h⟩ := bind_ok h
            refine Cl_sA (w_laws_toDomainS hr18) ?_
            try refine sA ?_
            obtain ⟨c112, hr19, h⟩ := bind_ok h
            refine Cl_sA (w_laws_eqDomainS hr19) ?_
            try refine sA ?_
            refine Bs_if h (fun h hc20 => ?_) (fun h hc20 => ?_)
            · try refine sA ?_
              have he := Option.some.inj h
              subst he
              exact endsA ⟨[(4, (.lf false (.sc (.bool false))))], [], 0, 119⟩ []
            · try refine sA ?_
              obtain ⟨c123, hr21, h⟩ := bind_ok h
              refine Cl_hA [1] (w_laws_markDomainS_w hr21) ?_
              try refine sA ?_
              obtain ⟨hp22, h⟩ := guard_some h
              have hl22 : c54.length ≤ c123.2.length := by omega
              have ht22 : List.take (c54.length) c123.2 = c123.2 := by rw [← hp22]; exact List.take_length
              try simp (disch := first | assumption | (simp only [List.length_set]; assumption)) only [go_sem, Nat.reduceAdd, Nat.reduceMul, Nat.reduceSub, Nat.reduceEqDiff, ↓reduceIte, Nat.reduceLT, reduceCtorEq, Nat.reduceLeDiff, Int.reduceToNat, Int.reduceEq, Int.reduceLE, Int.reduceLT, Nat.reduceBEq, hl22, ht22]
              obtain ⟨c124, hr23, h⟩ := bind_ok h
              refine Cl_hand (ids := [2]) (w_laws_markDomainS_w hr23) (by first | rfl | (simp (disch := first | assumption | (simp only [List.length_set]; assumption)) only [go_sem, Nat.reduceAdd, Nat.reduceMul, Nat.reduceSub, Nat.reduceEqDiff, ↓reduceIte, Nat.reduceLT, reduceCtorEq, Nat.reduceLeDiff, Int.reduceToNat, Int.reduceEq, Int.reduceLE, Int.reduceLT, Nat.reduceBEq, hl22, ht22]; first | done | rfl) | (simp only [List.length_append, List.length_cons, List.length_nil, List.length_map, List.length_set, List.length_replicate, Nat.zero_add, Nat.reduceAdd]; rfl) | (simp (disch := first | assumption | (simp only [List.length_set]; assumption)) only [go_sem, Nat.reduceAdd, Nat.reduceMul, Nat.reduceSub, Nat.reduceEqDiff, ↓reduceIte, Nat.reduceLT, reduceCtorEq, Nat.reduceLeDiff, Int.reduceToNat, Int.reduceEq, Int.reduceLE, Int.reduceLT, Nat.reduceBEq, hl22, ht22]; simp only [List.length_append, List.length_cons, List.length_nil, List.length_map, List.length_set, List.length_replicate, Nat.zero_add, Nat.reduceAdd]; rfl)) (FitAll.refl _) (by first | rfl | (simp (disch := first | assumption | (simp only [List.length_set]; assumption)) only [go_sem, Nat.reduceAdd, Nat.reduceMul, Nat.reduceSub, Nat.reduceEqDiff, ↓reduceIte, Nat.reduceLT, reduceCtorEq, Nat.reduceLeDiff, Int.reduceToNat, Int.reduceEq, Int.reduceLE, Int.reduceLT, Nat.reduceBEq, hl22, ht22]; first | done | rfl) | (simp only [List.length_append, List.length_cons, List.length_nil, List.length_map, List.length_set, List.length_replicate, Nat.zero_add, Nat.reduceAdd]; rfl) | (simp (disch := first | assumption | (simp only [List.length_set]; assumption)) only [go_sem, Nat.reduceAdd, Nat.reduceMul, Nat.reduceSub, Nat.reduceEqDiff, ↓reduceIte, Nat.reduceLT, reduceCtorEq, Nat.reduceLeDiff, Int.reduceToNat, Int.reduceEq, Int.reduceLE, Int.reduceLT, Nat.reduceBEq, hl22, ht22]; simp only [List.length_append, List.length_cons, List.length_nil, List.length_map, List.length_set, List.length_replicate, Nat.zero_add, Nat.reduceAdd]; rfl)) (by decide) (by first | rfl | (simp (disch := first | assumption | (simp only [List.length_set]; assumption)) only [go_sem, Nat.reduceAdd, Nat.reduceMul, Nat.reduceSub, Nat.reduceEqDiff, ↓reduceIte, Nat.reduceLT, reduceCtorEq, Nat.reduceLeDiff, Int.reduceToNat, Int.reduceEq, Int.reduceLE, Int.reduceLT, Nat.reduceBEq, hl22, ht22]; done)) (by rfl) ?_
              try simp (disch := first | assumption | (simp only [List.length_set]; assumption)) only [go_sem, Nat.reduceAdd, Nat.reduceMul, Nat.reduceSub, Nat.reduceEqDiff, ↓reduceIte, Nat.reduceLT, reduceCtorEq, Nat.reduceLeDiff, Int.reduceToNat, Int.reduceEq, Int.reduceLE, Int.reduceLT, Nat.reduceBEq, hl22, ht22]
              obtain ⟨hp24, h⟩ := guard_some h
              have hl24 : c55.length ≤ c124.2.length := by omega
              have ht24 : List.take (c55.length) c124.2 = c124.2 := by rw [← hp24]; exact List.take_length
              try simp (disch := first | assumption | (simp only [List.length_set]; assumption)) only [go_sem, Nat.reduceAdd, Nat.reduceMul, Nat.reduceSub, Nat.reduceEqDiff, ↓reduceIte, Nat.reduceLT, reduceCtorEq, Nat.reduceLeDiff, Int.reduceToNat, Int.reduceEq, Int.reduceLE, Int.reduceLT, Nat.reduceBEq, hl22, ht22, hl24, ht24]
              obtain ⟨p126, hq25, h⟩ := bind_ok h
              refine Sq_cut (fun s2 => s2 = ⟨[(0, (.lf true (.sl (a0.map eDomain)))), (1, (.lf true (.sl (a1.map eDomain)))), (6, (.os 0 3 0 c53.1.length c53.1.length false)), (7, (.lf false (.sc (.bool c53.2)))), (10, (.os 1 3 0 c100.1.length c100.1.length false)), (82, (.lf false (.sc (.bool p126.t82))))], [(0, some (true, .arr false 3 (c53.1.map eDomain))), (1, some (true, .arr false 3 (c100.1.map eDomain)))], 2, 119⟩) ?_ ?_
              · try simp (disch := first | assumption | (simp only [List.length_set]; assumption)) only [go_sem, Nat.reduceAdd, Nat.reduceMul, Nat.reduceSub, Nat.reduceEqDiff, ↓reduceIte, Nat.reduceLT, reduceCtorEq, Nat.reduceLeDiff, Int.reduceToNat, Int.reduceEq, Int.reduceLE, Int.reduceLT, Nat.reduceBEq, hl22, ht22, hl24, ht24]
                refine Sp_if hq25 (fun hq25 hc26 => ?_) (fun hq25 hc26 => ?_)
                · try simp (disch := first | assumption | (simp only [List.length_set]; assumption)) only [go_sem, Nat.reduceAdd, Nat.reduceMul, Nat.reduceSub, Nat.reduceEqDiff, ↓reduceIte, Nat.reduceLT, reduceCtorEq, Nat.reduceLeDiff, Int.reduceToNat, Int.reduceEq, Int.reduceLE, Int.reduceLT, Nat.reduceBEq, hl22, ht22, hl24, ht24]
                  cases hq25
                  refine X_cut rfl ?_
                  refine weak_of (m := 0) [some 0, some 3] rfl rfl rfl (by rfl) ?_ ?_
                  all_goals ((try simp (disch := first | assumption | (simp only [List.length_set]; assumption)) only [go_sem, Nat.reduceAdd, Nat.reduceMul, Nat.reduceSub, Nat.reduceEqDiff, ↓reduceIte, Nat.reduceLT, reduceCtorEq, Nat.reduceLeDiff, Int.reduceToNat, Int.reduceEq, Int.reduceLE, Int.reduceLT, Nat.reduceBEq, hl22, ht22, hl24, ht24]); (repeat' first | done | rfl | omega | refine And.intro ?_ ?_ | (simp; done) | (simp; omega)))
                · try simp (disch := first | assumption | (simp only [List.length_set]; assumption)) only [go_sem, Nat.reduceAdd, Nat.reduceMul, Nat.reduceSub, Nat.reduceEqDiff, ↓reduceIte, Nat.reduceLT, reduceCtorEq, Nat.reduceLeDiff, Int.reduceToNat, Int.reduceEq, Int.reduceLE, Int.reduceLT, Nat.reduceBEq, hl22, ht22, hl24, ht24]
                  obtain ⟨c125, hr27, hq25⟩ := bind_ok hq25
                  refine Cl_shown (w_laws_eqDomainS hr27) (by first | rfl | (simp (disch := first | assumption | (simp only [List.length_set]; assumption)) only [go_sem, Nat.reduceAdd, Nat.reduceMul, Nat.reduceSub, Nat.reduceEqDiff, ↓reduceIte, Nat.reduceLT, reduceCtorEq, Nat.reduceLeDiff, Int.reduceToNat, Int.reduceEq, Int.reduceLE, Int.reduceLT, Nat.reduceBEq, hl22, ht22, hl24, ht24]; first | done | rfl) | (simp only [List.length_append, List.length_cons, List.length_nil, List.length_map, List.length_set, List.length_replicate, Nat.zero_add, Nat.reduceAdd]; rfl) | (simp (disch := first | assumption | (simp only [List.length_set]; assumption)) only [go_sem, Nat.reduceAdd, Nat.reduceMul, Nat.reduceSub, Nat.reduceEqDiff, ↓reduceIte, Nat.reduceLT, reduceCtorEq, Nat.reduceLeDiff, Int.reduceToNat, Int.reduceEq, Int.reduceLE, Int.reduceLT, Nat.reduceBEq, hl22, ht22, hl24, ht24]; simp only [List.length_append, List.length_cons, List.length_nil, List.length_map, List.length_set, List.length_replicate, Nat.zero_add, Nat.reduceAdd]; rfl)) (FitAll.refl _) (.inr ⟨rfl, by simp [freeOb, free1]⟩) ?_
                  try simp (disch := first | assumption | (simp only [List.length_set]; assumption)) only [go_sem, Nat.reduceAdd, Nat.reduceMul, Nat.reduceSub, Nat.reduceEqDiff, ↓reduceIte, Nat.reduceLT, reduceCtorEq, Nat.reduceLeDiff, Int.reduceToNat, Int.reduceEq, Int.reduceLE, Int.reduceLT, Nat.reduceBEq, hl22, ht22, hl24, ht24]
                  refine Sp_if hq25 (fun hq25 hc28 => ?_) (fun hq25 hc28 => ?_)
                  · try simp (disch := first | assumption | (simp only [List.length_set]; assumption)) only [go_sem, Nat.reduceAdd, Nat.reduceMul, Nat.reduceSub, Nat.reduceEqDiff, ↓reduceIte, Nat.reduceLT, reduceCtorEq, Nat.reduceLeDiff, Int.reduceToNat, Int.reduceEq, Int.reduceLE, Int.reduceLT, Nat.reduceBEq, hl22, ht22, hl24, ht24]
                    cases hq25
                    refine X_cut rfl ?_
                    refine weak_of (m := 0) [some 0, some 3] rfl rfl rfl (by rfl) ?_ ?_
                    all_goals ((try simp (disch := first | assumption | (simp only [List.length_set]; assumption)) only [go_sem, Nat.reduceAdd, Nat.reduceMul, Nat.reduceSub, Nat.reduceEqDiff, ↓reduceIte, Nat.reduceLT, reduceCtorEq, Nat.reduceLeDiff, Int.reduceToNat, Int.reduceEq, Int.reduceLE, Int.reduceLT, Nat.reduceBEq, hl22, ht22, hl24, ht24]); (repeat' first | done | rfl | omega | refine And.intro ?_ ?_ | (simp; done) | (simp; omega)))
                  · try simp (disch := first | assumption | (simp only [List.length_set]; assumption)) only [go_sem, Nat.reduceAdd, Nat.reduceMul, Nat.reduceSub, Nat.reduceEqDiff, ↓reduceIte, Nat.reduceLT, reduceCtorEq, Nat.reduceLeDiff, Int.reduceToNat, Int.reduceEq, Int.reduceLE, Int.reduceLT, Nat.reduceBEq, hl22, ht22, hl24, ht24]
                    cases hq25
                    refine X_cut rfl ?_
                    refine weak_of (m := 0) [some 0, some 3] rfl rfl rfl (by rfl) ?_ ?_
                    all_goals ((try simp (disch := first | assumption | (simp only [List.length_set]; assumption)) only [go_sem, Nat.reduceAdd, Nat.reduceMul, Nat.reduceSub, Nat.reduceEqDiff, ↓reduceIte, Nat.reduceLT, reduceCtorEq, Nat.reduceLeDiff, Int.reduceToNat, Int.reduceEq, Int.reduceLE, Int.reduceLT, Nat.reduceBEq, hl22, ht22, hl24, ht24]); (repeat' first | done | rfl | omega | refine And.intro ?_ ?_ | (simp; done) | (simp; omega)))
              · intro s2 hJ; subst hJ
                try dsimp only at h
                try simp (disch := first | assumption | (simp only [List.length_set]; assumption)) only [go_sem, Nat.reduceAdd, Nat.reduceMul, Nat.reduceSub, Nat.reduceEqDiff, ↓reduceIte, Nat.reduceLT, reduceCtorEq, Nat.reduceLeDiff, Int.reduceToNat, Int.reduceEq, Int.reduceLE, Int.reduceLT, Nat.reduceBEq, hl22, ht22, hl24, ht24]
                refine Bs_if h (fun h hc29 => ?_) (fun h hc29 => ?_)
                · try simp (disch := first | assumption | (simp only [List.length_set]; assumption)) only [go_sem, Nat.reduceAdd, Nat.reduceMul, Nat.reduceSub, Nat.reduceEqDiff, ↓reduceIte, Nat.reduceLT, reduceCtorEq, Nat.reduceLeDiff, Int.reduceToNat, Int.reduceEq, Int.reduceLE, Int.reduceLT, Nat.reduceBEq, hl22, ht22, hl24, ht24]
                  have he := Option.some.inj h
                  subst he
                  refine ends_weak ⟨[(4, (.lf false (.sc (.bool false))))], [], 0, 119⟩ (weak_of (m := 0) [] rfl rfl rfl (by rfl) ?_ ?_) ?_
                  all_goals ((try simp (disch := first | assumption | (simp only [List.length_set]; assumption)) only [go_sem, Nat.reduceAdd, Nat.reduceMul, Nat.reduceSub, Nat.reduceEqDiff, ↓reduceIte, Nat.reduceLT, reduceCtorEq, Nat.reduceLeDiff, Int.reduceToNat, Int.reduceEq, Int.reduceLE, Int.reduceLT, Nat.reduceBEq, hl22, ht22, hl24, ht24]); (repeat' first | done | rfl | omega | refine And.intro ?_ ?_ | (simp; done) | (simp; omega)))
                · try simp (disch := first | assumption | (simp only [List.length_set]; assumption)) only [go_sem, Nat.reduceAdd, Nat.reduceMul, Nat.reduceSub, Nat.reduceEqDiff, ↓reduceIte, Nat.reduceLT, reduceCtorEq, Nat.reduceLeDiff, Int.reduceToNat, Int.reduceEq, Int.reduceLE, Int.reduceLT, Nat.reduceBEq, hl22, ht22, hl24, ht24]
                  obtain ⟨c127, hr30, h⟩ := bind_ok h
                  refine Cl_hand (ids := [1]) (w_laws_markDomainS_w hr30) (by first | rfl | (simp (disch := first | assumption | (simp only [List.length_set]; assumption)) only [go_sem, Nat.reduceAdd, Nat.reduceMul, Nat.reduceSub, Nat.reduceEqDiff, ↓reduceIte, Nat.reduceLT, reduceCtorEq, Nat.reduceLeDiff, Int.reduceToNat, Int.reduceEq, Int.reduceLE, Int.reduceLT, Nat.reduceBEq, hl22, ht22, hl24, ht24]; first | done | rfl) | (simp only [List.length_append, List.length_cons, List.length_nil, List.length_map, List.length_set, List.length_replicate, Nat.zero_add, Nat.reduceAdd]; rfl) | (simp (disch := first | assumption | (simp only [List.length_set]; assumption)) only [go_sem, Nat.reduceAdd, Nat.reduceMul, Nat.reduceSub, Nat.reduceEqDiff, ↓reduceIte, Nat.reduceLT, reduceCtorEq, Nat.reduceLeDiff, Int.reduceToNat, Int.reduceEq, Int.reduceLE, Int.reduceLT, Nat.reduceBEq, hl22, ht22, hl24, ht24]; simp only [List.length_append, List.length_cons, List.length_nil, List.length_map, List.length_set, List.length_replicate, Nat.zero_add, Nat.reduceAdd]; rfl)) (FitAll.refl _) (by first | rfl | (simp (disch := first | assumption | (simp only [List.length_set]; assumption)) only [go_sem, Nat.reduceAdd, Nat.reduceMul, Nat.reduceSub, Nat.reduceEqDiff, ↓reduceIte, Nat.reduceLT, reduceCtorEq, Nat.reduceLeDiff, Int.reduceToNat, Int.reduceEq, Int.reduceLE, Int.reduceLT, Nat.reduceBEq, hl22, ht22, hl24, ht24]; first | done | rfl) | (simp only [List.length_append, List.length_cons, List.length_nil, List.length_map, List.length_set, List.length_replicate, Nat.zero_add, Nat.reduceAdd]; rfl) | (simp (disch := first | assumption | (simp only [List.length_set]; assumption)) only [go_sem, Nat.reduceAdd, Nat.reduceMul, Nat.reduceSub, Nat.reduceEqDiff, ↓reduceIte, Nat.reduceLT, reduceCtorEq, Nat.reduceLeDiff, Int.reduceToNat, Int.reduceEq, Int.reduceLE, Int.reduceLT, Nat.reduceBEq, hl22, ht22, hl24, ht24]; simp only [List.length_append, List.length_cons, List.length_nil, List.length_map, List.length_set, List.length_replicate, Nat.zero_add, Nat.reduceAdd]; rfl)) (by decide) (by first | rfl | (simp (disch := first | assumption | (simp only [List.length_set]; assumption)) only [go_sem, Nat.reduceAdd, Nat.reduceMul, Nat.reduceSub, Nat.reduceEqDiff, ↓reduceIte, Nat.reduceLT, reduceCtorEq, Nat.reduceLeDiff, Int.reduceToNat, Int.reduceEq, Int.reduceLE, Int.reduceLT, Nat.reduceBEq, hl22, ht22, hl24, ht24]; done)) (by rfl) ?_
                  try simp (disch := first | assumption | (simp only [List.length_set]; assumption)) only [go_sem, Nat.reduceAdd, Nat.reduceMul, Nat.reduceSub, Nat.reduceEqDiff, ↓reduceIte, Nat.reduceLT, reduceCtorEq, Nat.reduceLeDiff, Int.reduceToNat, Int.reduceEq, Int.reduceLE, Int.reduceLT, Nat.reduceBEq, hl22, ht22, hl24, ht24]
                  obtain ⟨hp31, h⟩ := guard_some h
                  have hl31 : c100.1.length ≤ c127.2.length := by omega
                  have ht31 : List.take (c100.1.length) c127.2 = c127.2 := by rw [← hp31]; exact List.take_length
                  try simp (disch := first | assumption | (simp only [List.length_set]; assumption)) only [go_sem, Nat.reduceAdd, Nat.reduceMul, Nat.reduceSub, Nat.reduceEqDiff, ↓reduceIte, Nat.reduceLT, reduceCtorEq, Nat.reduceLeDiff, Int.reduceToNat, Int.reduceEq, Int.reduceLE, Int.reduceLT, Nat.reduceBEq, hl22, ht22, hl24, ht24, hl31, ht31]
                  obtain ⟨c136, hr32, h⟩ := bind_ok h
                  refine Cl_shown (w_laws_heldDomainS hr32) (by first | rfl | (simp (disch := first | assumption | (simp only [List.length_set]; assumption)) only [go_sem, Nat.reduceAdd, Nat.reduceMul, Nat.reduceSub, Nat.reduceEqDiff, ↓reduceIte, Nat.reduceLT, reduceCtorEq, Nat.reduceLeDiff, Int.reduceToNat, Int.reduceEq, Int.reduceLE, Int.reduceLT, Nat.reduceBEq, hl22, ht22, hl24, ht24, hl31, ht31]; first | done | rfl) | (simp only [List.length_append, List.length_cons, List.length_nil, List.length_map, List.length_set, List.length_replicate, Nat.zero_add, Nat.reduceAdd]; rfl) | (simp (disch := first | assumption | (simp only [List.length_set]; assumption)) only [go_sem, Nat.reduceAdd, Nat.reduceMul, Nat.reduceSub, Nat.reduceEqDiff, ↓reduceIte, Nat.reduceLT, reduceCtorEq, Nat.reduceLeDiff, Int.reduceToNat, Int.reduceEq, Int.reduceLE, Int.reduceLT, Nat.reduceBEq, hl22, ht22, hl24, ht24, hl31, ht31]; simp only [List.length_append, List.length_cons, List.length_nil, List.length_map, List.length_set, List.length_replicate, Nat.zero_add, Nat.reduceAdd]; rfl)) (FitAll.refl _) (.inr ⟨rfl, by simp [freeOb, free1]⟩) ?_
                  try simp (disch := first | assumption | (simp only [List.length_set]; assumption)) only [go_sem, Nat.reduceAdd, Nat.reduceMul, Nat.reduceSub, Nat.reduceEqDiff, ↓reduceIte, Nat.reduceLT, reduceCtorEq, Nat.reduceLeDiff, Int.reduceToNat, Int.reduceEq, Int.reduceLE, Int.reduceLT, Nat.reduceBEq, hl22, ht22, hl24, ht24, hl31, ht31]
                  refine Bs_if h (fun h hc33 => ?_) (fun h hc33 => ?_)
                  · try simp (disch := first | assumption | (simp only [List.length_set]; assumption)) only [go_sem, Nat.reduceAdd, Nat.reduceMul, Nat.reduceSub, Nat.reduceEqDiff, ↓reduceIte, Nat.reduceLT, reduceCtorEq, Nat.reduceLeDiff, Int.reduceToNat, Int.reduceEq, Int.reduceLE, Int.reduceLT, Nat.reduceBEq, hl22, ht22, hl24, ht24, hl31, ht31]
                    have he := Option.some.inj h
                    subst he
                    refine ends_weak ⟨[(4, (.lf false (.sc (.bool false))))], [], 0, 119⟩ (weak_of (m := 0) [] rfl rfl rfl (by rfl) ?_ ?_) ?_
                    all_goals ((try simp (disch := first | assumption | (simp only [List.length_set]; assumption)) only [go_sem, Nat.reduceAdd, Nat.reduceMul, Nat.reduceSub, Nat.reduceEqDiff, ↓reduceIte, Nat.reduceLT, reduceCtorEq, Nat.reduceLeDiff, Int.reduceToNat, Int.reduceEq, Int.reduceLE, Int.reduceLT, Nat.reduceBEq, hl22, ht22, hl24, ht24, hl31, ht31]); (repeat' first | done | rfl | omega | refine And.intro ?_ ?_ | (simp; done) | (simp; omega)))
                  · try simp (disch := first | assumption | (simp only [List.length_set]; assumption)) only [go_sem, Nat.reduceAdd, Nat.reduceMul, Nat.reduceSub, Nat.reduceEqDiff, ↓reduceIte, Nat.reduceLT, reduceCtorEq, Nat.reduceLeDiff, Int.reduceToNat, Int.reduceEq, Int.reduceLE, Int.reduceLT, Nat.reduceBEq, hl22, ht22, hl24, ht24, hl31, ht31]
                    refine Bs_if h (fun h hc34 => ?_) (fun h hc34 => ?_)
                    · try simp (disch := first | assumption | (simp only [List.length_set]; assumption)) only [go_sem, Nat.reduceAdd, Nat.reduceMul, Nat.reduceSub, Nat.reduceEqDiff, ↓reduceIte, Nat.reduceLT, reduceCtorEq, Nat.reduceLeDiff, Int.reduceToNat, Int.reduceEq, Int.reduceLE, Int.reduceLT, Nat.reduceBEq, hl22, ht22, hl24, ht24, hl31, ht31]
                      have he := Option.some.inj h
                      subst he
                      refine ends_weak ⟨[(4, (.lf false (.sc (.bool false))))], [], 0, 119⟩ (weak_of (m := 0) [] rfl rfl rfl (by rfl) ?_ ?_) ?_
                      all_goals ((try simp (disch := first | assumption | (simp only [List.length_set]; assumption)) only [go_sem, Nat.reduceAdd, Nat.reduceMul, Nat.reduceSub, Nat.reduceEqDiff, ↓reduceIte, Nat.reduceLT, reduceCtorEq, Nat.reduceLeDiff, Int.reduceToNat, Int.reduceEq, Int.reduceLE, Int.reduceLT, Nat.reduceBEq, hl22, ht22, hl24, ht24, hl31, ht31]); (repeat' first | done | rfl | omega | refine And.intro ?_ ?_ | (simp; done) | (simp; omega)))
                    · try simp (disch := first | assumption | (simp only [List.length_set]; assumption)) only [go_sem, Nat.reduceAdd, Nat.reduceMul, Nat.reduceSub, Nat.reduceEqDiff, ↓reduceIte, Nat.reduceLT, reduceCtorEq, Nat.reduceLeDiff, Int.reduceToNat, Int.reduceEq, Int.reduceLE, Int.reduceLT, Nat.reduceBEq, hl22, ht22, hl24, ht24, hl31, ht31]
                      obtain ⟨c137, hr35, h⟩ := bind_ok h
                      refine Cl_shown (w_laws_toDomainS hr35) (by first | rfl | (simp (disch := first | assumption | (simp only [List.length_set]; assumption)) only [go_sem, Nat.reduceAdd, Nat.reduceMul, Nat.reduceSub, Nat.reduceEqDiff, ↓reduceIte, Nat.reduceLT, reduceCtorEq, Nat.reduceLeDiff, Int.reduceToNat, Int.reduceEq, Int.reduceLE, Int.reduceLT, Nat.reduceBEq, hl22, ht22, hl24, ht24, hl31, ht31]; first | done | rfl) | (simp only [List.length_append, List.length_cons, List.length_nil, List.length_map, List.length_set, List.length_replicate, Nat.zero_add, Nat.reduceAdd]; rfl) | (simp (disch := first | assumption | (simp only [List.length_set]; assumption)) only [go_sem, Nat.reduceAdd, Nat.reduceMul, Nat.reduceSub, Nat.reduceEqDiff, ↓reduceIte, Nat.reduceLT, reduceCtorEq, Nat.reduceLeDiff, Int.reduceToNat, Int.reduceEq, Int.reduceLE, Int.reduceLT, Nat.reduceBEq, hl22, ht22, hl24, ht24, hl31, ht31]; simp only [List.length_append, List.length_cons, List.length_nil, List.length_map, List.length_set, List.length_replicate, Nat.zero_add, Nat.reduceAdd]; rfl)) (FitAll.refl _) (.inl (by first | rfl | (simp (disch := first | assumption | (simp only [List.length_set]; assumption)) only [go_sem, Nat.reduceAdd, Nat.reduceMul, Nat.reduceSub, Nat.reduceEqDiff, ↓reduceIte, Nat.reduceLT, reduceCtorEq, Nat.reduceLeDiff, Int.reduceToNat, Int.reduceEq, Int.reduceLE, Int.reduceLT, Nat.reduceBEq, hl22, ht22, hl24, ht24, hl31, ht31]; done))) ?_
                      try simp (disch := first | assumption | (simp only [List.length_set]; assumption)) only [go_sem, Nat.reduceAdd, Nat.reduceMul, Nat.reduceSub, Nat.reduceEqDiff, ↓reduceIte, Nat.reduceLT, reduceCtorEq, Nat.reduceLeDiff, Int.reduceToNat, Int.reduceEq, Int.reduceLE, Int.reduceLT, Nat.reduceBEq, hl22, ht22, hl24, ht24, hl31, ht31]
                      obtain ⟨c138, hr36, h⟩ := bind_ok h
                      refine Cl_shown (w_laws_toDomainS hr36) (by first | rfl | (simp (disch := first | assumption | (simp only [List.length_set]; assumption)) only [go_sem, Nat.reduceAdd, Nat.reduceMul, Nat.reduceSub, Nat.reduceEqDiff, ↓reduceIte, Nat.reduceLT, reduceCtorEq, Nat.reduceLeDiff, Int.reduceToNat, Int.reduceEq, Int.reduceLE, Int.reduceLT, Nat.reduceBEq, hl22, ht22, hl24, ht24, hl31, ht31]; first | done | rfl) | (simp only [List.length_append, List.length_cons, List.length_nil, List.length_map, List.length_set, List.length_replicate, Nat.zero_add, Nat.reduceAdd]; rfl) | (simp (disch := first | assumption | (simp only [List.length_set]; assumption)) only [go_sem, Nat.reduceAdd, Nat.reduceMul, Nat.reduceSub, Nat.reduceEqDiff, ↓reduceIte, Nat.reduceLT, reduceCtorEq, Nat.reduceLeDiff, Int.reduceToNat, Int.reduceEq, Int.reduceLE, Int.reduceLT, Nat.reduceBEq, hl22, ht22, hl24, ht24, hl31, ht31]; simp only [List.length_append, List.length_cons, List.length_nil, List.length_map, List.length_set, List.length_replicate, Nat.zero_add, Nat.reduceAdd]; rfl)) (FitAll.refl _) (.inl (by first | rfl | (simp (disch := first | assumption | (simp only [List.length_set]; assumption)) only [go_sem, Nat.reduceAdd, Nat.reduceMul, Nat.reduceSub, Nat.reduceEqDiff, ↓reduceIte, Nat.reduceLT, reduceCtorEq, Nat.reduceLeDiff, Int.reduceToNat, Int.reduceEq, Int.reduceLE, Int.reduceLT, Nat.reduceBEq, hl22, ht22, hl24, ht24, hl31, ht31]; done))) ?_
                      try simp (disch := first | assumption | (simp only [List.length_set]; assumption)) only [go_sem, Nat.reduceAdd, Nat.reduceMul, Nat.reduceSub, Nat.reduceEqDiff, ↓reduceIte, Nat.reduceLT, reduceCtorEq, Nat.reduceLeDiff, Int.reduceToNat, Int.reduceEq, Int.reduceLE, Int.reduceLT, Nat.reduceBEq, hl22, ht22, hl24, ht24, hl31, ht31]
                      obtain ⟨c139, hr37, h⟩ := bind_ok h
                      refine Cl_shown (w_impl_MergeDomains hr37) (by first | rfl | (simp (disch := first | assumption | (simp only [List.length_set]; assumption)) only [go_sem, Nat.reduceAdd, Nat.reduceMul, Nat.reduceSub, Nat.reduceEqDiff, ↓reduceIte, Nat.reduceLT, reduceCtorEq, Nat.reduceLeDiff, Int.reduceToNat, Int.reduceEq, Int.reduceLE, Int.reduceLT, Nat.reduceBEq, hl22, ht22, hl24, ht24, hl31, ht31]; first | done | rfl) | (simp only [List.length_append, List.length_cons, List.length_nil, List.length_map, List.length_set, List.length_replicate, Nat.zero_add, Nat.reduceAdd]; rfl) | (simp (disch := first | assumption | (simp only [List.length_set]; assumption)) only [go_sem, Nat.reduceAdd, Nat.reduceMul, Nat.reduceSub, Nat.reduceEqDiff, ↓reduceIte, Nat.reduceLT, reduceCtorEq, Nat.reduceLeDiff, Int.reduceToNat, Int.reduceEq, Int.reduceLE, Int.reduceLT, Nat.reduceBEq, hl22, ht22, hl24, ht24, hl31, ht31]; simp only [List.length_append, List.length_cons, List.length_nil, List.length_map, List.length_set, List.length_replicate, Nat.zero_add, Nat.reduceAdd]; rfl)) (FitAll.refl _) (.inr ⟨rfl, by simp [freeOb, free1]⟩) ?_
                      try simp (disch := first | assumption | (simp only [List.length_set]; assumption)) only [go_sem, Nat.reduceAdd, Nat.reduceMul, Nat.reduceSub, Nat.reduceEqDiff, ↓reduceIte, Nat.reduceLT, reduceCtorEq, Nat.reduceLeDiff, Int.reduceToNat, Int.reduceEq, Int.reduceLE, Int.reduceLT, Nat.reduceBEq, hl22, ht22, hl24, ht24, hl31, ht31]
                      obtain ⟨p141, hq38, h⟩ := bind_ok h
                      refine Sq_cut (fun s2 => s2 = ⟨[(10, (.os 0 3 0 c100.1.length c100.1.length false)), (13, (.lf false (.sc (.int .i64 c127.1)))), (110, (.lf false (.sc (.bool p141.t110))))], [(0, some (true, .arr false 3 (c127.2.map eDomain)))], 1, 119⟩) ?_ ?_
                      · try simp (disch := first | assumption | (simp only [List.length_set]; assumption)) only [go_sem, Nat.reduceAdd, Nat.reduceMul, Nat.reduceSub, Nat.reduceEqDiff, ↓reduceIte, Nat.reduceLT, reduceCtorEq, Nat.reduceLeDiff, Int.reduceToNat, Int.reduceEq, Int.reduceLE, Int.reduceLT, Nat.reduceBEq, hl22, ht22, hl24, ht24, hl31, ht31]
                        obtain ⟨c140, hr39, hq38⟩ := bind_ok hq38
                        refine Cl_shown (w_laws_eqDomainS hr39) (by first | rfl | (simp (disch := first | assumption | (simp only [List.length_set]; assumption)) only [go_sem, Nat.reduceAdd, Nat.reduceMul, Nat.reduceSub, Nat.reduceEqDiff, ↓reduceIte, Nat.reduceLT, reduceCtorEq, Nat.reduceLeDiff, Int.reduceToNat, Int.reduceEq, Int.reduceLE, Int.reduceLT, Nat.reduceBEq, hl22, ht22, hl24, ht24, hl31, ht31]; first | done | rfl) | (simp only [List.length_append, List.length_cons, List.length_nil, List.length_map, List.length_set, List.length_replicate, Nat.zero_add, Nat.reduceAdd]; rfl) | (simp (disch := first | assumption | (simp only [List.length_set]; assumption)) only [go_sem, Nat.reduceAdd, Nat.reduceMul, Nat.reduceSub, Nat.reduceEqDiff, ↓reduceIte, Nat.reduceLT, reduceCtorEq, Nat.reduceLeDiff, Int.reduceToNat, Int.reduceEq, Int.reduceLE, Int.reduceLT, Nat.reduceBEq, hl22, ht22, hl24, ht24, hl31, ht31]; simp only [List.length_append, List.length_cons, List.length_nil, List.length_map, List.length_set, List.length_replicate, Nat.zero_add, Nat.reduceAdd]; rfl)) (FitAll.refl _) (.inr ⟨rfl, by simp [freeOb, free1]⟩) ?_
                        try simp (disch := first | assumption | (simp only [List.length_set]; assumption)) only [go_sem, Nat.reduceAdd, Nat.reduceMul, Nat.reduceSub, Nat.reduceEqDiff, ↓reduceIte, Nat.reduceLT, reduceCtorEq, Nat.reduceLeDiff, Int.reduceToNat, Int.reduceEq, Int.reduceLE, Int.reduceLT, Nat.reduceBEq, hl22, ht22, hl24, ht24, hl31, ht31]
                        refine Sp_if hq38 (fun hq38 hc40 => ?_) (fun hq38 hc40 => ?_)
                        · try simp (disch := first | assumption | (simp only [List.length_set]; assumption)) only [go_sem, Nat.reduceAdd, Nat.reduceMul, Nat.reduceSub, Nat.reduceEqDiff, ↓reduceIte, Nat.reduceLT, reduceCtorEq, Nat.reduceLeDiff, Int.reduceToNat, Int.reduceEq, Int.reduceLE, Int.reduceLT, Nat.reduceBEq, hl22, ht22, hl24, ht24, hl31, ht31]
                          cases hq38
                          refine X_cut rfl ?_
                          refine weak_of (m := 0) [some 1] rfl rfl rfl (by rfl) ?_ ?_
                          all_goals ((try simp (disch := first | assumption | (simp only [List.length_set]; assumption)) only [go_sem, Nat.reduceAdd, Nat.reduceMul, Nat.reduceSub, Nat.reduceEqDiff, ↓reduceIte, Nat.reduceLT, reduceCtorEq, Nat.reduceLeDiff, Int.reduceToNat, Int.reduceEq, Int.reduceLE, Int.reduceLT, Nat.reduceBEq, hl22, ht22, hl24, ht24, hl31, ht31]); (repeat' first | done | rfl | omega | refine And.intro ?_ ?_ | (simp; done) | (simp; omega)))
                        · try simp (disch := first | assumption | (simp only [List.length_set]; assumption)) only [go_sem, Nat.reduceAdd, Nat.reduceMul, Nat.reduceSub, Nat.reduceEqDiff, ↓reduceIte, Nat.reduceLT, reduceCtorEq, Nat.reduceLeDiff, Int.reduceToNat, Int.reduceEq, Int.reduceLE, Int.reduceLT, Nat.reduceBEq, hl22, ht22, hl24, ht24, hl31, ht31]
                          cases hq38
                          refine X_cut rfl ?_
                          refine weak_of (m := 0) [some 1] rfl rfl rfl (by rfl) ?_ ?_
                          all_goals ((try simp (disch := first | assumption | (simp only [List.length_set]; assumption)) only [go_sem, Nat.reduceAdd, Nat.reduceMul, Nat.reduceSub, Nat.reduceEqDiff, ↓reduceIte, Nat.reduceLT, reduceCtorEq, Nat.reduceLeDiff, Int.reduceToNat, Int.reduceEq, Int.reduceLE, Int.reduceLT, Nat.reduceBEq, hl22, ht22, hl24, ht24, hl31, ht31]); (repeat' first | done | rfl | omega | refine And.intro ?_ ?_ | (simp; done) | (simp; omega)))
                      · intro s2 hJ; subst hJ
                        try dsimp only at h
                        try simp (disch := first | assumption | (simp only [List.length_set]; assumption)) only [go_sem, Nat.reduceAdd, Nat.reduceMul, Nat.reduceSub, Nat.reduceEqDiff, ↓reduceIte, Nat.reduceLT, reduceCtorEq, Nat.reduceLeDiff, Int.reduceToNat, Int.reduceEq, Int.reduceLE, Int.reduceLT, Nat.reduceBEq, hl22, ht22, hl24, ht24, hl31, ht31]
                        refine Bs_if h (fun h hc41 => ?_) (fun h hc41 => ?_)
                        · try simp (disch := first | assumption | (simp only [List.length_set]; assumption)) only [go_sem, Nat.reduceAdd, Nat.reduceMul, Nat.reduceSub, Nat.reduceEqDiff, ↓reduceIte, Nat.reduceLT, reduceCtorEq, Nat.reduceLeDiff, Int.reduceToNat, Int.reduceEq, Int.reduceLE, Int.reduceLT, Nat.reduceBEq, hl22, ht22, hl24, ht24, hl31, ht31]
                          have he := Option.some.inj h
                          subst he
                          refine ends_weak ⟨[(4, (.lf false (.sc (.bool false))))], [], 0, 119⟩ (weak_of (m := 0) [] rfl rfl rfl (by rfl) ?_ ?_) ?_
                          all_goals ((try simp (disch := first | assumption | (simp only [List.length_set]; assumption)) only [go_sem, Nat.reduceAdd, Nat.reduceMul, Nat.reduceSub, Nat.reduceEqDiff, ↓reduceIte, Nat.reduceLT, reduceCtorEq, Nat.reduceLeDiff, Int.reduceToNat, Int.reduceEq, Int.reduceLE, Int.reduceLT, Nat.reduceBEq, hl22, ht22, hl24, ht24, hl31, ht31]); (repeat' first | done | rfl | omega | refine And.intro ?_ ?_ | (simp; done) | (simp; omega)))
                        · try simp (disch := first | assumption | (simp only [List.length_set]; assumption)) only [go_sem, Nat.reduceAdd, Nat.reduceMul, Nat.reduceSub, Nat.reduceEqDiff, ↓reduceIte, Nat.reduceLT, reduceCtorEq, Nat.reduceLeDiff, Int.reduceToNat, Int.reduceEq, Int.reduceLE, Int.reduceLT, Nat.reduceBEq, hl22, ht22, hl24, ht24, hl31, ht31]
                          obtain ⟨c142, hr42, h⟩ := bind_ok h
                          refine Cl_shown (w_laws_heldDomainS hr42) (by first | rfl | (simp (disch := first | assumption | (simp only [List.length_set]; assumption)) only [go_sem, Nat.reduceAdd, Nat.reduceMul, Nat.reduceSub, Nat.reduceEqDiff, ↓reduceIte, Nat.reduceLT, reduceCtorEq, Nat.reduceLeDiff, Int.reduceToNat, Int.reduceEq, Int.reduceLE, Int.reduceLT, Nat.reduceBEq, hl22, ht22, hl24, ht24, hl31, ht31]; first | done | rfl) | (simp only [List.length_append, List.length_cons, List.length_nil, List.length_map, List.length_set, List.length_replicate, Nat.zero_add, Nat.reduceAdd]; rfl) | (simp (disch := first | assumption | (simp only [List.length_set]; assumption)) only [go_sem, Nat.reduceAdd, Nat.reduceMul, Nat.reduceSub, Nat.reduceEqDiff, ↓reduceIte, Nat.reduceLT, reduceCtorEq, Nat.reduceLeDiff, Int.reduceToNat, Int.reduceEq, Int.reduceLE, Int.reduceLT, Nat.reduceBEq, hl22, ht22, hl24, ht24, hl31, ht31]; simp only [List.length_append, List.length_cons, List.length_nil, List.length_map, List.length_set, List.length_replicate, Nat.zero_add, Nat.reduceAdd]; rfl)) (FitAll.refl _) (.inr ⟨rfl, by simp [freeOb, free1]⟩) ?_
                          try simp (disch := first | assumption | (simp only [List.length_set]; assumption)) only [go_sem, Nat.reduceAdd, Nat.reduceMul, Nat.reduceSub, Nat.reduceEqDiff, ↓reduceIte, Nat.reduceLT, reduceCtorEq, Nat.reduceLeDiff, Int.reduceToNat, Int.reduceEq, Int.reduceLE, Int.reduceLT, Nat.reduceBEq, hl22, ht22, hl24, ht24, hl31, ht31]
                          refine Bs_if h (fun h hc43 => ?_) (fun h hc43 => ?_)
                          · try simp (disch := first | assumption | (simp only [List.length_set]; assumption)) only [go_sem, Nat.reduceAdd, Nat.reduceMul, Nat.reduceSub, Nat.reduceEqDiff, ↓reduceIte, Nat.reduceLT, reduceCtorEq, Nat.reduceLeDiff, Int.reduceToNat, Int.reduceEq, Int.reduceLE, Int.reduceLT, Nat.reduceBEq, hl22, ht22, hl24, ht24, hl31, ht31]
                            have he := Option.some.inj h
                            subst he
                            refine ends_weak ⟨[(4, (.lf false (.sc (.bool false))))], [], 0, 119⟩ (weak_of (m := 0) [] rfl rfl rfl (by rfl) ?_ ?_) ?_
                            all_goals ((try simp (disch := first | assumption | (simp only [List.length_set]; assumption)) only [go_sem, Nat.reduceAdd, Nat.reduceMul, Nat.reduceSub, Nat.reduceEqDiff, ↓reduceIte, Nat.reduceLT, reduceCtorEq, Nat.reduceLeDiff, Int.reduceToNat, Int.reduceEq, Int.reduceLE, Int.reduceLT, Nat.reduceBEq, hl22, ht22, hl24, ht24, hl31, ht31]); (repeat' first | done | rfl | omega | refine And.intro ?_ ?_ | (simp; done) | (simp; omega)))
                          · try simp (disch := first | assumption | (simp only [List.length_set]; assumption)) only [go_sem, Nat.reduceAdd, Nat.reduceMul, Nat.reduceSub, Nat.reduceEqDiff, ↓reduceIte, Nat.reduceLT, reduceCtorEq, Nat.reduceLeDiff, Int.reduceToNat, Int.reduceEq, Int.reduceLE, Int.reduceLT, Nat.reduceBEq, hl22, ht22, hl24, ht24, hl31, ht31]
                            refine Bs_if h (fun h hc44 => ?_) (fun h hc44 => ?_)
                            · try simp (disch := first | assumption | (simp only [List.length_set]; assumption)) only [go_sem, Nat.reduceAdd, Nat.reduceMul, Nat.reduceSub, Nat.reduceEqDiff, ↓reduceIte, Nat.reduceLT, reduceCtorEq, Nat.reduceLeDiff, Int.reduceToNat, Int.reduceEq, Int.reduceLE, Int.reduceLT, Nat.reduceBEq, hl22, ht22, hl24, ht24, hl31, ht31]
                              have he := Option.some.inj h
                              subst he
                              refine ends_weak ⟨[(4, (.lf false (.sc (.bool false))))], [], 0, 119⟩ (weak_of (m := 0) [] rfl rfl rfl (by rfl) ?_ ?_) ?_
                              all_goals ((try simp (disch := first | assumption | (simp only [List.length_set]; assumption)) only [go_sem, Nat.reduceAdd, Nat.reduceMul, Nat.reduceSub, Nat.reduceEqDiff, ↓reduceIte, Nat.reduceLT, reduceCtorEq, Nat.reduceLeDiff, Int.reduceToNat, Int.reduceEq, Int.reduceLE, Int.reduceLT, Nat.reduceBEq, hl22, ht22, hl24, ht24, hl31, ht31]); (repeat' first | done | rfl | omega | refine And.intro ?_ ?_ | (simp; done) | (simp; omega)))
                            · try simp (disch := first | assumption | (simp only [List.length_set]; assumption)) only [go_sem, Nat.reduceAdd, Nat.reduceMul, Nat.reduceSub, Nat.reduceEqDiff, ↓reduceIte, Nat.reduceLT, reduceCtorEq, Nat.reduceLeDiff, Int.reduceToNat, Int.reduceEq, Int.reduceLE, Int.reduceLT, Nat.reduceBEq, hl22, ht22, hl24, ht24, hl31, ht31]
                              have he := Option.some.inj h
                              subst he
                              refine ends_weak ⟨[(4, (.lf false (.sc (.bool true))))], [], 0, 119⟩ (weak_of (m := 0) [] rfl rfl rfl (by rfl) ?_ ?_) ?_
                              all_goals ((try simp (disch := first | assumption | (simp only [List.length_set]; assumption)) only [go_sem, Nat.reduceAdd, Nat.reduceMul, Nat.reduceSub, Nat.reduceEqDiff, ↓reduceIte, Nat.reduceLT, reduceCtorEq, Nat.reduceLeDiff, Int.reduceToNat, Int.reduceEq, Int.reduceLE, Int.reduceLT, Nat.reduceBEq, hl22, ht22, hl24, ht24, hl31, ht31]); (repeat' first | done | rfl | omega | refine And.intro ?_ ?_ | (simp; done) | (simp; omega)))
end Go.TL.YtjhcfmcdllfmpaaDoor

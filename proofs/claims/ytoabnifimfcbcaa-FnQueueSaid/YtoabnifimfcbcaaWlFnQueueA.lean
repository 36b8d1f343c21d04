import Derived.Test.YtoabnifimfcbcaaTlTabr2
import Derived.Test.YtoabnifimfcbcaaEnR2
import Derived.Test.YtoabnifimfcbcaaTlAuto
set_option linter.unusedVariables false
set_option linter.unusedSimpArgs false
set_option maxRecDepth 8000
set_option maxHeartbeats 0
namespace Go.TL.Ytoabnifimfcbcaa
open Go Go.Proofs Go.TL
theorem w_spec_l1Cur_next_o {a0 : l1CurT} {r : (Int × l1CurT)} (h : spec_l1Cur_next_o a0 = some r) : Fn Try.prog 126 [(.pb 0 0)] [(0, some (false, .box [(.lf true (.sl (a0.code.map eU8))), (.lf false (.sc (.int .i64 a0.at_))), (.lf false (.sc (.int .u64 a0.seed)))]))] 1 (.lf false (.sc (.int .i64 r.1))) [(0, some (false, .box [(.lf true (.sl (r.2.code.map eU8))), (.lf false (.sc (.int .i64 r.2.at_))), (.lf false (.sc (.int .u64 r.2.seed)))]))] 1 := by
  unfold spec_l1Cur_next_o at h
  refine fn_code tab_ok mixed [(1000, [(0, 0)]), (1001, [(0, 0), (3, 0)]), (1002, [(0, 0), (3, 0), (13, 0)]), (1003, [(0, 0), (3, 0)]), (1004, [(0, 0), (3, 0)]), (1005, [(0, 0), (3, 0)]), (1006, [(0, 0), (3, 0), (53, 0)]), (1007, [(2, 0)]), (1008, [(2, 0)]), (2013, [])] Try.func126 rfl rfl (by simp [Try.f126]) (by kernel_rfl) ?_
  simp only [Try.f126]
  refine sA ?_
  obtain ⟨p2, hq1, h⟩ := bind_ok h
  refine Sq_cut (fun s2 => s2 = ⟨[(0, (.pb 0 0)), (3, (.lf false (.sc (.int .i64 p2.t3))))], [(0, some (false, .box [(.lf true (.sl (a0.code.map eU8))), (.lf false (.sc (.int .i64 a0.at_))), (.lf false (.sc (.int .u64 a0.seed)))]))], 1, 62⟩) ?_ ?_
  · try refine sA ?_
    refine Bs_if hq1 (fun hq1 hc2 => ?_) (fun hq1 hc2 => ?_)
    · try refine sA ?_
      obtain ⟨hp3, hq1⟩ := guard_some hq1
      have hn3 : a0.at_.toNat < a0.code.length := by first | omega | (simp only [List.length_set, List.length_append, List.length_replicate, List.length_map]; omega)
      try refine sA ?_
      try refine andA ?_
      cases hq1
      exact X_cut rfl (weakA [some 0])
    · try refine sA ?_
      cases hq1
      exact X_cut rfl (weakA [some 0])
  · intro s2 hJ; subst hJ
    try dsimp only at h
    try refine sA ?_
    refine Bs_if h (fun h hc4 => ?_) (fun h hc4 => ?_)
    · try refine sA ?_
      have he := Option.some.inj h
      subst he
      exact endsA ⟨[(2, (.lf false (.sc (.int .i64 p2.t3))))], [(0, some (false, .box [(.lf true (.sl (a0.code.map eU8))), (.lf false (.sc (.int .i64 (wI (a0.at_ + 1))))), (.lf false (.sc (.int .u64 (wU ((wU ((wU (a0.seed * 6364136223846793005)) + (wU p2.t3))) + 1442695040888963407)))))]))], 1, 62⟩ [some 0]
    · try refine sA ?_
      have he := Option.some.inj h
      subst he
      exact endsA ⟨[(2, (.lf false (.sc (.int .i64 (wI (wU (bvAnd 64 (shR 64 (wU ((wU ((wU (a0.seed * 6364136223846793005)) + (wU p2.t3))) + 1442695040888963407)) 40) 255)))))))], [(0, some (false, .box [(.lf true (.sl (a0.code.map eU8))), (.lf false (.sc (.int .i64 (wI (a0.at_ + 1))))), (.lf false (.sc (.int .u64 (wU ((wU ((wU (a0.seed * 6364136223846793005)) + (wU p2.t3))) + 1442695040888963407)))))]))], 1, 62⟩ [some 0]
theorem w_spec_l1Cur_pick_o {a0 : l1CurT} {a1 : Int} {r : (Int × l1CurT)} (h : spec_l1Cur_pick_o a0 a1 = some r) : Fn Try.prog 87 [(.pb 0 0), (.lf false (.sc (.int .i64 a1)))] [(0, some (false, .box [(.lf true (.sl (a0.code.map eU8))), (.lf false (.sc (.int .i64 a0.at_))), (.lf false (.sc (.int .u64 a0.seed)))]))] 1 (.lf false (.sc (.int .i64 r.1))) [(0, some (false, .box [(.lf true (.sl (r.2.code.map eU8))), (.lf false (.sc (.int .i64 r.2.at_))), (.lf false (.sc (.int .u64 r.2.seed)))]))] 1 := by
  unfold spec_l1Cur_pick_o at h
  refine fn_code tab_ok mixed [(1000, [(0, 0), (1, 0)]), (1001, [(0, 0), (1, 0), (7, 0)]), (1002, [(4, 0)]), (1003, [(0, 0), (1, 0), (5, 0)]), (1004, [(0, 0), (1, 0), (5, 0), (11, 0)]), (1005, [(1, 0), (5, 0)]), (1006, [(4, 0)])] Try.func87 rfl rfl (by simp [Try.f87]) (by kernel_rfl) ?_
  simp only [Try.f87]
  refine sA ?_
  refine Bs_if h (fun h hc1 => ?_) (fun h hc1 => ?_)
  · try refine sA ?_
    have he := Option.some.inj h
    subst he
    exact endsA ⟨[(4, (.lf false (.sc (.int .i64 0))))], [(0, some (false, .box [(.lf true (.sl (a0.code.map eU8))), (.lf false (.sc (.int .i64 a0.at_))), (.lf false (.sc (.int .u64 a0.seed)))]))], 1, 20⟩ [some 0]
  · try refine sA ?_
    obtain ⟨c3, hr2, h⟩ := bind_ok h
    refine Cl_hA [0] (w_spec_l1Cur_next_o hr2) ?_
    try refine sA ?_
    refine Bs_if h (fun h hc3 => ?_) (fun h hc3 => ?_)
    · try refine sA ?_
      obtain ⟨c4, hr4, h⟩ := bind_ok h
      refine Cl_hA [0] (w_spec_l1Cur_next_o hr4) ?_
      try refine sA ?_
      obtain ⟨hp5, h⟩ := guard_some h
      try refine sA ?_
      try refine andA ?_
      have he := Option.some.inj h
      subst he
      exact endsA ⟨[(4, (.lf false (.sc (.int .i64 ((wI ((wI (c3.1 * 256)) + c4.1)).tmod a1)))))], [(0, some (false, .box [(.lf true (.sl (c4.2.code.map eU8))), (.lf false (.sc (.int .i64 c4.2.at_))), (.lf false (.sc (.int .u64 c4.2.seed)))]))], 1, 20⟩ [some 0]
    · try refine sA ?_
      obtain ⟨hp6, h⟩ := guard_some h
      try refine sA ?_
      try refine andA ?_
      have he := Option.some.inj h
      subst he
      exact endsA ⟨[(4, (.lf false (.sc (.int .i64 (c3.1.tmod a1)))))], [(0, some (false, .box [(.lf true (.sl (c3.2.code.map eU8))), (.lf false (.sc (.int .i64 c3.2.at_))), (.lf false (.sc (.int .u64 c3.2.seed)))]))], 1, 20⟩ [some 0]
theorem w_spec_l1Cur_one_o {a0 : l1CurT} {a1 : Int} {r : (Bool × l1CurT)} (h : spec_l1Cur_one_o a0 a1 = some r) : Fn Try.prog 55 [(.pb 0 0), (.lf false (.sc (.int .i64 a1)))] [(0, some (false, .box [(.lf true (.sl (a0.code.map eU8))), (.lf false (.sc (.int .i64 a0.at_))), (.lf false (.sc (.int .u64 a0.seed)))]))] 1 (.lf false (.sc (.bool r.1))) [(0, some (false, .box [(.lf true (.sl (r.2.code.map eU8))), (.lf false (.sc (.int .i64 r.2.at_))), (.lf false (.sc (.int .u64 r.2.seed)))]))] 1 := by
  unfold spec_l1Cur_one_o at h
  refine fn_code tab_ok mixed [] Try.func55 rfl rfl (by simp [Try.f55]) (by kernel_rfl) ?_
  simp only [Try.f55]
  refine sA ?_
  obtain ⟨c7, hr1, h⟩ := bind_ok h
  refine Cl_hA [0] (w_spec_l1Cur_pick_o hr1) ?_
  try refine sA ?_
  have he := Option.some.inj h
  subst he
  exact endsA ⟨[(4, (.lf false (.sc (.bool (c7.1 == 0)))))], [(0, some (false, .box [(.lf true (.sl (c7.2.code.map eU8))), (.lf false (.sc (.int .i64 c7.2.at_))), (.lf false (.sc (.int .u64 c7.2.seed)))]))], 1, 9⟩ [some 0]
theorem w_spec_l1Cur_among_ow {a0 : l1CurT} {a1 : (List Int)} {m1 : Nat} {x1 : Bool} {r : (Int × l1CurT)} (h : spec_l1Cur_among_ow a0 a1 = some r) : Fn Try.prog 116 [(.pb 0 0), (.os 1 1 0 a1.length m1 x1)] [(0, some (false, .box [(.lf true (.sl (a0.code.map eU8))), (.lf false (.sc (.int .i64 a0.at_))), (.lf false (.sc (.int .u64 a0.seed)))])), (1, some (false, .arr true 1 (a1.map eI)))] 2 (.lf false (.sc (.int .i64 r.1))) [(0, some (false, .box [(.lf true (.sl (r.2.code.map eU8))), (.lf false (.sc (.int .i64 r.2.at_))), (.lf false (.sc (.int .u64 r.2.seed)))])), (1, some (false, .arr false 1 (a1.map eI)))] 2 := by
  unfold spec_l1Cur_among_ow at h
  refine fn_code tab_ok mixed [] Try.func116 rfl rfl (by simp [Try.f116]) (by kernel_rfl) ?_
  simp only [Try.f116]
  refine sA ?_
  obtain ⟨c12, hr1, h⟩ := bind_ok h
  refine Cl_hA [0] (w_spec_l1Cur_pick_o hr1) ?_
  try refine sA ?_
  obtain ⟨hp2, h⟩ := guard_some h
  have hn2 : c12.1.toNat < a1.length := by first | omega | (simp only [List.length_set, List.length_append, List.length_replicate, List.length_map]; omega)
  try refine sA ?_
  try refine andA ?_
  try refine andB ?_
  try refine sA ?_
  have he := Option.some.inj h
  subst he
  exact endsA ⟨[(4, (.lf false (.sc (.int .i64 (nth a1 c12.1.toNat)))))], [(0, some (false, .box [(.lf true (.sl (c12.2.code.map eU8))), (.lf false (.sc (.int .i64 c12.2.at_))), (.lf false (.sc (.int .u64 c12.2.seed)))])), (1, some (false, .arr false 1 (a1.map eI)))], 2, 12⟩ [some 0, some 1]
theorem w_spec_l1Cur_of_ow {a0 : l1CurT} {a1 : (List ByteArray)} {m1 : Nat} {x1 : Bool} {r : (ByteArray × l1CurT)} (h : spec_l1Cur_of_ow a0 a1 = some r) : Fn Try.prog 127 [(.pb 0 0), (.os 1 1 0 a1.length m1 x1)] [(0, some (false, .box [(.lf true (.sl (a0.code.map eU8))), (.lf false (.sc (.int .i64 a0.at_))), (.lf false (.sc (.int .u64 a0.seed)))])), (1, some (false, .arr true 1 (a1.map eS)))] 2 (.lf false (.sc (.string r.1))) [(0, some (false, .box [(.lf true (.sl (r.2.code.map eU8))), (.lf false (.sc (.int .i64 r.2.at_))), (.lf false (.sc (.int .u64 r.2.seed)))])), (1, some (false, .arr false 1 (a1.map eS)))] 2 := by
  unfold spec_l1Cur_of_ow at h
  refine fn_code tab_ok mixed [] Try.func127 rfl rfl (by simp [Try.f127]) (by kernel_rfl) ?_
  simp only [Try.f127]
  refine sA ?_
  obtain ⟨c15, hr1, h⟩ := bind_ok h
  refine Cl_hA [0] (w_spec_l1Cur_pick_o hr1) ?_
  try refine sA ?_
  obtain ⟨hp2, h⟩ := guard_some h
  have hn2 : c15.1.toNat < a1.length := by first | omega | (simp only [List.length_set, List.length_append, List.length_replicate, List.length_map]; omega)
  try refine sA ?_
  try refine andA ?_
  try refine andB ?_
  try refine sA ?_
  have he := Option.some.inj h
  subst he
  exact endsA ⟨[(4, (.lf false (.sc (.string (nth a1 c15.1.toNat)))))], [(0, some (false, .box [(.lf true (.sl (c15.2.code.map eU8))), (.lf false (.sc (.int .i64 c15.2.at_))), (.lf false (.sc (.int .u64 c15.2.seed)))])), (1, some (false, .arr false 1 (a1.map eS)))], 2, 12⟩ [some 0, some 1]
theorem w_spec_l1Cur_lineSteps_o {a0 : l1CurT} {r : ((List LineStepT) × l1CurT)} (h : spec_l1Cur_lineSteps_o a0 = some r) : Fn Try.prog 88 [(.pb 0 0)] [(0, some (false, .box [(.lf true (.sl (a0.code.map eU8))), (.lf false (.sc (.int .i64 a0.at_))), (.lf false (.sc (.int .u64 a0.seed)))]))] 1 (.os 1 3 0 r.1.length r.1.length false) [(0, some (false, .box [(.lf true (.sl (r.2.code.map eU8))), (.lf false (.sc (.int .i64 r.2.at_))), (.lf false (.sc (.int .u64 r.2.seed)))])), (1, some (true, .arr false 3 (r.1.map eLineStep)))] 2 := by
  unfold spec_l1Cur_lineSteps_o at h
  refine fn_code tab_ok mixed [(1000, [(0, 0)]), (1001, [(0, 0), (3, 0)]), (1002, [(0, 0), (3, 0), (4, 0)]), (1003, [(0, 0), (3, 0), (4, 0), (10, 0)]), (1004, [(0, 0), (3, 0), (4, 0)]), (1005, [(0, 0), (3, 0), (4, 0), (5, 0)]), (1006, [(0, 0), (3, 0), (4, 0), (5, 0), (15, 0)]), (1007, [(0, 0), (3, 0), (4, 0), (5, 0)]), (1008, [(0, 0), (3, 0), (4, 0), (5, 0), (6, 0)]), (1009, [(0, 0), (3, 0), (4, 0), (5, 0), (6, 0), (26, 0)]), (1010, [(0, 0), (3, 0), (4, 0), (5, 0), (6, 0)]), (1011, [(0, 0), (3, 0), (4, 0), (5, 0), (6, 0)]), (1012, [(0, 0), (3, 0), (4, 0), (5, 0), (6, 0)]), (1013, [(0, 0), (3, 0), (4, 0), (5, 0), (6, 0), (36, 0)]), (1014, [(0, 0), (3, 0), (4, 0), (5, 0), (6, 0)]), (1015, [(0, 0), (3, 0), (4, 0), (5, 0), (6, 0), (43, 0)]), (1016, [(0, 0), (3, 0), (4, 0), (5, 0), (6, 0)]), (1017, [(0, 0), (3, 0), (4, 0), (5, 0), (6, 0)]), (1018, [(0, 0), (3, 0), (4, 0), (5, 0)]), (1019, [(2, 0)]), (2010, []), (2026, []), (2036, [])] Try.func88 rfl rfl (by simp [Try.f88]) (by kernel_rfl) ?_
  simp only [Try.f88]
  refine sA ?_
  obtain ⟨c6, hr1, h⟩ := bind_ok h
  refine Cl_hA [0] (w_spec_l1Cur_pick_o hr1) ?_
  try refine sA ?_
  obtain ⟨p10, hq2, h⟩ := bind_ok h
  refine Sq_cut (fun s2 => s2 = ⟨[(0, (.pb 0 0)), (3, .nl), (4, (.lf false (.sc (.int .i64 p10.t4))))], [(0, some (false, .box [(.lf true (.sl (p10.b0_0.map eU8))), (.lf false (.sc (.int .i64 p10.b0_1))), (.lf false (.sc (.int .u64 p10.b0_2)))]))], 1, 56⟩) ?_ ?_
  · try refine sA ?_
    obtain ⟨c8, hr3, hq2⟩ := bind_ok hq2
    refine Cl_hA [0] (w_spec_l1Cur_one_o hr3) ?_
    try refine sA ?_
    refine Bs_if hq2 (fun hq2 hc4 => ?_) (fun hq2 hc4 => ?_)
    · try refine sA ?_
      obtain ⟨c9, hr5, hq2⟩ := bind_ok hq2
      refine Cl_hA [0] (w_spec_l1Cur_pick_o hr5) ?_
      try refine sA ?_
      cases hq2
      exact X_cut rfl (weakA [some 0])
    · try refine sA ?_
      cases hq2
      exact X_cut rfl (weakA [some 0])
  · intro s2 hJ; subst hJ
    try dsimp only at h
    try refine sA ?_
    obtain ⟨y30, hl6, h⟩ := bind_ok h
    refine W_loopP (fun g11 : spec_l1Cur_lineSteps_o_G1 => ⟨[(0, (.pb 0 0)), (3, (.os 1 3 0 g11.c1.length g11.c1.length false)), (4, (.lf false (.sc (.int .i64 g11.t4)))), (5, (.lf false (.sc (.int .i64 g11.t5))))], [(0, some (false, .box [(.lf true (.sl (g11.b0_0.map eU8))), (.lf false (.sc (.int .i64 g11.b0_1))), (.lf false (.sc (.int .u64 g11.b0_2)))])), (1, some (true, .arr false 3 (g11.c1.map eLineStep)))], 2, 56⟩) (spec_l1Cur_lineSteps_o_L1) _ _ hl6 (weakA [some 0, none]) ?_
    · intro n1 g11 z1 hs1 hk1
      unfold spec_l1Cur_lineSteps_o_L1 at hs1
      try dsimp only at hs1
      refine sA ?_
      refine Bs_if hs1 (fun hs1 hc7 => ?_) (fun hs1 hc7 => ?_)
      · try refine sA ?_
        obtain ⟨c22, hr8, hs1⟩ := bind_ok hs1
        refine Cl_hA [0, 2] (w_spec_l1Cur_among_ow hr8) ?_
        try refine sA ?_
        obtain ⟨c23, hr9, hs1⟩ := bind_ok hs1
        refine Cl_hA [0] (w_spec_l1Cur_pick_o hr9) ?_
        try refine sA ?_
        obtain ⟨p25, hq10, hs1⟩ := bind_ok hs1
        refine Sq_cut (fun s2 => s2 = ⟨[(0, (.pb 0 0)), (3, (.os 1 3 0 g11.c1.length g11.c1.length false)), (4, (.lf false (.sc (.int .i64 g11.t4)))), (5, (.lf false (.sc (.int .i64 p25.t5)))), (6, (.pb 2 0))], [(0, some (false, .box [(.lf true (.sl (p25.b0_0.map eU8))), (.lf false (.sc (.int .i64 p25.b0_1))), (.lf false (.sc (.int .u64 p25.b0_2)))])), (1, some (true, .arr false 3 (g11.c1.map eLineStep))), (2, some (true, .box [(.lf false (.sc (.int .i64 c22.1))), (.lf false (.sc (.int .i64 p25.b2_1))), (.lf false (.sc (.string p25.b2_2)))]))], 3, 56⟩) ?_ ?_
        · try refine sA ?_
          refine Bs_if hq10 (fun hq10 hc11 => ?_) (fun hq10 hc11 => ?_)
          · try refine sA ?_
            obtain ⟨c24, hr12, hq10⟩ := bind_ok hq10
            refine Cl_hA [0, 4] (w_spec_l1Cur_of_ow hr12) ?_
            try refine sA ?_
            cases hq10
            exact X_cut rfl (weakA [some 0, some 1, some 3])
          · try refine sA ?_
            cases hq10
            exact X_cut rfl (weakA [some 0, some 1, some 3])
        · intro s2 hJ; subst hJ
          try dsimp only at hs1
          try refine sA ?_
          obtain ⟨p27, hq13, hs1⟩ := bind_ok hs1
          refine Sq_cut (fun s2 => s2 = ⟨[(0, (.pb 0 0)), (3, (.os 1 3 0 g11.c1.length g11.c1.length false)), (4, (.lf false (.sc (.int .i64 g11.t4)))), (5, (.lf false (.sc (.int .i64 p25.t5)))), (6, (.pb 2 0))], [(0, some (false, .box [(.lf true (.sl (p27.b0_0.map eU8))), (.lf false (.sc (.int .i64 p27.b0_1))), (.lf false (.sc (.int .u64 p27.b0_2)))])), (1, some (true, .arr false 3 (g11.c1.map eLineStep))), (2, some (true, .box [(.lf false (.sc (.int .i64 c22.1))), (.lf false (.sc (.int .i64 p27.b2_1))), (.lf false (.sc (.string p25.b2_2)))]))], 3, 56⟩) ?_ ?_
          · try refine sA ?_
            refine Bs_if hq13 (fun hq13 hc14 => ?_) (fun hq13 hc14 => ?_)
            · try refine sA ?_
              obtain ⟨c26, hr15, hq13⟩ := bind_ok hq13
              refine Cl_hA [0] (w_spec_l1Cur_pick_o hr15) ?_
              try refine sA ?_
              cases hq13
              exact X_cut rfl (weakA [some 0, some 1, some 2])
            · try refine sA ?_
              cases hq13
              exact X_cut rfl (weakA [some 0, some 1, some 2])
          · intro s2 hJ; subst hJ
            try dsimp only at hs1
            try refine sA ?_
            obtain ⟨c28, hr16, hs1⟩ := bind_ok hs1
            refine Cl_hA [0] (w_spec_l1Cur_one_o hr16) ?_
            try refine sA ?_
            refine Bs_if hs1 (fun hs1 hc17 => ?_) (fun hs1 hc17 => ?_)
            · try refine sA ?_
              obtain ⟨c29, hr18, hs1⟩ := bind_ok hs1
              refine Cl_hA [0] (w_spec_l1Cur_pick_o hr18) ?_
              try refine sA ?_
              obtain ⟨hp19, hs1⟩ := guard_some hs1
              try refine sA ?_
              try refine andA ?_
              cases hs1
              exact X_backP hk1 (weakA [some 0, some 4])
            · try refine sA ?_
              obtain ⟨hp20, hs1⟩ := guard_some hs1
              try refine sA ?_
              try refine andA ?_
              cases hs1
              exact X_backP hk1 (weakA [some 0, some 4])
      · try refine sA ?_
        cases hs1
        cases hk1
        try dsimp only at h
        try refine sA ?_
        have he := Option.some.inj h
        subst he
        exact endsA ⟨[(2, (.os 1 3 0 g11.c1.length g11.c1.length false))], [(0, some (false, .box [(.lf true (.sl (g11.b0_0.map eU8))), (.lf false (.sc (.int .i64 g11.b0_1))), (.lf false (.sc (.int .u64 g11.b0_2)))])), (1, some (true, .arr false 3 (g11.c1.map eLineStep)))], 2, 56⟩ [some 0, some 1]
theorem w_spec_DrawPlayQueue {a0 : (List Int)} {r : (Int × (List LineStepT))} (h : spec_DrawPlayQueue a0 = some r) : Fn Try.prog 28 [(.lf true (.sl (a0.map eU8)))] [] 0 (.tu [(.lf false (.sc (.int .i64 r.1))), (.os 0 3 0 r.2.length r.2.length false)]) [(0, some (true, .arr false 3 (r.2.map eLineStep)))] 1 := by
  unfold spec_DrawPlayQueue at h
  refine fn_code tab_ok mixed [(1000, [(0, 0)]), (1001, [(4, 0)]), (1002, [(2, 0), (3, 0)])] Try.func28 rfl rfl (by simp [Try.f28]) (by kernel_rfl) ?_
  simp only [Try.f28]
  refine sA ?_
  obtain ⟨c5, hr1, h⟩ := bind_ok h
  refine Cl_hA [0] (w_spec_l1Cur_pick_o hr1) ?_
  try refine sA ?_
  obtain ⟨c31, hr2, h⟩ := bind_ok h
  refine Cl_hA [0] (w_spec_l1Cur_lineSteps_o hr2) ?_
  try refine sA ?_
  have he := Option.some.inj h
  subst he
  exact endsA ⟨[(2, (.lf false (.sc (.int .i64 (wI (1 + c5.1)))))), (3, (.os 0 3 0 c31.1.length c31.1.length false))], [(0, some (true, .arr false 3 (c31.1.map eLineStep)))], 1, 13⟩ [some 1]
theorem w_impl_in {a0 : Int} {a1 : Int} {a2 : Int} {r : Bool} (h : impl_in a0 a1 a2 = some r) : Fn Try.prog 68 [(.lf false (.sc (.int .i64 a0))), (.lf false (.sc (.int .i64 a1))), (.lf false (.sc (.int .i64 a2)))] [] 0 (.lf false (.sc (.bool r))) [] 0 := by
  unfold impl_in at h
  refine fn_code tab_ok mixed [] Try.func68 rfl rfl (by simp [Try.f68]) (by kernel_rfl) ?_
  simp only [Try.f68]
  refine sA ?_
  refine Sp_if h (fun h hc1 => ?_) (fun h hc1 => ?_)
  · try refine sA ?_
    have he := Option.some.inj h
    subst he
    exact endsA ⟨[(6, (.lf false (.sc (.bool (decide (a0 ≤ a2))))))], [], 0, 15⟩ []
  · try refine sA ?_
    have he := Option.some.inj h
    subst he
    exact endsA ⟨[(6, (.lf false (.sc (.bool false))))], [], 0, 15⟩ []
theorem w_impl_NewQueue {a0 : Int} {r : (QueueT × Bool)} (h : impl_NewQueue a0 = some r) : Fn Try.prog 89 [(.lf false (.sc (.int .i64 a0)))] [] 0 (.tu [(.ag [(.lf false (.sc (.int .i64 r.1.Window))), .nl, (.lf false (.sc (.int .i64 r.1.Base))), .nl, .nl]), (.lf false (.sc (.bool r.2)))]) [] 1 := by
  unfold impl_NewQueue at h
  refine fn_code tab_ok mixed [(1000, [(0, 0), (2, 0)]), (1001, [(0, 0), (2, 0), (6, 0)]), (1002, [(2, 0), (3, 0)]), (1003, [(2, 0), (3, 0)])] Try.func89 rfl rfl (by simp [Try.f89]) (by kernel_rfl) ?_
  simp only [Try.f89]
  refine sA ?_
  obtain ⟨c33, hr1, h⟩ := bind_ok h
  refine Cl_sA (w_impl_in hr1) ?_
  try refine sA ?_
  refine Bs_if h (fun h hc2 => ?_) (fun h hc2 => ?_)
  · try refine sA ?_
    have he := Option.some.inj h
    subst he
    exact endsA ⟨[(2, (.pb 0 0)), (3, (.lf false (.sc (.bool false))))], [(0, some (true, .box [(.lf false (.sc (.int .i64 0))), .nl, (.lf false (.sc (.int .i64 0))), .nl, .nl]))], 1, 10⟩ [some 0]
  · try refine sA ?_
    have he := Option.some.inj h
    subst he
    exact endsA ⟨[(2, (.pb 0 0)), (3, (.lf false (.sc (.bool true))))], [(0, some (true, .box [(.lf false (.sc (.int .i64 a0))), .nl, (.lf false (.sc (.int .i64 0))), .nl, .nl]))], 1, 10⟩ [some 0]
theorem w_slices_Delete_impl_Packet_w {a0 : List PacketT} {a1 a2 : Int} {m0 : Nat} {x0 : Bool} {r : List PacketT} (h : slices_Delete_impl_Packet_w a0 a1 a2 = some r) : Fn Try.prog 130 [(.os 0 3 0 a0.length m0 x0), (.lf false (.sc (.int .i64 a1))), (.lf false (.sc (.int .i64 a2)))] [(0, some (false, .arr true 3 (a0.map ePacket)))] 1 (.os 1 3 0 r.length r.length false) [(0, none), (1, some (false, .arr false 3 (r.map ePacket)))] 2 := by
  unfold slices_Delete_impl_Packet_w at h
  obtain ⟨⟨hp1, hp2, hp3, hp4⟩, h⟩ := guard_some h
  have he := Option.some.inj h; subst he
  refine fn_code tab_ok mixed [] Try.func130 rfl rfl (by simp [Try.f130]) (by kernel_rfl) ?_
  simp only [Try.f130]
  simp (disch := assumption) only [go_sem, Nat.reduceAdd, Nat.reduceMul, Nat.reduceSub, Nat.reduceEqDiff, ↓reduceIte, Nat.reduceLT, reduceCtorEq, Nat.reduceLeDiff, Int.reduceToNat, Int.reduceEq, Int.reduceLE, Int.reduceLT, Nat.reduceBEq]
  refine And.intro (by omega) ?_
  try simp (disch := assumption) only [go_sem, Nat.reduceAdd, Nat.reduceMul, Nat.reduceSub, Nat.reduceEqDiff, ↓reduceIte, Nat.reduceLT, reduceCtorEq, Nat.reduceLeDiff, Int.reduceToNat, Int.reduceEq, Int.reduceLE, Int.reduceLT, Nat.reduceBEq]
  refine Bs_splitC (a1 == a2) (by first | rfl | simp) (fun hc => ?_) (fun hc => ?_)
  · try simp (disch := assumption) only [go_sem, Nat.reduceAdd, Nat.reduceMul, Nat.reduceSub, Nat.reduceEqDiff, ↓reduceIte, Nat.reduceLT, reduceCtorEq, Nat.reduceLeDiff, Int.reduceToNat, Int.reduceEq, Int.reduceLE, Int.reduceLT, Nat.reduceBEq]
    have he : a1 = a2 := by simpa using hc
    have hr : a0.take a1.toNat ++ a0.drop a2.toNat = a0 := by rw [he]; exact List.take_append_drop _ _
    rw [hr]
    refine ends_weak ⟨[(6, (.os 1 3 0 a0.length a0.length false))], [(0, none), (1, some (false, .arr false 3 (a0.map ePacket)))], 2, 33⟩ (weak_of (m := 1) [some 0, some 0] rfl rfl rfl (by rfl) ?_ ?_) ?_
    all_goals ((try simp (disch := assumption) only [go_sem, Nat.reduceAdd, Nat.reduceMul, Nat.reduceSub, Nat.reduceEqDiff, ↓reduceIte, Nat.reduceLT, reduceCtorEq, Nat.reduceLeDiff, Int.reduceToNat, Int.reduceEq, Int.reduceLE, Int.reduceLT, Nat.reduceBEq]); (repeat' first | done | rfl | omega | refine And.intro ?_ ?_ | (simp; done) | (simp; omega)))
  · try simp (disch := assumption) only [go_sem, Nat.reduceAdd, Nat.reduceMul, Nat.reduceSub, Nat.reduceEqDiff, ↓reduceIte, Nat.reduceLT, reduceCtorEq, Nat.reduceLeDiff, Int.reduceToNat, Int.reduceEq, Int.reduceLE, Int.reduceLT, Nat.reduceBEq]
    refine And.intro (by omega) (And.intro (by omega) ?_)
    have hs : a2.toNat + (a0.length - a2.toNat) ≤ a0.length := by omega
    simp (disch := assumption) only [go_sem, Nat.reduceAdd, Nat.reduceMul, Nat.reduceSub, Nat.reduceEqDiff, ↓reduceIte, Nat.reduceLT, reduceCtorEq, Nat.reduceLeDiff, Int.reduceToNat, Int.reduceEq, Int.reduceLE, Int.reduceLT, Nat.reduceBEq, hs]
    have hd : (a0.drop a2.toNat).length = a0.length - a2.toNat := List.length_drop
    have ht : (a0.take a1.toNat).length = a1.toNat := by rw [List.length_take]; omega
    have hR : (a0.take a1.toNat ++ a0.drop a2.toNat).length = a1.toNat + (a0.drop a2.toNat).length := by rw [List.length_append, ht]
    refine And.intro ⟨by omega, (by first | exact mapLen fun _ => rfl | simp), by omega⟩ (And.intro ⟨by omega, by omega, by omega⟩ (And.intro (by omega) ?_))
    refine ends_weak ⟨[(6, (.os 1 3 0 (a0.take a1.toNat ++ a0.drop a2.toNat).length (a0.take a1.toNat ++ a0.drop a2.toNat).length false))], [(0, none), (1, some (false, .arr false 3 ((a0.take a1.toNat ++ a0.drop a2.toNat).map ePacket)))], 2, 33⟩ (weak_of (m := 1) [some 0, some 1] rfl rfl rfl (by rfl) ?_ ?_) ?_
    all_goals ((try simp (disch := assumption) only [go_sem, Nat.reduceAdd, Nat.reduceMul, Nat.reduceSub, Nat.reduceEqDiff, ↓reduceIte, Nat.reduceLT, reduceCtorEq, Nat.reduceLeDiff, Int.reduceToNat, Int.reduceEq, Int.reduceLE, Int.reduceLT, Nat.reduceBEq]); (repeat' first | done | rfl | omega | refine And.intro ?_ ?_ | (simp; done) | (simp; omega)))
theorem w_impl_Queue_put_o {a0 : QueueT} {a1 : PacketT} {m1 : Nat} {x1 : Bool} {m2 : Nat} {x2 : Bool} {m3 : Nat} {x3 : Bool} {r : (Bool × QueueT)} (h : impl_Queue_put_o a0 a1 = some r) : Fn Try.prog 131 [(.pb 0 0), (.ag [(.lf false (.sc (.bool a1.Ack))), (.lf false (.sc (.int .i64 a1.No))), (.lf false (.sc (.string a1.Text)))])] [(0, some (false, .box [(.lf false (.sc (.int .i64 a0.Window))), (.os 1 1 0 a0.Sent.length m1 x1), (.lf false (.sc (.int .i64 a0.Base))), (.os 2 1 0 a0.Got.length m2 x2), (.os 3 3 0 a0.Line.length m3 x3)])), (1, some (false, .arr true 1 (a0.Sent.map eS))), (2, some (false, .arr true 1 (a0.Got.map eS))), (3, some (false, .arr true 3 (a0.Line.map ePacket)))] 4 (.lf false (.sc (.bool r.1))) [(0, some (false, .box [(.lf false (.sc (.int .i64 r.2.Window))), (.os 1 1 0 a0.Sent.length a0.Sent.length false), (.lf false (.sc (.int .i64 r.2.Base))), (.os 2 1 0 a0.Got.length a0.Got.length false), (.os 4 3 0 r.2.Line.length r.2.Line.length false)])), (1, some (false, .arr false 1 (a0.Sent.map eS))), (2, some (false, .arr false 1 (a0.Got.map eS))), (3, none), (4, some (false, .arr false 3 (r.2.Line.map ePacket)))] 5 := by
  unfold impl_Queue_put_o at h
  refine fn_code tab_ok mixed [(3, [(4, 6)]), (1000, [(0, 0), (3, 0)]), (1001, [(0, 0), (3, 0), (10, 0)]), (1002, [(4, 0)]), (1003, []), (1004, [(4, 0)])] Try.func131 rfl rfl (by simp [Try.f131]) (by kernel_rfl) ?_
  simp only [Try.f131]
  refine sA ?_
  refine Bs_if h (fun h hc1 => ?_) (fun h hc1 => ?_)
  · try refine sA ?_
    have he := Option.some.inj h
    subst he
    exact endsA ⟨[(4, (.lf false (.sc (.bool false))))], [(0, some (false, .box [(.lf false (.sc (.int .i64 a0.Window))), (.os 1 1 0 a0.Sent.length a0.Sent.length false), (.lf false (.sc (.int .i64 a0.Base))), (.os 2 1 0 a0.Got.length a0.Got.length false), (.os 4 3 0 a0.Line.length a0.Line.length false)])), (1, some (false, .arr false 1 (a0.Sent.map eS))), (2, some (false, .arr false 1 (a0.Got.map eS))), (3, none), (4, some (false, .arr false 3 (a0.Line.map ePacket)))], 5, 21⟩ [some 0, some 1, some 2, some 3, some 3]
  · try refine sA ?_
    obtain ⟨hp2, h⟩ := guard_some h
    try refine sA ?_
    try refine andA ?_
    have he := Option.some.inj h
    subst he
    exact endsA ⟨[(4, (.lf false (.sc (.bool true))))], [(0, some (false, .box [(.lf false (.sc (.int .i64 a0.Window))), (.os 1 1 0 a0.Sent.length a0.Sent.length false), (.lf false (.sc (.int .i64 a0.Base))), (.os 2 1 0 a0.Got.length a0.Got.length false), (.os 4 3 0 ((a0.Line ++ ([a1])).length) ((a0.Line ++ ([a1])).length) false)])), (1, some (false, .arr false 1 (a0.Sent.map eS))), (2, some (false, .arr false 1 (a0.Got.map eS))), (3, none), (4, some (false, .arr false 3 ((a0.Line ++ ([a1])).map ePacket)))], 5, 21⟩ [some 0, some 1, some 2, some 3, some 6]
theorem w_impl_Queue_send_o {a0 : QueueT} {a1 : Int} {m1 : Nat} {x1 : Bool} {m2 : Nat} {x2 : Bool} {m3 : Nat} {x3 : Bool} {r : (Bool × QueueT)} (h : impl_Queue_send_o a0 a1 = some r) : Fn Try.prog 128 [(.pb 0 0), (.lf false (.sc (.int .i64 a1)))] [(0, some (false, .box [(.lf false (.sc (.int .i64 a0.Window))), (.os 1 1 0 a0.Sent.length m1 x1), (.lf false (.sc (.int .i64 a0.Base))), (.os 2 1 0 a0.Got.length m2 x2), (.os 3 3 0 a0.Line.length m3 x3)])), (1, some (false, .arr true 1 (a0.Sent.map eS))), (2, some (false, .arr true 1 (a0.Got.map eS))), (3, some (false, .arr true 3 (a0.Line.map ePacket)))] 4 (.lf false (.sc (.bool r.1))) [(0, some (false, .box [(.lf false (.sc (.int .i64 r.2.Window))), (.os 1 1 0 a0.Sent.length a0.Sent.length false), (.lf false (.sc (.int .i64 r.2.Base))), (.os 2 1 0 a0.Got.length a0.Got.length false), (.os 4 3 0 r.2.Line.length r.2.Line.length false)])), (1, some (false, .arr false 1 (a0.Sent.map eS))), (2, some (false, .arr false 1 (a0.Got.map eS))), (3, none), (4, some (false, .arr false 3 (r.2.Line.map ePacket)))] 5 := by
  unfold impl_Queue_send_o at h
  refine fn_code tab_ok mixed [] Try.func128 rfl rfl (by simp [Try.f128]) (by kernel_rfl) ?_
  simp only [Try.f128]
  refine sA ?_
  obtain ⟨c71, hr1, h⟩ := bind_ok h
  refine Cl_sA (w_impl_in hr1) ?_
  try refine sA ?_
  refine Sp_if h (fun h hc2 => ?_) (fun h hc2 => ?_)
  · try refine sA ?_
    obtain ⟨hp3, h⟩ := guard_some h
    have hn3 : a1.toNat < a0.Sent.length := by first | omega | (simp only [List.length_set, List.length_append, List.length_replicate, List.length_map]; omega)
    try refine sA ?_
    try refine andA ?_
    try refine andB ?_
    try refine sA ?_
    obtain ⟨c72, hr5, h⟩ := bind_ok h
    refine Cl_hA [0, 1, 2, 3] (w_impl_Queue_put_o hr5) ?_
    try refine sA ?_
    have he := Option.some.inj h
    subst he
    exact endsA ⟨[(4, (.lf false (.sc (.bool c72.1))))], [(0, some (false, .box [(.lf false (.sc (.int .i64 c72.2.Window))), (.os 1 1 0 a0.Sent.length a0.Sent.length false), (.lf false (.sc (.int .i64 c72.2.Base))), (.os 2 1 0 a0.Got.length a0.Got.length false), (.os 4 3 0 c72.2.Line.length c72.2.Line.length false)])), (1, some (false, .arr false 1 (a0.Sent.map eS))), (2, some (false, .arr false 1 (a0.Got.map eS))), (3, none), (4, some (false, .arr false 3 (c72.2.Line.map ePacket)))], 5, 40⟩ [some 0, some 1, some 2, some 3, some 4]
  · try refine sA ?_
    have he := Option.some.inj h
    subst he
    exact endsA ⟨[(4, (.lf false (.sc (.bool false))))], [(0, some (false, .box [(.lf false (.sc (.int .i64 a0.Window))), (.os 1 1 0 a0.Sent.length a0.Sent.length false), (.lf false (.sc (.int .i64 a0.Base))), (.os 2 1 0 a0.Got.length a0.Got.length false), (.os 4 3 0 a0.Line.length a0.Line.length false)])), (1, some (false, .arr false 1 (a0.Sent.map eS))), (2, some (false, .arr false 1 (a0.Got.map eS))), (3, none), (4, some (false, .arr false 3 (a0.Line.map ePacket)))], 5, 40⟩ [some 0, some 1, some 2, some 3, some 3]
theorem w_impl_Queue_take_o {a0 : QueueT} {a1 : Int} {m1 : Nat} {x1 : Bool} {m2 : Nat} {x2 : Bool} {m3 : Nat} {x3 : Bool} {r : QueueT} (h : impl_Queue_take_o a0 a1 = some r) : Fn Try.prog 129 [(.pb 0 0), (.lf false (.sc (.int .i64 a1)))] [(0, some (false, .box [(.lf false (.sc (.int .i64 a0.Window))), (.os 1 1 0 a0.Sent.length m1 x1), (.lf false (.sc (.int .i64 a0.Base))), (.os 2 1 0 a0.Got.length m2 x2), (.os 3 3 0 a0.Line.length m3 x3)])), (1, some (false, .arr true 1 (a0.Sent.map eS))), (2, some (false, .arr true 1 (a0.Got.map eS))), (3, some (false, .arr true 3 (a0.Line.map ePacket)))] 4 (.tu []) [(0, some (false, .box [(.lf false (.sc (.int .i64 r.Window))), (.os 1 1 0 a0.Sent.length a0.Sent.length false), (.lf false (.sc (.int .i64 r.Base))), (.os 4 1 0 r.Got.length r.Got.length false), (.os 5 3 0 r.Line.length r.Line.length false)])), (1, some (false, .arr false 1 (a0.Sent.map eS))), (2, none), (3, none), (4, some (false, .arr false 1 (r.Got.map eS))), (5, some (false, .arr false 3 (r.Line.map ePacket)))] 6 := by
  unfold impl_Queue_take_o at h
  refine fn_code tab_ok mixed [(5, [(4, 7)]), (1000, [(0, 0), (1, 0), (4, 0)]), (1001, [(0, 0), (4, 0)]), (1002, [(0, 0), (4, 0), (24, 0)]), (1003, []), (1004, [(0, 0), (4, 0), (42, 0)]), (1005, [(0, 0)]), (1006, [])] Try.func129 rfl rfl (by simp [Try.f129]) (by kernel_rfl) ?_
  simp only [Try.f129]
  refine sA ?_
  obtain ⟨hp1, h⟩ := guard_some h
  have hn1 : a1.toNat < a0.Line.length := by first | omega | (simp only [List.length_set, List.length_append, List.length_replicate, List.length_map]; omega)
  try refine sA ?_
  try refine andA ?_
  try refine andB ?_
  try refine sA ?_
  obtain ⟨c77, hr3, h⟩ := bind_ok h
  refine Cl_hA [3] (w_slices_Delete_impl_Packet_w hr3) ?_
  try refine sA ?_
  refine Bs_if h (fun h hc4 => ?_) (fun h hc4 => ?_)
  · try refine sA ?_
    have he := Option.some.inj h
    subst he
    exact endsA ⟨[], [(0, some (false, .box [(.lf false (.sc (.int .i64 a0.Window))), (.os 1 1 0 a0.Sent.length a0.Sent.length false), (.lf false (.sc (.int .i64 (max a0.Base ((nth a0.Line a1.toNat).No))))), (.os 4 1 0 a0.Got.length a0.Got.length false), (.os 5 3 0 c77.length c77.length false)])), (1, some (false, .arr false 1 (a0.Sent.map eS))), (2, none), (3, none), (4, some (false, .arr false 1 (a0.Got.map eS))), (5, some (false, .arr false 3 (c77.map ePacket)))], 6, 62⟩ [some 0, some 1, some 2, some 3, some 2, some 5]
  · try refine sA ?_
    refine Bs_if h (fun h hc5 => ?_) (fun h hc5 => ?_)
    · try refine sA ?_
      obtain ⟨hp6, h⟩ := guard_some h
      try refine sA ?_
      try refine andA ?_
      obtain ⟨c78, hr7, h⟩ := bind_ok h
      refine Cl_hA [0, 1, 7, 5] (w_impl_Queue_put_o hr7) ?_
      try refine sA ?_
      have he := Option.some.inj h
      subst he
      exact endsA ⟨[], [(0, some (false, .box [(.lf false (.sc (.int .i64 c78.2.Window))), (.os 1 1 0 a0.Sent.length a0.Sent.length false), (.lf false (.sc (.int .i64 c78.2.Base))), (.os 4 1 0 ((a0.Got ++ ([(nth a0.Line a1.toNat).Text])).length) ((a0.Got ++ ([(nth a0.Line a1.toNat).Text])).length) false), (.os 5 3 0 c78.2.Line.length c78.2.Line.length false)])), (1, some (false, .arr false 1 (a0.Sent.map eS))), (2, none), (3, none), (4, some (false, .arr false 1 ((a0.Got ++ ([(nth a0.Line a1.toNat).Text])).map eS))), (5, some (false, .arr false 3 (c78.2.Line.map ePacket)))], 6, 62⟩ [some 0, some 1, some 2, some 3, some 7, some 8]
    · try refine sA ?_
      obtain ⟨c79, hr8, h⟩ := bind_ok h
      refine Cl_hA [0, 1, 2, 5] (w_impl_Queue_put_o hr8) ?_
      try refine sA ?_
      have he := Option.some.inj h
      subst he
      exact endsA ⟨[], [(0, some (false, .box [(.lf false (.sc (.int .i64 c79.2.Window))), (.os 1 1 0 a0.Sent.length a0.Sent.length false), (.lf false (.sc (.int .i64 c79.2.Base))), (.os 4 1 0 a0.Got.length a0.Got.length false), (.os 5 3 0 c79.2.Line.length c79.2.Line.length false)])), (1, some (false, .arr false 1 (a0.Sent.map eS))), (2, none), (3, none), (4, some (false, .arr false 1 (a0.Got.map eS))), (5, some (false, .arr false 3 (c79.2.Line.map ePacket)))], 6, 62⟩ [some 0, some 1, some 2, some 3, some 2, some 6]
theorem w_impl_Queue_step_o {a0 : QueueT} {a1 : LineStepT} {m1 : Nat} {x1 : Bool} {m2 : Nat} {x2 : Bool} {m3 : Nat} {x3 : Bool} {r : (Bool × QueueT)} (h : impl_Queue_step_o a0 a1 = some r) : Fn Try.prog 90 [(.pb 0 0), (.ag [(.lf false (.sc (.int .i64 a1.Kind))), (.lf false (.sc (.int .i64 a1.K))), (.lf false (.sc (.string a1.Text)))])] [(0, some (false, .box [(.lf false (.sc (.int .i64 a0.Window))), (.os 1 1 0 a0.Sent.length m1 x1), (.lf false (.sc (.int .i64 a0.Base))), (.os 2 1 0 a0.Got.length m2 x2), (.os 3 3 0 a0.Line.length m3 x3)])), (1, some (false, .arr true 1 (a0.Sent.map eS))), (2, some (false, .arr true 1 (a0.Got.map eS))), (3, some (false, .arr true 3 (a0.Line.map ePacket)))] 4 (.lf false (.sc (.bool r.1))) [(0, some (false, .box [(.lf false (.sc (.int .i64 r.2.Window))), (.os 4 1 0 r.2.Sent.length r.2.Sent.length false), (.lf false (.sc (.int .i64 r.2.Base))), (.os 5 1 0 r.2.Got.length r.2.Got.length false), (.os 6 3 0 r.2.Line.length r.2.Line.length false)])), (1, none), (2, none), (3, none), (4, some (false, .arr false 1 (r.2.Sent.map eS))), (5, some (false, .arr false 1 (r.2.Got.map eS))), (6, some (false, .arr false 3 (r.2.Line.map ePacket)))] 7 := by
  unfold impl_Queue_step_o at h
  refine fn_code tab_ok mixed [(5, [(4, 7)]), (1000, [(0, 0), (3, 0)]), (1001, [(0, 0), (3, 0), (6, 0)]), (1002, [(0, 0), (3, 0), (6, 0), (7, 0)]), (1003, [(0, 0), (3, 0), (20, 0)]), (1004, [(4, 0)]), (1005, []), (1006, [(4, 0)]), (1007, [(0, 0), (3, 0), (32, 0)]), (1008, [(4, 0)]), (1009, [(0, 0), (3, 0), (53, 0)]), (1010, [(4, 0)]), (1011, [(0, 0), (3, 0), (55, 0)]), (1012, [(4, 0)]), (1013, [(0, 0), (3, 0), (55, 0), (66, 0)]), (1014, []), (1015, [(0, 0), (3, 0), (72, 0)]), (1016, []), (1017, [(4, 0)]), (4003, []), (4009, [])] Try.func90 rfl rfl (by simp [Try.f90]) (by kernel_rfl) ?_
  simp only [Try.f90]
  refine sA ?_
  refine Bs_if h (fun h hc1 => ?_) (fun h hc1 => ?_)
  · try refine sA ?_
    obtain ⟨p70, hq2, h⟩ := bind_ok h
    refine Sq_cut (fun s2 => s2 = ⟨[(0, (.pb 0 0)), (3, (.pb 4 0)), (20, (.lf false (.sc (.bool p70.t20))))], [(0, some (false, .box [(.lf false (.sc (.int .i64 a0.Window))), (.os 1 1 0 a0.Sent.length m1 x1), (.lf false (.sc (.int .i64 a0.Base))), (.os 2 1 0 a0.Got.length m2 x2), (.os 3 3 0 a0.Line.length m3 x3)])), (1, some (false, .arr true 1 (a0.Sent.map eS))), (2, some (false, .arr true 1 (a0.Got.map eS))), (3, some (false, .arr true 3 (a0.Line.map ePacket))), (4, some (true, .box [(.lf false (.sc (.int .i64 a1.Kind))), (.lf false (.sc (.int .i64 a1.K))), (.lf false (.sc (.string a1.Text)))]))], 5, 87⟩) ?_ ?_
    · try refine sA ?_
      refine Sp_if hq2 (fun hq2 hc3 => ?_) (fun hq2 hc3 => ?_)
      · try refine sA ?_
        cases hq2
        exact X_cut rfl (weakA [some 0, some 1, some 2, some 3, some 4])
      · try refine sA ?_
        cases hq2
        exact X_cut rfl (weakA [some 0, some 1, some 2, some 3, some 4])
    · intro s2 hJ; subst hJ
      try dsimp only at h
      try refine sA ?_
      refine Bs_if h (fun h hc4 => ?_) (fun h hc4 => ?_)
      · try refine sA ?_
        have he := Option.some.inj h
        subst he
        exact endsA ⟨[(4, (.lf false (.sc (.bool false))))], [(0, some (false, .box [(.lf false (.sc (.int .i64 a0.Window))), (.os 4 1 0 a0.Sent.length a0.Sent.length false), (.lf false (.sc (.int .i64 a0.Base))), (.os 5 1 0 a0.Got.length a0.Got.length false), (.os 6 3 0 a0.Line.length a0.Line.length false)])), (1, none), (2, none), (3, none), (4, some (false, .arr false 1 (a0.Sent.map eS))), (5, some (false, .arr false 1 (a0.Got.map eS))), (6, some (false, .arr false 3 (a0.Line.map ePacket)))], 7, 87⟩ [some 0, some 1, some 2, some 3, some 1, some 2, some 3]
      · try refine sA ?_
        obtain ⟨hp5, h⟩ := guard_some h
        try refine sA ?_
        try refine andA ?_
        have he := Option.some.inj h
        subst he
        exact endsA ⟨[(4, (.lf false (.sc (.bool true))))], [(0, some (false, .box [(.lf false (.sc (.int .i64 a0.Window))), (.os 4 1 0 ((a0.Sent ++ ([a1.Text])).length) ((a0.Sent ++ ([a1.Text])).length) false), (.lf false (.sc (.int .i64 a0.Base))), (.os 5 1 0 a0.Got.length a0.Got.length false), (.os 6 3 0 a0.Line.length a0.Line.length false)])), (1, none), (2, none), (3, none), (4, some (false, .arr false 1 ((a0.Sent ++ ([a1.Text])).map eS))), (5, some (false, .arr false 1 (a0.Got.map eS))), (6, some (false, .arr false 3 (a0.Line.map ePacket)))], 7, 87⟩ [some 0, some 1, some 2, some 3, some 6, some 2, some 3]
  · try refine sA ?_
    refine Bs_if h (fun h hc6 => ?_) (fun h hc6 => ?_)
    · try refine sA ?_
      obtain ⟨c73, hr7, h⟩ := bind_ok h
      refine Cl_hA [0, 1, 2, 3] (w_impl_Queue_send_o hr7) ?_
      try refine sA ?_
      have he := Option.some.inj h
      subst he
      exact endsA ⟨[(4, (.lf false (.sc (.bool c73.1))))], [(0, some (false, .box [(.lf false (.sc (.int .i64 c73.2.Window))), (.os 4 1 0 a0.Sent.length a0.Sent.length false), (.lf false (.sc (.int .i64 c73.2.Base))), (.os 5 1 0 a0.Got.length a0.Got.length false), (.os 6 3 0 c73.2.Line.length c73.2.Line.length false)])), (1, none), (2, none), (3, none), (4, some (false, .arr false 1 (a0.Sent.map eS))), (5, some (false, .arr false 1 (a0.Got.map eS))), (6, some (false, .arr false 3 (c73.2.Line.map ePacket)))], 7, 87⟩ [some 0, some 1, some 2, some 3, some 1, some 2, some 5]
    · try refine sA ?_
      obtain ⟨p76, hq8, h⟩ := bind_ok h
      refine Sq_cut (fun s2 => s2 = ⟨[(0, (.pb 0 0)), (3, (.pb 4 0)), (53, (.lf false (.sc (.bool p76.t53))))], [(0, some (false, .box [(.lf false (.sc (.int .i64 a0.Window))), (.os 1 1 0 a0.Sent.length m1 x1), (.lf false (.sc (.int .i64 a0.Base))), (.os 2 1 0 a0.Got.length m2 x2), (.os 3 3 0 a0.Line.length m3 x3)])), (1, some (false, .arr true 1 (a0.Sent.map eS))), (2, some (false, .arr true 1 (a0.Got.map eS))), (3, some (false, .arr true 3 (a0.Line.map ePacket))), (4, some (true, .box [(.lf false (.sc (.int .i64 a1.Kind))), (.lf false (.sc (.int .i64 a1.K))), (.lf false (.sc (.string a1.Text)))]))], 5, 87⟩) ?_ ?_
      · try refine sA ?_
        obtain ⟨c74, hr9, hq8⟩ := bind_ok hq8
        refine Cl_sA (w_impl_in hr9) ?_
        try refine sA ?_
        refine Sp_if hq8 (fun hq8 hc10 => ?_) (fun hq8 hc10 => ?_)
        · try refine sA ?_
          cases hq8
          exact X_cut rfl (weakA [some 0, some 1, some 2, some 3, some 4])
        · try refine sA ?_
          obtain ⟨c75, hr11, hq8⟩ := bind_ok hq8
          refine Cl_sA (w_impl_in hr11) ?_
          try refine sA ?_
          cases hq8
          exact X_cut rfl (weakA [some 0, some 1, some 2, some 3, some 4])
      · intro s2 hJ; subst hJ
        try dsimp only at h
        try refine sA ?_
        refine Bs_if h (fun h hc12 => ?_) (fun h hc12 => ?_)
        · try refine sA ?_
          have he := Option.some.inj h
          subst he
          exact endsA ⟨[(4, (.lf false (.sc (.bool false))))], [(0, some (false, .box [(.lf false (.sc (.int .i64 a0.Window))), (.os 4 1 0 a0.Sent.length a0.Sent.length false), (.lf false (.sc (.int .i64 a0.Base))), (.os 5 1 0 a0.Got.length a0.Got.length false), (.os 6 3 0 a0.Line.length a0.Line.length false)])), (1, none), (2, none), (3, none), (4, some (false, .arr false 1 (a0.Sent.map eS))), (5, some (false, .arr false 1 (a0.Got.map eS))), (6, some (false, .arr false 3 (a0.Line.map ePacket)))], 7, 87⟩ [some 0, some 1, some 2, some 3, some 1, some 2, some 3]
        · try refine sA ?_
          refine Bs_if h (fun h hc13 => ?_) (fun h hc13 => ?_)
          · try refine sA ?_
            obtain ⟨c80, hr14, h⟩ := bind_ok h
            refine Cl_hA [0, 1, 2, 3] (w_impl_Queue_take_o hr14) ?_
            try refine sA ?_
            have he := Option.some.inj h
            subst he
            exact endsA ⟨[(4, (.lf false (.sc (.bool true))))], [(0, some (false, .box [(.lf false (.sc (.int .i64 c80.Window))), (.os 4 1 0 a0.Sent.length a0.Sent.length false), (.lf false (.sc (.int .i64 c80.Base))), (.os 5 1 0 c80.Got.length c80.Got.length false), (.os 6 3 0 c80.Line.length c80.Line.length false)])), (1, none), (2, none), (3, none), (4, some (false, .arr false 1 (a0.Sent.map eS))), (5, some (false, .arr false 1 (c80.Got.map eS))), (6, some (false, .arr false 3 (c80.Line.map ePacket)))], 7, 87⟩ [some 0, some 1, some 2, some 3, some 1, some 5, some 6]
          · try refine sA ?_
            refine Bs_if h (fun h hc15 => ?_) (fun h hc15 => ?_)
            · try refine sA ?_
              obtain ⟨c81, hr16, h⟩ := bind_ok h
              refine Cl_hA [3] (w_slices_Delete_impl_Packet_w hr16) ?_
              try refine sA ?_
              have he := Option.some.inj h
              subst he
              exact endsA ⟨[(4, (.lf false (.sc (.bool true))))], [(0, some (false, .box [(.lf false (.sc (.int .i64 a0.Window))), (.os 4 1 0 a0.Sent.length a0.Sent.length false), (.lf false (.sc (.int .i64 a0.Base))), (.os 5 1 0 a0.Got.length a0.Got.length false), (.os 6 3 0 c81.length c81.length false)])), (1, none), (2, none), (3, none), (4, some (false, .arr false 1 (a0.Sent.map eS))), (5, some (false, .arr false 1 (a0.Got.map eS))), (6, some (false, .arr false 3 (c81.map ePacket)))], 7, 87⟩ [some 0, some 1, some 2, some 3, some 1, some 2, some 5]
            · try refine sA ?_
              obtain ⟨hp17, h⟩ := guard_some h
              have hn17 : a1.K.toNat < a0.Line.length := by first | omega | (simp only [List.length_set, List.length_append, List.length_replicate, List.length_map]; omega)
              try refine sA ?_
              try refine andA ?_
              try refine andB ?_
              try refine sA ?_
              obtain ⟨c82, hr19, h⟩ := bind_ok h
              refine Cl_hA [0, 1, 2, 3] (w_impl_Queue_put_o hr19) ?_
              try refine sA ?_
              have he := Option.some.inj h
              subst he
              exact endsA ⟨[(4, (.lf false (.sc (.bool c82.1))))], [(0, some (false, .box [(.lf false (.sc (.int .i64 c82.2.Window))), (.os 4 1 0 a0.Sent.length a0.Sent.length false), (.lf false (.sc (.int .i64 c82.2.Base))), (.os 5 1 0 a0.Got.length a0.Got.length false), (.os 6 3 0 c82.2.Line.length c82.2.Line.length false)])), (1, none), (2, none), (3, none), (4, some (false, .arr false 1 (a0.Sent.map eS))), (5, some (false, .arr false 1 (a0.Got.map eS))), (6, some (false, .arr false 3 (c82.2.Line.map ePacket)))], 7, 87⟩ [some 0, some 1, some 2, some 3, some 1, some 2, some 5]
theorem w_impl_PlayQueue {a0 : Int} {a1 : (List LineStepT)} {r : (QueueT × (List Bool) × Bool)} (h : impl_PlayQueue a0 a1 = some r) : Fn Try.prog 29 [(.lf false (.sc (.int .i64 a0))), (.lf true (.sl (a1.map eLineStep)))] [] 0 (.tu [(.ag [(.lf false (.sc (.int .i64 r.1.Window))), (.os 0 1 0 r.1.Sent.length r.1.Sent.length false), (.lf false (.sc (.int .i64 r.1.Base))), (.os 1 1 0 r.1.Got.length r.1.Got.length false), (.os 2 3 0 r.1.Line.length r.1.Line.length false)]), (.os 3 1 0 r.2.1.length r.2.1.length false), (.lf false (.sc (.bool r.2.2)))]) [(0, some (false, .arr false 1 (r.1.Sent.map eS))), (1, some (false, .arr false 1 (r.1.Got.map eS))), (2, some (false, .arr false 3 (r.1.Line.map ePacket))), (3, some (true, .arr false 1 (r.2.1.map eB)))] 5 := by
  unfold impl_PlayQueue at h
  refine fn_code tab_ok mixed [(1000, [(0, 0), (1, 0), (4, 0)]), (1001, [(1, 0), (4, 0), (7, 0), (8, 0)]), (1002, [(1, 0), (4, 0), (7, 0), (23, 0)]), (1003, [(4, 0), (5, 0), (6, 0)]), (1004, [(1, 0), (4, 0), (7, 0), (9, 0)]), (1005, [(4, 0), (7, 0), (9, 0), (26, 0), (27, 0), (28, 0)]), (1006, [(4, 0), (7, 0), (9, 0), (26, 0), (27, 0), (28, 0), (29, 0)]), (1007, [(4, 0), (7, 0), (9, 0), (11, 0), (26, 0), (27, 0), (28, 0)]), (1008, [(4, 0), (7, 0), (9, 0), (26, 0), (27, 0), (28, 0)]), (1009, [(4, 0), (7, 0), (9, 0), (26, 0), (27, 0), (28, 0)]), (1010, [(4, 0), (5, 0), (6, 0)]), (4002, [])] Try.func29 rfl rfl (by simp [Try.f29]) (by kernel_rfl) ?_
  simp only [Try.f29]
  refine sA ?_
  obtain ⟨c34, hr1, h⟩ := bind_ok h
  refine Cl_sA (w_impl_NewQueue hr1) ?_
  try refine sA ?_
  obtain ⟨p35, hq2, h⟩ := bind_ok h
  refine Sq_cut (fun s2 => s2 = ⟨[(1, (.lf true (.sl (a1.map eLineStep)))), (4, (.pb 0 0)), (7, (.pb 1 0)), (23, (.lf false (.sc (.bool p35.t23))))], [(0, some (true, .box [(.lf false (.sc (.int .i64 0))), .nl, (.lf false (.sc (.int .i64 0))), .nl, .nl])), (1, some (true, .box [(.lf false (.sc (.int .i64 c34.1.Window))), .nl, (.lf false (.sc (.int .i64 c34.1.Base))), .nl, .nl]))], 2, 40⟩) ?_ ?_
  · try refine sA ?_
    refine Sp_if hq2 (fun hq2 hc3 => ?_) (fun hq2 hc3 => ?_)
    · try refine sA ?_
      cases hq2
      exact X_cut rfl (weakA [some 0, some 2])
    · try refine sA ?_
      cases hq2
      exact X_cut rfl (weakA [some 0, some 2])
  · intro s2 hJ; subst hJ
    try dsimp only at h
    try refine sA ?_
    refine Bs_if h (fun h hc4 => ?_) (fun h hc4 => ?_)
    · try refine sA ?_
      have he := Option.some.inj h
      subst he
      exact endsA ⟨[(4, (.pb 4 0)), (5, (.os 3 1 0 (([] : List Bool).length) (([] : List Bool).length) false)), (6, (.lf false (.sc (.bool false))))], [(0, some (false, .arr false 1 (([] : List ByteArray).map eS))), (1, some (false, .arr false 1 (([] : List ByteArray).map eS))), (2, some (false, .arr false 3 (([] : List PacketT).map ePacket))), (3, some (true, .arr false 1 (([] : List Bool).map eB))), (4, some (true, .box [(.lf false (.sc (.int .i64 0))), (.os 0 1 0 (([] : List ByteArray).length) (([] : List ByteArray).length) false), (.lf false (.sc (.int .i64 0))), (.os 1 1 0 (([] : List ByteArray).length) (([] : List ByteArray).length) false), (.os 2 3 0 (([] : List PacketT).length) (([] : List PacketT).length) false)]))], 5, 40⟩ [none, none, none, none, some 0]
    · try refine sA ?_
      obtain ⟨y85, hl5, h⟩ := bind_ok h
      refine W_loopP (fun g36 : impl_PlayQueue_G1 => ⟨[(4, (.pb 0 0)), (7, (.pb 1 0)), (9, (.os 2 1 0 g36.c2.length g36.c2.length false)), (26, (.lf true (.sl (a1.map eLineStep)))), (27, (.lf false (.sc (.int .i64 ((a1.length : Nat) : Int))))), (28, (.lf false (.sc (.int .i64 g36.t28))))], [(0, some (true, .box [(.lf false (.sc (.int .i64 0))), .nl, (.lf false (.sc (.int .i64 0))), .nl, .nl])), (1, some (true, .box [(.lf false (.sc (.int .i64 g36.b1_0))), (.os 3 1 0 g36.c3.length g36.c3.length false), (.lf false (.sc (.int .i64 g36.b1_2))), (.os 4 1 0 g36.c4.length g36.c4.length false), (.os 5 3 0 g36.c5.length g36.c5.length false)])), (2, some (true, .arr false 1 (g36.c2.map eB))), (3, some (false, .arr false 1 (g36.c3.map eS))), (4, some (false, .arr false 1 (g36.c4.map eS))), (5, some (false, .arr false 3 (g36.c5.map ePacket)))], 6, 40⟩) (impl_PlayQueue_L1 a1) _ _ hl5 (weakA [some 0, some 1, some 2, none, none, none]) ?_
      · intro n1 g36 z1 hs1 hk1
        unfold impl_PlayQueue_L1 at hs1
        try dsimp only at hs1
        refine sA ?_
        refine Bs_if hs1 (fun hs1 hc6 => ?_) (fun hs1 hc6 => ?_)
        · try refine sA ?_
          obtain ⟨hp7, hs1⟩ := guard_some hs1
          have hn7 : g36.t28.toNat < a1.length := by first | omega | (simp only [List.length_set, List.length_append, List.length_replicate, List.length_map]; omega)
          try refine sA ?_
          try refine andA ?_
          obtain ⟨c84, hr8, hs1⟩ := bind_ok hs1
          refine Cl_hA [1, 3, 4, 5] (w_impl_Queue_step_o hr8) ?_
          try refine sA ?_
          obtain ⟨hp9, hs1⟩ := guard_some hs1
          try refine sA ?_
          try refine andA ?_
          cases hs1
          exact X_backP hk1 (weakA [some 0, some 1, some 11, some 7, some 8, some 9])
        · try refine sA ?_
          cases hs1
          cases hk1
          try dsimp only at h
          try refine sA ?_
          have he := Option.some.inj h
          subst he
          exact endsA ⟨[(4, (.pb 4 0)), (5, (.os 3 1 0 g36.c2.length g36.c2.length false)), (6, (.lf false (.sc (.bool true))))], [(0, some (false, .arr false 1 (g36.c3.map eS))), (1, some (false, .arr false 1 (g36.c4.map eS))), (2, some (false, .arr false 3 (g36.c5.map ePacket))), (3, some (true, .arr false 1 (g36.c2.map eB))), (4, some (true, .box [(.lf false (.sc (.int .i64 g36.b1_0))), (.os 0 1 0 g36.c3.length g36.c3.length false), (.lf false (.sc (.int .i64 g36.b1_2))), (.os 1 1 0 g36.c4.length g36.c4.length false), (.os 2 3 0 g36.c5.length g36.c5.length false)]))], 5, 40⟩ [some 3, some 4, some 5, some 2, some 0]
theorem w_spec_l1In {a0 : Int} {a1 : Int} {a2 : Int} {r : Bool} (h : spec_l1In a0 a1 a2 = some r) : Fn Try.prog 73 [(.lf false (.sc (.int .i64 a0))), (.lf false (.sc (.int .i64 a1))), (.lf false (.sc (.int .i64 a2)))] [] 0 (.lf false (.sc (.bool r))) [] 0 := by
  unfold spec_l1In at h
  refine fn_code tab_ok mixed [] Try.func73 rfl rfl (by simp [Try.f73]) (by kernel_rfl) ?_
  simp only [Try.f73]
  refine sA ?_
  refine Sp_if h (fun h hc1 => ?_) (fun h hc1 => ?_)
  · try refine sA ?_
    have he := Option.some.inj h
    subst he
    exact endsA ⟨[(6, (.lf false (.sc (.bool (decide (a0 ≤ a2))))))], [], 0, 15⟩ []
  · try refine sA ?_
    have he := Option.some.inj h
    subst he
    exact endsA ⟨[(6, (.lf false (.sc (.bool false))))], [], 0, 15⟩ []
theorem w_spec_NewQueue {a0 : Int} {r : (QueueT × Bool)} (h : spec_NewQueue a0 = some r) : Fn Try.prog 91 [(.lf false (.sc (.int .i64 a0)))] [] 0 (.tu [(.ag [(.lf false (.sc (.int .i64 r.1.Window))), .nl, (.lf false (.sc (.int .i64 r.1.Base))), .nl, .nl]), (.lf false (.sc (.bool r.2)))]) [] 1 := by
  unfold spec_NewQueue at h
  refine fn_code tab_ok mixed [(1000, [(0, 0), (2, 0)]), (1001, [(0, 0), (2, 0), (6, 0)]), (1002, [(2, 0), (3, 0)]), (1003, [(2, 0), (3, 0)])] Try.func91 rfl rfl (by simp [Try.f91]) (by kernel_rfl) ?_
  simp only [Try.f91]
  refine sA ?_
  obtain ⟨c87, hr1, h⟩ := bind_ok h
  refine Cl_sA (w_spec_l1In hr1) ?_
  try refine sA ?_
  refine Bs_if h (fun h hc2 => ?_) (fun h hc2 => ?_)
  · try refine sA ?_
    have he := Option.some.inj h
    subst he
    exact endsA ⟨[(2, (.pb 0 0)), (3, (.lf false (.sc (.bool false))))], [(0, some (true, .box [(.lf false (.sc (.int .i64 0))), .nl, (.lf false (.sc (.int .i64 0))), .nl, .nl]))], 1, 10⟩ [some 0]
  · try refine sA ?_
    have he := Option.some.inj h
    subst he
    exact endsA ⟨[(2, (.pb 0 0)), (3, (.lf false (.sc (.bool true))))], [(0, some (true, .box [(.lf false (.sc (.int .i64 a0))), .nl, (.lf false (.sc (.int .i64 0))), .nl, .nl]))], 1, 10⟩ [some 0]
theorem w_spec_l14Own {a0 : QueueT} {r : QueueT} (h : spec_l14Own a0 = some r) : Fn Try.prog 93 [(.ag [(.lf false (.sc (.int .i64 a0.Window))), (.lf true (.sl (a0.Sent.map eS))), (.lf false (.sc (.int .i64 a0.Base))), (.lf true (.sl (a0.Got.map eS))), (.lf true (.sl (a0.Line.map ePacket)))])] [] 0 (.ag [(.lf false (.sc (.int .i64 r.Window))), (.os 0 1 0 r.Sent.length r.Sent.length false), (.lf false (.sc (.int .i64 r.Base))), (.os 1 1 0 r.Got.length r.Got.length false), (.os 2 3 0 r.Line.length r.Line.length false)]) [(0, some (true, .arr false 1 (r.Sent.map eS))), (1, some (true, .arr false 1 (r.Got.map eS))), (2, some (true, .arr false 3 (r.Line.map ePacket)))] 4 := by
  unfold spec_l14Own at h
  refine fn_code tab_ok mixed [(1000, [(1, 0), (2, 0)]), (1001, [(1, 0), (2, 0)]), (1002, [(1, 0), (2, 0)]), (1003, [(1, 0), (2, 0)]), (1004, [(2, 0)])] Try.func93 rfl rfl (by simp [Try.f93]) (by kernel_rfl) ?_
  simp only [Try.f93]
  refine sA ?_
  obtain ⟨hp1, h⟩ := guard_some h
  try refine sA ?_
  try refine andA ?_
  obtain ⟨hp2, h⟩ := guard_some h
  try refine sA ?_
  try refine andA ?_
  obtain ⟨hp3, h⟩ := guard_some h
  try refine sA ?_
  try refine andA ?_
  have he := Option.some.inj h
  subst he
  exact endsA ⟨[(2, (.pb 3 0))], [(0, some (true, .arr false 1 ((([]) ++ a0.Sent).map eS))), (1, some (true, .arr false 1 ((([]) ++ a0.Got).map eS))), (2, some (true, .arr false 3 ((([]) ++ a0.Line).map ePacket))), (3, some (true, .box [(.lf false (.sc (.int .i64 a0.Window))), (.os 0 1 0 ((([]) ++ a0.Sent).length) ((([]) ++ a0.Sent).length) false), (.lf false (.sc (.int .i64 a0.Base))), (.os 1 1 0 ((([]) ++ a0.Got).length) ((([]) ++ a0.Got).length) false), (.os 2 3 0 ((([]) ++ a0.Line).length) ((([]) ++ a0.Line).length) false)]))], 4, 19⟩ [some 3, some 5, some 7, some 1]
theorem w_spec_l14Put_www {a0 : QueueT} {a1 : PacketT} {m0 : Nat} {x0 : Bool} {m1 : Nat} {x1 : Bool} {m2 : Nat} {x2 : Bool} {r : (QueueT × Bool)} (h : spec_l14Put_www a0 a1 = some r) : Fn Try.prog 132 [(.ag [(.lf false (.sc (.int .i64 a0.Window))), (.os 0 1 0 a0.Sent.length m0 x0), (.lf false (.sc (.int .i64 a0.Base))), (.os 1 1 0 a0.Got.length m1 x1), (.os 2 3 0 a0.Line.length m2 x2)]), (.ag [(.lf false (.sc (.bool a1.Ack))), (.lf false (.sc (.int .i64 a1.No))), (.lf false (.sc (.string a1.Text)))])] [(0, some (false, .arr true 1 (a0.Sent.map eS))), (1, some (false, .arr true 1 (a0.Got.map eS))), (2, some (false, .arr true 3 (a0.Line.map ePacket)))] 3 (.tu [(.ag [(.lf false (.sc (.int .i64 r.1.Window))), (.os 0 1 0 a0.Sent.length a0.Sent.length false), (.lf false (.sc (.int .i64 r.1.Base))), (.os 1 1 0 a0.Got.length a0.Got.length false), (.os 3 3 0 r.1.Line.length r.1.Line.length false)]), (.lf false (.sc (.bool r.2)))]) [(0, some (false, .arr false 1 (a0.Sent.map eS))), (1, some (false, .arr false 1 (a0.Got.map eS))), (2, none), (3, some (false, .arr false 3 (r.1.Line.map ePacket)))] 5 := by
  unfold spec_l14Put_www at h
  refine fn_code tab_ok mixed [(1000, [(2, 0), (3, 0), (4, 0)]), (1001, [(2, 0), (3, 0), (4, 0), (9, 0)]), (1002, [(4, 0), (5, 0)]), (1003, [(2, 0), (4, 0)]), (1004, [(4, 0), (5, 0)])] Try.func132 rfl rfl (by simp [Try.f132]) (by kernel_rfl) ?_
  simp only [Try.f132]
  refine sA ?_
  refine Bs_if h (fun h hc1 => ?_) (fun h hc1 => ?_)
  · try refine sA ?_
    have he := Option.some.inj h
    subst he
    exact endsA ⟨[(4, (.pb 4 0)), (5, (.lf false (.sc (.bool false))))], [(0, some (false, .arr false 1 (a0.Sent.map eS))), (1, some (false, .arr false 1 (a0.Got.map eS))), (2, none), (3, some (false, .arr false 3 (a0.Line.map ePacket))), (4, some (true, .box [(.lf false (.sc (.int .i64 a0.Window))), (.os 0 1 0 a0.Sent.length a0.Sent.length false), (.lf false (.sc (.int .i64 a0.Base))), (.os 1 1 0 a0.Got.length a0.Got.length false), (.os 3 3 0 a0.Line.length a0.Line.length false)]))], 5, 18⟩ [some 0, some 1, some 2, some 2, some 5]
  · try refine sA ?_
    obtain ⟨hp2, h⟩ := guard_some h
    try refine sA ?_
    try refine andA ?_
    have he := Option.some.inj h
    subst he
    exact endsA ⟨[(4, (.pb 4 0)), (5, (.lf false (.sc (.bool true))))], [(0, some (false, .arr false 1 (a0.Sent.map eS))), (1, some (false, .arr false 1 (a0.Got.map eS))), (2, none), (3, some (false, .arr false 3 ((a0.Line ++ ([a1])).map ePacket))), (4, some (true, .box [(.lf false (.sc (.int .i64 a0.Window))), (.os 0 1 0 a0.Sent.length a0.Sent.length false), (.lf false (.sc (.int .i64 a0.Base))), (.os 1 1 0 a0.Got.length a0.Got.length false), (.os 3 3 0 ((a0.Line ++ ([a1])).length) ((a0.Line ++ ([a1])).length) false)]))], 5, 18⟩ [some 0, some 1, some 2, some 7, some 5]
theorem w_spec_l14Without {a0 : (List PacketT)} {a1 : Int} {r : (List PacketT)} (h : spec_l14Without a0 a1 = some r) : Fn Try.prog 133 [(.lf true (.sl (a0.map ePacket))), (.lf false (.sc (.int .i64 a1)))] [] 0 (.os 0 3 0 r.length r.length false) [(0, some (true, .arr false 3 (r.map ePacket)))] 1 := by
  unfold spec_l14Without at h
  refine fn_code tab_ok mixed [] Try.func133 rfl rfl (by simp [Try.f133]) (by kernel_rfl) ?_
  simp only [Try.f133]
  refine sA ?_
  obtain ⟨hp1, h⟩ := guard_some h
  try refine sA ?_
  try refine andA ?_
  obtain ⟨hp2, h⟩ := guard_some h
  try refine sA ?_
  try refine andA ?_
  obtain ⟨hp3, h⟩ := guard_some h
  try refine sA ?_
  try refine andA ?_
  obtain ⟨hp4, h⟩ := guard_some h
  try refine sA ?_
  try refine andA ?_
  have he := Option.some.inj h
  subst he
  exact endsA ⟨[(4, (.os 0 3 0 (((([]) ++ (a0.take a1.toNat)) ++ (a0.drop ((wI (a1 + 1)).toNat))).length) (((([]) ++ (a0.take a1.toNat)) ++ (a0.drop ((wI (a1 + 1)).toNat))).length) false))], [(0, some (true, .arr false 3 (((([]) ++ (a0.take a1.toNat)) ++ (a0.drop ((wI (a1 + 1)).toNat))).map ePacket)))], 1, 15⟩ [some 2]
theorem w_spec_l14Step_www {a0 : QueueT} {a1 : LineStepT} {m0 : Nat} {x0 : Bool} {m1 : Nat} {x1 : Bool} {m2 : Nat} {x2 : Bool} {r : (QueueT × Bool)} (h : spec_l14Step_www a0 a1 = some r) : Fn Try.prog 92 [(.ag [(.lf false (.sc (.int .i64 a0.Window))), (.os 0 1 0 a0.Sent.length m0 x0), (.lf false (.sc (.int .i64 a0.Base))), (.os 1 1 0 a0.Got.length m1 x1), (.os 2 3 0 a0.Line.length m2 x2)]), (.ag [(.lf false (.sc (.int .i64 a1.Kind))), (.lf false (.sc (.int .i64 a1.K))), (.lf false (.sc (.string a1.Text)))])] [(0, some (false, .arr true 1 (a0.Sent.map eS))), (1, some (false, .arr true 1 (a0.Got.map eS))), (2, some (false, .arr true 3 (a0.Line.map ePacket)))] 3 (.tu [(.ag [(.lf false (.sc (.int .i64 r.1.Window))), (.os 3 1 0 r.1.Sent.length r.1.Sent.length false), (.lf false (.sc (.int .i64 r.1.Base))), (.os 4 1 0 r.1.Got.length r.1.Got.length false), (.os 5 3 0 r.1.Line.length r.1.Line.length false)]), (.lf false (.sc (.bool r.2)))]) [(0, none), (1, none), (2, none), (3, some (false, .arr false 1 (r.1.Sent.map eS))), (4, some (false, .arr false 1 (r.1.Got.map eS))), (5, some (false, .arr false 3 (r.1.Line.map ePacket)))] 7 := by
  unfold spec_l14Step_www at h
  refine fn_code tab_ok mixed [(1000, [(2, 0), (3, 0), (4, 0)]), (1001, [(2, 0), (3, 0), (4, 0), (8, 0)]), (1002, [(2, 0), (3, 0), (4, 0), (8, 0), (9, 0)]), (1003, [(2, 0), (3, 0), (4, 0), (20, 0)]), (1004, [(4, 0), (5, 0)]), (1005, [(2, 0), (4, 0)]), (1006, [(4, 0), (5, 0)]), (1007, [(2, 0), (3, 0), (4, 0), (30, 0)]), (1008, [(2, 0), (3, 0), (4, 0), (51, 0)]), (1009, [(4, 0), (5, 0)]), (1010, [(4, 0), (5, 0)]), (1011, [(2, 0), (3, 0), (4, 0), (73, 0)]), (1012, [(4, 0), (5, 0)]), (1013, [(2, 0), (3, 0), (4, 0), (6, 0)]), (1014, [(2, 0), (3, 0), (4, 0), (6, 0), (82, 0)]), (1015, [(4, 0), (5, 0)]), (1016, [(2, 0), (3, 0), (4, 0), (6, 0), (82, 0), (84, 0)]), (1017, [(4, 0), (5, 0)]), (1018, [(2, 0), (3, 0), (4, 0), (6, 0), (82, 0), (91, 0)]), (1019, [(2, 0), (3, 0), (4, 0), (6, 0), (91, 0)]), (1020, [(2, 0), (3, 0), (4, 0), (6, 0)]), (1021, [(2, 0), (4, 0), (6, 0), (102, 0)]), (1022, [(4, 0), (5, 0)]), (1023, [(2, 0), (4, 0), (6, 0), (105, 0)]), (1024, [(2, 0), (4, 0), (6, 0), (110, 0)]), (1025, [(2, 0), (4, 0)]), (1026, [(4, 0), (5, 0)]), (1027, [(2, 0), (4, 0), (6, 0), (120, 0)]), (1028, [(2, 0), (4, 0)]), (1029, [(2, 0), (4, 0)]), (1030, [(4, 0), (5, 0)]), (2091, []), (4003, []), (4008, [])] Try.func92 rfl rfl (by simp [Try.f92]) (by kernel_rfl) ?_
  simp only [Try.f92]
  refine sA ?_
  refine Bs_if h (fun h hc1 => ?_) (fun h hc1 => ?_)
  · try refine sA ?_
    obtain ⟨p102, hq2, h⟩ := bind_ok h
    refine Sq_cut (fun s2 => s2 = ⟨[(2, (.pb 3 0)), (3, (.pb 4 0)), (4, (.pb 5 0)), (20, (.lf false (.sc (.bool p102.t20))))], [(0, some (false, .arr true 1 (a0.Sent.map eS))), (1, some (false, .arr true 1 (a0.Got.map eS))), (2, some (false, .arr true 3 (a0.Line.map ePacket))), (3, some (true, .box [(.lf false (.sc (.int .i64 a0.Window))), (.os 0 1 0 a0.Sent.length m0 x0), (.lf false (.sc (.int .i64 a0.Base))), (.os 1 1 0 a0.Got.length m1 x1), (.os 2 3 0 a0.Line.length m2 x2)])), (4, some (true, .box [(.lf false (.sc (.int .i64 a1.Kind))), (.lf false (.sc (.int .i64 a1.K))), (.lf false (.sc (.string a1.Text)))])), (5, some (true, .box [(.lf false (.sc (.int .i64 0))), .nl, (.lf false (.sc (.int .i64 0))), .nl, .nl]))], 6, 138⟩) ?_ ?_
    · try refine sA ?_
      refine Sp_if hq2 (fun hq2 hc3 => ?_) (fun hq2 hc3 => ?_)
      · try refine sA ?_
        cases hq2
        exact X_cut rfl (weakA [some 0, some 1, some 2, some 3, some 4, some 5])
      · try refine sA ?_
        cases hq2
        exact X_cut rfl (weakA [some 0, some 1, some 2, some 3, some 4, some 5])
    · intro s2 hJ; subst hJ
      try dsimp only at h
      try refine sA ?_
      refine Bs_if h (fun h hc4 => ?_) (fun h hc4 => ?_)
      · try refine sA ?_
        have he := Option.some.inj h
        subst he
        exact endsA ⟨[(4, (.pb 6 0)), (5, (.lf false (.sc (.bool false))))], [(0, none), (1, none), (2, none), (3, some (false, .arr false 1 (a0.Sent.map eS))), (4, some (false, .arr false 1 (a0.Got.map eS))), (5, some (false, .arr false 3 (a0.Line.map ePacket))), (6, some (true, .box [(.lf false (.sc (.int .i64 a0.Window))), (.os 3 1 0 a0.Sent.length a0.Sent.length false), (.lf false (.sc (.int .i64 a0.Base))), (.os 4 1 0 a0.Got.length a0.Got.length false), (.os 5 3 0 a0.Line.length a0.Line.length false)]))], 7, 138⟩ [some 0, some 1, some 2, some 0, some 1, some 2, some 5]
      · try refine sA ?_
        obtain ⟨hp5, h⟩ := guard_some h
        try refine sA ?_
        try refine andA ?_
        have he := Option.some.inj h
        subst he
        exact endsA ⟨[(4, (.pb 6 0)), (5, (.lf false (.sc (.bool true))))], [(0, none), (1, none), (2, none), (3, some (false, .arr false 1 ((a0.Sent ++ ([a1.Text])).map eS))), (4, some (false, .arr false 1 (a0.Got.map eS))), (5, some (false, .arr false 3 (a0.Line.map ePacket))), (6, some (true, .box [(.lf false (.sc (.int .i64 a0.Window))), (.os 3 1 0 ((a0.Sent ++ ([a1.Text])).length) ((a0.Sent ++ ([a1.Text])).length) false), (.lf false (.sc (.int .i64 a0.Base))), (.os 4 1 0 a0.Got.length a0.Got.length false), (.os 5 3 0 a0.Line.length a0.Line.length false)]))], 7, 138⟩ [some 0, some 1, some 2, some 7, some 1, some 2, some 5]
  · try refine sA ?_
    refine Bs_if h (fun h hc6 => ?_) (fun h hc6 => ?_)
    · try refine sA ?_
      obtain ⟨p104, hq7, h⟩ := bind_ok h
      refine Sq_cut (fun s2 => s2 = ⟨[(2, (.pb 3 0)), (3, (.pb 4 0)), (4, (.pb 5 0)), (51, (.lf false (.sc (.bool p104.t51))))], [(0, some (false, .arr true 1 (a0.Sent.map eS))), (1, some (false, .arr true 1 (a0.Got.map eS))), (2, some (false, .arr true 3 (a0.Line.map ePacket))), (3, some (true, .box [(.lf false (.sc (.int .i64 a0.Window))), (.os 0 1 0 a0.Sent.length m0 x0), (.lf false (.sc (.int .i64 a0.Base))), (.os 1 1 0 a0.Got.length m1 x1), (.os 2 3 0 a0.Line.length m2 x2)])), (4, some (true, .box [(.lf false (.sc (.int .i64 a1.Kind))), (.lf false (.sc (.int .i64 a1.K))), (.lf false (.sc (.string a1.Text)))])), (5, some (true, .box [(.lf false (.sc (.int .i64 0))), .nl, (.lf false (.sc (.int .i64 0))), .nl, .nl]))], 6, 138⟩) ?_ ?_
      · try refine sA ?_
        obtain ⟨c103, hr8, hq7⟩ := bind_ok hq7
        refine Cl_sA (w_spec_l1In hr8) ?_
        try refine sA ?_
        refine Sp_if hq7 (fun hq7 hc9 => ?_) (fun hq7 hc9 => ?_)
        · try refine sA ?_
          cases hq7
          exact X_cut rfl (weakA [some 0, some 1, some 2, some 3, some 4, some 5])
        · try refine sA ?_
          cases hq7
          exact X_cut rfl (weakA [some 0, some 1, some 2, some 3, some 4, some 5])
      · intro s2 hJ; subst hJ
        try dsimp only at h
        try refine sA ?_
        refine Bs_if h (fun h hc10 => ?_) (fun h hc10 => ?_)
        · try refine sA ?_
          have he := Option.some.inj h
          subst he
          exact endsA ⟨[(4, (.pb 6 0)), (5, (.lf false (.sc (.bool false))))], [(0, none), (1, none), (2, none), (3, some (false, .arr false 1 (a0.Sent.map eS))), (4, some (false, .arr false 1 (a0.Got.map eS))), (5, some (false, .arr false 3 (a0.Line.map ePacket))), (6, some (true, .box [(.lf false (.sc (.int .i64 a0.Window))), (.os 3 1 0 a0.Sent.length a0.Sent.length false), (.lf false (.sc (.int .i64 a0.Base))), (.os 4 1 0 a0.Got.length a0.Got.length false), (.os 5 3 0 a0.Line.length a0.Line.length false)]))], 7, 138⟩ [some 0, some 1, some 2, some 0, some 1, some 2, some 5]
        · try refine sA ?_
          obtain ⟨hp11, h⟩ := guard_some h
          have hn11 : a1.K.toNat < a0.Sent.length := by first | omega | (simp only [List.length_set, List.length_append, List.length_replicate, List.length_map]; omega)
          try refine sA ?_
          try refine andA ?_
          try refine andB ?_
          try refine sA ?_
          obtain ⟨c105, hr13, h⟩ := bind_ok h
          refine Cl_hA [0, 1, 2] (w_spec_l14Put_www hr13) ?_
          try refine sA ?_
          have he := Option.some.inj h
          subst he
          exact endsA ⟨[(4, (.pb 6 0)), (5, (.lf false (.sc (.bool c105.2))))], [(0, none), (1, none), (2, none), (3, some (false, .arr false 1 (a0.Sent.map eS))), (4, some (false, .arr false 1 (a0.Got.map eS))), (5, some (false, .arr false 3 (c105.1.Line.map ePacket))), (6, some (true, .box [(.lf false (.sc (.int .i64 c105.1.Window))), (.os 3 1 0 a0.Sent.length a0.Sent.length false), (.lf false (.sc (.int .i64 c105.1.Base))), (.os 4 1 0 a0.Got.length a0.Got.length false), (.os 5 3 0 c105.1.Line.length c105.1.Line.length false)]))], 7, 138⟩ [some 0, some 1, some 2, some 0, some 1, some 6, some 5]
    · try refine sA ?_
      obtain ⟨c106, hr14, h⟩ := bind_ok h
      refine Cl_sA (w_spec_l1In hr14) ?_
      try refine sA ?_
      refine Bs_if h (fun h hc15 => ?_) (fun h hc15 => ?_)
      · try refine sA ?_
        have he := Option.some.inj h
        subst he
        exact endsA ⟨[(4, (.pb 6 0)), (5, (.lf false (.sc (.bool false))))], [(0, none), (1, none), (2, none), (3, some (false, .arr false 1 (a0.Sent.map eS))), (4, some (false, .arr false 1 (a0.Got.map eS))), (5, some (false, .arr false 3 (a0.Line.map ePacket))), (6, some (true, .box [(.lf false (.sc (.int .i64 a0.Window))), (.os 3 1 0 a0.Sent.length a0.Sent.length false), (.lf false (.sc (.int .i64 a0.Base))), (.os 4 1 0 a0.Got.length a0.Got.length false), (.os 5 3 0 a0.Line.length a0.Line.length false)]))], 7, 138⟩ [some 0, some 1, some 2, some 0, some 1, some 2, some 5]
      · try refine sA ?_
        obtain ⟨hp16, h⟩ := guard_some h
        have hn16 : a1.K.toNat < a0.Line.length := by first | omega | (simp only [List.length_set, List.length_append, List.length_replicate, List.length_map]; omega)
        try refine sA ?_
        try refine andA ?_
        try refine andB ?_
        try refine sA ?_
        refine Bs_if h (fun h hc18 => ?_) (fun h hc18 => ?_)
        · try refine sA ?_
          obtain ⟨c107, hr19, h⟩ := bind_ok h
          refine Cl_hA [0, 1, 2] (w_spec_l14Put_www hr19) ?_
          try refine sA ?_
          have he := Option.some.inj h
          subst he
          exact endsA ⟨[(4, (.pb 6 0)), (5, (.lf false (.sc (.bool c107.2))))], [(0, none), (1, none), (2, none), (3, some (false, .arr false 1 (a0.Sent.map eS))), (4, some (false, .arr false 1 (a0.Got.map eS))), (5, some (false, .arr false 3 (c107.1.Line.map ePacket))), (6, some (true, .box [(.lf false (.sc (.int .i64 c107.1.Window))), (.os 3 1 0 a0.Sent.length a0.Sent.length false), (.lf false (.sc (.int .i64 c107.1.Base))), (.os 4 1 0 a0.Got.length a0.Got.length false), (.os 5 3 0 c107.1.Line.length c107.1.Line.length false)]))], 7, 138⟩ [some 0, some 1, some 2, some 0, some 1, some 7, some 5]
        · try refine sA ?_
          obtain ⟨p108, hq20, h⟩ := bind_ok h
          refine Sq_cut (fun s2 => s2 = ⟨[(2, (.pb 3 0)), (3, (.pb 4 0)), (4, (.pb 5 0)), (6, (.pb 6 0)), (91, (.lf false (.sc (.bool p108.t91))))], [(0, some (false, .arr true 1 (a0.Sent.map eS))), (1, some (false, .arr true 1 (a0.Got.map eS))), (2, some (false, .arr true 3 (a0.Line.map ePacket))), (3, some (true, .box [(.lf false (.sc (.int .i64 a0.Window))), (.os 0 1 0 a0.Sent.length m0 x0), (.lf false (.sc (.int .i64 a0.Base))), (.os 1 1 0 a0.Got.length m1 x1), (.os 2 3 0 a0.Line.length m2 x2)])), (4, some (true, .box [(.lf false (.sc (.int .i64 a1.Kind))), (.lf false (.sc (.int .i64 a1.K))), (.lf false (.sc (.string a1.Text)))])), (5, some (true, .box [(.lf false (.sc (.int .i64 0))), .nl, (.lf false (.sc (.int .i64 0))), .nl, .nl])), (6, some (true, .box [(.lf false (.sc (.bool ((nth a0.Line a1.K.toNat).Ack)))), (.lf false (.sc (.int .i64 ((nth a0.Line a1.K.toNat).No)))), (.lf false (.sc (.string ((nth a0.Line a1.K.toNat).Text))))]))], 7, 138⟩) ?_ ?_
          · try refine sA ?_
            refine Bs_if hq20 (fun hq20 hc21 => ?_) (fun hq20 hc21 => ?_)
            · try refine sA ?_
              cases hq20
              exact X_cut rfl (weakA [some 0, some 1, some 2, some 3, some 4, some 5, some 6])
            · try refine sA ?_
              cases hq20
              exact X_cut rfl (weakA [some 0, some 1, some 2, some 3, some 4, some 5, some 6])
          · intro s2 hJ; subst hJ
            try dsimp only at h
            try refine sA ?_
            refine Bs_if h (fun h hc22 => ?_) (fun h hc22 => ?_)
            · try refine sA ?_
              obtain ⟨c109, hr23, h⟩ := bind_ok h
              refine Cl_sA (w_spec_l14Without hr23) ?_
              try refine sA ?_
              refine Bs_if h (fun h hc24 => ?_) (fun h hc24 => ?_)
              · try refine sA ?_
                have he := Option.some.inj h
                subst he
                exact endsA ⟨[(4, (.pb 6 0)), (5, (.lf false (.sc (.bool true))))], [(0, none), (1, none), (2, none), (3, some (false, .arr false 1 (a0.Sent.map eS))), (4, some (false, .arr false 1 (a0.Got.map eS))), (5, some (false, .arr false 3 (c109.map ePacket))), (6, some (true, .box [(.lf false (.sc (.int .i64 a0.Window))), (.os 3 1 0 a0.Sent.length a0.Sent.length false), (.lf false (.sc (.int .i64 a0.Base))), (.os 4 1 0 a0.Got.length a0.Got.length false), (.os 5 3 0 c109.length c109.length false)]))], 7, 138⟩ [some 0, some 1, some 2, some 0, some 1, some 7, some 5]
              · try refine sA ?_
                refine Bs_if h (fun h hc25 => ?_) (fun h hc25 => ?_)
                · try refine sA ?_
                  refine Bs_if h (fun h hc26 => ?_) (fun h hc26 => ?_)
                  · try refine sA ?_
                    have he := Option.some.inj h
                    subst he
                    exact endsA ⟨[(4, (.pb 6 0)), (5, (.lf false (.sc (.bool true))))], [(0, none), (1, none), (2, none), (3, some (false, .arr false 1 (a0.Sent.map eS))), (4, some (false, .arr false 1 (a0.Got.map eS))), (5, some (false, .arr false 3 (c109.map ePacket))), (6, some (true, .box [(.lf false (.sc (.int .i64 a0.Window))), (.os 3 1 0 a0.Sent.length a0.Sent.length false), (.lf false (.sc (.int .i64 ((nth a0.Line a1.K.toNat).No)))), (.os 4 1 0 a0.Got.length a0.Got.length false), (.os 5 3 0 c109.length c109.length false)]))], 7, 138⟩ [some 0, some 1, some 2, some 0, some 1, some 7, some 5]
                  · try refine sA ?_
                    have he := Option.some.inj h
                    subst he
                    exact endsA ⟨[(4, (.pb 6 0)), (5, (.lf false (.sc (.bool true))))], [(0, none), (1, none), (2, none), (3, some (false, .arr false 1 (a0.Sent.map eS))), (4, some (false, .arr false 1 (a0.Got.map eS))), (5, some (false, .arr false 3 (c109.map ePacket))), (6, some (true, .box [(.lf false (.sc (.int .i64 a0.Window))), (.os 3 1 0 a0.Sent.length a0.Sent.length false), (.lf false (.sc (.int .i64 a0.Base))), (.os 4 1 0 a0.Got.length a0.Got.length false), (.os 5 3 0 c109.length c109.length false)]))], 7, 138⟩ [some 0, some 1, some 2, some 0, some 1, some 7, some 5]
                · try refine sA ?_
                  refine Bs_if h (fun h hc27 => ?_) (fun h hc27 => ?_)
                  · try refine sA ?_
                    obtain ⟨hp28, h⟩ := guard_some h
                    try refine sA ?_
                    try refine andA ?_
                    obtain ⟨c110, hr29, h⟩ := bind_ok h
                    refine Cl_hA [0, 9, 7] (w_spec_l14Put_www hr29) ?_
                    try refine sA ?_
                    have he := Option.some.inj h
                    subst he
                    exact endsA ⟨[(4, (.pb 6 0)), (5, (.lf false (.sc (.bool true))))], [(0, none), (1, none), (2, none), (3, some (false, .arr false 1 (a0.Sent.map eS))), (4, some (false, .arr false 1 ((a0.Got ++ ([(nth a0.Line a1.K.toNat).Text])).map eS))), (5, some (false, .arr false 3 (c110.1.Line.map ePacket))), (6, some (true, .box [(.lf false (.sc (.int .i64 c110.1.Window))), (.os 3 1 0 a0.Sent.length a0.Sent.length false), (.lf false (.sc (.int .i64 c110.1.Base))), (.os 4 1 0 ((a0.Got ++ ([(nth a0.Line a1.K.toNat).Text])).length) ((a0.Got ++ ([(nth a0.Line a1.K.toNat).Text])).length) false), (.os 5 3 0 c110.1.Line.length c110.1.Line.length false)]))], 7, 138⟩ [some 0, some 1, some 2, some 0, some 9, some 10, some 5]
                  · try refine sA ?_
                    obtain ⟨c111, hr30, h⟩ := bind_ok h
                    refine Cl_hA [0, 1, 7] (w_spec_l14Put_www hr30) ?_
                    try refine sA ?_
                    have he := Option.some.inj h
                    subst he
                    exact endsA ⟨[(4, (.pb 6 0)), (5, (.lf false (.sc (.bool true))))], [(0, none), (1, none), (2, none), (3, some (false, .arr false 1 (a0.Sent.map eS))), (4, some (false, .arr false 1 (a0.Got.map eS))), (5, some (false, .arr false 3 (c111.1.Line.map ePacket))), (6, some (true, .box [(.lf false (.sc (.int .i64 c111.1.Window))), (.os 3 1 0 a0.Sent.length a0.Sent.length false), (.lf false (.sc (.int .i64 c111.1.Base))), (.os 4 1 0 a0.Got.length a0.Got.length false), (.os 5 3 0 c111.1.Line.length c111.1.Line.length false)]))], 7, 138⟩ [some 0, some 1, some 2, some 0, some 1, some 8, some 5]
            · try refine sA ?_
              have he := Option.some.inj h
              subst he
              exact endsA ⟨[(4, (.pb 6 0)), (5, (.lf false (.sc (.bool false))))], [(0, none), (1, none), (2, none), (3, some (false, .arr false 1 (a0.Sent.map eS))), (4, some (false, .arr false 1 (a0.Got.map eS))), (5, some (false, .arr false 3 (a0.Line.map ePacket))), (6, some (true, .box [(.lf false (.sc (.int .i64 a0.Window))), (.os 3 1 0 a0.Sent.length a0.Sent.length false), (.lf false (.sc (.int .i64 a0.Base))), (.os 4 1 0 a0.Got.length a0.Got.length false), (.os 5 3 0 a0.Line.length a0.Line.length false)]))], 7, 138⟩ [some 0, some 1, some 2, some 0, some 1, some 2, some 5]
theorem w_spec_PlayQueue {a0 : Int} {a1 : (List LineStepT)} {r : (QueueT × (List Bool) × Bool)} (h : spec_PlayQueue a0 a1 = some r) : Fn Try.prog 30 [(.lf false (.sc (.int .i64 a0))), (.lf true (.sl (a1.map eLineStep)))] [] 0 (.tu [(.ag [(.lf false (.sc (.int .i64 r.1.Window))), (.os 0 1 0 r.1.Sent.length r.1.Sent.length false), (.lf false (.sc (.int .i64 r.1.Base))), (.os 1 1 0 r.1.Got.length r.1.Got.length false), (.os 2 3 0 r.1.Line.length r.1.Line.length false)]), (.os 3 1 0 r.2.1.length r.2.1.length false), (.lf false (.sc (.bool r.2.2)))]) [(0, some (true, .arr false 1 (r.1.Sent.map eS))), (1, some (true, .arr false 1 (r.1.Got.map eS))), (2, some (true, .arr false 3 (r.1.Line.map ePacket))), (3, some (true, .arr false 1 (r.2.1.map eB)))] 5 := by
  unfold spec_PlayQueue at h
  refine fn_code tab_ok mixed [(8, [(2, 1), (0, 7), (2, 7)]), (1000, [(0, 0), (1, 0), (4, 0)]), (1001, [(1, 0), (4, 0), (7, 0), (8, 0)]), (1002, [(1, 0), (4, 0), (7, 0), (25, 0)]), (1003, [(4, 0), (5, 0), (6, 0)]), (1004, [(1, 0), (4, 0), (7, 0), (9, 0)]), (1005, [(4, 0), (7, 0), (9, 0), (27, 0), (28, 0), (29, 0)]), (1006, [(4, 0), (7, 0), (9, 0), (27, 0), (28, 0), (29, 0), (30, 0)]), (1007, [(4, 0), (7, 0), (9, 0), (11, 0), (27, 0), (28, 0), (29, 0)]), (1008, [(4, 0), (7, 0), (9, 0), (12, 0), (13, 0), (27, 0), (28, 0), (29, 0)]), (1009, [(4, 0), (7, 0), (9, 0), (12, 0), (13, 0), (27, 0), (28, 0), (29, 0), (40, 0)]), (1010, [(4, 0), (7, 0), (9, 0), (13, 0), (27, 0), (28, 0), (29, 0)]), (1011, [(4, 0), (7, 0), (9, 0), (27, 0), (28, 0), (29, 0)]), (1012, [(4, 0), (7, 0), (9, 0), (27, 0), (28, 0), (29, 0)]), (1013, [(4, 0), (5, 0), (6, 0)]), (4002, [])] Try.func30 rfl rfl (by simp [Try.f30]) (by kernel_rfl) ?_
  simp only [Try.f30]
  refine sA ?_
  obtain ⟨c88, hr1, h⟩ := bind_ok h
  refine Cl_sA (w_spec_NewQueue hr1) ?_
  try refine sA ?_
  obtain ⟨p89, hq2, h⟩ := bind_ok h
  refine Sq_cut (fun s2 => s2 = ⟨[(1, (.lf true (.sl (a1.map eLineStep)))), (4, (.pb 0 0)), (7, (.pb 1 0)), (25, (.lf false (.sc (.bool p89.t25))))], [(0, some (true, .box [(.lf false (.sc (.int .i64 0))), .nl, (.lf false (.sc (.int .i64 0))), .nl, .nl])), (1, some (true, .box [(.lf false (.sc (.int .i64 c88.1.Window))), .nl, (.lf false (.sc (.int .i64 c88.1.Base))), .nl, .nl]))], 2, 50⟩) ?_ ?_
  · try refine sA ?_
    refine Sp_if hq2 (fun hq2 hc3 => ?_) (fun hq2 hc3 => ?_)
    · try refine sA ?_
      cases hq2
      exact X_cut rfl (weakA [some 0, some 2])
    · try refine sA ?_
      cases hq2
      exact X_cut rfl (weakA [some 0, some 2])
  · intro s2 hJ; subst hJ
    try dsimp only at h
    try refine sA ?_
    refine Bs_if h (fun h hc4 => ?_) (fun h hc4 => ?_)
    · try refine sA ?_
      have he := Option.some.inj h
      subst he
      exact endsA ⟨[(4, (.pb 4 0)), (5, (.os 3 1 0 (([] : List Bool).length) (([] : List Bool).length) false)), (6, (.lf false (.sc (.bool false))))], [(0, some (true, .arr false 1 (([] : List ByteArray).map eS))), (1, some (true, .arr false 1 (([] : List ByteArray).map eS))), (2, some (true, .arr false 3 (([] : List PacketT).map ePacket))), (3, some (true, .arr false 1 (([] : List Bool).map eB))), (4, some (true, .box [(.lf false (.sc (.int .i64 0))), (.os 0 1 0 (([] : List ByteArray).length) (([] : List ByteArray).length) false), (.lf false (.sc (.int .i64 0))), (.os 1 1 0 (([] : List ByteArray).length) (([] : List ByteArray).length) false), (.os 2 3 0 (([] : List PacketT).length) (([] : List PacketT).length) false)]))], 5, 50⟩ [none, none, none, none, some 0]
    · try refine sA ?_
      obtain ⟨y115, hl5, h⟩ := bind_ok h
      refine W_loopP (fun g90 : spec_PlayQueue_G1 => ⟨[(4, (.pb 0 0)), (7, (.pb 1 0)), (9, (.os 2 1 0 g90.c2.length g90.c2.length false)), (27, (.lf true (.sl (a1.map eLineStep)))), (28, (.lf false (.sc (.int .i64 ((a1.length : Nat) : Int))))), (29, (.lf false (.sc (.int .i64 g90.t29))))], [(0, some (true, .box [(.lf false (.sc (.int .i64 0))), .nl, (.lf false (.sc (.int .i64 0))), .nl, .nl])), (1, some (true, .box [(.lf false (.sc (.int .i64 g90.b1_0))), (.os 3 1 0 g90.c3.length g90.c3.length false), (.lf false (.sc (.int .i64 g90.b1_2))), (.os 4 1 0 g90.c4.length g90.c4.length false), (.os 5 3 0 g90.c5.length g90.c5.length false)])), (2, some (true, .arr false 1 (g90.c2.map eB))), (3, some (false, .arr false 1 (g90.c3.map eS))), (4, some (false, .arr false 1 (g90.c4.map eS))), (5, some (false, .arr false 3 (g90.c5.map ePacket)))], 6, 50⟩) (spec_PlayQueue_L1 a1) _ _ hl5 (weakA [some 0, some 1, none, none, none, none]) ?_
      · intro n1 g90 z1 hs1 hk1
        unfold spec_PlayQueue_L1 at hs1
        try dsimp only at hs1
        refine sA ?_
        refine Bs_if hs1 (fun hs1 hc6 => ?_) (fun hs1 hc6 => ?_)
        · try refine sA ?_
          obtain ⟨hp7, hs1⟩ := guard_some hs1
          have hn7 : g90.t29.toNat < a1.length := by first | omega | (simp only [List.length_set, List.length_append, List.length_replicate, List.length_map]; omega)
          try refine sA ?_
          try refine andA ?_
          obtain ⟨c113, hr8, hs1⟩ := bind_ok hs1
          refine Cl_sA (w_spec_l14Own hr8) ?_
          try refine sA ?_
          obtain ⟨c114, hr9, hs1⟩ := bind_ok hs1
          refine Cl_hA [7, 8, 9] (w_spec_l14Step_www hr9) ?_
          try refine sA ?_
          refine Bs_if hs1 (fun hs1 hc10 => ?_) (fun hs1 hc10 => ?_)
          · try refine sA ?_
            obtain ⟨hp11, hs1⟩ := guard_some hs1
            try refine sA ?_
            try refine andA ?_
            cases hs1
            exact X_backP hk1 (weakA [some 0, some 1, some 17, some 11, some 12, some 13])
          · try refine sA ?_
            obtain ⟨hp12, hs1⟩ := guard_some hs1
            try refine sA ?_
            try refine andA ?_
            cases hs1
            exact X_backP hk1 (weakA [some 0, some 1, some 17, some 3, some 4, some 5])
        · try refine sA ?_
          cases hs1
          cases hk1
          try dsimp only at h
          try refine sA ?_
          obtain ⟨c117, hr13, h⟩ := bind_ok h
          refine Cl_sA (w_spec_l14Own hr13) ?_
          try refine sA ?_
          have he := Option.some.inj h
          subst he
          exact endsA ⟨[(4, (.pb 4 0)), (5, (.os 3 1 0 g90.c2.length g90.c2.length false)), (6, (.lf false (.sc (.bool true))))], [(0, some (true, .arr false 1 (c117.Sent.map eS))), (1, some (true, .arr false 1 (c117.Got.map eS))), (2, some (true, .arr false 3 (c117.Line.map ePacket))), (3, some (true, .arr false 1 (g90.c2.map eB))), (4, some (true, .box [(.lf false (.sc (.int .i64 c117.Window))), (.os 0 1 0 c117.Sent.length c117.Sent.length false), (.lf false (.sc (.int .i64 c117.Base))), (.os 1 1 0 c117.Got.length c117.Got.length false), (.os 2 3 0 c117.Line.length c117.Line.length false)]))], 5, 50⟩ [some 6, some 7, some 8, some 2, some 0]
theorem w_laws_sameBools {a0 : (List Bool)} {a1 : (List Bool)} {r : Bool} (h : laws_sameBools a0 a1 = some r) : Fn Try.prog 31 [(.lf true (.sl (a0.map eB))), (.lf true (.sl (a1.map eB)))] [] 0 (.lf false (.sc (.bool r))) [] 0 := by
  unfold laws_sameBools at h
  refine fn_code tab_ok mixed [(1000, [(0, 0), (1, 0)]), (1001, [(0, 0), (1, 0), (10, 0)]), (1002, [(4, 0)]), (1003, [(0, 0), (1, 0), (12, 0), (13, 0)]), (1004, [(0, 0), (1, 0), (12, 0), (13, 0), (14, 0)]), (1005, [(0, 0), (1, 0), (5, 0), (12, 0), (13, 0)]), (1006, [(0, 0), (1, 0), (12, 0), (13, 0), (24, 0)]), (1007, [(4, 0)]), (1008, [(0, 0), (1, 0), (12, 0), (13, 0)]), (1009, [(4, 0)])] Try.func31 rfl rfl (by simp [Try.f31]) (by kernel_rfl) ?_
  simp only [Try.f31]
  refine sA ?_
  refine Bs_if h (fun h hc1 => ?_) (fun h hc1 => ?_)
  · try refine sA ?_
    have he := Option.some.inj h
    subst he
    exact endsA ⟨[(4, (.lf false (.sc (.bool false))))], [], 0, 26⟩ []
  · try refine sA ?_
    obtain ⟨y120, hl2, h⟩ := bind_ok h
    refine W_loopP (fun g119 : laws_sameBools_G1 => ⟨[(0, (.lf true (.sl (a0.map eB)))), (1, (.lf true (.sl (a1.map eB)))), (12, (.lf false (.sc (.int .i64 ((a0.length : Nat) : Int))))), (13, (.lf false (.sc (.int .i64 g119.t13))))], [], 0, 26⟩) (laws_sameBools_L1 a0 a1) _ _ hl2 (weakA []) ?_
    · intro n1 g119 z1 hs1 hk1
      unfold laws_sameBools_L1 at hs1
      try dsimp only at hs1
      refine sA ?_
      refine Bs_if hs1 (fun hs1 hc3 => ?_) (fun hs1 hc3 => ?_)
      · try refine sA ?_
        obtain ⟨hp4, hs1⟩ := guard_some hs1
        have hn4 : g119.t13.toNat < a0.length := by first | omega | (simp only [List.length_set, List.length_append, List.length_replicate, List.length_map]; omega)
        try refine sA ?_
        try refine andA ?_
        obtain ⟨hp5, hs1⟩ := guard_some hs1
        have hn5 : g119.t13.toNat < a1.length := by first | omega | (simp only [List.length_set, List.length_append, List.length_replicate, List.length_map]; omega)
        try refine sA ?_
        try refine andA ?_
        refine Bs_if hs1 (fun hs1 hc6 => ?_) (fun hs1 hc6 => ?_)
        · try refine sA ?_
          cases hs1
          cases hk1
          try dsimp only at h
          try refine sA ?_
          have he := Option.some.inj h
          subst he
          exact endsA ⟨[(4, (.lf false (.sc (.bool false))))], [], 0, 26⟩ []
        · try refine sA ?_
          cases hs1
          exact X_backP hk1 (weakA [])
      · try refine sA ?_
        cases hs1
        cases hk1
        try dsimp only at h
        try refine sA ?_
        have he := Option.some.inj h
        subst he
        exact endsA ⟨[(4, (.lf false (.sc (.bool true))))], [], 0, 26⟩ []
theorem w_laws_sameTexts {a0 : (List ByteArray)} {a1 : (List ByteArray)} {r : Bool} (h : laws_sameTexts a0 a1 = some r) : Fn Try.prog 32 [(.lf true (.sl (a0.map eS))), (.lf true (.sl (a1.map eS)))] [] 0 (.lf false (.sc (.bool r))) [] 0 := by
  unfold laws_sameTexts at h
  refine fn_code tab_ok mixed [(1000, [(0, 0), (1, 0)]), (1001, [(0, 0), (1, 0), (10, 0)]), (1002, [(4, 0)]), (1003, [(0, 0), (1, 0), (12, 0), (13, 0)]), (1004, [(0, 0), (1, 0), (12, 0), (13, 0), (14, 0)]), (1005, [(0, 0), (1, 0), (5, 0), (12, 0), (13, 0)]), (1006, [(0, 0), (1, 0), (12, 0), (13, 0), (24, 0)]), (1007, [(4, 0)]), (1008, [(0, 0), (1, 0), (12, 0), (13, 0)]), (1009, [(4, 0)])] Try.func32 rfl rfl (by simp [Try.f32]) (by kernel_rfl) ?_
  simp only [Try.f32]
  refine sA ?_
  refine Bs_if h (fun h hc1 => ?_) (fun h hc1 => ?_)
  · try refine sA ?_
    have he := Option.some.inj h
    subst he
    exact endsA ⟨[(4, (.lf false (.sc (.bool false))))], [], 0, 26⟩ []
  · try refine sA ?_
    obtain ⟨y125, hl2, h⟩ := bind_ok h
    refine W_loopP (fun g124 : laws_sameTexts_G1 => ⟨[(0, (.lf true (.sl (a0.map eS)))), (1, (.lf true (.sl (a1.map eS)))), (12, (.lf false (.sc (.int .i64 ((a0.length : Nat) : Int))))), (13, (.lf false (.sc (.int .i64 g124.t13))))], [], 0, 26⟩) (laws_sameTexts_L1 a0 a1) _ _ hl2 (weakA []) ?_
    · intro n1 g124 z1 hs1 hk1
      unfold laws_sameTexts_L1 at hs1
      try dsimp only at hs1
      refine sA ?_
      refine Bs_if hs1 (fun hs1 hc3 => ?_) (fun hs1 hc3 => ?_)
      · try refine sA ?_
        obtain ⟨hp4, hs1⟩ := guard_some hs1
        have hn4 : g124.t13.toNat < a0.length := by first | omega | (simp only [List.length_set, List.length_append, List.length_replicate, List.length_map]; omega)
        try refine sA ?_
        try refine andA ?_
        obtain ⟨hp5, hs1⟩ := guard_some hs1
        have hn5 : g124.t13.toNat < a1.length := by first | omega | (simp only [List.length_set, List.length_append, List.length_replicate, List.length_map]; omega)
        try refine sA ?_
        try refine andA ?_
        refine Bs_if hs1 (fun hs1 hc6 => ?_) (fun hs1 hc6 => ?_)
        · try refine sA ?_
          cases hs1
          cases hk1
          try dsimp only at h
          try refine sA ?_
          have he := Option.some.inj h
          subst he
          exact endsA ⟨[(4, (.lf false (.sc (.bool false))))], [], 0, 26⟩ []
        · try refine sA ?_
          cases hs1
          exact X_backP hk1 (weakA [])
      · try refine sA ?_
        cases hs1
        cases hk1
        try dsimp only at h
        try refine sA ?_
        have he := Option.some.inj h
        subst he
        exact endsA ⟨[(4, (.lf false (.sc (.bool true))))], [], 0, 26⟩ []
theorem w_laws_samePackets {a0 : (List PacketT)} {a1 : (List PacketT)} {r : Bool} (h : laws_samePackets a0 a1 = some r) : Fn Try.prog 33 [(.lf true (.sl (a0.map ePacket))), (.lf true (.sl (a1.map ePacket)))] [] 0 (.lf false (.sc (.bool r))) [] 0 := by
  unfold laws_samePackets at h
  refine fn_code tab_ok mixed [(1000, [(0, 0), (1, 0)]), (1001, [(0, 0), (1, 0), (10, 0)]), (1002, [(4, 0)]), (1003, [(0, 0), (1, 0), (12, 0), (13, 0)]), (1004, [(0, 0), (1, 0), (12, 0), (13, 0), (14, 0)]), (1005, [(0, 0), (1, 0), (5, 0), (12, 0), (13, 0)]), (1006, [(0, 0), (1, 0), (12, 0), (13, 0), (24, 0)]), (1007, [(4, 0)]), (1008, [(0, 0), (1, 0), (12, 0), (13, 0)]), (1009, [(4, 0)])] Try.func33 rfl rfl (by simp [Try.f33]) (by kernel_rfl) ?_
  simp only [Try.f33]
  refine sA ?_
  refine Bs_if h (fun h hc1 => ?_) (fun h hc1 => ?_)
  · try refine sA ?_
    have he := Option.some.inj h
    subst he
    exact endsA ⟨[(4, (.lf false (.sc (.bool false))))], [], 0, 26⟩ []
  · try refine sA ?_
    obtain ⟨y130, hl2, h⟩ := bind_ok h
    refine W_loopP (fun g129 : laws_samePackets_G1 => ⟨[(0, (.lf true (.sl (a0.map ePacket)))), (1, (.lf true (.sl (a1.map ePacket)))), (12, (.lf false (.sc (.int .i64 ((a0.length : Nat) : Int))))), (13, (.lf false (.sc (.int .i64 g129.t13))))], [], 0, 26⟩) (laws_samePackets_L1 a0 a1) _ _ hl2 (weakA []) ?_
    · intro n1 g129 z1 hs1 hk1
      unfold laws_samePackets_L1 at hs1
      try dsimp only at hs1
      refine sA ?_
      refine Bs_if hs1 (fun hs1 hc3 => ?_) (fun hs1 hc3 => ?_)
      · try refine sA ?_
        obtain ⟨hp4, hs1⟩ := guard_some hs1
        have hn4 : g129.t13.toNat < a0.length := by first | omega | (simp only [List.length_set, List.length_append, List.length_replicate, List.length_map]; omega)
        try refine sA ?_
        try refine andA ?_
        obtain ⟨hp5, hs1⟩ := guard_some hs1
        have hn5 : g129.t13.toNat < a1.length := by first | omega | (simp only [List.length_set, List.length_append, List.length_replicate, List.length_map]; omega)
        try refine sA ?_
        try refine andA ?_
        first | refine And.intro ⟨by kernel_rfl, by kernel_rfl, by kernel_rfl⟩ ?_ | skip
        try refine sA ?_
        refine Bs_if hs1 (fun hs1 hc7 => ?_) (fun hs1 hc7 => ?_)
        · try refine sA ?_
          cases hs1
          cases hk1
          try dsimp only at h
          try refine sA ?_
          have he := Option.some.inj h
          subst he
          exact endsA ⟨[(4, (.lf false (.sc (.bool false))))], [], 0, 26⟩ []
        · try refine sA ?_
          cases hs1
          exact X_backP hk1 (weakA [])
      · try refine sA ?_
        cases hs1
        cases hk1
        try dsimp only at h
        try refine sA ?_
        have he := Option.some.inj h
        subst he
        exact endsA ⟨[(4, (.lf false (.sc (.bool true))))], [], 0, 26⟩ []
theorem w_impl_GoodQueue_c1 {a0 : ByteArray} {r : Bool} (h : impl_GoodQueue_c1 a0 = some r) : Fn Try.prog 95 [(.lf false (.sc (.string a0)))] [] 0 (.lf false (.sc (.bool r))) [] 0 := by
  unfold impl_GoodQueue_c1 at h
  refine fn_code tab_ok mixed [] Try.func95 rfl rfl (by simp [Try.f95]) (by kernel_rfl) ?_
  simp only [Try.f95]
  refine sA ?_
  have he := Option.some.inj h
  subst he
  exact endsA ⟨[(2, (.lf false (.sc (.bool (decide ((a0.size : Int) > 12))))))], [], 0, 6⟩ []
theorem w_slices_IndexFunc_string_impl_GoodQueue_c1 {a0 : (List ByteArray)} {r : Int} (h : slices_IndexFunc_string_impl_GoodQueue_c1 a0 = some r) : Fn Try.prog 134 [(.lf true (.sl (a0.map eS))), (.fn 95 [])] [] 0 (.lf false (.sc (.int .i64 r))) [] 0 := by
  unfold slices_IndexFunc_string_impl_GoodQueue_c1 at h
  refine fn_code tab_ok mixed [(1000, [(0, 0), (1, 0)]), (1001, [(0, 0), (1, 0), (7, 0), (8, 0)]), (1002, [(0, 0), (1, 0), (7, 0), (8, 0), (9, 0)]), (1003, [(0, 0), (1, 0), (5, 0), (7, 0), (8, 0)]), (1004, [(0, 0), (1, 0), (5, 0), (7, 0), (8, 0), (16, 0)]), (1005, [(4, 0)]), (1006, [(0, 0), (1, 0), (7, 0), (8, 0)]), (1007, [(4, 0)])] Try.func134 rfl rfl (by simp [Try.f134]) (by kernel_rfl) ?_
  simp only [Try.f134]
  refine sA ?_
  obtain ⟨y143, hl1, h⟩ := bind_ok h
  refine W_loopP (fun g140 : slices_IndexFunc_string_impl_GoodQueue_c1_G1 => ⟨[(0, (.lf true (.sl (a0.map eS)))), (1, (.fn 95 [])), (7, (.lf false (.sc (.int .i64 ((a0.length : Nat) : Int))))), (8, (.lf false (.sc (.int .i64 g140.t8))))], [], 0, 19⟩) (slices_IndexFunc_string_impl_GoodQueue_c1_L1 a0) _ _ hl1 (weakA []) ?_
  · intro n1 g140 z1 hs1 hk1
    unfold slices_IndexFunc_string_impl_GoodQueue_c1_L1 at hs1
    try dsimp only at hs1
    refine sA ?_
    refine Bs_if hs1 (fun hs1 hc2 => ?_) (fun hs1 hc2 => ?_)
    · try refine sA ?_
      obtain ⟨hp3, hs1⟩ := guard_some hs1
      have hn3 : g140.t8.toNat < a0.length := by first | omega | (simp only [List.length_set, List.length_append, List.length_replicate, List.length_map]; omega)
      try refine sA ?_
      try refine andA ?_
      obtain ⟨c142, hr4, hs1⟩ := bind_ok hs1
      refine Cl_sA (w_impl_GoodQueue_c1 hr4) ?_
      try refine sA ?_
      refine Bs_if hs1 (fun hs1 hc5 => ?_) (fun hs1 hc5 => ?_)
      · try refine sA ?_
        cases hs1
        cases hk1
        try dsimp only at h
        try refine sA ?_
        have he := Option.some.inj h
        subst he
        exact endsA ⟨[(4, (.lf false (.sc (.int .i64 g140.t8))))], [], 0, 19⟩ []
      · try refine sA ?_
        cases hs1
        exact X_backP hk1 (weakA [])
    · try refine sA ?_
      cases hs1
      cases hk1
      try dsimp only at h
      try refine sA ?_
      have he := Option.some.inj h
      subst he
      exact endsA ⟨[(4, (.lf false (.sc (.int .i64 (-1)))))], [], 0, 19⟩ []
theorem w_slices_ContainsFunc_string_impl_GoodQueue_c1 {a0 : (List ByteArray)} {r : Bool} (h : slices_ContainsFunc_string_impl_GoodQueue_c1 a0 = some r) : Fn Try.prog 94 [(.lf true (.sl (a0.map eS))), (.fn 95 [])] [] 0 (.lf false (.sc (.bool r))) [] 0 := by
  unfold slices_ContainsFunc_string_impl_GoodQueue_c1 at h
  refine fn_code tab_ok mixed [] Try.func94 rfl rfl (by simp [Try.f94]) (by kernel_rfl) ?_
  simp only [Try.f94]
  refine sA ?_
  obtain ⟨c146, hr1, h⟩ := bind_ok h
  refine Cl_sA (w_slices_IndexFunc_string_impl_GoodQueue_c1 hr1) ?_
  try refine sA ?_
  have he := Option.some.inj h
  subst he
  exact endsA ⟨[(4, (.lf false (.sc (.bool (decide (c146 ≥ 0))))))], [], 0, 9⟩ []
theorem w_slices_Equal_string {a0 : (List ByteArray)} {a1 : (List ByteArray)} {r : Bool} (h : slices_Equal_string a0 a1 = some r) : Fn Try.prog 96 [(.lf true (.sl (a0.map eS))), (.lf true (.sl (a1.map eS)))] [] 0 (.lf false (.sc (.bool r))) [] 0 := by
  unfold slices_Equal_string at h
  refine fn_code tab_ok mixed [(1000, [(0, 0), (1, 0)]), (1001, [(0, 0), (1, 0), (10, 0)]), (1002, [(4, 0)]), (1003, [(0, 0), (1, 0), (12, 0), (13, 0)]), (1004, [(0, 0), (1, 0), (12, 0), (13, 0), (14, 0)]), (1005, [(0, 0), (1, 0), (5, 0), (12, 0), (13, 0)]), (1006, [(0, 0), (1, 0), (12, 0), (13, 0), (24, 0)]), (1007, [(4, 0)]), (1008, [(0, 0), (1, 0), (12, 0), (13, 0)]), (1009, [(4, 0)])] Try.func96 rfl rfl (by simp [Try.f96]) (by kernel_rfl) ?_
  simp only [Try.f96]
  refine sA ?_
  refine Bs_if h (fun h hc1 => ?_) (fun h hc1 => ?_)
  · try refine sA ?_
    have he := Option.some.inj h
    subst he
    exact endsA ⟨[(4, (.lf false (.sc (.bool false))))], [], 0, 26⟩ []
  · try refine sA ?_
    obtain ⟨y150, hl2, h⟩ := bind_ok h
    refine W_loopP (fun g149 : slices_Equal_string_G1 => ⟨[(0, (.lf true (.sl (a0.map eS)))), (1, (.lf true (.sl (a1.map eS)))), (12, (.lf false (.sc (.int .i64 ((a0.length : Nat) : Int))))), (13, (.lf false (.sc (.int .i64 g149.t13))))], [], 0, 26⟩) (slices_Equal_string_L1 a0 a1) _ _ hl2 (weakA []) ?_
    · intro n1 g149 z1 hs1 hk1
      unfold slices_Equal_string_L1 at hs1
      try dsimp only at hs1
      refine sA ?_
      refine Bs_if hs1 (fun hs1 hc3 => ?_) (fun hs1 hc3 => ?_)
      · try refine sA ?_
        obtain ⟨hp4, hs1⟩ := guard_some hs1
        have hn4 : g149.t13.toNat < a0.length := by first | omega | (simp only [List.length_set, List.length_append, List.length_replicate, List.length_map]; omega)
        try refine sA ?_
        try refine andA ?_
        obtain ⟨hp5, hs1⟩ := guard_some hs1
        have hn5 : g149.t13.toNat < a1.length := by first | omega | (simp only [List.length_set, List.length_append, List.length_replicate, List.length_map]; omega)
        try refine sA ?_
        try refine andA ?_
        refine Bs_if hs1 (fun hs1 hc6 => ?_) (fun hs1 hc6 => ?_)
        · try refine sA ?_
          cases hs1
          cases hk1
          try dsimp only at h
          try refine sA ?_
          have he := Option.some.inj h
          subst he
          exact endsA ⟨[(4, (.lf false (.sc (.bool false))))], [], 0, 26⟩ []
        · try refine sA ?_
          cases hs1
          exact X_backP hk1 (weakA [])
      · try refine sA ?_
        cases hs1
        cases hk1
        try dsimp only at h
        try refine sA ?_
        have he := Option.some.inj h
        subst he
        exact endsA ⟨[(4, (.lf false (.sc (.bool true))))], [], 0, 26⟩ []
theorem w_impl_Queue_packetOk_r {a0 : QueueT} {a1 : PacketT} {r : Bool} (h : impl_Queue_packetOk_r a0 a1 = some r) : Fn Try.prog 99 [(.ra true [.sc (.int .i64 a0.Window), .sl (a0.Sent.map eS), .sc (.int .i64 a0.Base), .sl (a0.Got.map eS), .sl (a0.Line.map ePacket)]), (.ag [(.lf false (.sc (.bool a1.Ack))), (.lf false (.sc (.int .i64 a1.No))), (.lf false (.sc (.string a1.Text)))])] [] 0 (.lf false (.sc (.bool r))) [] 0 := by
  unfold impl_Queue_packetOk_r at h
  refine fn_code tab_ok mixed [(1000, [(0, 0), (3, 0)]), (1001, [(0, 0), (3, 0), (6, 0)]), (1002, [(4, 0)]), (1003, [(4, 0)])] Try.func99 rfl rfl (by simp [Try.f99]) (by kernel_rfl) ?_
  simp only [Try.f99]
  refine sA ?_
  refine Bs_if h (fun h hc1 => ?_) (fun h hc1 => ?_)
  · try refine sA ?_
    obtain ⟨c157, hr2, h⟩ := bind_ok h
    refine Cl_sA (w_impl_in hr2) ?_
    try refine sA ?_
    refine Sp_if h (fun h hc3 => ?_) (fun h hc3 => ?_)
    · try refine sA ?_
      have he := Option.some.inj h
      subst he
      exact endsA ⟨[(4, (.lf false (.sc (.bool (a1.Text.toList == ByteArray.empty.toList)))))], [], 0, 52⟩ []
    · try refine sA ?_
      have he := Option.some.inj h
      subst he
      exact endsA ⟨[(4, (.lf false (.sc (.bool false))))], [], 0, 52⟩ []
  · try refine sA ?_
    obtain ⟨c158, hr4, h⟩ := bind_ok h
    refine Cl_sA (w_impl_in hr4) ?_
    try refine sA ?_
    refine Sp_if h (fun h hc5 => ?_) (fun h hc5 => ?_)
    · try refine sA ?_
      obtain ⟨hp6, h⟩ := guard_some h
      have hn6 : a1.No.toNat < a0.Sent.length := by first | omega | (simp only [List.length_set, List.length_append, List.length_replicate, List.length_map]; omega)
      try refine sA ?_
      try refine andA ?_
      have he := Option.some.inj h
      subst he
      exact endsA ⟨[(4, (.lf false (.sc (.bool (a1.Text.toList == (nth a0.Sent a1.No.toNat).toList)))))], [], 0, 52⟩ []
    · try refine sA ?_
      have he := Option.some.inj h
      subst he
      exact endsA ⟨[(4, (.lf false (.sc (.bool false))))], [], 0, 52⟩ []
theorem w_impl_GoodQueue_c2_r {a0 : PacketT} {a1 : QueueT} {r : Bool} (h : impl_GoodQueue_c2_r a0 a1 = some r) : Fn Try.prog 98 [(.ag [(.lf false (.sc (.bool a0.Ack))), (.lf false (.sc (.int .i64 a0.No))), (.lf false (.sc (.string a0.Text)))]), (.ra true [.sc (.int .i64 a1.Window), .sl (a1.Sent.map eS), .sc (.int .i64 a1.Base), .sl (a1.Got.map eS), .sl (a1.Line.map ePacket)])] [] 0 (.lf false (.sc (.bool r))) [] 0 := by
  unfold impl_GoodQueue_c2_r at h
  refine fn_code tab_ok mixed [] Try.func98 rfl rfl (by simp [Try.f98]) (by kernel_rfl) ?_
  simp only [Try.f98]
  refine sA ?_
  obtain ⟨c159, hr1, h⟩ := bind_ok h
  refine Cl_sA (w_impl_Queue_packetOk_r hr1) ?_
  try refine sA ?_
  have he := Option.some.inj h
  subst he
  exact endsA ⟨[(3, (.lf false (.sc (.bool (!c159)))))], [], 0, 7⟩ []
theorem w_slices_IndexFunc_impl_Packet_impl_GoodQueue_c2r {a0 : (List PacketT)} {a1 : QueueT} {r : Int} (h : slices_IndexFunc_impl_Packet_impl_GoodQueue_c2r a0 a1 = some r) : Fn Try.prog 135 [(.lf true (.sl (a0.map ePacket))), (.fn 98 [(.ra true [.sc (.int .i64 a1.Window), .sl (a1.Sent.map eS), .sc (.int .i64 a1.Base), .sl (a1.Got.map eS), .sl (a1.Line.map ePacket)])])] [] 0 (.lf false (.sc (.int .i64 r))) [] 0 := by
  unfold slices_IndexFunc_impl_Packet_impl_GoodQueue_c2r at h
  refine fn_code tab_ok mixed [(1000, [(0, 0), (1, 0)]), (1001, [(0, 0), (1, 0), (7, 0), (8, 0)]), (1002, [(0, 0), (1, 0), (7, 0), (8, 0), (9, 0)]), (1003, [(0, 0), (1, 0), (5, 0), (7, 0), (8, 0)]), (1004, [(0, 0), (1, 0), (5, 0), (7, 0), (8, 0), (16, 0)]), (1005, [(4, 0)]), (1006, [(0, 0), (1, 0), (7, 0), (8, 0)]), (1007, [(4, 0)])] Try.func135 rfl rfl (by simp [Try.f135]) (by kernel_rfl) ?_
  simp only [Try.f135]
  refine sA ?_
  obtain ⟨y162, hl1, h⟩ := bind_ok h
  refine W_loopP (fun g156 : slices_IndexFunc_impl_Packet_impl_GoodQueue_c2r_G1 => ⟨[(0, (.lf true (.sl (a0.map ePacket)))), (1, (.fn 98 [(.ra true [.sc (.int .i64 a1.Window), .sl (a1.Sent.map eS), .sc (.int .i64 a1.Base), .sl (a1.Got.map eS), .sl (a1.Line.map ePacket)])])), (7, (.lf false (.sc (.int .i64 ((a0.length : Nat) : Int))))), (8, (.lf false (.sc (.int .i64 g156.t8))))], [], 0, 19⟩) (slices_IndexFunc_impl_Packet_impl_GoodQueue_c2r_L1 a0 a1) _ _ hl1 (weakA []) ?_
  · intro n1 g156 z1 hs1 hk1
    unfold slices_IndexFunc_impl_Packet_impl_GoodQueue_c2r_L1 at hs1
    try dsimp only at hs1
    refine sA ?_
    refine Bs_if hs1 (fun hs1 hc2 => ?_) (fun hs1 hc2 => ?_)
    · try refine sA ?_
      obtain ⟨hp3, hs1⟩ := guard_some hs1
      have hn3 : g156.t8.toNat < a0.length := by first | omega | (simp only [List.length_set, List.length_append, List.length_replicate, List.length_map]; omega)
      try refine sA ?_
      try refine andA ?_
      obtain ⟨c161, hr4, hs1⟩ := bind_ok hs1
      refine Cl_sA (w_impl_GoodQueue_c2_r hr4) ?_
      try refine sA ?_
      refine Bs_if hs1 (fun hs1 hc5 => ?_) (fun hs1 hc5 => ?_)
      · try refine sA ?_
        cases hs1
        cases hk1
        try dsimp only at h
        try refine sA ?_
        have he := Option.some.inj h
        subst he
        exact endsA ⟨[(4, (.lf false (.sc (.int .i64 g156.t8))))], [], 0, 19⟩ []
      · try refine sA ?_
        cases hs1
        exact X_backP hk1 (weakA [])
    · try refine sA ?_
      cases hs1
      cases hk1
      try dsimp only at h
      try refine sA ?_
      have he := Option.some.inj h
      subst he
      exact endsA ⟨[(4, (.lf false (.sc (.int .i64 (-1)))))], [], 0, 19⟩ []
theorem w_slices_ContainsFunc_impl_Packet_impl_GoodQueue_c2r {a0 : (List PacketT)} {a1 : QueueT} {r : Bool} (h : slices_ContainsFunc_impl_Packet_impl_GoodQueue_c2r a0 a1 = some r) : Fn Try.prog 97 [(.lf true (.sl (a0.map ePacket))), (.fn 98 [(.ra true [.sc (.int .i64 a1.Window), .sl (a1.Sent.map eS), .sc (.int .i64 a1.Base), .sl (a1.Got.map eS), .sl (a1.Line.map ePacket)])])] [] 0 (.lf false (.sc (.bool r))) [] 0 := by
  unfold slices_ContainsFunc_impl_Packet_impl_GoodQueue_c2r at h
  refine fn_code tab_ok mixed [] Try.func97 rfl rfl (by simp [Try.f97]) (by kernel_rfl) ?_
  simp only [Try.f97]
  refine sA ?_
  obtain ⟨c165, hr1, h⟩ := bind_ok h
  refine Cl_sA (w_slices_IndexFunc_impl_Packet_impl_GoodQueue_c2r hr1) ?_
  try refine sA ?_
  have he := Option.some.inj h
  subst he
  exact endsA ⟨[(4, (.lf false (.sc (.bool (decide (c165 ≥ 0))))))], [], 0, 9⟩ []
theorem w_impl_GoodQueue {a0 : QueueT} {r : Bool} (h : impl_GoodQueue a0 = some r) : Fn Try.prog 35 [(.ag [(.lf false (.sc (.int .i64 a0.Window))), (.lf true (.sl (a0.Sent.map eS))), (.lf false (.sc (.int .i64 a0.Base))), (.lf true (.sl (a0.Got.map eS))), (.lf true (.sl (a0.Line.map ePacket)))])] [] 0 (.lf false (.sc (.bool r))) [] 0 := by
  unfold impl_GoodQueue at h
  refine fn_code tab_ok mixed [(1000, [(1, 0)]), (1001, [(1, 0), (17, 0)]), (1002, [(2, 0)]), (1003, [(1, 0), (51, 0)]), (1004, [(2, 0)]), (1005, [(2, 0)]), (4001, []), (4003, [])] Try.func35 rfl rfl (by simp [Try.f35]) (by kernel_rfl) ?_
  simp only [Try.f35]
  refine sA ?_
  obtain ⟨p148, hq1, h⟩ := bind_ok h
  refine Sq_cut (fun s2 => s2 = ⟨[(1, (.pb 0 0)), (17, (.lf false (.sc (.bool p148.t17))))], [(0, some (true, .box [(.lf false (.sc (.int .i64 a0.Window))), (.lf true (.sl (a0.Sent.map eS))), (.lf false (.sc (.int .i64 a0.Base))), (.lf true (.sl (a0.Got.map eS))), (.lf true (.sl (a0.Line.map ePacket)))]))], 1, 57⟩) ?_ ?_
  · try refine sA ?_
    obtain ⟨c139, hr2, hq1⟩ := bind_ok hq1
    refine Cl_sA (w_impl_in hr2) ?_
    try refine sA ?_
    refine Sp_if hq1 (fun hq1 hc3 => ?_) (fun hq1 hc3 => ?_)
    · try refine sA ?_
      cases hq1
      exact X_cut rfl (weakA [some 0])
    · try refine sA ?_
      refine Sp_if hq1 (fun hq1 hc4 => ?_) (fun hq1 hc4 => ?_)
      · try refine sA ?_
        cases hq1
        exact X_cut rfl (weakA [some 0])
      · try refine sA ?_
        obtain ⟨c147, hr5, hq1⟩ := bind_ok hq1
        refine Cl_sA (w_slices_ContainsFunc_string_impl_GoodQueue_c1 hr5) ?_
        try refine sA ?_
        cases hq1
        exact X_cut rfl (weakA [some 0])
  · intro s2 hJ; subst hJ
    try dsimp only at h
    try refine sA ?_
    refine Bs_if h (fun h hc6 => ?_) (fun h hc6 => ?_)
    · try refine sA ?_
      have he := Option.some.inj h
      subst he
      exact endsA ⟨[(2, (.lf false (.sc (.bool false))))], [], 0, 57⟩ []
    · try refine sA ?_
      obtain ⟨p155, hq7, h⟩ := bind_ok h
      refine Sq_cut (fun s2 => s2 = ⟨[(1, (.pb 0 0)), (51, (.lf false (.sc (.bool p155.t51))))], [(0, some (true, .box [(.lf false (.sc (.int .i64 a0.Window))), (.lf true (.sl (a0.Sent.map eS))), (.lf false (.sc (.int .i64 a0.Base))), (.lf true (.sl (a0.Got.map eS))), (.lf true (.sl (a0.Line.map ePacket)))]))], 1, 57⟩) ?_ ?_
      · try refine sA ?_
        refine Sp_if hq7 (fun hq7 hc8 => ?_) (fun hq7 hc8 => ?_)
        · try refine sA ?_
          cases hq7
          exact X_cut rfl (weakA [some 0])
        · try refine sA ?_
          obtain ⟨hp9, hq7⟩ := guard_some hq7
          try refine sA ?_
          try refine andA ?_
          obtain ⟨c153, hr10, hq7⟩ := bind_ok hq7
          refine Cl_sA (w_slices_Equal_string hr10) ?_
          try refine sA ?_
          refine Sp_if hq7 (fun hq7 hc11 => ?_) (fun hq7 hc11 => ?_)
          · try refine sA ?_
            cases hq7
            exact X_cut rfl (weakA [some 0])
          · try refine sA ?_
            obtain ⟨c154, hr12, hq7⟩ := bind_ok hq7
            refine Cl_sA (w_impl_in hr12) ?_
            try refine sA ?_
            refine Sp_if hq7 (fun hq7 hc13 => ?_) (fun hq7 hc13 => ?_)
            · try refine sA ?_
              cases hq7
              exact X_cut rfl (weakA [some 0])
            · try refine sA ?_
              cases hq7
              exact X_cut rfl (weakA [some 0])
      · intro s2 hJ; subst hJ
        try dsimp only at h
        try refine sA ?_
        refine Bs_if h (fun h hc14 => ?_) (fun h hc14 => ?_)
        · try refine sA ?_
          have he := Option.some.inj h
          subst he
          exact endsA ⟨[(2, (.lf false (.sc (.bool false))))], [], 0, 57⟩ []
        · try refine sA ?_
          obtain ⟨c166, hr15, h⟩ := bind_ok h
          refine Cl_sA (w_slices_ContainsFunc_impl_Packet_impl_GoodQueue_c2r hr15) ?_
          try refine sA ?_
          have he := Option.some.inj h
          subst he
          exact endsA ⟨[(2, (.lf false (.sc (.bool (!c166)))))], [], 0, 57⟩ []
theorem w_impl_WaitingIn {a0 : QueueT} {r : (Int × Bool)} (h : impl_WaitingIn a0 = some r) : Fn Try.prog 34 [(.ag [(.lf false (.sc (.int .i64 a0.Window))), (.lf true (.sl (a0.Sent.map eS))), (.lf false (.sc (.int .i64 a0.Base))), (.lf true (.sl (a0.Got.map eS))), (.lf true (.sl (a0.Line.map ePacket)))])] [] 0 (.tu [(.lf false (.sc (.int .i64 r.1))), (.lf false (.sc (.bool r.2)))]) [] 0 := by
  unfold impl_WaitingIn at h
  refine fn_code tab_ok mixed [(1000, [(1, 0)]), (1001, [(1, 0), (6, 0)]), (1002, [(2, 0), (3, 0)]), (1003, [(2, 0), (3, 0)])] Try.func34 rfl rfl (by simp [Try.f34]) (by kernel_rfl) ?_
  simp only [Try.f34]
  refine sA ?_
  obtain ⟨c167, hr1, h⟩ := bind_ok h
  refine Cl_sA (w_impl_GoodQueue hr1) ?_
  try refine sA ?_
  refine Bs_if h (fun h hc2 => ?_) (fun h hc2 => ?_)
  · try refine sA ?_
    have he := Option.some.inj h
    subst he
    exact endsA ⟨[(2, (.lf false (.sc (.int .i64 0)))), (3, (.lf false (.sc (.bool false))))], [], 0, 14⟩ []
  · try refine sA ?_
    have he := Option.some.inj h
    subst he
    exact endsA ⟨[(2, (.lf false (.sc (.int .i64 (wI (((a0.Sent.length : Nat) : Int) - ((a0.Got.length : Nat) : Int))))))), (3, (.lf false (.sc (.bool true))))], [], 0, 14⟩ []
theorem w_spec_l1Cur_queue_o {a0 : l1CurT} {r : (QueueT × l1CurT)} (h : spec_l1Cur_queue_o a0 = some r) : Fn Try.prog 100 [(.pb 0 0)] [(0, some (false, .box [(.lf true (.sl (a0.code.map eU8))), (.lf false (.sc (.int .i64 a0.at_))), (.lf false (.sc (.int .u64 a0.seed)))]))] 1 (.ag [(.lf false (.sc (.int .i64 r.1.Window))), (.os 1 1 0 r.1.Sent.length r.1.Sent.length false), (.lf false (.sc (.int .i64 r.1.Base))), (.os 2 1 0 r.1.Got.length r.1.Got.length false), (.os 3 3 0 r.1.Line.length r.1.Line.length false)]) [(0, some (false, .box [(.lf true (.sl (r.2.code.map eU8))), (.lf false (.sc (.int .i64 r.2.at_))), (.lf false (.sc (.int .u64 r.2.seed)))])), (1, some (true, .arr false 1 (r.1.Sent.map eS))), (2, some (true, .arr false 1 (r.1.Got.map eS))), (3, some (true, .arr false 3 (r.1.Line.map ePacket)))] 5 := by
  unfold spec_l1Cur_queue_o at h
  refine fn_code tab_ok mixed [(7, [(1, 3)]), (11, [(1, 3), (1, 5), (1, 7)]), (1000, [(0, 0), (2, 0)]), (1001, [(0, 0), (2, 0), (3, 0)]), (1002, [(0, 0), (2, 0), (3, 0), (11, 0)]), (1003, [(0, 0), (2, 0), (3, 0)]), (1004, [(0, 0), (2, 0), (4, 0)]), (1005, [(0, 0), (2, 0), (4, 0), (24, 0)]), (1006, [(0, 0), (2, 0), (4, 0), (24, 0), (25, 0)]), (1007, [(2, 0), (4, 0)]), (1008, [(0, 0), (2, 0), (4, 0), (24, 0), (34, 0)]), (1009, [(2, 0), (4, 0)]), (1010, [(0, 0), (2, 0), (4, 0), (41, 0)]), (1011, [(2, 0), (4, 0)]), (1012, [(2, 0)])] Try.func100 rfl rfl (by simp [Try.f100]) (by kernel_rfl) ?_
  simp only [Try.f100]
  refine sA ?_
  obtain ⟨c181, hr1, h⟩ := bind_ok h
  refine Cl_hA [0] (w_spec_l1Cur_lineSteps_o hr1) ?_
  try refine sA ?_
  refine Bs_if h (fun h hc2 => ?_) (fun h hc2 => ?_)
  · try refine sA ?_
    obtain ⟨hp3, h⟩ := guard_some h
    have hn3 : 60 ≤ c181.1.length := by first | omega | (simp only [List.length_set, List.length_append, List.length_replicate, List.length_map]; omega)
    try refine sA ?_
    try refine andA ?_
    obtain ⟨c182, hr4, h⟩ := bind_ok h
    refine Cl_hand (ids := [0]) (w_spec_l1Cur_pick_o hr4) (by first | rfl | (simp (disch := first | assumption | (simp only [List.length_set]; assumption)) only [go_sem, Nat.reduceAdd, Nat.reduceMul, Nat.reduceSub, Nat.reduceEqDiff, ↓reduceIte, Nat.reduceLT, reduceCtorEq, Nat.reduceLeDiff, Int.reduceToNat, Int.reduceEq, Int.reduceLE, Int.reduceLT, Nat.reduceBEq, hn3]; first | done | rfl) | (simp only [List.length_append, List.length_cons, List.length_nil, List.length_map, List.length_set, List.length_replicate, Nat.zero_add, Nat.reduceAdd]; rfl) | (simp (disch := first | assumption | (simp only [List.length_set]; assumption)) only [go_sem, Nat.reduceAdd, Nat.reduceMul, Nat.reduceSub, Nat.reduceEqDiff, ↓reduceIte, Nat.reduceLT, reduceCtorEq, Nat.reduceLeDiff, Int.reduceToNat, Int.reduceEq, Int.reduceLE, Int.reduceLT, Nat.reduceBEq, hn3]; simp only [List.length_append, List.length_cons, List.length_nil, List.length_map, List.length_set, List.length_replicate, Nat.zero_add, Nat.reduceAdd]; rfl)) (FitAll.refl _) (by first | rfl | (simp (disch := first | assumption | (simp only [List.length_set]; assumption)) only [go_sem, Nat.reduceAdd, Nat.reduceMul, Nat.reduceSub, Nat.reduceEqDiff, ↓reduceIte, Nat.reduceLT, reduceCtorEq, Nat.reduceLeDiff, Int.reduceToNat, Int.reduceEq, Int.reduceLE, Int.reduceLT, Nat.reduceBEq, hn3]; first | done | rfl) | (simp only [List.length_append, List.length_cons, List.length_nil, List.length_map, List.length_set, List.length_replicate, Nat.zero_add, Nat.reduceAdd]; rfl) | (simp (disch := first | assumption | (simp only [List.length_set]; assumption)) only [go_sem, Nat.reduceAdd, Nat.reduceMul, Nat.reduceSub, Nat.reduceEqDiff, ↓reduceIte, Nat.reduceLT, reduceCtorEq, Nat.reduceLeDiff, Int.reduceToNat, Int.reduceEq, Int.reduceLE, Int.reduceLT, Nat.reduceBEq, hn3]; simp only [List.length_append, List.length_cons, List.length_nil, List.length_map, List.length_set, List.length_replicate, Nat.zero_add, Nat.reduceAdd]; rfl)) (by decide) (by first | rfl | (simp (disch := first | assumption | (simp only [List.length_set]; assumption)) only [go_sem, Nat.reduceAdd, Nat.reduceMul, Nat.reduceSub, Nat.reduceEqDiff, ↓reduceIte, Nat.reduceLT, reduceCtorEq, Nat.reduceLeDiff, Int.reduceToNat, Int.reduceEq, Int.reduceLE, Int.reduceLT, Nat.reduceBEq]; done)) (by rfl) ?_
    try refine sA ?_
    obtain ⟨c183, hr5, h⟩ := bind_ok h
    refine Cl_shown (w_spec_PlayQueue hr5) (by first | rfl | (simp (disch := first | assumption | (simp only [List.length_set]; assumption)) only [go_sem, Nat.reduceAdd, Nat.reduceMul, Nat.reduceSub, Nat.reduceEqDiff, ↓reduceIte, Nat.reduceLT, reduceCtorEq, Nat.reduceLeDiff, Int.reduceToNat, Int.reduceEq, Int.reduceLE, Int.reduceLT, Nat.reduceBEq, hn3]; first | done | rfl) | (simp only [List.length_append, List.length_cons, List.length_nil, List.length_map, List.length_set, List.length_replicate, Nat.zero_add, Nat.reduceAdd]; rfl) | (simp (disch := first | assumption | (simp only [List.length_set]; assumption)) only [go_sem, Nat.reduceAdd, Nat.reduceMul, Nat.reduceSub, Nat.reduceEqDiff, ↓reduceIte, Nat.reduceLT, reduceCtorEq, Nat.reduceLeDiff, Int.reduceToNat, Int.reduceEq, Int.reduceLE, Int.reduceLT, Nat.reduceBEq, hn3]; simp only [List.length_append, List.length_cons, List.length_nil, List.length_map, List.length_set, List.length_replicate, Nat.zero_add, Nat.reduceAdd]; rfl)) (FitAll.refl _) (.inr ⟨rfl, by simp [freeOb, free1]⟩) ?_
    try refine sA ?_
    obtain ⟨c184, hr6, h⟩ := bind_ok h
    refine Cl_hand (ids := [0]) (w_spec_l1Cur_pick_o hr6) (by first | rfl | (simp (disch := first | assumption | (simp only [List.length_set]; assumption)) only [go_sem, Nat.reduceAdd, Nat.reduceMul, Nat.reduceSub, Nat.reduceEqDiff, ↓reduceIte, Nat.reduceLT, reduceCtorEq, Nat.reduceLeDiff, Int.reduceToNat, Int.reduceEq, Int.reduceLE, Int.reduceLT, Nat.reduceBEq, hn3]; first | done | rfl) | (simp only [List.length_append, List.length_cons, List.length_nil, List.length_map, List.length_set, List.length_replicate, Nat.zero_add, Nat.reduceAdd]; rfl) | (simp (disch := first | assumption | (simp only [List.length_set]; assumption)) only [go_sem, Nat.reduceAdd, Nat.reduceMul, Nat.reduceSub, Nat.reduceEqDiff, ↓reduceIte, Nat.reduceLT, reduceCtorEq, Nat.reduceLeDiff, Int.reduceToNat, Int.reduceEq, Int.reduceLE, Int.reduceLT, Nat.reduceBEq, hn3]; simp only [List.length_append, List.length_cons, List.length_nil, List.length_map, List.length_set, List.length_replicate, Nat.zero_add, Nat.reduceAdd]; rfl)) (FitAll.refl _) (by first | rfl | (simp (disch := first | assumption | (simp only [List.length_set]; assumption)) only [go_sem, Nat.reduceAdd, Nat.reduceMul, Nat.reduceSub, Nat.reduceEqDiff, ↓reduceIte, Nat.reduceLT, reduceCtorEq, Nat.reduceLeDiff, Int.reduceToNat, Int.reduceEq, Int.reduceLE, Int.reduceLT, Nat.reduceBEq, hn3]; first | done | rfl) | (simp only [List.length_append, List.length_cons, List.length_nil, List.length_map, List.length_set, List.length_replicate, Nat.zero_add, Nat.reduceAdd]; rfl) | (simp (disch := first | assumption | (simp only [List.length_set]; assumption)) only [go_sem, Nat.reduceAdd, Nat.reduceMul, Nat.reduceSub, Nat.reduceEqDiff, ↓reduceIte, Nat.reduceLT, reduceCtorEq, Nat.reduceLeDiff, Int.reduceToNat, Int.reduceEq, Int.reduceLE, Int.reduceLT, Nat.reduceBEq, hn3]; simp only [List.length_append, List.length_cons, List.length_nil, List.length_map, List.length_set, List.length_replicate, Nat.zero_add, Nat.reduceAdd]; rfl)) (by decide) (by first | rfl | (simp (disch := first | assumption | (simp only [List.length_set]; assumption)) only [go_sem, Nat.reduceAdd, Nat.reduceMul, Nat.reduceSub, Nat.reduceEqDiff, ↓reduceIte, Nat.reduceLT, reduceCtorEq, Nat.reduceLeDiff, Int.reduceToNat, Int.reduceEq, Int.reduceLE, Int.reduceLT, Nat.reduceBEq]; done)) (by rfl) ?_
    try refine sA ?_
    refine Bs_if h (fun h hc7 => ?_) (fun h hc7 => ?_)
    · try refine sA ?_
      obtain ⟨c185, hr8, h⟩ := bind_ok h
      refine Cl_hand (ids := [0]) (w_spec_l1Cur_pick_o hr8) (by first | rfl | (simp (disch := first | assumption | (simp only [List.length_set]; assumption)) only [go_sem, Nat.reduceAdd, Nat.reduceMul, Nat.reduceSub, Nat.reduceEqDiff, ↓reduceIte, Nat.reduceLT, reduceCtorEq, Nat.reduceLeDiff, Int.reduceToNat, Int.reduceEq, Int.reduceLE, Int.reduceLT, Nat.reduceBEq, hn3]; first | done | rfl) | (simp only [List.length_append, List.length_cons, List.length_nil, List.length_map, List.length_set, List.length_replicate, Nat.zero_add, Nat.reduceAdd]; rfl) | (simp (disch := first | assumption | (simp only [List.length_set]; assumption)) only [go_sem, Nat.reduceAdd, Nat.reduceMul, Nat.reduceSub, Nat.reduceEqDiff, ↓reduceIte, Nat.reduceLT, reduceCtorEq, Nat.reduceLeDiff, Int.reduceToNat, Int.reduceEq, Int.reduceLE, Int.reduceLT, Nat.reduceBEq, hn3]; simp only [List.length_append, List.length_cons, List.length_nil, List.length_map, List.length_set, List.length_replicate, Nat.zero_add, Nat.reduceAdd]; rfl)) (FitAll.refl _) (by first | rfl | (simp (disch := first | assumption | (simp only [List.length_set]; assumption)) only [go_sem, Nat.reduceAdd, Nat.reduceMul, Nat.reduceSub, Nat.reduceEqDiff, ↓reduceIte, Nat.reduceLT, reduceCtorEq, Nat.reduceLeDiff, Int.reduceToNat, Int.reduceEq, Int.reduceLE, Int.reduceLT, Nat.reduceBEq, hn3]; first | done | rfl) | (simp only [List.length_append, List.length_cons, List.length_nil, List.length_map, List.length_set, List.length_replicate, Nat.zero_add, Nat.reduceAdd]; rfl) | (simp (disch := first | assumption | (simp only [List.length_set]; assumption)) only [go_sem, Nat.reduceAdd, Nat.reduceMul, Nat.reduceSub, Nat.reduceEqDiff, ↓reduceIte, Nat.reduceLT, reduceCtorEq, Nat.reduceLeDiff, Int.reduceToNat, Int.reduceEq, Int.reduceLE, Int.reduceLT, Nat.reduceBEq, hn3]; simp only [List.length_append, List.length_cons, List.length_nil, List.length_map, List.length_set, List.length_replicate, Nat.zero_add, Nat.reduceAdd]; rfl)) (by decide) (by first | rfl | (simp (disch := first | assumption | (simp only [List.length_set]; assumption)) only [go_sem, Nat.reduceAdd, Nat.reduceMul, Nat.reduceSub, Nat.reduceEqDiff, ↓reduceIte, Nat.reduceLT, reduceCtorEq, Nat.reduceLeDiff, Int.reduceToNat, Int.reduceEq, Int.reduceLE, Int.reduceLT, Nat.reduceBEq]; done)) (by rfl) ?_
      try refine sA ?_
      have he := Option.some.inj h
      subst he
      exact endsA ⟨[(2, (.pb 4 0))], [(0, some (false, .box [(.lf true (.sl (c185.2.code.map eU8))), (.lf false (.sc (.int .i64 c185.2.at_))), (.lf false (.sc (.int .u64 c185.2.seed)))])), (1, some (true, .arr false 1 (c183.1.Sent.map eS))), (2, some (true, .arr false 1 (c183.1.Got.map eS))), (3, some (true, .arr false 3 (c183.1.Line.map ePacket))), (4, some (true, .box [(.lf false (.sc (.int .i64 c183.1.Window))), (.os 1 1 0 c183.1.Sent.length c183.1.Sent.length false), (.lf false (.sc (.int .i64 (wI (c183.1.Base + (wI (c185.1 - 1))))))), (.os 2 1 0 c183.1.Got.length c183.1.Got.length false), (.os 3 3 0 c183.1.Line.length c183.1.Line.length false)]))], 5, 54⟩ [some 0, some 3, some 4, some 5, some 1]
    · try refine sA ?_
      refine Bs_if h (fun h hc9 => ?_) (fun h hc9 => ?_)
      · try refine sA ?_
        obtain ⟨hp10, h⟩ := guard_some h
        try refine sA ?_
        try refine andA ?_
        have he := Option.some.inj h
        subst he
        exact endsA ⟨[(2, (.pb 4 0))], [(0, some (false, .box [(.lf true (.sl (c184.2.code.map eU8))), (.lf false (.sc (.int .i64 c184.2.at_))), (.lf false (.sc (.int .u64 c184.2.seed)))])), (1, some (true, .arr false 1 (c183.1.Sent.map eS))), (2, some (true, .arr false 1 ((c183.1.Got ++ ([(⟨#[122]⟩ : ByteArray)])).map eS))), (3, some (true, .arr false 3 (c183.1.Line.map ePacket))), (4, some (true, .box [(.lf false (.sc (.int .i64 c183.1.Window))), (.os 1 1 0 c183.1.Sent.length c183.1.Sent.length false), (.lf false (.sc (.int .i64 c183.1.Base))), (.os 2 1 0 ((c183.1.Got ++ ([(⟨#[122]⟩ : ByteArray)])).length) ((c183.1.Got ++ ([(⟨#[122]⟩ : ByteArray)])).length) false), (.os 3 3 0 c183.1.Line.length c183.1.Line.length false)]))], 5, 54⟩ [some 0, some 3, some 10, some 5, some 1]
      · try refine sA ?_
        refine Bs_if h (fun h hc11 => ?_) (fun h hc11 => ?_)
        · try refine sA ?_
          obtain ⟨c186, hr12, h⟩ := bind_ok h
          refine Cl_hand (ids := [0]) (w_spec_l1Cur_pick_o hr12) (by first | rfl | (simp (disch := first | assumption | (simp only [List.length_set]; assumption)) only [go_sem, Nat.reduceAdd, Nat.reduceMul, Nat.reduceSub, Nat.reduceEqDiff, ↓reduceIte, Nat.reduceLT, reduceCtorEq, Nat.reduceLeDiff, Int.reduceToNat, Int.reduceEq, Int.reduceLE, Int.reduceLT, Nat.reduceBEq, hn3]; first | done | rfl) | (simp only [List.length_append, List.length_cons, List.length_nil, List.length_map, List.length_set, List.length_replicate, Nat.zero_add, Nat.reduceAdd]; rfl) | (simp (disch := first | assumption | (simp only [List.length_set]; assumption)) only [go_sem, Nat.reduceAdd, Nat.reduceMul, Nat.reduceSub, Nat.reduceEqDiff, ↓reduceIte, Nat.reduceLT, reduceCtorEq, Nat.reduceLeDiff, Int.reduceToNat, Int.reduceEq, Int.reduceLE, Int.reduceLT, Nat.reduceBEq, hn3]; simp only [List.length_append, List.length_cons, List.length_nil, List.length_map, List.length_set, List.length_replicate, Nat.zero_add, Nat.reduceAdd]; rfl)) (FitAll.refl _) (by first | rfl | (simp (disch := first | assumption | (simp only [List.length_set]; assumption)) only [go_sem, Nat.reduceAdd, Nat.reduceMul, Nat.reduceSub, Nat.reduceEqDiff, ↓reduceIte, Nat.reduceLT, reduceCtorEq, Nat.reduceLeDiff, Int.reduceToNat, Int.reduceEq, Int.reduceLE, Int.reduceLT, Nat.reduceBEq, hn3]; first | done | rfl) | (simp only [List.length_append, List.length_cons, List.length_nil, List.length_map, List.length_set, List.length_replicate, Nat.zero_add, Nat.reduceAdd]; rfl) | (simp (disch := first | assumption | (simp only [List.length_set]; assumption)) only [go_sem, Nat.reduceAdd, Nat.reduceMul, Nat.reduceSub, Nat.reduceEqDiff, ↓reduceIte, Nat.reduceLT, reduceCtorEq, Nat.reduceLeDiff, Int.reduceToNat, Int.reduceEq, Int.reduceLE, Int.reduceLT, Nat.reduceBEq, hn3]; simp only [List.length_append, List.length_cons, List.length_nil, List.length_map, List.length_set, List.length_replicate, Nat.zero_add, Nat.reduceAdd]; rfl)) (by decide) (by first | rfl | (simp (disch := first | assumption | (simp only [List.length_set]; assumption)) only [go_sem, Nat.reduceAdd, Nat.reduceMul, Nat.reduceSub, Nat.reduceEqDiff, ↓reduceIte, Nat.reduceLT, reduceCtorEq, Nat.reduceLeDiff, Int.reduceToNat, Int.reduceEq, Int.reduceLE, Int.reduceLT, Nat.reduceBEq]; done)) (by rfl) ?_
          try refine sA ?_
          obtain ⟨c187, hr13, h⟩ := bind_ok h
          refine Cl_hand (ids := [0]) (w_spec_l1Cur_one_o hr13) (by first | rfl | (simp (disch := first | assumption | (simp only [List.length_set]; assumption)) only [go_sem, Nat.reduceAdd, Nat.reduceMul, Nat.reduceSub, Nat.reduceEqDiff, ↓reduceIte, Nat.reduceLT, reduceCtorEq, Nat.reduceLeDiff, Int.reduceToNat, Int.reduceEq, Int.reduceLE, Int.reduceLT, Nat.reduceBEq, hn3]; first | done | rfl) | (simp only [List.length_append, List.length_cons, List.length_nil, List.length_map, List.length_set, List.length_replicate, Nat.zero_add, Nat.reduceAdd]; rfl) | (simp (disch := first | assumption | (simp only [List.length_set]; assumption)) only [go_sem, Nat.reduceAdd, Nat.reduceMul, Nat.reduceSub, Nat.reduceEqDiff, ↓reduceIte, Nat.reduceLT, reduceCtorEq, Nat.reduceLeDiff, Int.reduceToNat, Int.reduceEq, Int.reduceLE, Int.reduceLT, Nat.reduceBEq, hn3]; simp only [List.length_append, List.length_cons, List.length_nil, List.length_map, List.length_set, List.length_replicate, Nat.zero_add, Nat.reduceAdd]; rfl)) (FitAll.refl _) (by first | rfl | (simp (disch := first | assumption | (simp only [List.length_set]; assumption)) only [go_sem, Nat.reduceAdd, Nat.reduceMul, Nat.reduceSub, Nat.reduceEqDiff, ↓reduceIte, Nat.reduceLT, reduceCtorEq, Nat.reduceLeDiff, Int.reduceToNat, Int.reduceEq, Int.reduceLE, Int.reduceLT, Nat.reduceBEq, hn3]; first | done | rfl) | (simp only [List.length_append, List.length_cons, List.length_nil, List.length_map, List.length_set, List.length_replicate, Nat.zero_add, Nat.reduceAdd]; rfl) | (simp (disch := first | assumption | (simp only [List.length_set]; assumption)) only [go_sem, Nat.reduceAdd, Nat.reduceMul, Nat.reduceSub, Nat.reduceEqDiff, ↓reduceIte, Nat.reduceLT, reduceCtorEq, Nat.reduceLeDiff, Int.reduceToNat, Int.reduceEq, Int.reduceLE, Int.reduceLT, Nat.reduceBEq, hn3]; simp only [List.length_append, List.length_cons, List.length_nil, List.length_map, List.length_set, List.length_replicate, Nat.zero_add, Nat.reduceAdd]; rfl)) (by decide) (by first | rfl | (simp (disch := first | assumption | (simp only [List.length_set]; assumption)) only [go_sem, Nat.reduceAdd, Nat.reduceMul, Nat.reduceSub, Nat.reduceEqDiff, ↓reduceIte, Nat.reduceLT, reduceCtorEq, Nat.reduceLeDiff, Int.reduceToNat, Int.reduceEq, Int.reduceLE, Int.reduceLT, Nat.reduceBEq]; done)) (by rfl) ?_
          try refine sA ?_
          obtain ⟨hp14, h⟩ := guard_some h
          try refine sA ?_
          try refine andA ?_
          have he := Option.some.inj h
          subst he
          exact endsA ⟨[(2, (.pb 4 0))], [(0, some (false, .box [(.lf true (.sl (c187.2.code.map eU8))), (.lf false (.sc (.int .i64 c187.2.at_))), (.lf false (.sc (.int .u64 c187.2.seed)))])), (1, some (true, .arr false 1 (c183.1.Sent.map eS))), (2, some (true, .arr false 1 (c183.1.Got.map eS))), (3, some (true, .arr false 3 ((c183.1.Line ++ ([(⟨c187.1, c186.1, ByteArray.empty⟩ : PacketT)])).map ePacket))), (4, some (true, .box [(.lf false (.sc (.int .i64 c183.1.Window))), (.os 1 1 0 c183.1.Sent.length c183.1.Sent.length false), (.lf false (.sc (.int .i64 c183.1.Base))), (.os 2 1 0 c183.1.Got.length c183.1.Got.length false), (.os 3 3 0 ((c183.1.Line ++ ([(⟨c187.1, c186.1, ByteArray.empty⟩ : PacketT)])).length) ((c183.1.Line ++ ([(⟨c187.1, c186.1, ByteArray.empty⟩ : PacketT)])).length) false)]))], 5, 54⟩ [some 0, some 3, some 4, some 10, some 1]
        · try refine sA ?_
          have he := Option.some.inj h
          subst he
          exact endsA ⟨[(2, (.pb 4 0))], [(0, some (false, .box [(.lf true (.sl (c184.2.code.map eU8))), (.lf false (.sc (.int .i64 c184.2.at_))), (.lf false (.sc (.int .u64 c184.2.seed)))])), (1, some (true, .arr false 1 (c183.1.Sent.map eS))), (2, some (true, .arr false 1 (c183.1.Got.map eS))), (3, some (true, .arr false 3 (c183.1.Line.map ePacket))), (4, some (true, .box [(.lf false (.sc (.int .i64 c183.1.Window))), (.os 1 1 0 c183.1.Sent.length c183.1.Sent.length false), (.lf false (.sc (.int .i64 c183.1.Base))), (.os 2 1 0 c183.1.Got.length c183.1.Got.length false), (.os 3 3 0 c183.1.Line.length c183.1.Line.length false)]))], 5, 54⟩ [some 0, some 3, some 4, some 5, some 1]
  · try refine sA ?_
    obtain ⟨c188, hr15, h⟩ := bind_ok h
    refine Cl_hA [0] (w_spec_l1Cur_pick_o hr15) ?_
    try refine sA ?_
    obtain ⟨c189, hr16, h⟩ := bind_ok h
    refine Cl_sA (w_spec_PlayQueue hr16) ?_
    try refine sA ?_
    obtain ⟨c190, hr17, h⟩ := bind_ok h
    refine Cl_hA [0] (w_spec_l1Cur_pick_o hr17) ?_
    try refine sA ?_
    refine Bs_if h (fun h hc18 => ?_) (fun h hc18 => ?_)
    · try refine sA ?_
      obtain ⟨c191, hr19, h⟩ := bind_ok h
      refine Cl_hA [0] (w_spec_l1Cur_pick_o hr19) ?_
      try refine sA ?_
      have he := Option.some.inj h
      subst he
      exact endsA ⟨[(2, (.pb 4 0))], [(0, some (false, .box [(.lf true (.sl (c191.2.code.map eU8))), (.lf false (.sc (.int .i64 c191.2.at_))), (.lf false (.sc (.int .u64 c191.2.seed)))])), (1, some (true, .arr false 1 (c189.1.Sent.map eS))), (2, some (true, .arr false 1 (c189.1.Got.map eS))), (3, some (true, .arr false 3 (c189.1.Line.map ePacket))), (4, some (true, .box [(.lf false (.sc (.int .i64 c189.1.Window))), (.os 1 1 0 c189.1.Sent.length c189.1.Sent.length false), (.lf false (.sc (.int .i64 (wI (c189.1.Base + (wI (c191.1 - 1))))))), (.os 2 1 0 c189.1.Got.length c189.1.Got.length false), (.os 3 3 0 c189.1.Line.length c189.1.Line.length false)]))], 5, 54⟩ [some 0, some 3, some 4, some 5, some 1]
    · try refine sA ?_
      refine Bs_if h (fun h hc20 => ?_) (fun h hc20 => ?_)
      · try refine sA ?_
        obtain ⟨hp21, h⟩ := guard_some h
        try refine sA ?_
        try refine andA ?_
        have he := Option.some.inj h
        subst he
        exact endsA ⟨[(2, (.pb 4 0))], [(0, some (false, .box [(.lf true (.sl (c190.2.code.map eU8))), (.lf false (.sc (.int .i64 c190.2.at_))), (.lf false (.sc (.int .u64 c190.2.seed)))])), (1, some (true, .arr false 1 (c189.1.Sent.map eS))), (2, some (true, .arr false 1 ((c189.1.Got ++ ([(⟨#[122]⟩ : ByteArray)])).map eS))), (3, some (true, .arr false 3 (c189.1.Line.map ePacket))), (4, some (true, .box [(.lf false (.sc (.int .i64 c189.1.Window))), (.os 1 1 0 c189.1.Sent.length c189.1.Sent.length false), (.lf false (.sc (.int .i64 c189.1.Base))), (.os 2 1 0 ((c189.1.Got ++ ([(⟨#[122]⟩ : ByteArray)])).length) ((c189.1.Got ++ ([(⟨#[122]⟩ : ByteArray)])).length) false), (.os 3 3 0 c189.1.Line.length c189.1.Line.length false)]))], 5, 54⟩ [some 0, some 3, some 10, some 5, some 1]
      · try refine sA ?_
        refine Bs_if h (fun h hc22 => ?_) (fun h hc22 => ?_)
        · try refine sA ?_
          obtain ⟨c192, hr23, h⟩ := bind_ok h
          refine Cl_hA [0] (w_spec_l1Cur_pick_o hr23) ?_
          try refine sA ?_
          obtain ⟨c193, hr24, h⟩ := bind_ok h
          refine Cl_hA [0] (w_spec_l1Cur_one_o hr24) ?_
          try refine sA ?_
          obtain ⟨hp25, h⟩ := guard_some h
          try refine sA ?_
          try refine andA ?_
          have he := Option.some.inj h
          subst he
          exact endsA ⟨[(2, (.pb 4 0))], [(0, some (false, .box [(.lf true (.sl (c193.2.code.map eU8))), (.lf false (.sc (.int .i64 c193.2.at_))), (.lf false (.sc (.int .u64 c193.2.seed)))])), (1, some (true, .arr false 1 (c189.1.Sent.map eS))), (2, some (true, .arr false 1 (c189.1.Got.map eS))), (3, some (true, .arr false 3 ((c189.1.Line ++ ([(⟨c193.1, c192.1, ByteArray.empty⟩ : PacketT)])).map ePacket))), (4, some (true, .box [(.lf false (.sc (.int .i64 c189.1.Window))), (.os 1 1 0 c189.1.Sent.length c189.1.Sent.length false), (.lf false (.sc (.int .i64 c189.1.Base))), (.os 2 1 0 c189.1.Got.length c189.1.Got.length false), (.os 3 3 0 ((c189.1.Line ++ ([(⟨c193.1, c192.1, ByteArray.empty⟩ : PacketT)])).length) ((c189.1.Line ++ ([(⟨c193.1, c192.1, ByteArray.empty⟩ : PacketT)])).length) false)]))], 5, 54⟩ [some 0, some 3, some 4, some 10, some 1]
        · try refine sA ?_
          have he := Option.some.inj h
          subst he
          exact endsA ⟨[(2, (.pb 4 0))], [(0, some (false, .box [(.lf true (.sl (c190.2.code.map eU8))), (.lf false (.sc (.int .i64 c190.2.at_))), (.lf false (.sc (.int .u64 c190.2.seed)))])), (1, some (true, .arr false 1 (c189.1.Sent.map eS))), (2, some (true, .arr false 1 (c189.1.Got.map eS))), (3, some (true, .arr false 3 (c189.1.Line.map ePacket))), (4, some (true, .box [(.lf false (.sc (.int .i64 c189.1.Window))), (.os 1 1 0 c189.1.Sent.length c189.1.Sent.length false), (.lf false (.sc (.int .i64 c189.1.Base))), (.os 2 1 0 c189.1.Got.length c189.1.Got.length false), (.os 3 3 0 c189.1.Line.length c189.1.Line.length false)]))], 5, 54⟩ [some 0, some 3, some 4, some 5, some 1]
theorem w_spec_DrawStepQueue {a0 : (List Int)} {r : (QueueT × LineStepT)} (h : spec_DrawStepQueue a0 = some r) : Fn Try.prog 36 [(.lf true (.sl (a0.map eU8)))] [] 0 (.tu [(.ag [(.lf false (.sc (.int .i64 r.1.Window))), (.os 0 1 0 r.1.Sent.length r.1.Sent.length false), (.lf false (.sc (.int .i64 r.1.Base))), (.os 1 1 0 r.1.Got.length r.1.Got.length false), (.os 2 3 0 r.1.Line.length r.1.Line.length false)]), (.ag [(.lf false (.sc (.int .i64 r.2.Kind))), (.lf false (.sc (.int .i64 r.2.K))), (.lf false (.sc (.string r.2.Text)))])]) [(0, some (true, .arr false 1 (r.1.Sent.map eS))), (1, some (true, .arr false 1 (r.1.Got.map eS))), (2, some (true, .arr false 3 (r.1.Line.map ePacket)))] 5 := by
  unfold spec_DrawStepQueue at h
  refine fn_code tab_ok mixed [(3, [(5, 1), (5, 10)]), (5, [(1, 3)]), (6, [(1, 2)]), (1000, [(0, 0), (2, 0), (3, 0)]), (1001, [(2, 0), (3, 0), (4, 0)]), (1002, [(2, 0), (3, 0), (4, 0), (5, 0)]), (1003, [(2, 0), (3, 0), (4, 0), (5, 0), (6, 0)]), (1004, [(2, 0), (3, 0), (4, 0), (5, 0), (6, 0), (24, 0)]), (1005, [(2, 0), (3, 0), (5, 0), (6, 0)]), (1006, [(2, 0), (3, 0)])] Try.func36 rfl rfl (by simp [Try.f36]) (by kernel_rfl) ?_
  simp only [Try.f36]
  refine sA ?_
  obtain ⟨c194, hr1, h⟩ := bind_ok h
  refine Cl_hA [2] (w_spec_l1Cur_queue_o hr1) ?_
  try refine sA ?_
  obtain ⟨c195, hr2, h⟩ := bind_ok h
  refine Cl_hA [2] (w_spec_l1Cur_pick_o hr2) ?_
  try refine sA ?_
  obtain ⟨c196, hr3, h⟩ := bind_ok h
  refine Cl_hA [2] (w_spec_l1Cur_pick_o hr3) ?_
  try refine sA ?_
  refine Bs_if h (fun h hc4 => ?_) (fun h hc4 => ?_)
  · try refine sA ?_
    obtain ⟨c197, hr5, h⟩ := bind_ok h
    refine Cl_hA [2] (w_spec_l1Cur_pick_o hr5) ?_
    try refine sA ?_
    have he := Option.some.inj h
    subst he
    exact endsA ⟨[(2, (.pb 3 0)), (3, (.pb 4 0))], [(0, some (true, .arr false 1 (c194.1.Sent.map eS))), (1, some (true, .arr false 1 (c194.1.Got.map eS))), (2, some (true, .arr false 3 (c194.1.Line.map ePacket))), (3, some (true, .box [(.lf false (.sc (.int .i64 c194.1.Window))), (.os 0 1 0 c194.1.Sent.length c194.1.Sent.length false), (.lf false (.sc (.int .i64 c194.1.Base))), (.os 1 1 0 c194.1.Got.length c194.1.Got.length false), (.os 2 3 0 c194.1.Line.length c194.1.Line.length false)])), (4, some (true, .box [(.lf false (.sc (.int .i64 (wI (1 + c195.1))))), (.lf false (.sc (.int .i64 (wI (c194.1.Base + c197.1))))), (.lf false (.sc (.string ByteArray.empty)))]))], 5, 33⟩ [some 3, some 4, some 5, some 0, some 1]
  · try refine sA ?_
    have he := Option.some.inj h
    subst he
    exact endsA ⟨[(2, (.pb 3 0)), (3, (.pb 4 0))], [(0, some (true, .arr false 1 (c194.1.Sent.map eS))), (1, some (true, .arr false 1 (c194.1.Got.map eS))), (2, some (true, .arr false 3 (c194.1.Line.map ePacket))), (3, some (true, .box [(.lf false (.sc (.int .i64 c194.1.Window))), (.os 0 1 0 c194.1.Sent.length c194.1.Sent.length false), (.lf false (.sc (.int .i64 c194.1.Base))), (.os 1 1 0 c194.1.Got.length c194.1.Got.length false), (.os 2 3 0 c194.1.Line.length c194.1.Line.length false)])), (4, some (true, .box [(.lf false (.sc (.int .i64 (wI (1 + c195.1))))), (.lf false (.sc (.int .i64 c196.1))), (.lf false (.sc (.string ByteArray.empty)))]))], 5, 33⟩ [some 3, some 4, some 5, some 0, some 1]
theorem w_slices_Clone_string {a0 : (List ByteArray)} {r : (List ByteArray)} (h : slices_Clone_string a0 = some r) : Fn Try.prog 136 [(.lf true (.sl (a0.map eS)))] [] 0 (.os 0 1 0 r.length r.length false) [(0, some (true, .arr false 1 (r.map eS)))] 1 := by
  unfold slices_Clone_string at h
  obtain ⟨hp, h⟩ := guard_some h
  have he := Option.some.inj h; subst he
  refine fn_code tab_ok mixed [] Try.func136 rfl rfl (by simp [Try.f136]) (by kernel_rfl) ?_
  simp only [Try.f136]
  simp (disch := assumption) only [go_sem, Nat.reduceAdd, Nat.reduceMul, Nat.reduceSub, Nat.reduceEqDiff, ↓reduceIte, Nat.reduceLT, reduceCtorEq, Nat.reduceLeDiff, Int.reduceToNat, Int.reduceEq, Int.reduceLE, Int.reduceLT, Nat.reduceBEq]
  intro b hb
  refine Bs_splitC (b = true) (by simp) (fun hc => ?_) (fun hc => ?_)
  · have h0 : a0 = [] := by simpa using hb (by simpa using hc)
    subst h0
    try simp (disch := assumption) only [go_sem, Nat.reduceAdd, Nat.reduceMul, Nat.reduceSub, Nat.reduceEqDiff, ↓reduceIte, Nat.reduceLT, reduceCtorEq, Nat.reduceLeDiff, Int.reduceToNat, Int.reduceEq, Int.reduceLE, Int.reduceLT, Nat.reduceBEq]
    refine ends_weak ⟨[(2, (.os 0 1 0 0 0 false))], [(0, some (true, .arr false 1 (([] : List ByteArray).map eS)))], 1, 8⟩ (weak_of (m := 0) [none] rfl rfl rfl (by rfl) ?_ ?_) ?_
    all_goals ((try simp (disch := assumption) only [go_sem, Nat.reduceAdd, Nat.reduceMul, Nat.reduceSub, Nat.reduceEqDiff, ↓reduceIte, Nat.reduceLT, reduceCtorEq, Nat.reduceLeDiff, Int.reduceToNat, Int.reduceEq, Int.reduceLE, Int.reduceLT, Nat.reduceBEq]); (repeat' first | done | rfl | omega | refine And.intro ?_ ?_ | (simp; done) | (simp; omega)))
  · try simp (disch := assumption) only [go_sem, Nat.reduceAdd, Nat.reduceMul, Nat.reduceSub, Nat.reduceEqDiff, ↓reduceIte, Nat.reduceLT, reduceCtorEq, Nat.reduceLeDiff, Int.reduceToNat, Int.reduceEq, Int.reduceLE, Int.reduceLT, Nat.reduceBEq]
    first | refine And.intro (by first | omega | exact ⟨by omega, fun _ => mapLen fun _ => rfl⟩ | (refine ⟨?_, by omega⟩; first | exact mapLen fun _ => rfl | simp)) ?_ | skip
    try simp (disch := assumption) only [go_sem, Nat.reduceAdd, Nat.reduceMul, Nat.reduceSub, Nat.reduceEqDiff, ↓reduceIte, Nat.reduceLT, reduceCtorEq, Nat.reduceLeDiff, Int.reduceToNat, Int.reduceEq, Int.reduceLE, Int.reduceLT, Nat.reduceBEq]
    refine ends_weak ⟨[(2, (.os 0 1 0 a0.length a0.length false))], [(0, some (true, .arr false 1 (a0.map eS)))], 1, 8⟩ (weak_of (m := 0) [some 1] rfl rfl rfl (by rfl) ?_ ?_) ?_
    all_goals ((try simp (disch := assumption) only [go_sem, Nat.reduceAdd, Nat.reduceMul, Nat.reduceSub, Nat.reduceEqDiff, ↓reduceIte, Nat.reduceLT, reduceCtorEq, Nat.reduceLeDiff, Int.reduceToNat, Int.reduceEq, Int.reduceLE, Int.reduceLT, Nat.reduceBEq]); (repeat' first | done | rfl | omega | refine And.intro ?_ ?_ | (simp; done) | (simp; omega)))
theorem w_slices_Clone_impl_Packet {a0 : (List PacketT)} {r : (List PacketT)} (h : slices_Clone_impl_Packet a0 = some r) : Fn Try.prog 137 [(.lf true (.sl (a0.map ePacket)))] [] 0 (.os 0 3 0 r.length r.length false) [(0, some (true, .arr false 3 (r.map ePacket)))] 1 := by
  unfold slices_Clone_impl_Packet at h
  obtain ⟨hp, h⟩ := guard_some h
  have he := Option.some.inj h; subst he
  refine fn_code tab_ok mixed [] Try.func137 rfl rfl (by simp [Try.f137]) (by kernel_rfl) ?_
  simp only [Try.f137]
  simp (disch := assumption) only [go_sem, Nat.reduceAdd, Nat.reduceMul, Nat.reduceSub, Nat.reduceEqDiff, ↓reduceIte, Nat.reduceLT, reduceCtorEq, Nat.reduceLeDiff, Int.reduceToNat, Int.reduceEq, Int.reduceLE, Int.reduceLT, Nat.reduceBEq]
  intro b hb
  refine Bs_splitC (b = true) (by simp) (fun hc => ?_) (fun hc => ?_)
  · have h0 : a0 = [] := by simpa using hb (by simpa using hc)
    subst h0
    try simp (disch := assumption) only [go_sem, Nat.reduceAdd, Nat.reduceMul, Nat.reduceSub, Nat.reduceEqDiff, ↓reduceIte, Nat.reduceLT, reduceCtorEq, Nat.reduceLeDiff, Int.reduceToNat, Int.reduceEq, Int.reduceLE, Int.reduceLT, Nat.reduceBEq]
    refine ends_weak ⟨[(2, (.os 0 3 0 0 0 false))], [(0, some (true, .arr false 3 (([] : List PacketT).map ePacket)))], 1, 8⟩ (weak_of (m := 0) [none] rfl rfl rfl (by rfl) ?_ ?_) ?_
    all_goals ((try simp (disch := assumption) only [go_sem, Nat.reduceAdd, Nat.reduceMul, Nat.reduceSub, Nat.reduceEqDiff, ↓reduceIte, Nat.reduceLT, reduceCtorEq, Nat.reduceLeDiff, Int.reduceToNat, Int.reduceEq, Int.reduceLE, Int.reduceLT, Nat.reduceBEq]); (repeat' first | done | rfl | omega | refine And.intro ?_ ?_ | (simp; done) | (simp; omega)))
  · try simp (disch := assumption) only [go_sem, Nat.reduceAdd, Nat.reduceMul, Nat.reduceSub, Nat.reduceEqDiff, ↓reduceIte, Nat.reduceLT, reduceCtorEq, Nat.reduceLeDiff, Int.reduceToNat, Int.reduceEq, Int.reduceLE, Int.reduceLT, Nat.reduceBEq]
    first | refine And.intro (by first | omega | exact ⟨by omega, fun _ => mapLen fun _ => rfl⟩ | (refine ⟨?_, by omega⟩; first | exact mapLen fun _ => rfl | simp)) ?_ | skip
    try simp (disch := assumption) only [go_sem, Nat.reduceAdd, Nat.reduceMul, Nat.reduceSub, Nat.reduceEqDiff, ↓reduceIte, Nat.reduceLT, reduceCtorEq, Nat.reduceLeDiff, Int.reduceToNat, Int.reduceEq, Int.reduceLE, Int.reduceLT, Nat.reduceBEq]
    refine ends_weak ⟨[(2, (.os 0 3 0 a0.length a0.length false))], [(0, some (true, .arr false 3 (a0.map ePacket)))], 1, 8⟩ (weak_of (m := 0) [some 1] rfl rfl rfl (by rfl) ?_ ?_) ?_
    all_goals ((try simp (disch := assumption) only [go_sem, Nat.reduceAdd, Nat.reduceMul, Nat.reduceSub, Nat.reduceEqDiff, ↓reduceIte, Nat.reduceLT, reduceCtorEq, Nat.reduceLeDiff, Int.reduceToNat, Int.reduceEq, Int.reduceLE, Int.reduceLT, Nat.reduceBEq]); (repeat' first | done | rfl | omega | refine And.intro ?_ ?_ | (simp; done) | (simp; omega)))
theorem w_impl_cloneQueue {a0 : QueueT} {r : QueueT} (h : impl_cloneQueue a0 = some r) : Fn Try.prog 101 [(.ag [(.lf false (.sc (.int .i64 a0.Window))), (.lf true (.sl (a0.Sent.map eS))), (.lf false (.sc (.int .i64 a0.Base))), (.lf true (.sl (a0.Got.map eS))), (.lf true (.sl (a0.Line.map ePacket)))])] [] 0 (.ag [(.lf false (.sc (.int .i64 r.Window))), (.os 0 1 0 r.Sent.length r.Sent.length false), (.lf false (.sc (.int .i64 r.Base))), (.os 1 1 0 r.Got.length r.Got.length false), (.os 2 3 0 r.Line.length r.Line.length false)]) [(0, some (true, .arr false 1 (r.Sent.map eS))), (1, some (true, .arr false 1 (r.Got.map eS))), (2, some (true, .arr false 3 (r.Line.map ePacket)))] 4 := by
  unfold impl_cloneQueue at h
  refine fn_code tab_ok mixed [(1, [(4, 2), (7, 2), (7, 5)]), (1000, [(1, 0), (2, 0)]), (1001, [(1, 0), (2, 0)]), (1002, [(2, 0)])] Try.func101 rfl rfl (by simp [Try.f101]) (by kernel_rfl) ?_
  simp only [Try.f101]
  refine sA ?_
  obtain ⟨c200, hr1, h⟩ := bind_ok h
  refine Cl_sA (w_slices_Clone_string hr1) ?_
  try refine sA ?_
  obtain ⟨c201, hr2, h⟩ := bind_ok h
  refine Cl_sA (w_slices_Clone_string hr2) ?_
  try refine sA ?_
  obtain ⟨c202, hr3, h⟩ := bind_ok h
  refine Cl_sA (w_slices_Clone_impl_Packet hr3) ?_
  try refine sA ?_
  have he := Option.some.inj h
  subst he
  exact endsA ⟨[(2, (.pb 3 0))], [(0, some (true, .arr false 1 (c200.map eS))), (1, some (true, .arr false 1 (c201.map eS))), (2, some (true, .arr false 3 (c202.map ePacket))), (3, some (true, .box [(.lf false (.sc (.int .i64 a0.Window))), (.os 0 1 0 c200.length c200.length false), (.lf false (.sc (.int .i64 a0.Base))), (.os 1 1 0 c201.length c201.length false), (.os 2 3 0 c202.length c202.length false)]))], 4, 16⟩ [some 2, some 3, some 4, some 1]
theorem w_impl_StepQueue {a0 : QueueT} {a1 : LineStepT} {r : (QueueT × Bool)} (h : impl_StepQueue a0 a1 = some r) : Fn Try.prog 37 [(.ag [(.lf false (.sc (.int .i64 a0.Window))), (.lf true (.sl (a0.Sent.map eS))), (.lf false (.sc (.int .i64 a0.Base))), (.lf true (.sl (a0.Got.map eS))), (.lf true (.sl (a0.Line.map ePacket)))]), (.ag [(.lf false (.sc (.int .i64 a1.Kind))), (.lf false (.sc (.int .i64 a1.K))), (.lf false (.sc (.string a1.Text)))])] [] 0 (.tu [(.ag [(.lf false (.sc (.int .i64 r.1.Window))), (.os 0 1 0 r.1.Sent.length r.1.Sent.length false), (.lf false (.sc (.int .i64 r.1.Base))), (.os 1 1 0 r.1.Got.length r.1.Got.length false), (.os 2 3 0 r.1.Line.length r.1.Line.length false)]), (.lf false (.sc (.bool r.2)))]) [(0, some (false, .arr false 1 (r.1.Sent.map eS))), (1, some (false, .arr false 1 (r.1.Got.map eS))), (2, some (false, .arr false 3 (r.1.Line.map ePacket)))] 4 := by
  unfold impl_StepQueue at h
  refine fn_code tab_ok mixed [(1000, [(2, 0), (3, 0), (4, 0)]), (1001, [(2, 0), (3, 0), (4, 0), (9, 0)]), (1002, [(4, 0), (5, 0)]), (1003, [(3, 0), (4, 0), (6, 0)]), (1004, [(4, 0), (6, 0), (15, 0)]), (1005, [(4, 0), (5, 0)]), (1006, [(4, 0), (5, 0)])] Try.func37 rfl rfl (by simp [Try.f37]) (by kernel_rfl) ?_
  simp only [Try.f37]
  refine sA ?_
  obtain ⟨c199, hr1, h⟩ := bind_ok h
  refine Cl_sA (w_impl_GoodQueue hr1) ?_
  try refine sA ?_
  refine Bs_if h (fun h hc2 => ?_) (fun h hc2 => ?_)
  · try refine sA ?_
    have he := Option.some.inj h
    subst he
    exact endsA ⟨[(4, (.pb 3 0)), (5, (.lf false (.sc (.bool false))))], [(0, some (false, .arr false 1 (([] : List ByteArray).map eS))), (1, some (false, .arr false 1 (([] : List ByteArray).map eS))), (2, some (false, .arr false 3 (([] : List PacketT).map ePacket))), (3, some (true, .box [(.lf false (.sc (.int .i64 0))), (.os 0 1 0 (([] : List ByteArray).length) (([] : List ByteArray).length) false), (.lf false (.sc (.int .i64 0))), (.os 1 1 0 (([] : List ByteArray).length) (([] : List ByteArray).length) false), (.os 2 3 0 (([] : List PacketT).length) (([] : List PacketT).length) false)]))], 4, 18⟩ [none, none, none, some 2]
  · try refine sA ?_
    obtain ⟨c203, hr3, h⟩ := bind_ok h
    refine Cl_sA (w_impl_cloneQueue hr3) ?_
    try refine sA ?_
    obtain ⟨c204, hr4, h⟩ := bind_ok h
    refine Cl_hA [7, 3, 4, 5] (w_impl_Queue_step_o hr4) ?_
    try refine sA ?_
    refine Bs_if h (fun h hc5 => ?_) (fun h hc5 => ?_)
    · try refine sA ?_
      have he := Option.some.inj h
      subst he
      exact endsA ⟨[(4, (.pb 3 0)), (5, (.lf false (.sc (.bool false))))], [(0, some (false, .arr false 1 (([] : List ByteArray).map eS))), (1, some (false, .arr false 1 (([] : List ByteArray).map eS))), (2, some (false, .arr false 3 (([] : List PacketT).map ePacket))), (3, some (true, .box [(.lf false (.sc (.int .i64 0))), (.os 0 1 0 (([] : List ByteArray).length) (([] : List ByteArray).length) false), (.lf false (.sc (.int .i64 0))), (.os 1 1 0 (([] : List ByteArray).length) (([] : List ByteArray).length) false), (.os 2 3 0 (([] : List PacketT).length) (([] : List PacketT).length) false)]))], 4, 18⟩ [none, none, none, some 2]
    · try refine sA ?_
      have he := Option.some.inj h
      subst he
      exact endsA ⟨[(4, (.pb 3 0)), (5, (.lf false (.sc (.bool true))))], [(0, some (false, .arr false 1 (c204.2.Sent.map eS))), (1, some (false, .arr false 1 (c204.2.Got.map eS))), (2, some (false, .arr false 3 (c204.2.Line.map ePacket))), (3, some (true, .box [(.lf false (.sc (.int .i64 c204.2.Window))), (.os 0 1 0 c204.2.Sent.length c204.2.Sent.length false), (.lf false (.sc (.int .i64 c204.2.Base))), (.os 1 1 0 c204.2.Got.length c204.2.Got.length false), (.os 2 3 0 c204.2.Line.length c204.2.Line.length false)]))], 4, 18⟩ [some 8, some 9, some 10, some 2]
theorem w_spec_GoodQueue {a0 : QueueT} {r : Bool} (h : spec_GoodQueue a0 = some r) : Fn Try.prog 102 [(.ag [(.lf false (.sc (.int .i64 a0.Window))), (.lf true (.sl (a0.Sent.map eS))), (.lf false (.sc (.int .i64 a0.Base))), (.lf true (.sl (a0.Got.map eS))), (.lf true (.sl (a0.Line.map ePacket)))])] [] 0 (.lf false (.sc (.bool r))) [] 0 := by
  unfold spec_GoodQueue at h
  refine fn_code tab_ok mixed [(1000, [(1, 0)]), (1001, [(1, 0), (40, 0)]), (1002, [(2, 0)]), (1003, [(1, 0), (42, 0), (43, 0), (44, 0)]), (1004, [(1, 0), (42, 0), (43, 0), (44, 0), (45, 0)]), (1005, [(1, 0), (3, 0), (4, 0), (42, 0), (43, 0), (44, 0)]), (1006, [(1, 0), (42, 0), (43, 0), (44, 0), (67, 0)]), (1007, [(2, 0)]), (1008, [(1, 0), (42, 0), (43, 0), (44, 0)]), (1009, [(1, 0), (70, 0), (71, 0), (72, 0)]), (1010, [(1, 0), (70, 0), (71, 0), (72, 0), (73, 0)]), (1011, [(1, 0), (6, 0), (70, 0), (71, 0), (72, 0)]), (1012, [(1, 0), (6, 0), (70, 0), (71, 0), (72, 0), (77, 0)]), (1013, [(1, 0), (70, 0), (71, 0), (72, 0), (89, 0)]), (1014, [(2, 0)]), (1015, [(1, 0), (70, 0), (71, 0), (72, 0), (118, 0)]), (1016, [(2, 0)]), (1017, [(1, 0), (70, 0), (71, 0), (72, 0)]), (1018, [(2, 0)]), (4001, []), (4006, []), (4013, []), (4015, [])] Try.func102 rfl rfl (by simp [Try.f102]) (by kernel_rfl) ?_
  simp only [Try.f102]
  refine sA ?_
  obtain ⟨p208, hq1, h⟩ := bind_ok h
  refine Sq_cut (fun s2 => s2 = ⟨[(1, (.pb 0 0)), (40, (.lf false (.sc (.bool p208.t40))))], [(0, some (true, .box [(.lf false (.sc (.int .i64 a0.Window))), (.lf true (.sl (a0.Sent.map eS))), (.lf false (.sc (.int .i64 a0.Base))), (.lf true (.sl (a0.Got.map eS))), (.lf true (.sl (a0.Line.map ePacket)))]))], 1, 120⟩) ?_ ?_
  · try refine sA ?_
    obtain ⟨c206, hr2, hq1⟩ := bind_ok hq1
    refine Cl_sA (w_spec_l1In hr2) ?_
    try refine sA ?_
    refine Sp_if hq1 (fun hq1 hc3 => ?_) (fun hq1 hc3 => ?_)
    · try refine sA ?_
      cases hq1
      exact X_cut rfl (weakA [some 0])
    · try refine sA ?_
      refine Sp_if hq1 (fun hq1 hc4 => ?_) (fun hq1 hc4 => ?_)
      · try refine sA ?_
        cases hq1
        exact X_cut rfl (weakA [some 0])
      · try refine sA ?_
        refine Sp_if hq1 (fun hq1 hc5 => ?_) (fun hq1 hc5 => ?_)
        · try refine sA ?_
          cases hq1
          exact X_cut rfl (weakA [some 0])
        · try refine sA ?_
          obtain ⟨c207, hr6, hq1⟩ := bind_ok hq1
          refine Cl_sA (w_spec_l1In hr6) ?_
          try refine sA ?_
          refine Sp_if hq1 (fun hq1 hc7 => ?_) (fun hq1 hc7 => ?_)
          · try refine sA ?_
            cases hq1
            exact X_cut rfl (weakA [some 0])
          · try refine sA ?_
            cases hq1
            exact X_cut rfl (weakA [some 0])
  · intro s2 hJ; subst hJ
    try dsimp only at h
    try refine sA ?_
    refine Bs_if h (fun h hc8 => ?_) (fun h hc8 => ?_)
    · try refine sA ?_
      have he := Option.some.inj h
      subst he
      exact endsA ⟨[(2, (.lf false (.sc (.bool false))))], [], 0, 120⟩ []
    · try refine sA ?_
      obtain ⟨y212, hl9, h⟩ := bind_ok h
      refine W_loopP (fun g209 : spec_GoodQueue_G1 => ⟨[(1, (.pb 0 0)), (42, (.lf true (.sl (a0.Sent.map eS)))), (43, (.lf false (.sc (.int .i64 ((a0.Sent.length : Nat) : Int))))), (44, (.lf false (.sc (.int .i64 g209.t44))))], [(0, some (true, .box [(.lf false (.sc (.int .i64 a0.Window))), (.lf true (.sl (a0.Sent.map eS))), (.lf false (.sc (.int .i64 a0.Base))), (.lf true (.sl (a0.Got.map eS))), (.lf true (.sl (a0.Line.map ePacket)))]))], 1, 120⟩) (spec_GoodQueue_L1 a0) _ _ hl9 (weakA [some 0]) ?_
      · intro n1 g209 z1 hs1 hk1
        unfold spec_GoodQueue_L1 at hs1
        try dsimp only at hs1
        refine sA ?_
        refine Bs_if hs1 (fun hs1 hc10 => ?_) (fun hs1 hc10 => ?_)
        · try refine sA ?_
          obtain ⟨hp11, hs1⟩ := guard_some hs1
          have hn11 : g209.t44.toNat < a0.Sent.length := by first | omega | (simp only [List.length_set, List.length_append, List.length_replicate, List.length_map]; omega)
          try refine sA ?_
          try refine andA ?_
          obtain ⟨p211, hq12, hs1⟩ := bind_ok hs1
          refine Sq_cut (fun s2 => s2 = ⟨[(1, (.pb 0 0)), (42, (.lf true (.sl (a0.Sent.map eS)))), (43, (.lf false (.sc (.int .i64 ((a0.Sent.length : Nat) : Int))))), (44, (.lf false (.sc (.int .i64 g209.t44)))), (67, (.lf false (.sc (.bool p211.t67))))], [(0, some (true, .box [(.lf false (.sc (.int .i64 a0.Window))), (.lf true (.sl (a0.Sent.map eS))), (.lf false (.sc (.int .i64 a0.Base))), (.lf true (.sl (a0.Got.map eS))), (.lf true (.sl (a0.Line.map ePacket)))]))], 1, 120⟩) ?_ ?_
          · try refine sA ?_
            refine Sp_if hq12 (fun hq12 hc13 => ?_) (fun hq12 hc13 => ?_)
            · try refine sA ?_
              cases hq12
              exact X_cut rfl (weakA [some 0])
            · try refine sA ?_
              refine Sp_if hq12 (fun hq12 hc14 => ?_) (fun hq12 hc14 => ?_)
              · try refine sA ?_
                obtain ⟨hp15, hq12⟩ := guard_some hq12
                have hn15 : g209.t44.toNat < a0.Got.length := by first | omega | (simp only [List.length_set, List.length_append, List.length_replicate, List.length_map]; omega)
                try refine sA ?_
                try refine andA ?_
                cases hq12
                exact X_cut rfl (weakA [some 0])
              · try refine sA ?_
                cases hq12
                exact X_cut rfl (weakA [some 0])
          · intro s2 hJ; subst hJ
            try dsimp only at hs1
            try refine sA ?_
            refine Bs_if hs1 (fun hs1 hc16 => ?_) (fun hs1 hc16 => ?_)
            · try refine sA ?_
              cases hs1
              cases hk1
              try dsimp only at h
              try refine sA ?_
              have he := Option.some.inj h
              subst he
              exact endsA ⟨[(2, (.lf false (.sc (.bool false))))], [], 0, 120⟩ []
            · try refine sA ?_
              cases hs1
              exact X_backP hk1 (weakA [some 0])
        · try refine sA ?_
          cases hs1
          cases hk1
          try dsimp only at h
          try refine sA ?_
          obtain ⟨y236, hl17, h⟩ := bind_ok h
          refine W_loopP (fun g227 : spec_GoodQueue_G2 => ⟨[(1, (.pb 0 0)), (70, (.lf true (.sl (a0.Line.map ePacket)))), (71, (.lf false (.sc (.int .i64 ((a0.Line.length : Nat) : Int))))), (72, (.lf false (.sc (.int .i64 g227.t72))))], [(0, some (true, .box [(.lf false (.sc (.int .i64 a0.Window))), (.lf true (.sl (a0.Sent.map eS))), (.lf false (.sc (.int .i64 a0.Base))), (.lf true (.sl (a0.Got.map eS))), (.lf true (.sl (a0.Line.map ePacket)))]))], 1, 120⟩) (_) _ _ hl17 (weakA [some 0]) ?_
          · intro n3 g227 z3 hs3 hk3
            unfold spec_GoodQueue_L2 at hs3
            try dsimp only at hs3
            refine sA ?_
            refine Bs_if hs3 (fun hs3 hc18 => ?_) (fun hs3 hc18 => ?_)
            · try refine sA ?_
              obtain ⟨hp19, hs3⟩ := guard_some hs3
              have hn19 : g227.t72.toNat < a0.Line.length := by first | omega | (simp only [List.length_set, List.length_append, List.length_replicate, List.length_map]; omega)
              try refine sA ?_
              try refine andA ?_
              refine Bs_if hs3 (fun hs3 hc20 => ?_) (fun hs3 hc20 => ?_)
              · try refine sA ?_
                obtain ⟨p233, hq21, hs3⟩ := bind_ok hs3
                refine Sq_cut (fun s2 => s2 = ⟨[(1, (.pb 0 0)), (70, (.lf true (.sl (a0.Line.map ePacket)))), (71, (.lf false (.sc (.int .i64 ((a0.Line.length : Nat) : Int))))), (72, (.lf false (.sc (.int .i64 g227.t72)))), (89, (.lf false (.sc (.bool p233.t89))))], [(0, some (true, .box [(.lf false (.sc (.int .i64 a0.Window))), (.lf true (.sl (a0.Sent.map eS))), (.lf false (.sc (.int .i64 a0.Base))), (.lf true (.sl (a0.Got.map eS))), (.lf true (.sl (a0.Line.map ePacket)))]))], 1, 120⟩) ?_ ?_
                · try refine sA ?_
                  obtain ⟨c232, hr22, hq21⟩ := bind_ok hq21
                  refine Cl_sA (w_spec_l1In hr22) ?_
                  try refine sA ?_
                  refine Sp_if hq21 (fun hq21 hc23 => ?_) (fun hq21 hc23 => ?_)
                  · try refine sA ?_
                    cases hq21
                    exact X_cut rfl (weakA [some 0])
                  · try refine sA ?_
                    cases hq21
                    exact X_cut rfl (weakA [some 0])
                · intro s2 hJ; subst hJ
                  try dsimp only at hs3
                  try refine sA ?_
                  refine Bs_if hs3 (fun hs3 hc24 => ?_) (fun hs3 hc24 => ?_)
                  · try refine sA ?_
                    cases hs3
                    cases hk3
                    try dsimp only at h
                    try refine sA ?_
                    have he := Option.some.inj h
                    subst he
                    exact endsA ⟨[(2, (.lf false (.sc (.bool false))))], [], 0, 120⟩ []
                  · try refine sA ?_
                    cases hs3
                    exact X_backP hk3 (weakA [some 0])
              · try refine sA ?_
                obtain ⟨p235, hq25, hs3⟩ := bind_ok hs3
                refine Sq_cut (fun s2 => s2 = ⟨[(1, (.pb 0 0)), (70, (.lf true (.sl (a0.Line.map ePacket)))), (71, (.lf false (.sc (.int .i64 ((a0.Line.length : Nat) : Int))))), (72, (.lf false (.sc (.int .i64 g227.t72)))), (118, (.lf false (.sc (.bool p235.t118))))], [(0, some (true, .box [(.lf false (.sc (.int .i64 a0.Window))), (.lf true (.sl (a0.Sent.map eS))), (.lf false (.sc (.int .i64 a0.Base))), (.lf true (.sl (a0.Got.map eS))), (.lf true (.sl (a0.Line.map ePacket)))]))], 1, 120⟩) ?_ ?_
                · try refine sA ?_
                  obtain ⟨c234, hr26, hq25⟩ := bind_ok hq25
                  refine Cl_sA (w_spec_l1In hr26) ?_
                  try refine sA ?_
                  refine Sp_if hq25 (fun hq25 hc27 => ?_) (fun hq25 hc27 => ?_)
                  · try refine sA ?_
                    cases hq25
                    exact X_cut rfl (weakA [some 0])
                  · try refine sA ?_
                    refine Sp_if hq25 (fun hq25 hc28 => ?_) (fun hq25 hc28 => ?_)
                    · try refine sA ?_
                      cases hq25
                      exact X_cut rfl (weakA [some 0])
                    · try refine sA ?_
                      obtain ⟨hp29, hq25⟩ := guard_some hq25
                      have hn29 : ((nth a0.Line g227.t72.toNat).No).toNat < a0.Sent.length := by first | omega | (simp only [List.length_set, List.length_append, List.length_replicate, List.length_map]; omega)
                      try refine sA ?_
                      try refine andA ?_
                      cases hq25
                      exact X_cut rfl (weakA [some 0])
                · intro s2 hJ; subst hJ
                  try dsimp only at hs3
                  try refine sA ?_
                  refine Bs_if hs3 (fun hs3 hc30 => ?_) (fun hs3 hc30 => ?_)
                  · try refine sA ?_
                    cases hs3
                    cases hk3
                    try dsimp only at h
                    try refine sA ?_
                    have he := Option.some.inj h
                    subst he
                    exact endsA ⟨[(2, (.lf false (.sc (.bool false))))], [], 0, 120⟩ []
                  · try refine sA ?_
                    cases hs3
                    exact X_backP hk3 (weakA [some 0])
            · try refine sA ?_
              cases hs3
              cases hk3
              try dsimp only at h
              try refine sA ?_
              have he := Option.some.inj h
              subst he
              exact endsA ⟨[(2, (.lf false (.sc (.bool true))))], [], 0, 120⟩ []
theorem w_spec_StepQueue {a0 : QueueT} {a1 : LineStepT} {r : (QueueT × Bool)} (h : spec_StepQueue a0 a1 = some r) : Fn Try.prog 38 [(.ag [(.lf false (.sc (.int .i64 a0.Window))), (.lf true (.sl (a0.Sent.map eS))), (.lf false (.sc (.int .i64 a0.Base))), (.lf true (.sl (a0.Got.map eS))), (.lf true (.sl (a0.Line.map ePacket)))]), (.ag [(.lf false (.sc (.int .i64 a1.Kind))), (.lf false (.sc (.int .i64 a1.K))), (.lf false (.sc (.string a1.Text)))])] [] 0 (.tu [(.ag [(.lf false (.sc (.int .i64 r.1.Window))), (.os 0 1 0 r.1.Sent.length r.1.Sent.length false), (.lf false (.sc (.int .i64 r.1.Base))), (.os 1 1 0 r.1.Got.length r.1.Got.length false), (.os 2 3 0 r.1.Line.length r.1.Line.length false)]), (.lf false (.sc (.bool r.2)))]) [(0, some (false, .arr false 1 (r.1.Sent.map eS))), (1, some (false, .arr false 1 (r.1.Got.map eS))), (2, some (false, .arr false 3 (r.1.Line.map ePacket)))] 4 := by
  unfold spec_StepQueue at h
  refine fn_code tab_ok mixed [(3, [(2, 1), (0, 7), (2, 7)]), (1000, [(2, 0), (3, 0), (4, 0)]), (1001, [(2, 0), (3, 0), (4, 0), (10, 0)]), (1002, [(4, 0), (5, 0)]), (1003, [(4, 0), (6, 0), (7, 0)]), (1004, [(4, 0), (6, 0), (20, 0)]), (1005, [(4, 0), (5, 0)]), (1006, [(4, 0), (5, 0)])] Try.func38 rfl rfl (by simp [Try.f38]) (by kernel_rfl) ?_
  simp only [Try.f38]
  refine sA ?_
  obtain ⟨c239, hr1, h⟩ := bind_ok h
  refine Cl_sA (w_spec_GoodQueue hr1) ?_
  try refine sA ?_
  refine Bs_if h (fun h hc2 => ?_) (fun h hc2 => ?_)
  · try refine sA ?_
    have he := Option.some.inj h
    subst he
    exact endsA ⟨[(4, (.pb 3 0)), (5, (.lf false (.sc (.bool false))))], [(0, some (false, .arr false 1 (([] : List ByteArray).map eS))), (1, some (false, .arr false 1 (([] : List ByteArray).map eS))), (2, some (false, .arr false 3 (([] : List PacketT).map ePacket))), (3, some (true, .box [(.lf false (.sc (.int .i64 0))), (.os 0 1 0 (([] : List ByteArray).length) (([] : List ByteArray).length) false), (.lf false (.sc (.int .i64 0))), (.os 1 1 0 (([] : List ByteArray).length) (([] : List ByteArray).length) false), (.os 2 3 0 (([] : List PacketT).length) (([] : List PacketT).length) false)]))], 4, 23⟩ [none, none, none, some 2]
  · try refine sA ?_
    obtain ⟨c240, hr3, h⟩ := bind_ok h
    refine Cl_sA (w_spec_l14Own hr3) ?_
    try refine sA ?_
    obtain ⟨c241, hr4, h⟩ := bind_ok h
    refine Cl_hA [3, 4, 5] (w_spec_l14Step_www hr4) ?_
    try refine sA ?_
    refine Bs_if h (fun h hc5 => ?_) (fun h hc5 => ?_)
    · try refine sA ?_
      have he := Option.some.inj h
      subst he
      exact endsA ⟨[(4, (.pb 3 0)), (5, (.lf false (.sc (.bool false))))], [(0, some (false, .arr false 1 (([] : List ByteArray).map eS))), (1, some (false, .arr false 1 (([] : List ByteArray).map eS))), (2, some (false, .arr false 3 (([] : List PacketT).map ePacket))), (3, some (true, .box [(.lf false (.sc (.int .i64 0))), (.os 0 1 0 (([] : List ByteArray).length) (([] : List ByteArray).length) false), (.lf false (.sc (.int .i64 0))), (.os 1 1 0 (([] : List ByteArray).length) (([] : List ByteArray).length) false), (.os 2 3 0 (([] : List PacketT).length) (([] : List PacketT).length) false)]))], 4, 23⟩ [none, none, none, some 2]
    · try refine sA ?_
      have he := Option.some.inj h
      subst he
      exact endsA ⟨[(4, (.pb 3 0)), (5, (.lf false (.sc (.bool true))))], [(0, some (false, .arr false 1 (c241.1.Sent.map eS))), (1, some (false, .arr false 1 (c241.1.Got.map eS))), (2, some (false, .arr false 3 (c241.1.Line.map ePacket))), (3, some (true, .box [(.lf false (.sc (.int .i64 c241.1.Window))), (.os 0 1 0 c241.1.Sent.length c241.1.Sent.length false), (.lf false (.sc (.int .i64 c241.1.Base))), (.os 1 1 0 c241.1.Got.length c241.1.Got.length false), (.os 2 3 0 c241.1.Line.length c241.1.Line.length false)]))], 4, 23⟩ [some 7, some 8, some 9, some 2]
theorem w_laws_FnQueue {a0 : (List Int)} {a1 : (List Int)} {r : Bool} (h : laws_FnQueue a0 a1 = some r) : Fn Try.prog 5 [(.lf true (.sl (a0.map eU8))), (.lf true (.sl (a1.map eU8)))] [] 0 (.lf false (.sc (.bool r))) [] 0 := by
  unfold laws_FnQueue at h
  refine fn_code tab_ok mixed [(1000, [(0, 0), (1, 0)]), (1001, [(0, 0), (1, 0), (29, 0)]), (1002, [(4, 0)]), (1003, [(1, 0), (5, 0), (6, 0)]), (1004, [(1, 0), (5, 0), (6, 0), (7, 0), (8, 0), (9, 0)]), (1005, [(1, 0), (6, 0), (7, 0), (8, 0), (9, 0), (10, 0), (11, 0), (12, 0)]), (1006, [(1, 0), (6, 0), (7, 0), (8, 0), (9, 0), (80, 0)]), (1007, [(4, 0)]), (1008, [(1, 0), (6, 0), (7, 0), (8, 0), (81, 0)]), (1009, [(1, 0), (6, 0), (7, 0), (8, 0), (13, 0)]), (1010, [(1, 0), (7, 0), (8, 0), (13, 0), (82, 0), (83, 0), (84, 0)]), (1011, [(1, 0), (7, 0), (8, 0), (13, 0), (82, 0), (83, 0), (84, 0), (85, 0)]), (1012, [(1, 0), (7, 0), (8, 0), (13, 0), (14, 0), (15, 0), (82, 0), (83, 0), (84, 0)]), (1013, [(1, 0), (7, 0), (8, 0), (13, 0), (15, 0), (82, 0), (83, 0), (84, 0), (97, 0)]), (1014, [(1, 0), (7, 0), (8, 0), (13, 0), (82, 0), (83, 0), (84, 0)]), (1015, [(1, 0), (7, 0), (8, 0), (13, 0), (82, 0), (83, 0), (84, 0)]), (1016, [(1, 0), (7, 0), (13, 0), (16, 0), (17, 0)]), (1017, [(1, 0), (159, 0)]), (1018, [(4, 0)]), (1019, [(18, 0), (19, 0)]), (1020, [(18, 0), (19, 0), (20, 0), (21, 0)]), (1021, [(18, 0), (20, 0), (21, 0), (22, 0), (23, 0)]), (1022, [(18, 0), (20, 0), (21, 0), (195, 0)]), (1023, [(4, 0)]), (1024, [(4, 0)]), (2081, []), (4006, []), (4013, []), (4017, []), (4022, [])] Try.func5 rfl rfl (by simp [Try.f5]) (by kernel_rfl) ?_
  simp only [Try.f5]
  refine sA ?_
  refine Bs_if h (fun h hc1 => ?_) (fun h hc1 => ?_)
  · try refine sA ?_
    have he := Option.some.inj h
    subst he
    exact endsA ⟨[(4, (.lf false (.sc (.bool true))))], [], 0, 218⟩ []
  · try refine sA ?_
    obtain ⟨c32, hr2, h⟩ := bind_ok h
    refine Cl_sA (w_spec_DrawPlayQueue hr2) ?_
    try refine sA ?_
    obtain ⟨c86, hr3, h⟩ := bind_ok h
    refine Cl_sA (w_impl_PlayQueue hr3) ?_
    try refine sA ?_
    obtain ⟨c118, hr4, h⟩ := bind_ok h
    refine Cl_sA (w_spec_PlayQueue hr4) ?_
    try refine sA ?_
    obtain ⟨p134, hq5, h⟩ := bind_ok h
    refine Sq_cut (fun s2 => s2 = ⟨[(1, (.lf true (.sl (a1.map eU8)))), (6, (.os 0 3 0 c32.2.length c32.2.length false)), (7, (.pb 1 0)), (8, (.os 2 1 0 c86.2.1.length c86.2.1.length false)), (9, (.lf false (.sc (.bool c86.2.2)))), (80, (.lf false (.sc (.bool p134.t80))))], [(0, some (true, .arr false 3 (c32.2.map eLineStep))), (1, some (true, .box [(.lf false (.sc (.int .i64 c86.1.Window))), (.os 3 1 0 c86.1.Sent.length c86.1.Sent.length false), (.lf false (.sc (.int .i64 c86.1.Base))), (.os 4 1 0 c86.1.Got.length c86.1.Got.length false), (.os 5 3 0 c86.1.Line.length c86.1.Line.length false)])), (2, some (true, .arr false 1 (c86.2.1.map eB))), (3, some (false, .arr false 1 (c86.1.Sent.map eS))), (4, some (false, .arr false 1 (c86.1.Got.map eS))), (5, some (false, .arr false 3 (c86.1.Line.map ePacket)))], 6, 218⟩) ?_ ?_
    · try refine sA ?_
      refine Sp_if hq5 (fun hq5 hc6 => ?_) (fun hq5 hc6 => ?_)
      · try refine sA ?_
        cases hq5
        exact X_cut rfl (weakA [some 0, some 6, some 4, some 1, some 2, some 3])
      · try refine sA ?_
        obtain ⟨c123, hr7, hq5⟩ := bind_ok hq5
        refine Cl_sA (w_laws_sameBools hr7) ?_
        try refine sA ?_
        refine Sp_if hq5 (fun hq5 hc8 => ?_) (fun hq5 hc8 => ?_)
        · try refine sA ?_
          cases hq5
          exact X_cut rfl (weakA [some 0, some 6, some 4, some 1, some 2, some 3])
        · try refine sA ?_
          obtain ⟨c128, hr9, hq5⟩ := bind_ok hq5
          refine Cl_sA (w_laws_sameTexts hr9) ?_
          try refine sA ?_
          refine Sp_if hq5 (fun hq5 hc10 => ?_) (fun hq5 hc10 => ?_)
          · try refine sA ?_
            cases hq5
            exact X_cut rfl (weakA [some 0, some 6, some 4, some 1, some 2, some 3])
          · try refine sA ?_
            obtain ⟨c133, hr11, hq5⟩ := bind_ok hq5
            refine Cl_sA (w_laws_samePackets hr11) ?_
            try refine sA ?_
            refine Sp_if hq5 (fun hq5 hc12 => ?_) (fun hq5 hc12 => ?_)
            · try refine sA ?_
              cases hq5
              exact X_cut rfl (weakA [some 0, some 6, some 4, some 1, some 2, some 3])
            · try refine sA ?_
              cases hq5
              exact X_cut rfl (weakA [some 0, some 6, some 4, some 1, some 2, some 3])
    · intro s2 hJ; subst hJ
      try dsimp only at h
      try refine sA ?_
      refine Bs_if h (fun h hc13 => ?_) (fun h hc13 => ?_)
      · try refine sA ?_
        have he := Option.some.inj h
        subst he
        exact endsA ⟨[(4, (.lf false (.sc (.bool false))))], [], 0, 218⟩ []
      · try refine sA ?_
        obtain ⟨q14, hq14, h⟩ := bind_ok h
        refine Sq_cut (fun s2 => ∃ p178 : Unit, q14 = .inl p178 ∧ s2 = ⟨[(1, (.lf true (.sl (a1.map eU8))))], [], 0, 218⟩) ?_ ?_
        · try refine sA ?_
          refine Bs_if hq14 (fun hq14 hc15 => ?_) (fun hq14 hc15 => ?_)
          · try refine sA ?_
            obtain ⟨y138, hl16, hq14⟩ := bind_ok hq14
            refine W_loopP (fun g135 : laws_FnQueue_G1 => ⟨[(1, (.lf true (.sl (a1.map eU8)))), (7, (.pb 0 0)), (8, (.os 1 1 0 c86.2.1.length c86.2.1.length false)), (13, (.os 2 1 0 g135.c2.length g135.c2.length false)), (82, (.os 3 3 0 c32.2.length c32.2.length false)), (83, (.lf false (.sc (.int .i64 ((c32.2.length : Nat) : Int))))), (84, (.lf false (.sc (.int .i64 g135.t84))))], [(0, some (true, .box [(.lf false (.sc (.int .i64 c86.1.Window))), (.os 4 1 0 c86.1.Sent.length c86.1.Sent.length false), (.lf false (.sc (.int .i64 c86.1.Base))), (.os 5 1 0 c86.1.Got.length c86.1.Got.length false), (.os 6 3 0 c86.1.Line.length c86.1.Line.length false)])), (1, some (true, .arr false 1 (c86.2.1.map eB))), (2, some (true, .arr false 1 (g135.c2.map eS))), (3, some (true, .arr false 3 (c32.2.map eLineStep))), (4, some (false, .arr false 1 (c86.1.Sent.map eS))), (5, some (false, .arr false 1 (c86.1.Got.map eS))), (6, some (false, .arr false 3 (c86.1.Line.map ePacket)))], 7, 218⟩) (laws_FnQueue_L1 c32 c86) _ _ hl16 (weakA [some 1, some 2, none, some 0, some 3, some 4, some 5]) ?_
            · intro n1 g135 z1 hs1 hk1
              unfold laws_FnQueue_L1 at hs1
              try dsimp only at hs1
              refine sA ?_
              refine Bs_if hs1 (fun hs1 hc17 => ?_) (fun hs1 hc17 => ?_)
              · try refine sA ?_
                obtain ⟨hp18, hs1⟩ := guard_some hs1
                have hn18 : g135.t84.toNat < c32.2.length := by first | omega | (simp only [List.length_set, List.length_append, List.length_replicate, List.length_map]; omega)
                try refine sA ?_
                try refine andA ?_
                try refine andB ?_
                try refine sA ?_
                obtain ⟨p137, hq20, hs1⟩ := bind_ok hs1
                refine Sq_cut (fun s2 => s2 = ⟨[(1, (.lf true (.sl (a1.map eU8)))), (7, (.pb 0 0)), (8, (.os 1 1 0 c86.2.1.length c86.2.1.length false)), (13, (.os 2 1 0 g135.c2.length g135.c2.length false)), (15, (.pb 3 0)), (82, (.os 4 3 0 c32.2.length c32.2.length false)), (83, (.lf false (.sc (.int .i64 ((c32.2.length : Nat) : Int))))), (84, (.lf false (.sc (.int .i64 g135.t84)))), (97, (.lf false (.sc (.bool p137.t97))))], [(0, some (true, .box [(.lf false (.sc (.int .i64 c86.1.Window))), (.os 5 1 0 c86.1.Sent.length c86.1.Sent.length false), (.lf false (.sc (.int .i64 c86.1.Base))), (.os 6 1 0 c86.1.Got.length c86.1.Got.length false), (.os 7 3 0 c86.1.Line.length c86.1.Line.length false)])), (1, some (true, .arr false 1 (c86.2.1.map eB))), (2, some (true, .arr false 1 (g135.c2.map eS))), (3, some (true, .box [(.lf false (.sc (.int .i64 ((nth c32.2 g135.t84.toNat).Kind)))), (.lf false (.sc (.int .i64 ((nth c32.2 g135.t84.toNat).K)))), (.lf false (.sc (.string ((nth c32.2 g135.t84.toNat).Text))))])), (4, some (true, .arr false 3 (c32.2.map eLineStep))), (5, some (false, .arr false 1 (c86.1.Sent.map eS))), (6, some (false, .arr false 1 (c86.1.Got.map eS))), (7, some (false, .arr false 3 (c86.1.Line.map ePacket)))], 8, 218⟩) ?_ ?_
                · try refine sA ?_
                  obtain ⟨hp21, hq20⟩ := guard_some hq20
                  have hn21 : g135.t84.toNat < c86.2.1.length := by first | omega | (simp only [List.length_set, List.length_append, List.length_replicate, List.length_map]; omega)
                  try refine sA ?_
                  try refine andA ?_
                  try refine andB ?_
                  try refine sA ?_
                  refine Sp_if hq20 (fun hq20 hc23 => ?_) (fun hq20 hc23 => ?_)
                  · try refine sA ?_
                    cases hq20
                    exact X_cut rfl (weakA [some 0, some 1, some 2, some 7, some 3, some 4, some 5, some 6])
                  · try refine sA ?_
                    cases hq20
                    exact X_cut rfl (weakA [some 0, some 1, some 2, some 7, some 3, some 4, some 5, some 6])
                · intro s2 hJ; subst hJ
                  try dsimp only at hs1
                  try refine sA ?_
                  refine Bs_if hs1 (fun hs1 hc24 => ?_) (fun hs1 hc24 => ?_)
                  · try refine sA ?_
                    obtain ⟨hp25, hs1⟩ := guard_some hs1
                    try refine sA ?_
                    try refine andA ?_
                    cases hs1
                    exact X_backP hk1 (weakA [some 0, some 1, some 9, some 4, some 5, some 6, some 7])
                  · try refine sA ?_
                    cases hs1
                    exact X_backP hk1 (weakA [some 0, some 1, some 2, some 4, some 5, some 6, some 7])
              · try refine sA ?_
                cases hs1
                cases hk1
                try dsimp only at hq14
                try refine sA ?_
                obtain ⟨c173, hr26, hq14⟩ := bind_ok hq14
                refine Cl_sA (w_impl_WaitingIn hr26) ?_
                try refine sA ?_
                obtain ⟨p177, hq27, hq14⟩ := bind_ok hq14
                refine Sq_cut (fun s2 => s2 = ⟨[(1, (.lf true (.sl (a1.map eU8)))), (159, (.lf false (.sc (.bool p177.t159))))], [], 0, 218⟩) ?_ ?_
                · try refine sA ?_
                  obtain ⟨c174, hr28, hq27⟩ := bind_ok hq27
                  refine Cl_sA (w_laws_sameTexts hr28) ?_
                  try refine sA ?_
                  refine Sp_if hq27 (fun hq27 hc29 => ?_) (fun hq27 hc29 => ?_)
                  · try refine sA ?_
                    cases hq27
                    exact X_cut rfl (weakA [])
                  · try refine sA ?_
                    refine Sp_if hq27 (fun hq27 hc30 => ?_) (fun hq27 hc30 => ?_)
                    · try refine sA ?_
                      cases hq27
                      exact X_cut rfl (weakA [])
                    · try refine sA ?_
                      obtain ⟨hp31, hq27⟩ := guard_some hq27
                      have hn31 : c86.1.Got.length ≤ g135.c2.length := by first | omega | (simp only [List.length_set, List.length_append, List.length_replicate, List.length_map]; omega)
                      try refine sA ?_
                      try refine andA ?_
                      obtain ⟨c175, hr32, hq27⟩ := bind_ok hq27
                      refine Cl_shown (w_laws_sameTexts hr32) (by first | rfl | (simp (disch := first | assumption | (simp only [List.length_set]; assumption)) only [go_sem, Nat.reduceAdd, Nat.reduceMul, Nat.reduceSub, Nat.reduceEqDiff, ↓reduceIte, Nat.reduceLT, reduceCtorEq, Nat.reduceLeDiff, Int.reduceToNat, Int.reduceEq, Int.reduceLE, Int.reduceLT, Nat.reduceBEq, hn31]; first | done | rfl) | (simp only [List.length_append, List.length_cons, List.length_nil, List.length_map, List.length_set, List.length_replicate, Nat.zero_add, Nat.reduceAdd]; rfl) | (simp (disch := first | assumption | (simp only [List.length_set]; assumption)) only [go_sem, Nat.reduceAdd, Nat.reduceMul, Nat.reduceSub, Nat.reduceEqDiff, ↓reduceIte, Nat.reduceLT, reduceCtorEq, Nat.reduceLeDiff, Int.reduceToNat, Int.reduceEq, Int.reduceLE, Int.reduceLT, Nat.reduceBEq, hn31]; simp only [List.length_append, List.length_cons, List.length_nil, List.length_map, List.length_set, List.length_replicate, Nat.zero_add, Nat.reduceAdd]; rfl)) (FitAll.refl _) (.inr ⟨rfl, by simp [freeOb, free1]⟩) ?_
                      try refine sA ?_
                      refine Sp_if hq27 (fun hq27 hc33 => ?_) (fun hq27 hc33 => ?_)
                      · try refine sA ?_
                        cases hq27
                        exact X_cut rfl (weakA [])
                      · try refine sA ?_
                        refine Sp_if hq27 (fun hq27 hc34 => ?_) (fun hq27 hc34 => ?_)
                        · try refine sA ?_
                          cases hq27
                          exact X_cut rfl (weakA [])
                        · try refine sA ?_
                          refine Sp_if hq27 (fun hq27 hc35 => ?_) (fun hq27 hc35 => ?_)
                          · try refine sA ?_
                            cases hq27
                            exact X_cut rfl (weakA [])
                          · try refine sA ?_
                            refine Sp_if hq27 (fun hq27 hc36 => ?_) (fun hq27 hc36 => ?_)
                            · try refine sA ?_
                              cases hq27
                              exact X_cut rfl (weakA [])
                            · try refine sA ?_
                              obtain ⟨c176, hr37, hq27⟩ := bind_ok hq27
                              refine Cl_shown (w_impl_GoodQueue hr37) (by first | rfl | (simp (disch := first | assumption | (simp only [List.length_set]; assumption)) only [go_sem, Nat.reduceAdd, Nat.reduceMul, Nat.reduceSub, Nat.reduceEqDiff, ↓reduceIte, Nat.reduceLT, reduceCtorEq, Nat.reduceLeDiff, Int.reduceToNat, Int.reduceEq, Int.reduceLE, Int.reduceLT, Nat.reduceBEq, hn31]; first | done | rfl) | (simp only [List.length_append, List.length_cons, List.length_nil, List.length_map, List.length_set, List.length_replicate, Nat.zero_add, Nat.reduceAdd]; rfl) | (simp (disch := first | assumption | (simp only [List.length_set]; assumption)) only [go_sem, Nat.reduceAdd, Nat.reduceMul, Nat.reduceSub, Nat.reduceEqDiff, ↓reduceIte, Nat.reduceLT, reduceCtorEq, Nat.reduceLeDiff, Int.reduceToNat, Int.reduceEq, Int.reduceLE, Int.reduceLT, Nat.reduceBEq, hn31]; simp only [List.length_append, List.length_cons, List.length_nil, List.length_map, List.length_set, List.length_replicate, Nat.zero_add, Nat.reduceAdd]; rfl)) (FitAll.refl _) (.inr ⟨rfl, by simp [freeOb, free1]⟩) ?_
                              try refine sA ?_
                              cases hq27
                              exact X_cut rfl (weakA [])
                · intro s2 hJ; subst hJ
                  try dsimp only at hq14
                  try refine sA ?_
                  refine Bs_if hq14 (fun hq14 hc38 => ?_) (fun hq14 hc38 => ?_)
                  · try refine sA ?_
                    cases hq14
                    try dsimp only at h
                    have he := Option.some.inj h
                    subst he
                    exact endsA ⟨[(4, (.lf false (.sc (.bool false))))], [], 0, 218⟩ []
                  · try refine sA ?_
                    cases hq14
                    exact X_cut ⟨_, rfl, rfl⟩ (weakA [])
          · try refine sA ?_
            cases hq14
            exact X_cut ⟨_, rfl, rfl⟩ (weakA [])
        · intro s2 hJ; obtain ⟨p178, e, rfl⟩ := hJ; subst e
          try dsimp only at h
          try refine sA ?_
          obtain ⟨c198, hr39, h⟩ := bind_ok h
          refine Cl_sA (w_spec_DrawStepQueue hr39) ?_
          try refine sA ?_
          obtain ⟨c205, hr40, h⟩ := bind_ok h
          refine Cl_sA (w_impl_StepQueue hr40) ?_
          try refine sA ?_
          obtain ⟨c242, hr41, h⟩ := bind_ok h
          refine Cl_sA (w_spec_StepQueue hr41) ?_
          try refine sA ?_
          obtain ⟨p245, hq42, h⟩ := bind_ok h
          refine Sq_cut (fun s2 => s2 = ⟨[(18, (.pb 0 0)), (20, (.pb 1 0)), (21, (.lf false (.sc (.bool c205.2)))), (195, (.lf false (.sc (.bool p245.t195))))], [(0, some (true, .box [(.lf false (.sc (.int .i64 c198.1.Window))), (.os 2 1 0 c198.1.Sent.length c198.1.Sent.length false), (.lf false (.sc (.int .i64 c198.1.Base))), (.os 3 1 0 c198.1.Got.length c198.1.Got.length false), (.os 4 3 0 c198.1.Line.length c198.1.Line.length false)])), (1, some (true, .box [(.lf false (.sc (.int .i64 c205.1.Window))), (.os 5 1 0 c205.1.Sent.length c205.1.Sent.length false), (.lf false (.sc (.int .i64 c205.1.Base))), (.os 6 1 0 c205.1.Got.length c205.1.Got.length false), (.os 7 3 0 c205.1.Line.length c205.1.Line.length false)])), (2, some (true, .arr false 1 (c198.1.Sent.map eS))), (3, some (true, .arr false 1 (c198.1.Got.map eS))), (4, some (true, .arr false 3 (c198.1.Line.map ePacket))), (5, some (false, .arr false 1 (c205.1.Sent.map eS))), (6, some (false, .arr false 1 (c205.1.Got.map eS))), (7, some (false, .arr false 3 (c205.1.Line.map ePacket)))], 8, 218⟩) ?_ ?_
          · try refine sA ?_
            refine Sp_if hq42 (fun hq42 hc43 => ?_) (fun hq42 hc43 => ?_)
            · try refine sA ?_
              cases hq42
              exact X_cut rfl (weakA [some 5, some 11, some 0, some 1, some 2, some 7, some 8, some 9])
            · try refine sA ?_
              obtain ⟨c243, hr44, hq42⟩ := bind_ok hq42
              refine Cl_sA (w_laws_sameTexts hr44) ?_
              try refine sA ?_
              refine Sp_if hq42 (fun hq42 hc45 => ?_) (fun hq42 hc45 => ?_)
              · try refine sA ?_
                cases hq42
                exact X_cut rfl (weakA [some 5, some 11, some 0, some 1, some 2, some 7, some 8, some 9])
              · try refine sA ?_
                obtain ⟨c244, hr46, hq42⟩ := bind_ok hq42
                refine Cl_sA (w_laws_samePackets hr46) ?_
                try refine sA ?_
                cases hq42
                exact X_cut rfl (weakA [some 5, some 11, some 0, some 1, some 2, some 7, some 8, some 9])
          · intro s2 hJ; subst hJ
            try dsimp only at h
            try refine sA ?_
            refine Bs_if h (fun h hc47 => ?_) (fun h hc47 => ?_)
            · try refine sA ?_
              have he := Option.some.inj h
              subst he
              exact endsA ⟨[(4, (.lf false (.sc (.bool false))))], [], 0, 218⟩ []
            · try refine sA ?_
              refine Sp_if h (fun h hc48 => ?_) (fun h hc48 => ?_)
              · try refine sA ?_
                have he := Option.some.inj h
                subst he
                exact endsA ⟨[(4, (.lf false (.sc (.bool true))))], [], 0, 218⟩ []
              · try refine sA ?_
                obtain ⟨c246, hr49, h⟩ := bind_ok h
                refine Cl_sA (w_impl_GoodQueue hr49) ?_
                try refine sA ?_
                refine Sp_if h (fun h hc50 => ?_) (fun h hc50 => ?_)
                · try refine sA ?_
                  refine Sp_if h (fun h hc51 => ?_) (fun h hc51 => ?_)
                  · try refine sA ?_
                    have he := Option.some.inj h
                    subst he
                    exact endsA ⟨[(4, (.lf false (.sc (.bool (decide (c205.1.Base ≥ c198.1.Base))))))], [], 0, 218⟩ []
                  · try refine sA ?_
                    have he := Option.some.inj h
                    subst he
                    exact endsA ⟨[(4, (.lf false (.sc (.bool false))))], [], 0, 218⟩ []
                · try refine sA ?_
                  have he := Option.some.inj h
                  subst he
                  exact endsA ⟨[(4, (.lf false (.sc (.bool false))))], [], 0, 218⟩ []
end Go.TL.Ytoabnifimfcbcaa

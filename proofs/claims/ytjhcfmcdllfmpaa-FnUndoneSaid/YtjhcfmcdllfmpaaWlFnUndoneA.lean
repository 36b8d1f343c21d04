import Derived.Test.YtjhcfmcdllfmpaaTlTabr3b
import Derived.Test.YtjhcfmcdllfmpaaEnRSG
import Derived.Test.YtjhcfmcdllfmpaaTlAuto
import Derived.Test.YtjhcfmcdllfmpaaTlUseW
import Derived.Test.YtjhcfmcdllfmpaaTlGs
set_option linter.unusedSimpArgs false
set_option linter.unusedVariables false
set_option linter.unusedVariables false
set_option linter.unusedSimpArgs false
set_option maxRecDepth 8000
set_option maxHeartbeats 0
namespace Go.TL.Ytjhcfmcdllfmpaa
open Go Go.Proofs Go.TL
theorem w_spec_l1Cur_next_o {a0 : l1CurT} {r : (Int × l1CurT)} (h : spec_l1Cur_next_o a0 = some r) : Fn Try.prog 71 [(.pb 0 0)] [(0, some (false, .box [(.lf true (.sl (a0.code.map eU8))), (.lf false (.sc (.int .i64 a0.at_))), (.lf false (.sc (.int .u64 a0.seed)))]))] 1 (.lf false (.sc (.int .i64 r.1))) [(0, some (false, .box [(.lf true (.sl (r.2.code.map eU8))), (.lf false (.sc (.int .i64 r.2.at_))), (.lf false (.sc (.int .u64 r.2.seed)))]))] 1 := by
  unfold spec_l1Cur_next_o at h
  refine fn_code tab_ok mixed [(1000, [(0, 0)]), (1001, [(0, 0), (3, 0)]), (1002, [(0, 0), (3, 0), (13, 0)]), (1003, [(0, 0), (3, 0)]), (1004, [(0, 0), (3, 0)]), (1005, [(0, 0), (3, 0)]), (1006, [(0, 0), (3, 0), (53, 0)]), (1007, [(2, 0)]), (1008, [(2, 0)]), (2013, [])] Try.func71 rfl rfl (by simp [Try.f71]) (by kernel_rfl) ?_
  simp only [Try.f71]
  refine sA ?_
  obtain ⟨p2, hq1, h⟩ := bind_ok h
  refine Sq_cut (fun s2 => s2 = ⟨[(0, (.pb 0 0)), (3, (.lf false (.sc (.int .i64 p2.t3))))], [(0, some (false, .box [(.lf true (.sl (a0.code.map eU8))), (.lf false (.sc (.int .i64 a0.at_))), (.lf false (.sc (.int .u64 a0.seed)))]))], 1, 62⟩) ?_ ?_
  · try refine sA ?_
    refine Bs_if hq1 (fun hq1 hc2 => ?_) (fun hq1 hc2 => ?_)
    · try refine sA ?_
      obtain ⟨hp3, hq1⟩ := guard_some hq1
      have hn3 : a0.at_.toNat < a0.code.length := by first | omega | (simp only [List.length_set, List.length_append, List.length_replicate, List.length_map]; omega)
      try refine sA ?_
      try refine andA ?_
      cases hq1
      exact X_cut rfl (weakA [some 0])
    · try refine sA ?_
      cases hq1
      exact X_cut rfl (weakA [some 0])
  · intro s2 hJ; subst hJ
    try dsimp only at h
    try refine sA ?_
    refine Bs_if h (fun h hc4 => ?_) (fun h hc4 => ?_)
    · try refine sA ?_
      have he := Option.some.inj h
      subst he
      exact endsA ⟨[(2, (.lf false (.sc (.int .i64 p2.t3))))], [(0, some (false, .box [(.lf true (.sl (a0.code.map eU8))), (.lf false (.sc (.int .i64 (wI (a0.at_ + 1))))), (.lf false (.sc (.int .u64 (wU ((wU ((wU (a0.seed * 6364136223846793005)) + (wU p2.t3))) + 1442695040888963407)))))]))], 1, 62⟩ [some 0]
    · try refine sA ?_
      have he := Option.some.inj h
      subst he
      exact endsA ⟨[(2, (.lf false (.sc (.int .i64 (wI (wU (bvAnd 64 (shR 64 (wU ((wU ((wU (a0.seed * 6364136223846793005)) + (wU p2.t3))) + 1442695040888963407)) 40) 255)))))))], [(0, some (false, .box [(.lf true (.sl (a0.code.map eU8))), (.lf false (.sc (.int .i64 (wI (a0.at_ + 1))))), (.lf false (.sc (.int .u64 (wU ((wU ((wU (a0.seed * 6364136223846793005)) + (wU p2.t3))) + 1442695040888963407)))))]))], 1, 62⟩ [some 0]
theorem w_spec_l1Cur_pick_o {a0 : l1CurT} {a1 : Int} {r : (Int × l1CurT)} (h : spec_l1Cur_pick_o a0 a1 = some r) : Fn Try.prog 60 [(.pb 0 0), (.lf false (.sc (.int .i64 a1)))] [(0, some (false, .box [(.lf true (.sl (a0.code.map eU8))), (.lf false (.sc (.int .i64 a0.at_))), (.lf false (.sc (.int .u64 a0.seed)))]))] 1 (.lf false (.sc (.int .i64 r.1))) [(0, some (false, .box [(.lf true (.sl (r.2.code.map eU8))), (.lf false (.sc (.int .i64 r.2.at_))), (.lf false (.sc (.int .u64 r.2.seed)))]))] 1 := by
  unfold spec_l1Cur_pick_o at h
  refine fn_code tab_ok mixed [(1000, [(0, 0), (1, 0)]), (1001, [(0, 0), (1, 0), (7, 0)]), (1002, [(4, 0)]), (1003, [(0, 0), (1, 0), (5, 0)]), (1004, [(0, 0), (1, 0), (5, 0), (11, 0)]), (1005, [(1, 0), (5, 0)]), (1006, [(4, 0)])] Try.func60 rfl rfl (by simp [Try.f60]) (by kernel_rfl) ?_
  simp only [Try.f60]
  refine sA ?_
  refine Bs_if h (fun h hc1 => ?_) (fun h hc1 => ?_)
  · try refine sA ?_
    have he := Option.some.inj h
    subst he
    exact endsA ⟨[(4, (.lf false (.sc (.int .i64 0))))], [(0, some (false, .box [(.lf true (.sl (a0.code.map eU8))), (.lf false (.sc (.int .i64 a0.at_))), (.lf false (.sc (.int .u64 a0.seed)))]))], 1, 20⟩ [some 0]
  · try refine sA ?_
    obtain ⟨c3, hr2, h⟩ := bind_ok h
    refine Cl_hA [0] (w_spec_l1Cur_next_o hr2) ?_
    try refine sA ?_
    refine Bs_if h (fun h hc3 => ?_) (fun h hc3 => ?_)
    · try refine sA ?_
      obtain ⟨c4, hr4, h⟩ := bind_ok h
      refine Cl_hA [0] (w_spec_l1Cur_next_o hr4) ?_
      try refine sA ?_
      obtain ⟨hp5, h⟩ := guard_some h
      try refine sA ?_
      try refine andA ?_
      have he := Option.some.inj h
      subst he
      exact endsA ⟨[(4, (.lf false (.sc (.int .i64 ((wI ((wI (c3.1 * 256)) + c4.1)).tmod a1)))))], [(0, some (false, .box [(.lf true (.sl (c4.2.code.map eU8))), (.lf false (.sc (.int .i64 c4.2.at_))), (.lf false (.sc (.int .u64 c4.2.seed)))]))], 1, 20⟩ [some 0]
    · try refine sA ?_
      obtain ⟨hp6, h⟩ := guard_some h
      try refine sA ?_
      try refine andA ?_
      have he := Option.some.inj h
      subst he
      exact endsA ⟨[(4, (.lf false (.sc (.int .i64 (c3.1.tmod a1)))))], [(0, some (false, .box [(.lf true (.sl (c3.2.code.map eU8))), (.lf false (.sc (.int .i64 c3.2.at_))), (.lf false (.sc (.int .u64 c3.2.seed)))]))], 1, 20⟩ [some 0]
theorem w_spec_l1Cur_one_o {a0 : l1CurT} {a1 : Int} {r : (Bool × l1CurT)} (h : spec_l1Cur_one_o a0 a1 = some r) : Fn Try.prog 27 [(.pb 0 0), (.lf false (.sc (.int .i64 a1)))] [(0, some (false, .box [(.lf true (.sl (a0.code.map eU8))), (.lf false (.sc (.int .i64 a0.at_))), (.lf false (.sc (.int .u64 a0.seed)))]))] 1 (.lf false (.sc (.bool r.1))) [(0, some (false, .box [(.lf true (.sl (r.2.code.map eU8))), (.lf false (.sc (.int .i64 r.2.at_))), (.lf false (.sc (.int .u64 r.2.seed)))]))] 1 := by
  unfold spec_l1Cur_one_o at h
  refine fn_code tab_ok mixed [] Try.func27 rfl rfl (by simp [Try.f27]) (by kernel_rfl) ?_
  simp only [Try.f27]
  refine sA ?_
  obtain ⟨c11, hr1, h⟩ := bind_ok h
  refine Cl_hA [0] (w_spec_l1Cur_pick_o hr1) ?_
  try refine sA ?_
  have he := Option.some.inj h
  subst he
  exact endsA ⟨[(4, (.lf false (.sc (.bool (c11.1 == 0)))))], [(0, some (false, .box [(.lf true (.sl (c11.2.code.map eU8))), (.lf false (.sc (.int .i64 c11.2.at_))), (.lf false (.sc (.int .u64 c11.2.seed)))]))], 1, 9⟩ [some 0]
theorem w_spec_l1In {a0 : Int} {a1 : Int} {a2 : Int} {r : Bool} (h : spec_l1In a0 a1 a2 = some r) : Fn Try.prog 45 [(.lf false (.sc (.int .i64 a0))), (.lf false (.sc (.int .i64 a1))), (.lf false (.sc (.int .i64 a2)))] [] 0 (.lf false (.sc (.bool r))) [] 0 := by
  unfold spec_l1In at h
  refine fn_code tab_ok mixed [] Try.func45 rfl rfl (by simp [Try.f45]) (by kernel_rfl) ?_
  simp only [Try.f45]
  refine sA ?_
  refine Sp_if h (fun h hc1 => ?_) (fun h hc1 => ?_)
  · try refine sA ?_
    have he := Option.some.inj h
    subst he
    exact endsA ⟨[(6, (.lf false (.sc (.bool (decide (a0 ≤ a2))))))], [], 0, 15⟩ []
  · try refine sA ?_
    have he := Option.some.inj h
    subst he
    exact endsA ⟨[(6, (.lf false (.sc (.bool false))))], [], 0, 15⟩ []
theorem w_spec_l9Accounts {a0 : (List Int)} {r : Bool} (h : spec_l9Accounts a0 = some r) : Fn Try.prog 44 [(.lf true (.sl (a0.map eI)))] [] 0 (.lf false (.sc (.bool r))) [] 0 := by
  unfold spec_l9Accounts at h
  refine fn_code tab_ok mixed [(1000, [(0, 0)]), (1001, [(0, 0), (5, 0), (6, 0), (7, 0)]), (1002, [(0, 0), (5, 0), (6, 0), (7, 0), (8, 0)]), (1003, [(0, 0), (4, 0), (5, 0), (6, 0), (7, 0)]), (1004, [(0, 0), (5, 0), (6, 0), (7, 0), (13, 0)]), (1005, [(2, 0)]), (1006, [(0, 0), (5, 0), (6, 0), (7, 0)]), (1007, [(2, 0)])] Try.func44 rfl rfl (by simp [Try.f44]) (by kernel_rfl) ?_
  simp only [Try.f44]
  refine sA ?_
  obtain ⟨y26, hl1, h⟩ := bind_ok h
  refine W_loopP (fun g23 : spec_l9Accounts_G1 => ⟨[(0, (.lf true (.sl (a0.map eI)))), (5, (.lf true (.sl (a0.map eI)))), (6, (.lf false (.sc (.int .i64 ((a0.length : Nat) : Int))))), (7, (.lf false (.sc (.int .i64 g23.t7))))], [], 0, 18⟩) (spec_l9Accounts_L1 a0) _ _ hl1 (weakA []) ?_
  · intro n1 g23 z1 hs1 hk1
    unfold spec_l9Accounts_L1 at hs1
    try dsimp only at hs1
    refine sA ?_
    refine Bs_if hs1 (fun hs1 hc2 => ?_) (fun hs1 hc2 => ?_)
    · try refine sA ?_
      obtain ⟨hp3, hs1⟩ := guard_some hs1
      have hn3 : g23.t7.toNat < a0.length := by first | omega | (simp only [List.length_set, List.length_append, List.length_replicate, List.length_map]; omega)
      try refine sA ?_
      try refine andA ?_
      obtain ⟨c25, hr4, hs1⟩ := bind_ok hs1
      refine Cl_sA (w_spec_l1In hr4) ?_
      try refine sA ?_
      refine Bs_if hs1 (fun hs1 hc5 => ?_) (fun hs1 hc5 => ?_)
      · try refine sA ?_
        cases hs1
        cases hk1
        try dsimp only at h
        try refine sA ?_
        have he := Option.some.inj h
        subst he
        exact endsA ⟨[(2, (.lf false (.sc (.bool false))))], [], 0, 18⟩ []
      · try refine sA ?_
        cases hs1
        exact X_backP hk1 (weakA [])
    · try refine sA ?_
      cases hs1
      cases hk1
      try dsimp only at h
      try refine sA ?_
      obtain ⟨c30, hr6, h⟩ := bind_ok h
      refine Cl_sA (w_spec_l1In hr6) ?_
      try refine sA ?_
      have he := Option.some.inj h
      subst he
      exact endsA ⟨[(2, (.lf false (.sc (.bool c30))))], [], 0, 18⟩ []
theorem w_spec_l9Move {a0 : MoveT} {a1 : Int} {r : Bool} (h : spec_l9Move a0 a1 = some r) : Fn Try.prog 46 [(.ag [(.lf false (.sc (.int .i64 a0.From))), (.lf false (.sc (.int .i64 a0.To))), (.lf false (.sc (.int .i64 a0.Many)))]), (.lf false (.sc (.int .i64 a1)))] [] 0 (.lf false (.sc (.bool r))) [] 0 := by
  unfold spec_l9Move at h
  refine fn_code tab_ok mixed [] Try.func46 rfl rfl (by simp [Try.f46]) (by kernel_rfl) ?_
  simp only [Try.f46]
  refine sA ?_
  obtain ⟨c35, hr1, h⟩ := bind_ok h
  refine Cl_sA (w_spec_l1In hr1) ?_
  try refine sA ?_
  refine Sp_if h (fun h hc2 => ?_) (fun h hc2 => ?_)
  · try refine sA ?_
    obtain ⟨c36, hr3, h⟩ := bind_ok h
    refine Cl_sA (w_spec_l1In hr3) ?_
    try refine sA ?_
    refine Sp_if h (fun h hc4 => ?_) (fun h hc4 => ?_)
    · try refine sA ?_
      refine Sp_if h (fun h hc5 => ?_) (fun h hc5 => ?_)
      · try refine sA ?_
        obtain ⟨c37, hr6, h⟩ := bind_ok h
        refine Cl_sA (w_spec_l1In hr6) ?_
        try refine sA ?_
        have he := Option.some.inj h
        subst he
        exact endsA ⟨[(4, (.lf false (.sc (.bool c37))))], [], 0, 29⟩ []
      · try refine sA ?_
        have he := Option.some.inj h
        subst he
        exact endsA ⟨[(4, (.lf false (.sc (.bool false))))], [], 0, 29⟩ []
    · try refine sA ?_
      have he := Option.some.inj h
      subst he
      exact endsA ⟨[(4, (.lf false (.sc (.bool false))))], [], 0, 29⟩ []
  · try refine sA ?_
    have he := Option.some.inj h
    subst he
    exact endsA ⟨[(4, (.lf false (.sc (.bool false))))], [], 0, 29⟩ []
theorem w_spec_l9Back {a0 : MoveT} {r : MoveT} (h : spec_l9Back a0 = some r) : Fn Try.prog 48 [(.ag [(.lf false (.sc (.int .i64 a0.From))), (.lf false (.sc (.int .i64 a0.To))), (.lf false (.sc (.int .i64 a0.Many)))])] [] 0 (.ag [(.lf false (.sc (.int .i64 r.From))), (.lf false (.sc (.int .i64 r.To))), (.lf false (.sc (.int .i64 r.Many)))]) [] 1 := by
  unfold spec_l9Back at h
  refine fn_code tab_ok mixed [] Try.func48 rfl rfl (by simp [Try.f48]) (by kernel_rfl) ?_
  simp only [Try.f48]
  refine sA ?_
  have he := Option.some.inj h
  subst he
  exact endsA ⟨[(2, (.pb 0 0))], [(0, some (true, .box [(.lf false (.sc (.int .i64 a0.To))), (.lf false (.sc (.int .i64 a0.From))), (.lf false (.sc (.int .i64 a0.Many)))]))], 1, 10⟩ [some 1]
theorem w_spec_l9Do {a0 : (List Int)} {a1 : MoveT} {r : ((List Int) × Bool)} (h : spec_l9Do a0 a1 = some r) : Fn Try.prog 47 [(.lf true (.sl (a0.map eI))), (.ag [(.lf false (.sc (.int .i64 a1.From))), (.lf false (.sc (.int .i64 a1.To))), (.lf false (.sc (.int .i64 a1.Many)))])] [] 0 (.tu [(.os 0 1 0 r.1.length r.1.length false), (.lf false (.sc (.bool r.2)))]) [(0, some (true, .arr false 1 (r.1.map eI)))] 1 := by
  unfold spec_l9Do at h
  refine fn_code tab_ok mixed [(1000, [(0, 0), (3, 0)]), (1001, [(3, 0), (6, 0)]), (1002, [(3, 0), (6, 0)]), (1003, [(3, 0), (6, 0)]), (1004, [(4, 0), (5, 0)])] Try.func47 rfl rfl (by simp [Try.f47]) (by kernel_rfl) ?_
  simp only [Try.f47]
  refine sA ?_
  obtain ⟨hp1, h⟩ := guard_some h
  try refine sA ?_
  try refine andA ?_
  obtain ⟨hp2, h⟩ := guard_some h
  have hn2 : a1.From.toNat < a0.length := by first | omega | (simp only [List.length_set, List.length_append, List.length_replicate, List.length_map]; omega)
  try refine sA ?_
  try refine andA ?_
  try refine andB ?_
  try refine sA ?_
  obtain ⟨hp4, h⟩ := guard_some h
  have hn4 : a1.From.toNat < a0.length := by first | omega | (simp only [List.length_set, List.length_append, List.length_replicate, List.length_map]; omega)
  try refine sA ?_
  try refine andA ?_
  try refine andB ?_
  try refine sA ?_
  obtain ⟨hp6, h⟩ := guard_some h
  have hn6 : a1.To.toNat < a0.length := by first | omega | (simp only [List.length_set, List.length_append, List.length_replicate, List.length_map]; omega)
  try refine sA ?_
  try refine andA ?_
  try refine andB ?_
  try refine sA ?_
  obtain ⟨hp8, h⟩ := guard_some h
  have hn8 : a1.To.toNat < a0.length := by first | omega | (simp only [List.length_set, List.length_append, List.length_replicate, List.length_map]; omega)
  try refine sA ?_
  try refine andA ?_
  try refine andB ?_
  try refine sA ?_
  obtain ⟨hp10, h⟩ := guard_some h
  have hn10 : a1.From.toNat < a0.length := by first | omega | (simp only [List.length_set, List.length_append, List.length_replicate, List.length_map]; omega)
  try refine sA ?_
  try refine andA ?_
  try refine andB ?_
  try refine sA ?_
  refine Sp_if h (fun h hc12 => ?_) (fun h hc12 => ?_)
  · try refine sA ?_
    obtain ⟨hp13, h⟩ := guard_some h
    have hn13 : a1.To.toNat < a0.length := by first | omega | (simp only [List.length_set, List.length_append, List.length_replicate, List.length_map]; omega)
    try refine sA ?_
    try refine andA ?_
    try refine andB ?_
    try refine sA ?_
    have he := Option.some.inj h
    subst he
    exact endsA ⟨[(4, (.os 0 1 0 ((((([]) ++ a0).set a1.From.toNat (wI ((nth (([]) ++ a0) a1.From.toNat) - a1.Many))).set a1.To.toNat (wI ((nth ((([]) ++ a0).set a1.From.toNat (wI ((nth (([]) ++ a0) a1.From.toNat) - a1.Many))) a1.To.toNat) + a1.Many))).length) ((((([]) ++ a0).set a1.From.toNat (wI ((nth (([]) ++ a0) a1.From.toNat) - a1.Many))).set a1.To.toNat (wI ((nth ((([]) ++ a0).set a1.From.toNat (wI ((nth (([]) ++ a0) a1.From.toNat) - a1.Many))) a1.To.toNat) + a1.Many))).length) false)), (5, (.lf false (.sc (.bool (decide ((nth (((([]) ++ a0).set a1.From.toNat (wI ((nth (([]) ++ a0) a1.From.toNat) - a1.Many))).set a1.To.toNat (wI ((nth ((([]) ++ a0).set a1.From.toNat (wI ((nth (([]) ++ a0) a1.From.toNat) - a1.Many))) a1.To.toNat) + a1.Many))) a1.To.toNat) ≤ 1000000))))))], [(0, some (true, .arr false 1 ((((([]) ++ a0).set a1.From.toNat (wI ((nth (([]) ++ a0) a1.From.toNat) - a1.Many))).set a1.To.toNat (wI ((nth ((([]) ++ a0).set a1.From.toNat (wI ((nth (([]) ++ a0) a1.From.toNat) - a1.Many))) a1.To.toNat) + a1.Many))).map eI)))], 1, 43⟩ [some 2]
  · try refine sA ?_
    have he := Option.some.inj h
    subst he
    exact endsA ⟨[(4, (.os 0 1 0 ((((([]) ++ a0).set a1.From.toNat (wI ((nth (([]) ++ a0) a1.From.toNat) - a1.Many))).set a1.To.toNat (wI ((nth ((([]) ++ a0).set a1.From.toNat (wI ((nth (([]) ++ a0) a1.From.toNat) - a1.Many))) a1.To.toNat) + a1.Many))).length) ((((([]) ++ a0).set a1.From.toNat (wI ((nth (([]) ++ a0) a1.From.toNat) - a1.Many))).set a1.To.toNat (wI ((nth ((([]) ++ a0).set a1.From.toNat (wI ((nth (([]) ++ a0) a1.From.toNat) - a1.Many))) a1.To.toNat) + a1.Many))).length) false)), (5, (.lf false (.sc (.bool false))))], [(0, some (true, .arr false 1 ((((([]) ++ a0).set a1.From.toNat (wI ((nth (([]) ++ a0) a1.From.toNat) - a1.Many))).set a1.To.toNat (wI ((nth ((([]) ++ a0).set a1.From.toNat (wI ((nth (([]) ++ a0) a1.From.toNat) - a1.Many))) a1.To.toNat) + a1.Many))).map eI)))], 1, 43⟩ [some 2]
theorem w_spec_l9Do_F {a0 : (List Int)} {a1 : MoveT} {r : ((List Int) × Bool)} (h : spec_l9Do_F a0 a1 = some r) : Fn Try.prog 47 [(.lf true (.sl (a0.map eI))), (.ag [(.lf false (.sc (.int .i64 a1.From))), (.lf false (.sc (.int .i64 a1.To))), (.lf false (.sc (.int .i64 a1.Many)))])] [] 0 (.tu [(.lf true (.sl (r.1.map eI))), (.lf false (.sc (.bool r.2)))]) [] 0 := by
  unfold spec_l9Do_F at h
  refine fn_code tab_ok mixed [(1000, [(0, 0), (3, 0)]), (1001, [(3, 0), (6, 0)]), (1002, [(3, 0), (6, 0)]), (1003, [(3, 0), (6, 0)]), (1004, [(4, 0), (5, 0)])] Try.func47 rfl rfl (by simp [Try.f47]) (by kernel_rfl) ?_
  simp only [Try.f47]
  refine sA ?_
  obtain ⟨hp1, h⟩ := guard_some h
  try refine sA ?_
  try refine andA ?_
  obtain ⟨hp2, h⟩ := guard_some h
  have hn2 : a1.From.toNat < a0.length := by first | omega | (simp only [List.length_set, List.length_append, List.length_replicate, List.length_map]; omega)
  try refine sA ?_
  try refine andA ?_
  try refine andB ?_
  try refine sA ?_
  obtain ⟨hp4, h⟩ := guard_some h
  have hn4 : a1.From.toNat < a0.length := by first | omega | (simp only [List.length_set, List.length_append, List.length_replicate, List.length_map]; omega)
  try refine sA ?_
  try refine andA ?_
  try refine andB ?_
  try refine sA ?_
  obtain ⟨hp6, h⟩ := guard_some h
  have hn6 : a1.To.toNat < a0.length := by first | omega | (simp only [List.length_set, List.length_append, List.length_replicate, List.length_map]; omega)
  try refine sA ?_
  try refine andA ?_
  try refine andB ?_
  try refine sA ?_
  obtain ⟨hp8, h⟩ := guard_some h
  have hn8 : a1.To.toNat < a0.length := by first | omega | (simp only [List.length_set, List.length_append, List.length_replicate, List.length_map]; omega)
  try refine sA ?_
  try refine andA ?_
  try refine andB ?_
  try refine sA ?_
  obtain ⟨hp10, h⟩ := guard_some h
  have hn10 : a1.From.toNat < a0.length := by first | omega | (simp only [List.length_set, List.length_append, List.length_replicate, List.length_map]; omega)
  try refine sA ?_
  try refine andA ?_
  try refine andB ?_
  try refine sA ?_
  refine Sp_if h (fun h hc12 => ?_) (fun h hc12 => ?_)
  · try refine sA ?_
    obtain ⟨hp13, h⟩ := guard_some h
    have hn13 : a1.To.toNat < a0.length := by first | omega | (simp only [List.length_set, List.length_append, List.length_replicate, List.length_map]; omega)
    try refine sA ?_
    try refine andA ?_
    try refine andB ?_
    try refine sA ?_
    have he := Option.some.inj h
    subst he
    refine ends_frz 2 ?_
    try refine sA ?_
    exact endsA ⟨[(4, (.lf true (.sl ((((([]) ++ a0).set a1.From.toNat (wI ((nth (([]) ++ a0) a1.From.toNat) - a1.Many))).set a1.To.toNat (wI ((nth ((([]) ++ a0).set a1.From.toNat (wI ((nth (([]) ++ a0) a1.From.toNat) - a1.Many))) a1.To.toNat) + a1.Many))).map eI)))), (5, (.lf false (.sc (.bool (decide ((nth (((([]) ++ a0).set a1.From.toNat (wI ((nth (([]) ++ a0) a1.From.toNat) - a1.Many))).set a1.To.toNat (wI ((nth ((([]) ++ a0).set a1.From.toNat (wI ((nth (([]) ++ a0) a1.From.toNat) - a1.Many))) a1.To.toNat) + a1.Many))) a1.To.toNat) ≤ 1000000))))))], [], 0, 43⟩ []
  · try refine sA ?_
    have he := Option.some.inj h
    subst he
    refine ends_frz 2 ?_
    try refine sA ?_
    exact endsA ⟨[(4, (.lf true (.sl ((((([]) ++ a0).set a1.From.toNat (wI ((nth (([]) ++ a0) a1.From.toNat) - a1.Many))).set a1.To.toNat (wI ((nth ((([]) ++ a0).set a1.From.toNat (wI ((nth (([]) ++ a0) a1.From.toNat) - a1.Many))) a1.To.toNat) + a1.Many))).map eI)))), (5, (.lf false (.sc (.bool false))))], [], 0, 43⟩ []
theorem w_spec_GoodSaga {a0 : SagaT} {r : Bool} (h : spec_GoodSaga a0 = some r) : Fn Try.prog 19 [(.ag [(.lf true (.sl (a0.Accounts.map eI))), (.lf true (.sl (a0.Moves.map eMove))), (.lf false (.sc (.int .i64 a0.Done))), (.lf false (.sc (.bool a0.Undoing)))])] [] 0 (.lf false (.sc (.bool r))) [] 0 := by
  unfold spec_GoodSaga at h
  refine fn_code tab_ok mixed [(1000, [(1, 0)]), (1001, [(1, 0), (27, 0)]), (1002, [(2, 0)]), (1003, [(1, 0), (29, 0), (30, 0), (31, 0)]), (1004, [(1, 0), (29, 0), (30, 0), (31, 0), (32, 0)]), (1005, [(1, 0), (4, 0), (29, 0), (30, 0), (31, 0)]), (1006, [(1, 0), (29, 0), (30, 0), (31, 0), (40, 0)]), (1007, [(2, 0)]), (1008, [(1, 0), (29, 0), (30, 0), (31, 0)]), (1009, [(1, 0), (5, 0)]), (1010, [(1, 0), (5, 0), (6, 0)]), (1011, [(1, 0), (5, 0), (6, 0), (48, 0)]), (1012, [(1, 0), (5, 0), (6, 0)]), (1013, [(1, 0), (6, 0), (7, 0), (8, 0)]), (1014, [(1, 0), (6, 0), (7, 0), (63, 0)]), (1015, [(2, 0)]), (1016, [(1, 0), (5, 0), (6, 0)]), (1017, [(2, 0)]), (4001, [])] Try.func19 rfl rfl (by simp [Try.f19]) (by kernel_rfl) ?_
  simp only [Try.f19]
  refine sA ?_
  obtain ⟨p48, hq1, h⟩ := bind_ok h
  refine Sq_cut (fun s2 => s2 = ⟨[(1, (.pb 0 0)), (27, (.lf false (.sc (.bool p48.t27))))], [(0, some (true, .box [(.lf true (.sl (a0.Accounts.map eI))), (.lf true (.sl (a0.Moves.map eMove))), (.lf false (.sc (.int .i64 a0.Done))), (.lf false (.sc (.bool a0.Undoing)))]))], 1, 65⟩) ?_ ?_
  · try refine sA ?_
    obtain ⟨c46, hr2, hq1⟩ := bind_ok hq1
    refine Cl_sA (w_spec_l9Accounts hr2) ?_
    try refine sA ?_
    refine Sp_if hq1 (fun hq1 hc3 => ?_) (fun hq1 hc3 => ?_)
    · try refine sA ?_
      cases hq1
      exact X_cut rfl (weakA [some 0])
    · try refine sA ?_
      refine Sp_if hq1 (fun hq1 hc4 => ?_) (fun hq1 hc4 => ?_)
      · try refine sA ?_
        cases hq1
        exact X_cut rfl (weakA [some 0])
      · try refine sA ?_
        obtain ⟨c47, hr5, hq1⟩ := bind_ok hq1
        refine Cl_sA (w_spec_l1In hr5) ?_
        try refine sA ?_
        cases hq1
        exact X_cut rfl (weakA [some 0])
  · intro s2 hJ; subst hJ
    try dsimp only at h
    try refine sA ?_
    refine Bs_if h (fun h hc6 => ?_) (fun h hc6 => ?_)
    · try refine sA ?_
      have he := Option.some.inj h
      subst he
      exact endsA ⟨[(2, (.lf false (.sc (.bool false))))], [], 0, 65⟩ []
    · try refine sA ?_
      obtain ⟨y52, hl7, h⟩ := bind_ok h
      refine W_loopP (fun g49 : spec_GoodSaga_G1 => ⟨[(1, (.pb 0 0)), (29, (.lf true (.sl (a0.Moves.map eMove)))), (30, (.lf false (.sc (.int .i64 ((a0.Moves.length : Nat) : Int))))), (31, (.lf false (.sc (.int .i64 g49.t31))))], [(0, some (true, .box [(.lf true (.sl (a0.Accounts.map eI))), (.lf true (.sl (a0.Moves.map eMove))), (.lf false (.sc (.int .i64 a0.Done))), (.lf false (.sc (.bool a0.Undoing)))]))], 1, 65⟩) (spec_GoodSaga_L1 a0) _ _ hl7 (weakA [some 0]) ?_
      · intro n1 g49 z1 hs1 hk1
        unfold spec_GoodSaga_L1 at hs1
        try dsimp only at hs1
        refine sA ?_
        refine Bs_if hs1 (fun hs1 hc8 => ?_) (fun hs1 hc8 => ?_)
        · try refine sA ?_
          obtain ⟨hp9, hs1⟩ := guard_some hs1
          have hn9 : g49.t31.toNat < a0.Moves.length := by first | omega | (simp only [List.length_set, List.length_append, List.length_replicate, List.length_map]; omega)
          try refine sA ?_
          try refine andA ?_
          obtain ⟨c51, hr10, hs1⟩ := bind_ok hs1
          refine Cl_sA (w_spec_l9Move hr10) ?_
          try refine sA ?_
          refine Bs_if hs1 (fun hs1 hc11 => ?_) (fun hs1 hc11 => ?_)
          · try refine sA ?_
            cases hs1
            cases hk1
            try dsimp only at h
            try refine sA ?_
            have he := Option.some.inj h
            subst he
            exact endsA ⟨[(2, (.lf false (.sc (.bool false))))], [], 0, 65⟩ []
          · try refine sA ?_
            cases hs1
            exact X_backP hk1 (weakA [some 0])
        · try refine sA ?_
          cases hs1
          cases hk1
          try dsimp only at h
          try refine sA ?_
          obtain ⟨y68, hl12, h⟩ := bind_ok h
          refine W_loopP (fun g63 : spec_GoodSaga_G2 => ⟨[(1, (.pb 0 0)), (5, (.lf true (.sl (g63.t5.map eI)))), (6, (.lf false (.sc (.int .i64 g63.t6))))], [(0, some (true, .box [(.lf true (.sl (a0.Accounts.map eI))), (.lf true (.sl (a0.Moves.map eMove))), (.lf false (.sc (.int .i64 a0.Done))), (.lf false (.sc (.bool a0.Undoing)))]))], 1, 65⟩) (_) _ _ hl12 (weakA [some 0]) ?_
          · intro n3 g63 z3 hs3 hk3
            unfold spec_GoodSaga_L2 at hs3
            try dsimp only at hs3
            refine sA ?_
            refine Bs_if hs3 (fun hs3 hc13 => ?_) (fun hs3 hc13 => ?_)
            · try refine sA ?_
              obtain ⟨hp14, hs3⟩ := guard_some hs3
              have hn14 : g63.t6.toNat < a0.Moves.length := by first | omega | (simp only [List.length_set, List.length_append, List.length_replicate, List.length_map]; omega)
              try refine sA ?_
              try refine andA ?_
              obtain ⟨c66, hr15, hs3⟩ := bind_ok hs3
              refine Cl_sA (w_spec_l9Back hr15) ?_
              try refine sA ?_
              obtain ⟨c67, hr16, hs3⟩ := bind_ok hs3
              refine Cl_sA (w_spec_l9Do_F hr16) ?_
              try refine sA ?_
              refine Bs_if hs3 (fun hs3 hc17 => ?_) (fun hs3 hc17 => ?_)
              · try refine sA ?_
                cases hs3
                cases hk3
                try dsimp only at h
                try refine sA ?_
                have he := Option.some.inj h
                subst he
                exact endsA ⟨[(2, (.lf false (.sc (.bool false))))], [], 0, 65⟩ []
              · try refine sA ?_
                cases hs3
                exact X_backP hk3 (weakA [some 0])
            · try refine sA ?_
              cases hs3
              cases hk3
              try dsimp only at h
              try refine sA ?_
              have he := Option.some.inj h
              subst he
              exact endsA ⟨[(2, (.lf false (.sc (.bool true))))], [], 0, 65⟩ []
theorem w_spec_l9Own {a0 : SagaT} {r : SagaT} (h : spec_l9Own a0 = some r) : Fn Try.prog 29 [(.ag [(.lf true (.sl (a0.Accounts.map eI))), (.lf true (.sl (a0.Moves.map eMove))), (.lf false (.sc (.int .i64 a0.Done))), (.lf false (.sc (.bool a0.Undoing)))])] [] 0 (.ag [(.os 0 1 0 r.Accounts.length r.Accounts.length false), (.os 1 3 0 r.Moves.length r.Moves.length false), (.lf false (.sc (.int .i64 r.Done))), (.lf false (.sc (.bool r.Undoing)))]) [(0, some (true, .arr false 1 (r.Accounts.map eI))), (1, some (true, .arr false 3 (r.Moves.map eMove)))] 3 := by
  unfold spec_l9Own at h
  refine fn_code tab_ok mixed [(1000, [(1, 0), (2, 0)]), (1001, [(1, 0), (2, 0)]), (1002, [(1, 0), (2, 0)]), (1003, [(2, 0)])] Try.func29 rfl rfl (by simp [Try.f29]) (by kernel_rfl) ?_
  simp only [Try.f29]
  refine sA ?_
  obtain ⟨hp1, h⟩ := guard_some h
  try refine sA ?_
  try refine andA ?_
  obtain ⟨hp2, h⟩ := guard_some h
  try refine sA ?_
  try refine andA ?_
  have he := Option.some.inj h
  subst he
  exact endsA ⟨[(2, (.pb 2 0))], [(0, some (true, .arr false 1 ((([]) ++ a0.Accounts).map eI))), (1, some (true, .arr false 3 ((([]) ++ a0.Moves).map eMove))), (2, some (true, .box [(.os 0 1 0 ((([]) ++ a0.Accounts).length) ((([]) ++ a0.Accounts).length) false), (.os 1 3 0 ((([]) ++ a0.Moves).length) ((([]) ++ a0.Moves).length) false), (.lf false (.sc (.int .i64 a0.Done))), (.lf false (.sc (.bool a0.Undoing)))]))], 3, 14⟩ [some 3, some 5, some 1]
theorem w_spec_NewSaga {a0 : (List Int)} {a1 : (List MoveT)} {r : (SagaT × Bool)} (h : spec_NewSaga a0 a1 = some r) : Fn Try.prog 8 [(.lf true (.sl (a0.map eI))), (.lf true (.sl (a1.map eMove)))] [] 0 (.tu [(.ag [(.os 0 1 0 r.1.Accounts.length r.1.Accounts.length false), (.os 1 3 0 r.1.Moves.length r.1.Moves.length false), (.lf false (.sc (.int .i64 r.1.Done))), (.lf false (.sc (.bool r.1.Undoing)))]), (.lf false (.sc (.bool r.2)))]) [(0, some (true, .arr false 1 (r.1.Accounts.map eI))), (1, some (true, .arr false 3 (r.1.Moves.map eMove)))] 3 := by
  unfold spec_NewSaga at h
  refine fn_code tab_ok mixed [(1000, [(0, 0), (1, 0), (4, 0)]), (1001, [(4, 0), (6, 0)]), (1002, [(4, 0), (6, 0), (12, 0)]), (1003, [(4, 0), (5, 0)]), (1004, [(4, 0), (5, 0)])] Try.func8 rfl rfl (by simp [Try.f8]) (by kernel_rfl) ?_
  simp only [Try.f8]
  refine sA ?_
  obtain ⟨c71, hr1, h⟩ := bind_ok h
  refine Cl_sA (w_spec_GoodSaga hr1) ?_
  try refine sA ?_
  refine Bs_if h (fun h hc2 => ?_) (fun h hc2 => ?_)
  · try refine sA ?_
    have he := Option.some.inj h
    subst he
    exact endsA ⟨[(4, (.pb 2 0)), (5, (.lf false (.sc (.bool false))))], [(0, some (true, .arr false 1 (([] : List Int).map eI))), (1, some (true, .arr false 3 (([] : List MoveT).map eMove))), (2, some (true, .box [(.os 0 1 0 (([] : List Int).length) (([] : List Int).length) false), (.os 1 3 0 (([] : List MoveT).length) (([] : List MoveT).length) false), (.lf false (.sc (.int .i64 0))), (.lf false (.sc (.bool false)))]))], 3, 16⟩ [none, none, some 0]
  · try refine sA ?_
    obtain ⟨c72, hr3, h⟩ := bind_ok h
    refine Cl_sA (w_spec_l9Own hr3) ?_
    try refine sA ?_
    have he := Option.some.inj h
    subst he
    exact endsA ⟨[(4, (.pb 2 0)), (5, (.lf false (.sc (.bool true))))], [(0, some (true, .arr false 1 (c72.Accounts.map eI))), (1, some (true, .arr false 3 (c72.Moves.map eMove))), (2, some (true, .box [(.os 0 1 0 c72.Accounts.length c72.Accounts.length false), (.os 1 3 0 c72.Moves.length c72.Moves.length false), (.lf false (.sc (.int .i64 c72.Done))), (.lf false (.sc (.bool c72.Undoing)))]))], 3, 16⟩ [some 2, some 3, some 0]
theorem w_spec_l9Step_ww {a0 : SagaT} {m0 : Nat} {x0 : Bool} {m1 : Nat} {x1 : Bool} {r : (SagaT × Bool)} (h : spec_l9Step_ww a0 = some r) : Fn Try.prog 35 [(.ag [(.os 0 1 0 a0.Accounts.length m0 x0), (.os 1 3 0 a0.Moves.length m1 x1), (.lf false (.sc (.int .i64 a0.Done))), (.lf false (.sc (.bool a0.Undoing)))])] [(0, some (false, .arr true 1 (a0.Accounts.map eI))), (1, some (false, .arr true 3 (a0.Moves.map eMove)))] 2 (.tu [(.ag [(.os 2 1 0 r.1.Accounts.length r.1.Accounts.length false), (.os 1 3 0 a0.Moves.length a0.Moves.length false), (.lf false (.sc (.int .i64 r.1.Done))), (.lf false (.sc (.bool r.1.Undoing)))]), (.lf false (.sc (.bool r.2)))]) [(0, none), (1, some (false, .arr false 3 (a0.Moves.map eMove))), (2, some (false, .arr false 1 (r.1.Accounts.map eI)))] 4 := by
  unfold spec_l9Step_ww at h
  refine fn_code tab_ok mixed [(5, [(1, 8)]), (1000, [(1, 0), (2, 0)]), (1001, [(1, 0), (2, 0), (7, 0)]), (1002, [(1, 0), (2, 0), (10, 0)]), (1003, [(2, 0), (3, 0)]), (1004, [(1, 0), (2, 0)]), (1005, [(1, 0), (2, 0)]), (1006, [(2, 0), (3, 0)]), (1007, [(1, 0), (2, 0), (36, 0)]), (1008, [(2, 0), (3, 0)]), (1009, [(1, 0), (2, 0), (4, 0), (5, 0)]), (1010, [(1, 0), (2, 0), (4, 0), (51, 0)]), (1011, [(1, 0), (2, 0)]), (1012, [(2, 0), (3, 0)]), (1013, [(1, 0), (2, 0)]), (1014, [(1, 0), (2, 0)]), (1015, [(2, 0), (3, 0)])] Try.func35 rfl rfl (by simp [Try.f35]) (by kernel_rfl) ?_
  simp only [Try.f35]
  refine sA ?_
  refine Bs_if h (fun h hc1 => ?_) (fun h hc1 => ?_)
  · try refine sA ?_
    refine Bs_if h (fun h hc2 => ?_) (fun h hc2 => ?_)
    · try refine sA ?_
      have he := Option.some.inj h
      subst he
      exact endsA ⟨[(2, (.pb 3 0)), (3, (.lf false (.sc (.bool false))))], [(0, none), (1, some (false, .arr false 3 (a0.Moves.map eMove))), (2, some (false, .arr false 1 (a0.Accounts.map eI))), (3, some (true, .box [(.os 2 1 0 a0.Accounts.length a0.Accounts.length false), (.os 1 3 0 a0.Moves.length a0.Moves.length false), (.lf false (.sc (.int .i64 a0.Done))), (.lf false (.sc (.bool a0.Undoing)))]))], 4, 61⟩ [some 0, some 1, some 0, some 3]
    · try refine sA ?_
      obtain ⟨hp3, h⟩ := guard_some h
      have hn3 : (wI (a0.Done - 1)).toNat < a0.Moves.length := by first | omega | (simp only [List.length_set, List.length_append, List.length_replicate, List.length_map]; omega)
      try refine sA ?_
      try refine andA ?_
      try refine andB ?_
      try refine sA ?_
      obtain ⟨c82, hr5, h⟩ := bind_ok h
      refine Cl_sA (w_spec_l9Back hr5) ?_
      try refine sA ?_
      obtain ⟨c83, hr6, h⟩ := bind_ok h
      refine Cl_sA (w_spec_l9Do hr6) ?_
      try refine sA ?_
      have he := Option.some.inj h
      subst he
      exact endsA ⟨[(2, (.pb 3 0)), (3, (.lf false (.sc (.bool true))))], [(0, none), (1, some (false, .arr false 3 (a0.Moves.map eMove))), (2, some (false, .arr false 1 (c83.1.map eI))), (3, some (true, .box [(.os 2 1 0 c83.1.length c83.1.length false), (.os 1 3 0 a0.Moves.length a0.Moves.length false), (.lf false (.sc (.int .i64 (wI (a0.Done - 1))))), (.lf false (.sc (.bool a0.Undoing)))]))], 4, 61⟩ [some 0, some 1, some 5, some 3]
  · try refine sA ?_
    refine Bs_if h (fun h hc7 => ?_) (fun h hc7 => ?_)
    · try refine sA ?_
      have he := Option.some.inj h
      subst he
      exact endsA ⟨[(2, (.pb 3 0)), (3, (.lf false (.sc (.bool false))))], [(0, none), (1, some (false, .arr false 3 (a0.Moves.map eMove))), (2, some (false, .arr false 1 (a0.Accounts.map eI))), (3, some (true, .box [(.os 2 1 0 a0.Accounts.length a0.Accounts.length false), (.os 1 3 0 a0.Moves.length a0.Moves.length false), (.lf false (.sc (.int .i64 a0.Done))), (.lf false (.sc (.bool a0.Undoing)))]))], 4, 61⟩ [some 0, some 1, some 0, some 3]
    · try refine sA ?_
      obtain ⟨hp8, h⟩ := guard_some h
      have hn8 : a0.Done.toNat < a0.Moves.length := by first | omega | (simp only [List.length_set, List.length_append, List.length_replicate, List.length_map]; omega)
      try refine sA ?_
      try refine andA ?_
      try refine andB ?_
      try refine sA ?_
      obtain ⟨c84, hr10, h⟩ := bind_ok h
      refine Cl_sA (w_spec_l9Do hr10) ?_
      try refine sA ?_
      refine Bs_if h (fun h hc11 => ?_) (fun h hc11 => ?_)
      · try refine sA ?_
        have he := Option.some.inj h
        subst he
        exact endsA ⟨[(2, (.pb 3 0)), (3, (.lf false (.sc (.bool true))))], [(0, none), (1, some (false, .arr false 3 (a0.Moves.map eMove))), (2, some (false, .arr false 1 (a0.Accounts.map eI))), (3, some (true, .box [(.os 2 1 0 a0.Accounts.length a0.Accounts.length false), (.os 1 3 0 a0.Moves.length a0.Moves.length false), (.lf false (.sc (.int .i64 a0.Done))), (.lf false (.sc (.bool true)))]))], 4, 61⟩ [some 0, some 1, some 0, some 3]
      · try refine sA ?_
        have he := Option.some.inj h
        subst he
        exact endsA ⟨[(2, (.pb 3 0)), (3, (.lf false (.sc (.bool true))))], [(0, none), (1, some (false, .arr false 3 (a0.Moves.map eMove))), (2, some (false, .arr false 1 (c84.1.map eI))), (3, some (true, .box [(.os 2 1 0 c84.1.length c84.1.length false), (.os 1 3 0 a0.Moves.length a0.Moves.length false), (.lf false (.sc (.int .i64 (wI (a0.Done + 1))))), (.lf false (.sc (.bool a0.Undoing)))]))], 4, 61⟩ [some 0, some 1, some 4, some 3]
theorem w_spec_StepSaga {a0 : SagaT} {r : (SagaT × Bool)} (h : spec_StepSaga a0 = some r) : Fn Try.prog 17 [(.ag [(.lf true (.sl (a0.Accounts.map eI))), (.lf true (.sl (a0.Moves.map eMove))), (.lf false (.sc (.int .i64 a0.Done))), (.lf false (.sc (.bool a0.Undoing)))])] [] 0 (.tu [(.ag [(.os 0 1 0 r.1.Accounts.length r.1.Accounts.length false), (.os 1 3 0 r.1.Moves.length r.1.Moves.length false), (.lf false (.sc (.int .i64 r.1.Done))), (.lf false (.sc (.bool r.1.Undoing)))]), (.lf false (.sc (.bool r.2)))]) [(0, some (false, .arr false 1 (r.1.Accounts.map eI))), (1, some (true, .arr false 3 (r.1.Moves.map eMove)))] 3 := by
  unfold spec_StepSaga at h
  refine fn_code tab_ok mixed [(1000, [(1, 0), (2, 0)]), (1001, [(1, 0), (2, 0), (8, 0)]), (1002, [(2, 0), (3, 0)]), (1003, [(2, 0), (4, 0), (5, 0)]), (1004, [(2, 0), (4, 0), (22, 0)]), (1005, [(2, 0), (3, 0)]), (1006, [(2, 0), (3, 0)]), (4004, [])] Try.func17 rfl rfl (by simp [Try.f17]) (by kernel_rfl) ?_
  simp only [Try.f17]
  refine sA ?_
  obtain ⟨c77, hr1, h⟩ := bind_ok h
  refine Cl_sA (w_spec_GoodSaga hr1) ?_
  try refine sA ?_
  refine Bs_if h (fun h hc2 => ?_) (fun h hc2 => ?_)
  · try refine sA ?_
    have he := Option.some.inj h
    subst he
    exact endsA ⟨[(2, (.pb 2 0)), (3, (.lf false (.sc (.bool false))))], [(0, some (false, .arr false 1 (([] : List Int).map eI))), (1, some (true, .arr false 3 (([] : List MoveT).map eMove))), (2, some (true, .box [(.os 0 1 0 (([] : List Int).length) (([] : List Int).length) false), (.os 1 3 0 (([] : List MoveT).length) (([] : List MoveT).length) false), (.lf false (.sc (.int .i64 0))), (.lf false (.sc (.bool false)))]))], 3, 25⟩ [none, none, some 1]
  · try refine sA ?_
    obtain ⟨c78, hr3, h⟩ := bind_ok h
    refine Cl_sA (w_spec_l9Own hr3) ?_
    try refine sA ?_
    obtain ⟨c85, hr4, h⟩ := bind_ok h
    refine Cl_hA [2, 3] (w_spec_l9Step_ww hr4) ?_
    try refine sA ?_
    obtain ⟨p87, hq5, h⟩ := bind_ok h
    refine Sq_cut (fun s2 => s2 = ⟨[(2, (.pb 0 0)), (4, (.pb 1 0)), (22, (.lf false (.sc (.bool p87.t22))))], [(0, some (true, .box [.nl, .nl, (.lf false (.sc (.int .i64 0))), (.lf false (.sc (.bool false)))])), (1, some (true, .box [(.os 2 1 0 c85.1.Accounts.length c85.1.Accounts.length false), (.os 3 3 0 c78.Moves.length c78.Moves.length false), (.lf false (.sc (.int .i64 c85.1.Done))), (.lf false (.sc (.bool c85.1.Undoing)))])), (2, some (false, .arr false 1 (c85.1.Accounts.map eI))), (3, some (true, .arr false 3 (c78.Moves.map eMove)))], 4, 25⟩) ?_ ?_
    · try refine sA ?_
      refine Sp_if hq5 (fun hq5 hc6 => ?_) (fun hq5 hc6 => ?_)
      · try refine sA ?_
        cases hq5
        exact X_cut rfl (weakA [some 1, some 7, some 5, some 3])
      · try refine sA ?_
        obtain ⟨c86, hr7, hq5⟩ := bind_ok hq5
        refine Cl_sA (w_spec_GoodSaga hr7) ?_
        try refine sA ?_
        cases hq5
        exact X_cut rfl (weakA [some 1, some 7, some 5, some 3])
    · intro s2 hJ; subst hJ
      try dsimp only at h
      try refine sA ?_
      refine Bs_if h (fun h hc8 => ?_) (fun h hc8 => ?_)
      · try refine sA ?_
        have he := Option.some.inj h
        subst he
        exact endsA ⟨[(2, (.pb 2 0)), (3, (.lf false (.sc (.bool false))))], [(0, some (false, .arr false 1 (([] : List Int).map eI))), (1, some (true, .arr false 3 (([] : List MoveT).map eMove))), (2, some (true, .box [(.os 0 1 0 (([] : List Int).length) (([] : List Int).length) false), (.os 1 3 0 (([] : List MoveT).length) (([] : List MoveT).length) false), (.lf false (.sc (.int .i64 0))), (.lf false (.sc (.bool false)))]))], 3, 25⟩ [none, none, some 0]
      · try refine sA ?_
        have he := Option.some.inj h
        subst he
        exact endsA ⟨[(2, (.pb 2 0)), (3, (.lf false (.sc (.bool true))))], [(0, some (false, .arr false 1 (c85.1.Accounts.map eI))), (1, some (true, .arr false 3 (c78.Moves.map eMove))), (2, some (true, .box [(.os 0 1 0 c85.1.Accounts.length c85.1.Accounts.length false), (.os 1 3 0 c78.Moves.length c78.Moves.length false), (.lf false (.sc (.int .i64 c85.1.Done))), (.lf false (.sc (.bool c85.1.Undoing)))]))], 3, 25⟩ [some 2, some 3, some 0]
theorem w_spec_FailSaga {a0 : SagaT} {r : (SagaT × Bool)} (h : spec_FailSaga a0 = some r) : Fn Try.prog 59 [(.ag [(.lf true (.sl (a0.Accounts.map eI))), (.lf true (.sl (a0.Moves.map eMove))), (.lf false (.sc (.int .i64 a0.Done))), (.lf false (.sc (.bool a0.Undoing)))])] [] 0 (.tu [(.ag [(.os 0 1 0 r.1.Accounts.length r.1.Accounts.length false), (.os 1 3 0 r.1.Moves.length r.1.Moves.length false), (.lf false (.sc (.int .i64 r.1.Done))), (.lf false (.sc (.bool r.1.Undoing)))]), (.lf false (.sc (.bool r.2)))]) [(0, some (true, .arr false 1 (r.1.Accounts.map eI))), (1, some (true, .arr false 3 (r.1.Moves.map eMove)))] 3 := by
  unfold spec_FailSaga at h
  refine fn_code tab_ok mixed [(1000, [(1, 0), (2, 0)]), (1001, [(1, 0), (2, 0), (18, 0)]), (1002, [(2, 0), (3, 0)]), (1003, [(1, 0), (2, 0)]), (1004, [(1, 0), (2, 0)]), (1005, [(2, 0), (3, 0)]), (4001, [])] Try.func59 rfl rfl (by simp [Try.f59]) (by kernel_rfl) ?_
  simp only [Try.f59]
  refine sA ?_
  obtain ⟨p91, hq1, h⟩ := bind_ok h
  refine Sq_cut (fun s2 => s2 = ⟨[(1, (.pb 0 0)), (2, (.pb 1 0)), (18, (.lf false (.sc (.bool p91.t18))))], [(0, some (true, .box [(.lf true (.sl (a0.Accounts.map eI))), (.lf true (.sl (a0.Moves.map eMove))), (.lf false (.sc (.int .i64 a0.Done))), (.lf false (.sc (.bool a0.Undoing)))])), (1, some (true, .box [.nl, .nl, (.lf false (.sc (.int .i64 0))), (.lf false (.sc (.bool false)))]))], 2, 24⟩) ?_ ?_
  · try refine sA ?_
    obtain ⟨c90, hr2, hq1⟩ := bind_ok hq1
    refine Cl_sA (w_spec_GoodSaga hr2) ?_
    try refine sA ?_
    refine Sp_if hq1 (fun hq1 hc3 => ?_) (fun hq1 hc3 => ?_)
    · try refine sA ?_
      cases hq1
      exact X_cut rfl (weakA [some 0, some 1])
    · try refine sA ?_
      refine Sp_if hq1 (fun hq1 hc4 => ?_) (fun hq1 hc4 => ?_)
      · try refine sA ?_
        cases hq1
        exact X_cut rfl (weakA [some 0, some 1])
      · try refine sA ?_
        cases hq1
        exact X_cut rfl (weakA [some 0, some 1])
  · intro s2 hJ; subst hJ
    try dsimp only at h
    try refine sA ?_
    refine Bs_if h (fun h hc5 => ?_) (fun h hc5 => ?_)
    · try refine sA ?_
      have he := Option.some.inj h
      subst he
      exact endsA ⟨[(2, (.pb 2 0)), (3, (.lf false (.sc (.bool false))))], [(0, some (true, .arr false 1 (([] : List Int).map eI))), (1, some (true, .arr false 3 (([] : List MoveT).map eMove))), (2, some (true, .box [(.os 0 1 0 (([] : List Int).length) (([] : List Int).length) false), (.os 1 3 0 (([] : List MoveT).length) (([] : List MoveT).length) false), (.lf false (.sc (.int .i64 0))), (.lf false (.sc (.bool false)))]))], 3, 24⟩ [none, none, some 1]
    · try refine sA ?_
      obtain ⟨c92, hr6, h⟩ := bind_ok h
      refine Cl_sA (w_spec_l9Own hr6) ?_
      try refine sA ?_
      have he := Option.some.inj h
      subst he
      exact endsA ⟨[(2, (.pb 2 0)), (3, (.lf false (.sc (.bool true))))], [(0, some (true, .arr false 1 (c92.Accounts.map eI))), (1, some (true, .arr false 3 (c92.Moves.map eMove))), (2, some (true, .box [(.os 0 1 0 c92.Accounts.length c92.Accounts.length false), (.os 1 3 0 c92.Moves.length c92.Moves.length false), (.lf false (.sc (.int .i64 c92.Done))), (.lf false (.sc (.bool true)))]))], 3, 24⟩ [some 2, some 3, some 1]
theorem w_spec_l1Cur_among_ow {a0 : l1CurT} {a1 : (List Int)} {m1 : Nat} {x1 : Bool} {r : (Int × l1CurT)} (h : spec_l1Cur_among_ow a0 a1 = some r) : Fn Try.prog 61 [(.pb 0 0), (.os 1 1 0 a1.length m1 x1)] [(0, some (false, .box [(.lf true (.sl (a0.code.map eU8))), (.lf false (.sc (.int .i64 a0.at_))), (.lf false (.sc (.int .u64 a0.seed)))])), (1, some (false, .arr true 1 (a1.map eI)))] 2 (.lf false (.sc (.int .i64 r.1))) [(0, some (false, .box [(.lf true (.sl (r.2.code.map eU8))), (.lf false (.sc (.int .i64 r.2.at_))), (.lf false (.sc (.int .u64 r.2.seed)))])), (1, some (false, .arr false 1 (a1.map eI)))] 2 := by
  unfold spec_l1Cur_among_ow at h
  refine fn_code tab_ok mixed [] Try.func61 rfl rfl (by simp [Try.f61]) (by kernel_rfl) ?_
  simp only [Try.f61]
  refine sA ?_
  obtain ⟨c103, hr1, h⟩ := bind_ok h
  refine Cl_hA [0] (w_spec_l1Cur_pick_o hr1) ?_
  try refine sA ?_
  obtain ⟨hp2, h⟩ := guard_some h
  have hn2 : c103.1.toNat < a1.length := by first | omega | (simp only [List.length_set, List.length_append, List.length_replicate, List.length_map]; omega)
  try refine sA ?_
  try refine andA ?_
  try refine andB ?_
  try refine sA ?_
  have he := Option.some.inj h
  subst he
  exact endsA ⟨[(4, (.lf false (.sc (.int .i64 (nth a1 c103.1.toNat)))))], [(0, some (false, .box [(.lf true (.sl (c103.2.code.map eU8))), (.lf false (.sc (.int .i64 c103.2.at_))), (.lf false (.sc (.int .u64 c103.2.seed)))])), (1, some (false, .arr false 1 (a1.map eI)))], 2, 12⟩ [some 0, some 1]
theorem w_spec_l1Cur_saga_o {a0 : l1CurT} {r : (SagaT × l1CurT)} (h : spec_l1Cur_saga_o a0 = some r) : Fn Try.prog 26 [(.pb 0 0)] [(0, some (false, .box [(.lf true (.sl (a0.code.map eU8))), (.lf false (.sc (.int .i64 a0.at_))), (.lf false (.sc (.int .u64 a0.seed)))]))] 1 (.ag [(.os 1 1 0 r.1.Accounts.length r.1.Accounts.length false), (.os 2 3 0 r.1.Moves.length r.1.Moves.length false), (.lf false (.sc (.int .i64 r.1.Done))), (.lf false (.sc (.bool r.1.Undoing)))]) [(0, some (false, .box [(.lf true (.sl (r.2.code.map eU8))), (.lf false (.sc (.int .i64 r.2.at_))), (.lf false (.sc (.int .u64 r.2.seed)))])), (1, some (false, .arr false 1 (r.1.Accounts.map eI))), (2, some (true, .arr false 3 (r.1.Moves.map eMove)))] 4 := by
  unfold spec_l1Cur_saga_o at h
  refine fn_code tab_ok mixed [(31, [(1, 3), (1, 4)]), (1000, [(0, 0), (2, 0)]), (1001, [(0, 0), (2, 0), (3, 0)]), (1002, [(0, 0), (2, 0), (3, 0), (4, 0)]), (1003, [(0, 0), (2, 0), (3, 0), (4, 0), (20, 0)]), (1004, [(0, 0), (2, 0), (3, 0), (4, 0)]), (1005, [(0, 0), (2, 0), (3, 0), (4, 0)]), (1006, [(0, 0), (2, 0), (3, 0), (5, 0)]), (1007, [(0, 0), (2, 0), (3, 0), (5, 0), (6, 0)]), (1008, [(0, 0), (2, 0), (3, 0), (5, 0), (6, 0), (31, 0)]), (1009, [(0, 0), (2, 0), (3, 0), (5, 0), (6, 0)]), (1010, [(0, 0), (2, 0), (3, 0), (5, 0), (6, 0), (41, 0)]), (1011, [(0, 0), (2, 0), (3, 0), (5, 0), (6, 0)]), (1012, [(0, 0), (2, 0), (3, 0), (5, 0), (6, 0), (7, 0)]), (1013, [(0, 0), (2, 0), (3, 0), (5, 0), (6, 0), (7, 0), (8, 0)]), (1014, [(0, 0), (2, 0), (3, 0), (5, 0), (6, 0)]), (1015, [(0, 0), (2, 0), (3, 0), (5, 0), (9, 0), (10, 0)]), (1016, [(0, 0), (2, 0), (3, 0), (5, 0), (9, 0), (75, 0)]), (1017, [(0, 0), (2, 0), (9, 0)]), (1018, [(0, 0), (2, 0), (9, 0), (11, 0)]), (1019, [(0, 0), (2, 0), (9, 0), (11, 0), (82, 0)]), (1020, [(0, 0), (2, 0), (9, 0), (11, 0)]), (1021, [(0, 0), (2, 0), (9, 0), (11, 0), (12, 0), (13, 0)]), (1022, [(0, 0), (2, 0), (9, 0), (11, 0), (12, 0), (90, 0)]), (1023, [(0, 0), (2, 0), (9, 0), (11, 0)]), (1024, [(0, 0), (2, 0), (9, 0), (11, 0), (14, 0), (15, 0)]), (1025, [(0, 0), (2, 0), (9, 0), (11, 0), (14, 0), (101, 0)]), (1026, [(0, 0), (2, 0), (9, 0), (11, 0)]), (1027, [(0, 0), (2, 0), (9, 0), (104, 0)]), (1028, [(0, 0), (2, 0), (9, 0), (104, 0), (105, 0)]), (1029, [(2, 0), (9, 0)]), (1030, [(0, 0), (2, 0), (9, 0), (111, 0)]), (1031, [(2, 0), (9, 0)]), (1032, [(2, 0)]), (2031, []), (2075, []), (2090, []), (4025, [])] Try.func26 rfl rfl (by simp [Try.f26]) (by kernel_rfl) ?_
  simp only [Try.f26]
  refine sA ?_
  obtain ⟨c5, hr1, h⟩ := bind_ok h
  refine Cl_hA [0] (w_spec_l1Cur_pick_o hr1) ?_
  try refine sA ?_
  obtain ⟨y9, hl2, h⟩ := bind_ok h
  refine W_loopP (fun g6 : spec_l1Cur_saga_o_G1 => ⟨[(0, (.pb 0 0)), (2, (.pb 1 0)), (3, (.os 2 1 0 g6.c2.length g6.c2.length false)), (4, (.lf false (.sc (.int .i64 g6.t4))))], [(0, some (false, .box [(.lf true (.sl (g6.b0_0.map eU8))), (.lf false (.sc (.int .i64 g6.b0_1))), (.lf false (.sc (.int .u64 g6.b0_2)))])), (1, some (true, .box [.nl, .nl, (.lf false (.sc (.int .i64 0))), (.lf false (.sc (.bool false)))])), (2, some (true, .arr false 1 (g6.c2.map eI)))], 3, 120⟩) (spec_l1Cur_saga_o_L1) _ _ hl2 (weakA [some 0, some 1, none]) ?_
  · intro n1 g6 z1 hs1 hk1
    unfold spec_l1Cur_saga_o_L1 at hs1
    try dsimp only at hs1
    refine sA ?_
    refine Bs_if hs1 (fun hs1 hc3 => ?_) (fun hs1 hc3 => ?_)
    · try refine sA ?_
      obtain ⟨c8, hr4, hs1⟩ := bind_ok hs1
      refine Cl_hA [0] (w_spec_l1Cur_pick_o hr4) ?_
      try refine sA ?_
      obtain ⟨hp5, hs1⟩ := guard_some hs1
      try refine sA ?_
      try refine andA ?_
      cases hs1
      exact X_backP hk1 (weakA [some 0, some 1, some 4])
    · try refine sA ?_
      cases hs1
      cases hk1
      try dsimp only at h
      try refine sA ?_
      obtain ⟨c145, hr6, h⟩ := bind_ok h
      refine Cl_hA [0] (w_spec_l1Cur_pick_o hr6) ?_
      try refine sA ?_
      obtain ⟨p148, hq7, h⟩ := bind_ok h
      refine Sq_cut (fun s2 => s2 = ⟨[(0, (.pb 0 0)), (2, (.pb 1 0)), (3, (.os 2 1 0 g6.c2.length g6.c2.length false)), (5, .nl), (6, (.lf false (.sc (.int .i64 p148.t6))))], [(0, some (false, .box [(.lf true (.sl (p148.b0_0.map eU8))), (.lf false (.sc (.int .i64 p148.b0_1))), (.lf false (.sc (.int .u64 p148.b0_2)))])), (1, some (true, .box [.nl, .nl, (.lf false (.sc (.int .i64 0))), (.lf false (.sc (.bool false)))])), (2, some (true, .arr false 1 (g6.c2.map eI)))], 3, 120⟩) ?_ ?_
      · try refine sA ?_
        obtain ⟨c146, hr8, hq7⟩ := bind_ok hq7
        refine Cl_hA [0] (w_spec_l1Cur_one_o hr8) ?_
        try refine sA ?_
        refine Bs_if hq7 (fun hq7 hc9 => ?_) (fun hq7 hc9 => ?_)
        · try refine sA ?_
          obtain ⟨c147, hr10, hq7⟩ := bind_ok hq7
          refine Cl_hA [0] (w_spec_l1Cur_pick_o hr10) ?_
          try refine sA ?_
          cases hq7
          exact X_cut rfl (weakA [some 0, some 1, some 2])
        · try refine sA ?_
          cases hq7
          exact X_cut rfl (weakA [some 0, some 1, some 2])
      · intro s2 hJ; subst hJ
        try dsimp only at h
        try refine sA ?_
        obtain ⟨y156, hl11, h⟩ := bind_ok h
        refine W_loopP (fun g149 : spec_l1Cur_saga_o_G2 => ⟨[(0, (.pb 0 0)), (2, (.pb 1 0)), (3, (.os 2 1 0 g6.c2.length g6.c2.length false)), (5, (.os 3 3 0 g149.c3.length g149.c3.length false)), (6, (.lf false (.sc (.int .i64 g149.t6))))], [(0, some (false, .box [(.lf true (.sl (g149.b0_0.map eU8))), (.lf false (.sc (.int .i64 g149.b0_1))), (.lf false (.sc (.int .u64 g149.b0_2)))])), (1, some (true, .box [.nl, .nl, (.lf false (.sc (.int .i64 0))), (.lf false (.sc (.bool false)))])), (2, some (true, .arr false 1 (g6.c2.map eI))), (3, some (true, .arr false 3 (g149.c3.map eMove)))], 4, 120⟩) (_) _ _ hl11 (weakA [some 0, some 1, some 2, none]) ?_
        · intro n6 g149 z6 hs6 hk6
          unfold spec_l1Cur_saga_o_L2 at hs6
          try dsimp only at hs6
          refine sA ?_
          refine Sp_if hs6 (fun hs6 hc12 => ?_) (fun hs6 hc12 => ?_)
          · try refine sA ?_
            refine Bs_if hs6 (fun hs6 hc13 => ?_) (fun hs6 hc13 => ?_)
            · try refine sA ?_
              obtain ⟨c153, hr14, hs6⟩ := bind_ok hs6
              refine Cl_hA [0] (w_spec_l1Cur_pick_o hr14) ?_
              try refine sA ?_
              obtain ⟨c154, hr15, hs6⟩ := bind_ok hs6
              refine Cl_hA [0] (w_spec_l1Cur_pick_o hr15) ?_
              try refine sA ?_
              obtain ⟨hp16, hs6⟩ := guard_some hs6
              try refine sA ?_
              try refine andA ?_
              obtain ⟨c155, hr17, hs6⟩ := bind_ok hs6
              refine Cl_hA [0] (w_spec_l1Cur_pick_o hr17) ?_
              try refine sA ?_
              obtain ⟨hp18, hs6⟩ := guard_some hs6
              try refine sA ?_
              try refine andA ?_
              cases hs6
              exact X_backP hk6 (weakA [some 0, some 1, some 2, some 5])
            · try refine sA ?_
              cases hs6
              cases hk6
              try dsimp only at h
              try refine sA ?_
              obtain ⟨c176, hr19, h⟩ := bind_ok h
              refine Cl_sA (w_spec_NewSaga hr19) ?_
              try refine sA ?_
              obtain ⟨p177, hq20, h⟩ := bind_ok h
              refine Sq_cut (fun s2 => s2 = ⟨[(0, (.pb 0 0)), (2, (.pb 1 0)), (9, (.pb 2 0))], [(0, some (false, .box [(.lf true (.sl (g149.b0_0.map eU8))), (.lf false (.sc (.int .i64 g149.b0_1))), (.lf false (.sc (.int .u64 g149.b0_2)))])), (1, some (true, .box [.nl, .nl, (.lf false (.sc (.int .i64 0))), (.lf false (.sc (.bool false)))])), (2, some (true, .box [(.os 3 1 0 p177.c3.length p177.c3.length false), (.os 4 3 0 p177.c4.length p177.c4.length false), (.lf false (.sc (.int .i64 p177.b2_2))), (.lf false (.sc (.bool p177.b2_3)))])), (3, some (true, .arr false 1 (p177.c3.map eI))), (4, some (true, .arr false 3 (p177.c4.map eMove)))], 5, 120⟩) ?_ ?_
              · try refine sA ?_
                refine Bs_if hq20 (fun hq20 hc21 => ?_) (fun hq20 hc21 => ?_)
                · try refine sA ?_
                  cases hq20
                  exact X_cut rfl (weakA [some 0, some 1, some 7, some 2, some 3])
                · try refine sA ?_
                  cases hq20
                  exact X_cut rfl (weakA [some 0, some 1, some 7, some 4, some 5])
              · intro s2 hJ; subst hJ
                try dsimp only at h
                try refine sA ?_
                obtain ⟨c178, hr22, h⟩ := bind_ok h
                refine Cl_hA [0] (w_spec_l1Cur_pick_o hr22) ?_
                try refine sA ?_
                obtain ⟨y190, hl23, h⟩ := bind_ok h
                refine W_loopP (fun g179 : spec_l1Cur_saga_o_G3 => ⟨[(0, (.pb 0 0)), (2, (.pb 1 0)), (9, (.pb 2 0)), (11, (.lf false (.sc (.int .i64 g179.t11))))], [(0, some (false, .box [(.lf true (.sl (g179.b0_0.map eU8))), (.lf false (.sc (.int .i64 g179.b0_1))), (.lf false (.sc (.int .u64 g179.b0_2)))])), (1, some (true, .box [.nl, .nl, (.lf false (.sc (.int .i64 0))), (.lf false (.sc (.bool false)))])), (2, some (true, .box [(.os 3 1 0 g179.c3.length g179.c3.length false), (.os 4 3 0 g179.c4.length g179.c4.length false), (.lf false (.sc (.int .i64 g179.b2_2))), (.lf false (.sc (.bool g179.b2_3)))])), (3, some (false, .arr false 1 (g179.c3.map eI))), (4, some (true, .arr false 3 (g179.c4.map eMove)))], 5, 120⟩) (_) _ _ hl23 (weakA [some 0, some 1, some 2, some 3, some 4]) ?_
                · intro n8 g179 z8 hs8 hk8
                  unfold spec_l1Cur_saga_o_L3 at hs8
                  try dsimp only at hs8
                  refine sA ?_
                  refine Bs_if hs8 (fun hs8 hc24 => ?_) (fun hs8 hc24 => ?_)
                  · try refine sA ?_
                    obtain ⟨p186, hq25, hs8⟩ := bind_ok hs8
                    refine Sq_cut (fun s2 => s2 = ⟨[(0, (.pb 0 0)), (2, (.pb 1 0)), (9, (.pb 2 0)), (11, (.lf false (.sc (.int .i64 g179.t11))))], [(0, some (false, .box [(.lf true (.sl (g179.b0_0.map eU8))), (.lf false (.sc (.int .i64 g179.b0_1))), (.lf false (.sc (.int .u64 g179.b0_2)))])), (1, some (true, .box [.nl, .nl, (.lf false (.sc (.int .i64 0))), (.lf false (.sc (.bool false)))])), (2, some (true, .box [(.os 3 1 0 p186.c3.length p186.c3.length false), (.os 4 3 0 p186.c4.length p186.c4.length false), (.lf false (.sc (.int .i64 p186.b2_2))), (.lf false (.sc (.bool p186.b2_3)))])), (3, some (false, .arr false 1 (p186.c3.map eI))), (4, some (true, .arr false 3 (p186.c4.map eMove)))], 5, 120⟩) ?_ ?_
                    · try refine sA ?_
                      obtain ⟨c185, hr26, hq25⟩ := bind_ok hq25
                      refine Cl_sA (w_spec_StepSaga hr26) ?_
                      try refine sA ?_
                      refine Bs_if hq25 (fun hq25 hc27 => ?_) (fun hq25 hc27 => ?_)
                      · try refine sA ?_
                        cases hq25
                        exact X_cut rfl (weakA [some 0, some 1, some 2, some 5, some 6])
                      · try refine sA ?_
                        cases hq25
                        exact X_cut rfl (weakA [some 0, some 1, some 2, some 3, some 4])
                    · intro s2 hJ; subst hJ
                      try dsimp only at hs8
                      try refine sA ?_
                      obtain ⟨c187, hr28, hs8⟩ := bind_ok hs8
                      refine Cl_sA (w_spec_FailSaga hr28) ?_
                      try refine sA ?_
                      obtain ⟨p189, hq29, hs8⟩ := bind_ok hs8
                      refine Sq_cut (fun s2 => s2 = ⟨[(0, (.pb 0 0)), (2, (.pb 1 0)), (9, (.pb 2 0)), (11, (.lf false (.sc (.int .i64 g179.t11)))), (14, (.pb 3 0)), (101, (.lf false (.sc (.bool p189.t101))))], [(0, some (false, .box [(.lf true (.sl (p189.b0_0.map eU8))), (.lf false (.sc (.int .i64 p189.b0_1))), (.lf false (.sc (.int .u64 p189.b0_2)))])), (1, some (true, .box [.nl, .nl, (.lf false (.sc (.int .i64 0))), (.lf false (.sc (.bool false)))])), (2, some (true, .box [(.os 4 1 0 p186.c3.length p186.c3.length false), (.os 5 3 0 p186.c4.length p186.c4.length false), (.lf false (.sc (.int .i64 p186.b2_2))), (.lf false (.sc (.bool p186.b2_3)))])), (3, some (true, .box [(.os 6 1 0 c187.1.Accounts.length c187.1.Accounts.length false), (.os 7 3 0 c187.1.Moves.length c187.1.Moves.length false), (.lf false (.sc (.int .i64 c187.1.Done))), (.lf false (.sc (.bool c187.1.Undoing)))])), (4, some (false, .arr false 1 (p186.c3.map eI))), (5, some (true, .arr false 3 (p186.c4.map eMove))), (6, some (true, .arr false 1 (c187.1.Accounts.map eI))), (7, some (true, .arr false 3 (c187.1.Moves.map eMove)))], 8, 120⟩) ?_ ?_
                      · try refine sA ?_
                        refine Sp_if hq29 (fun hq29 hc30 => ?_) (fun hq29 hc30 => ?_)
                        · try refine sA ?_
                          obtain ⟨c188, hr31, hq29⟩ := bind_ok hq29
                          refine Cl_hA [0] (w_spec_l1Cur_one_o hr31) ?_
                          try refine sA ?_
                          cases hq29
                          exact X_cut rfl (weakA [some 0, some 1, some 2, some 8, some 3, some 4, some 5, some 6])
                        · try refine sA ?_
                          cases hq29
                          exact X_cut rfl (weakA [some 0, some 1, some 2, some 8, some 3, some 4, some 5, some 6])
                      · intro s2 hJ; subst hJ
                        try dsimp only at hs8
                        try refine sA ?_
                        refine Bs_if hs8 (fun hs8 hc32 => ?_) (fun hs8 hc32 => ?_)
                        · try refine sA ?_
                          cases hs8
                          exact X_backP hk8 (weakA [some 0, some 1, some 2, some 6, some 7])
                        · try refine sA ?_
                          cases hs8
                          exact X_backP hk8 (weakA [some 0, some 1, some 2, some 4, some 5])
                  · try refine sA ?_
                    cases hs8
                    cases hk8
                    try dsimp only at h
                    try refine sA ?_
                    obtain ⟨c193, hr33, h⟩ := bind_ok h
                    refine Cl_hA [0] (w_spec_l1Cur_pick_o hr33) ?_
                    try refine sA ?_
                    refine Bs_if h (fun h hc34 => ?_) (fun h hc34 => ?_)
                    · try refine sA ?_
                      have he := Option.some.inj h
                      subst he
                      exact endsA ⟨[(2, (.pb 3 0))], [(0, some (false, .box [(.lf true (.sl (c193.2.code.map eU8))), (.lf false (.sc (.int .i64 c193.2.at_))), (.lf false (.sc (.int .u64 c193.2.seed)))])), (1, some (false, .arr false 1 (g179.c3.map eI))), (2, some (true, .arr false 3 (g179.c4.map eMove))), (3, some (true, .box [(.os 1 1 0 g179.c3.length g179.c3.length false), (.os 2 3 0 g179.c4.length g179.c4.length false), (.lf false (.sc (.int .i64 (wI (g179.b2_2 + 1))))), (.lf false (.sc (.bool g179.b2_3)))]))], 4, 120⟩ [some 0, some 3, some 4, some 1]
                    · try refine sA ?_
                      refine Bs_if h (fun h hc35 => ?_) (fun h hc35 => ?_)
                      · try refine sA ?_
                        obtain ⟨c194, hr36, h⟩ := bind_ok h
                        refine Cl_hA [0, 5] (w_spec_l1Cur_among_ow hr36) ?_
                        try refine sA ?_
                        obtain ⟨hp37, h⟩ := guard_some h
                        have hn37 : 0 < g179.c3.length := by first | omega | (simp only [List.length_set, List.length_append, List.length_replicate, List.length_map]; omega)
                        try refine sA ?_
                        try refine andA ?_
                        try refine andB ?_
                        try refine sA ?_
                        have he := Option.some.inj h
                        subst he
                        exact endsA ⟨[(2, (.pb 3 0))], [(0, some (false, .box [(.lf true (.sl (c194.2.code.map eU8))), (.lf false (.sc (.int .i64 c194.2.at_))), (.lf false (.sc (.int .u64 c194.2.seed)))])), (1, some (false, .arr false 1 ((g179.c3.set 0 c194.1).map eI))), (2, some (true, .arr false 3 (g179.c4.map eMove))), (3, some (true, .box [(.os 1 1 0 ((g179.c3.set 0 c194.1).length) ((g179.c3.set 0 c194.1).length) false), (.os 2 3 0 g179.c4.length g179.c4.length false), (.lf false (.sc (.int .i64 g179.b2_2))), (.lf false (.sc (.bool g179.b2_3)))]))], 4, 120⟩ [some 0, some 3, some 4, some 1]
                      · try refine sA ?_
                        have he := Option.some.inj h
                        subst he
                        exact endsA ⟨[(2, (.pb 3 0))], [(0, some (false, .box [(.lf true (.sl (c193.2.code.map eU8))), (.lf false (.sc (.int .i64 c193.2.at_))), (.lf false (.sc (.int .u64 c193.2.seed)))])), (1, some (false, .arr false 1 (g179.c3.map eI))), (2, some (true, .arr false 3 (g179.c4.map eMove))), (3, some (true, .box [(.os 1 1 0 g179.c3.length g179.c3.length false), (.os 2 3 0 g179.c4.length g179.c4.length false), (.lf false (.sc (.int .i64 g179.b2_2))), (.lf false (.sc (.bool g179.b2_3)))]))], 4, 120⟩ [some 0, some 3, some 4, some 1]
          · try refine sA ?_
            cases hs6
            cases hk6
            try dsimp only at h
            try refine sA ?_
            obtain ⟨c195, hr39, h⟩ := bind_ok h
            refine Cl_sA (w_spec_NewSaga hr39) ?_
            try refine sA ?_
            obtain ⟨p196, hq40, h⟩ := bind_ok h
            refine Sq_cut (fun s2 => s2 = ⟨[(0, (.pb 0 0)), (2, (.pb 1 0)), (9, (.pb 2 0))], [(0, some (false, .box [(.lf true (.sl (g149.b0_0.map eU8))), (.lf false (.sc (.int .i64 g149.b0_1))), (.lf false (.sc (.int .u64 g149.b0_2)))])), (1, some (true, .box [.nl, .nl, (.lf false (.sc (.int .i64 0))), (.lf false (.sc (.bool false)))])), (2, some (true, .box [(.os 3 1 0 p196.c3.length p196.c3.length false), (.os 4 3 0 p196.c4.length p196.c4.length false), (.lf false (.sc (.int .i64 p196.b2_2))), (.lf false (.sc (.bool p196.b2_3)))])), (3, some (true, .arr false 1 (p196.c3.map eI))), (4, some (true, .arr false 3 (p196.c4.map eMove)))], 5, 120⟩) ?_ ?_
            · try refine sA ?_
              refine Bs_if hq40 (fun hq40 hc41 => ?_) (fun hq40 hc41 => ?_)
              · try refine sA ?_
                cases hq40
                exact X_cut rfl (weakA [some 0, some 1, some 7, some 2, some 3])
              · try refine sA ?_
                cases hq40
                exact X_cut rfl (weakA [some 0, some 1, some 7, some 4, some 5])
            · intro s2 hJ; subst hJ
              try dsimp only at h
              try refine sA ?_
              obtain ⟨c197, hr42, h⟩ := bind_ok h
              refine Cl_hA [0] (w_spec_l1Cur_pick_o hr42) ?_
              try refine sA ?_
              obtain ⟨y209, hl43, h⟩ := bind_ok h
              refine W_loopP (fun g198 : spec_l1Cur_saga_o_G3 => ⟨[(0, (.pb 0 0)), (2, (.pb 1 0)), (9, (.pb 2 0)), (11, (.lf false (.sc (.int .i64 g198.t11))))], [(0, some (false, .box [(.lf true (.sl (g198.b0_0.map eU8))), (.lf false (.sc (.int .i64 g198.b0_1))), (.lf false (.sc (.int .u64 g198.b0_2)))])), (1, some (true, .box [.nl, .nl, (.lf false (.sc (.int .i64 0))), (.lf false (.sc (.bool false)))])), (2, some (true, .box [(.os 3 1 0 g198.c3.length g198.c3.length false), (.os 4 3 0 g198.c4.length g198.c4.length false), (.lf false (.sc (.int .i64 g198.b2_2))), (.lf false (.sc (.bool g198.b2_3)))])), (3, some (false, .arr false 1 (g198.c3.map eI))), (4, some (true, .arr false 3 (g198.c4.map eMove)))], 5, 120⟩) (_) _ _ hl43 (weakA [some 0, some 1, some 2, some 3, some 4]) ?_
              · intro n9 g198 z9 hs9 hk9
                unfold spec_l1Cur_saga_o_L3 at hs9
                try dsimp only at hs9
                refine sA ?_
                refine Bs_if hs9 (fun hs9 hc44 => ?_) (fun hs9 hc44 => ?_)
                · try refine sA ?_
                  obtain ⟨p205, hq45, hs9⟩ := bind_ok hs9
                  refine Sq_cut (fun s2 => s2 = ⟨[(0, (.pb 0 0)), (2, (.pb 1 0)), (9, (.pb 2 0)), (11, (.lf false (.sc (.int .i64 g198.t11))))], [(0, some (false, .box [(.lf true (.sl (g198.b0_0.map eU8))), (.lf false (.sc (.int .i64 g198.b0_1))), (.lf false (.sc (.int .u64 g198.b0_2)))])), (1, some (true, .box [.nl, .nl, (.lf false (.sc (.int .i64 0))), (.lf false (.sc (.bool false)))])), (2, some (true, .box [(.os 3 1 0 p205.c3.length p205.c3.length false), (.os 4 3 0 p205.c4.length p205.c4.length false), (.lf false (.sc (.int .i64 p205.b2_2))), (.lf false (.sc (.bool p205.b2_3)))])), (3, some (false, .arr false 1 (p205.c3.map eI))), (4, some (true, .arr false 3 (p205.c4.map eMove)))], 5, 120⟩) ?_ ?_
                  · try refine sA ?_
                    obtain ⟨c204, hr46, hq45⟩ := bind_ok hq45
                    refine Cl_sA (w_spec_StepSaga hr46) ?_
                    try refine sA ?_
                    refine Bs_if hq45 (fun hq45 hc47 => ?_) (fun hq45 hc47 => ?_)
                    · try refine sA ?_
                      cases hq45
                      exact X_cut rfl (weakA [some 0, some 1, some 2, some 5, some 6])
                    · try refine sA ?_
                      cases hq45
                      exact X_cut rfl (weakA [some 0, some 1, some 2, some 3, some 4])
                  · intro s2 hJ; subst hJ
                    try dsimp only at hs9
                    try refine sA ?_
                    obtain ⟨c206, hr48, hs9⟩ := bind_ok hs9
                    refine Cl_sA (w_spec_FailSaga hr48) ?_
                    try refine sA ?_
                    obtain ⟨p208, hq49, hs9⟩ := bind_ok hs9
                    refine Sq_cut (fun s2 => s2 = ⟨[(0, (.pb 0 0)), (2, (.pb 1 0)), (9, (.pb 2 0)), (11, (.lf false (.sc (.int .i64 g198.t11)))), (14, (.pb 3 0)), (101, (.lf false (.sc (.bool p208.t101))))], [(0, some (false, .box [(.lf true (.sl (p208.b0_0.map eU8))), (.lf false (.sc (.int .i64 p208.b0_1))), (.lf false (.sc (.int .u64 p208.b0_2)))])), (1, some (true, .box [.nl, .nl, (.lf false (.sc (.int .i64 0))), (.lf false (.sc (.bool false)))])), (2, some (true, .box [(.os 4 1 0 p205.c3.length p205.c3.length false), (.os 5 3 0 p205.c4.length p205.c4.length false), (.lf false (.sc (.int .i64 p205.b2_2))), (.lf false (.sc (.bool p205.b2_3)))])), (3, some (true, .box [(.os 6 1 0 c206.1.Accounts.length c206.1.Accounts.length false), (.os 7 3 0 c206.1.Moves.length c206.1.Moves.length false), (.lf false (.sc (.int .i64 c206.1.Done))), (.lf false (.sc (.bool c206.1.Undoing)))])), (4, some (false, .arr false 1 (p205.c3.map eI))), (5, some (true, .arr false 3 (p205.c4.map eMove))), (6, some (true, .arr false 1 (c206.1.Accounts.map eI))), (7, some (true, .arr false 3 (c206.1.Moves.map eMove)))], 8, 120⟩) ?_ ?_
                    · try refine sA ?_
                      refine Sp_if hq49 (fun hq49 hc50 => ?_) (fun hq49 hc50 => ?_)
                      · try refine sA ?_
                        obtain ⟨c207, hr51, hq49⟩ := bind_ok hq49
                        refine Cl_hA [0] (w_spec_l1Cur_one_o hr51) ?_
                        try refine sA ?_
                        cases hq49
                        exact X_cut rfl (weakA [some 0, some 1, some 2, some 8, some 3, some 4, some 5, some 6])
                      · try refine sA ?_
                        cases hq49
                        exact X_cut rfl (weakA [some 0, some 1, some 2, some 8, some 3, some 4, some 5, some 6])
                    · intro s2 hJ; subst hJ
                      try dsimp only at hs9
                      try refine sA ?_
                      refine Bs_if hs9 (fun hs9 hc52 => ?_) (fun hs9 hc52 => ?_)
                      · try refine sA ?_
                        cases hs9
                        exact X_backP hk9 (weakA [some 0, some 1, some 2, some 6, some 7])
                      · try refine sA ?_
                        cases hs9
                        exact X_backP hk9 (weakA [some 0, some 1, some 2, some 4, some 5])
                · try refine sA ?_
                  cases hs9
                  cases hk9
                  try dsimp only at h
                  try refine sA ?_
                  obtain ⟨c212, hr53, h⟩ := bind_ok h
                  refine Cl_hA [0] (w_spec_l1Cur_pick_o hr53) ?_
                  try refine sA ?_
                  refine Bs_if h (fun h hc54 => ?_) (fun h hc54 => ?_)
                  · try refine sA ?_
                    have he := Option.some.inj h
                    subst he
                    exact endsA ⟨[(2, (.pb 3 0))], [(0, some (false, .box [(.lf true (.sl (c212.2.code.map eU8))), (.lf false (.sc (.int .i64 c212.2.at_))), (.lf false (.sc (.int .u64 c212.2.seed)))])), (1, some (false, .arr false 1 (g198.c3.map eI))), (2, some (true, .arr false 3 (g198.c4.map eMove))), (3, some (true, .box [(.os 1 1 0 g198.c3.length g198.c3.length false), (.os 2 3 0 g198.c4.length g198.c4.length false), (.lf false (.sc (.int .i64 (wI (g198.b2_2 + 1))))), (.lf false (.sc (.bool g198.b2_3)))]))], 4, 120⟩ [some 0, some 3, some 4, some 1]
                  · try refine sA ?_
                    refine Bs_if h (fun h hc55 => ?_) (fun h hc55 => ?_)
                    · try refine sA ?_
                      obtain ⟨c213, hr56, h⟩ := bind_ok h
                      refine Cl_hA [0, 5] (w_spec_l1Cur_among_ow hr56) ?_
                      try refine sA ?_
                      obtain ⟨hp57, h⟩ := guard_some h
                      have hn57 : 0 < g198.c3.length := by first | omega | (simp only [List.length_set, List.length_append, List.length_replicate, List.length_map]; omega)
                      try refine sA ?_
                      try refine andA ?_
                      try refine andB ?_
                      try refine sA ?_
                      have he := Option.some.inj h
                      subst he
                      exact endsA ⟨[(2, (.pb 3 0))], [(0, some (false, .box [(.lf true (.sl (c213.2.code.map eU8))), (.lf false (.sc (.int .i64 c213.2.at_))), (.lf false (.sc (.int .u64 c213.2.seed)))])), (1, some (false, .arr false 1 ((g198.c3.set 0 c213.1).map eI))), (2, some (true, .arr false 3 (g198.c4.map eMove))), (3, some (true, .box [(.os 1 1 0 ((g198.c3.set 0 c213.1).length) ((g198.c3.set 0 c213.1).length) false), (.os 2 3 0 g198.c4.length g198.c4.length false), (.lf false (.sc (.int .i64 g198.b2_2))), (.lf false (.sc (.bool g198.b2_3)))]))], 4, 120⟩ [some 0, some 3, some 4, some 1]
                    · try refine sA ?_
                      have he := Option.some.inj h
                      subst he
                      exact endsA ⟨[(2, (.pb 3 0))], [(0, some (false, .box [(.lf true (.sl (c212.2.code.map eU8))), (.lf false (.sc (.int .i64 c212.2.at_))), (.lf false (.sc (.int .u64 c212.2.seed)))])), (1, some (false, .arr false 1 (g198.c3.map eI))), (2, some (true, .arr false 3 (g198.c4.map eMove))), (3, some (true, .box [(.os 1 1 0 g198.c3.length g198.c3.length false), (.os 2 3 0 g198.c4.length g198.c4.length false), (.lf false (.sc (.int .i64 g198.b2_2))), (.lf false (.sc (.bool g198.b2_3)))]))], 4, 120⟩ [some 0, some 3, some 4, some 1]
theorem w_spec_DrawNewSaga {a0 : (List Int)} {r : ((List Int) × (List MoveT))} (h : spec_DrawNewSaga a0 = some r) : Fn Try.prog 6 [(.lf true (.sl (a0.map eU8)))] [] 0 (.tu [(.os 0 1 0 r.1.length r.1.length false), (.os 1 3 0 r.2.length r.2.length false)]) [(0, some (false, .arr false 1 (r.1.map eI))), (1, some (true, .arr false 3 (r.2.map eMove)))] 2 := by
  unfold spec_DrawNewSaga at h
  refine fn_code tab_ok mixed [(1000, [(0, 0)]), (1001, [(4, 0)]), (1002, [(4, 0), (5, 0)]), (1003, [(5, 0), (18, 0)]), (1004, [(5, 0)]), (1005, [(2, 0), (3, 0)]), (4003, [])] Try.func6 rfl rfl (by simp [Try.f6]) (by kernel_rfl) ?_
  simp only [Try.f6]
  refine sA ?_
  obtain ⟨c214, hr1, h⟩ := bind_ok h
  refine Cl_hA [0] (w_spec_l1Cur_saga_o hr1) ?_
  try refine sA ?_
  obtain ⟨p216, hq2, h⟩ := bind_ok h
  refine Sq_cut (fun s2 => s2 = ⟨[(5, (.pb 0 0)), (18, (.lf false (.sc (.bool p216.t18))))], [(0, some (true, .box [(.os 1 1 0 c214.1.Accounts.length c214.1.Accounts.length false), (.os 2 3 0 c214.1.Moves.length c214.1.Moves.length false), (.lf false (.sc (.int .i64 c214.1.Done))), (.lf false (.sc (.bool c214.1.Undoing)))])), (1, some (false, .arr false 1 (c214.1.Accounts.map eI))), (2, some (true, .arr false 3 (c214.1.Moves.map eMove)))], 3, 32⟩) ?_ ?_
  · try refine sA ?_
    obtain ⟨c215, hr3, hq2⟩ := bind_ok hq2
    refine Cl_hA [0] (w_spec_l1Cur_one_o hr3) ?_
    try refine sA ?_
    refine Sp_if hq2 (fun hq2 hc4 => ?_) (fun hq2 hc4 => ?_)
    · try refine sA ?_
      cases hq2
      exact X_cut rfl (weakA [some 4, some 1, some 2])
    · try refine sA ?_
      cases hq2
      exact X_cut rfl (weakA [some 4, some 1, some 2])
  · intro s2 hJ; subst hJ
    try dsimp only at h
    try refine sA ?_
    refine Bs_if h (fun h hc5 => ?_) (fun h hc5 => ?_)
    · try refine sA ?_
      obtain ⟨hp6, h⟩ := guard_some h
      have hn6 : 0 < c214.1.Moves.length := by first | omega | (simp only [List.length_set, List.length_append, List.length_replicate, List.length_map]; omega)
      try refine sA ?_
      try refine andA ?_
      try refine andB ?_
      try refine sA ?_
      obtain ⟨hp8, h⟩ := guard_some h
      have hn8 : 0 < c214.1.Moves.length := by first | omega | (simp only [List.length_set, List.length_append, List.length_replicate, List.length_map]; omega)
      try refine sA ?_
      try refine andA ?_
      try refine andB ?_
      try refine sA ?_
      have he := Option.some.inj h
      subst he
      exact endsA ⟨[(2, (.os 0 1 0 c214.1.Accounts.length c214.1.Accounts.length false)), (3, (.os 1 3 0 ((c214.1.Moves.set 0 (⟨(nth c214.1.Moves 0).From, (nth c214.1.Moves 0).From, (nth c214.1.Moves 0).Many⟩ : MoveT)).length) ((c214.1.Moves.set 0 (⟨(nth c214.1.Moves 0).From, (nth c214.1.Moves 0).From, (nth c214.1.Moves 0).Many⟩ : MoveT)).length) false))], [(0, some (false, .arr false 1 (c214.1.Accounts.map eI))), (1, some (true, .arr false 3 ((c214.1.Moves.set 0 (⟨(nth c214.1.Moves 0).From, (nth c214.1.Moves 0).From, (nth c214.1.Moves 0).Many⟩ : MoveT)).map eMove)))], 2, 32⟩ [some 1, some 2]
    · try refine sA ?_
      have he := Option.some.inj h
      subst he
      exact endsA ⟨[(2, (.os 0 1 0 c214.1.Accounts.length c214.1.Accounts.length false)), (3, (.os 1 3 0 c214.1.Moves.length c214.1.Moves.length false))], [(0, some (false, .arr false 1 (c214.1.Accounts.map eI))), (1, some (true, .arr false 3 (c214.1.Moves.map eMove)))], 2, 32⟩ [some 1, some 2]
theorem w_slices_Clone_int {a0 : (List Int)} {r : (List Int)} (h : slices_Clone_int a0 = some r) : Fn Try.prog 62 [(.lf true (.sl (a0.map eI)))] [] 0 (.os 0 1 0 r.length r.length false) [(0, some (true, .arr false 1 (r.map eI)))] 1 := by
  unfold slices_Clone_int at h
  obtain ⟨hp, h⟩ := guard_some h
  have he := Option.some.inj h; subst he
  refine fn_code tab_ok mixed [] Try.func62 rfl rfl (by simp [Try.f62]) (by kernel_rfl) ?_
  simp only [Try.f62]
  simp (disch := assumption) only [go_sem, Nat.reduceAdd, Nat.reduceMul, Nat.reduceSub, Nat.reduceEqDiff, ↓reduceIte, Nat.reduceLT, reduceCtorEq, Nat.reduceLeDiff, Int.reduceToNat, Int.reduceEq, Int.reduceLE, Int.reduceLT, Nat.reduceBEq]
  intro b hb
  refine Bs_splitC (b = true) (by simp) (fun hc => ?_) (fun hc => ?_)
  · have h0 : a0 = [] := by simpa using hb (by simpa using hc)
    subst h0
    try simp (disch := assumption) only [go_sem, Nat.reduceAdd, Nat.reduceMul, Nat.reduceSub, Nat.reduceEqDiff, ↓reduceIte, Nat.reduceLT, reduceCtorEq, Nat.reduceLeDiff, Int.reduceToNat, Int.reduceEq, Int.reduceLE, Int.reduceLT, Nat.reduceBEq]
    refine ends_weak ⟨[(2, (.os 0 1 0 0 0 false))], [(0, some (true, .arr false 1 (([] : List Int).map eI)))], 1, 8⟩ (weak_of (m := 0) [none] rfl rfl rfl (by rfl) ?_ ?_) ?_
    all_goals ((try simp (disch := assumption) only [go_sem, Nat.reduceAdd, Nat.reduceMul, Nat.reduceSub, Nat.reduceEqDiff, ↓reduceIte, Nat.reduceLT, reduceCtorEq, Nat.reduceLeDiff, Int.reduceToNat, Int.reduceEq, Int.reduceLE, Int.reduceLT, Nat.reduceBEq]); (repeat' first | done | rfl | omega | refine And.intro ?_ ?_ | (simp; done) | (simp; omega)))
  · try simp (disch := assumption) only [go_sem, Nat.reduceAdd, Nat.reduceMul, Nat.reduceSub, Nat.reduceEqDiff, ↓reduceIte, Nat.reduceLT, reduceCtorEq, Nat.reduceLeDiff, Int.reduceToNat, Int.reduceEq, Int.reduceLE, Int.reduceLT, Nat.reduceBEq]
    first | refine And.intro (by first | omega | exact ⟨by omega, fun _ => mapLen fun _ => rfl⟩ | (refine ⟨?_, by omega⟩; first | exact mapLen fun _ => rfl | simp)) ?_ | skip
    try simp (disch := assumption) only [go_sem, Nat.reduceAdd, Nat.reduceMul, Nat.reduceSub, Nat.reduceEqDiff, ↓reduceIte, Nat.reduceLT, reduceCtorEq, Nat.reduceLeDiff, Int.reduceToNat, Int.reduceEq, Int.reduceLE, Int.reduceLT, Nat.reduceBEq]
    refine ends_weak ⟨[(2, (.os 0 1 0 a0.length a0.length false))], [(0, some (true, .arr false 1 (a0.map eI)))], 1, 8⟩ (weak_of (m := 0) [some 1] rfl rfl rfl (by rfl) ?_ ?_) ?_
    all_goals ((try simp (disch := assumption) only [go_sem, Nat.reduceAdd, Nat.reduceMul, Nat.reduceSub, Nat.reduceEqDiff, ↓reduceIte, Nat.reduceLT, reduceCtorEq, Nat.reduceLeDiff, Int.reduceToNat, Int.reduceEq, Int.reduceLE, Int.reduceLT, Nat.reduceBEq]); (repeat' first | done | rfl | omega | refine And.intro ?_ ?_ | (simp; done) | (simp; omega)))
theorem w_impl_in {a0 : Int} {a1 : Int} {a2 : Int} {r : Bool} (h : impl_in a0 a1 a2 = some r) : Fn Try.prog 40 [(.lf false (.sc (.int .i64 a0))), (.lf false (.sc (.int .i64 a1))), (.lf false (.sc (.int .i64 a2)))] [] 0 (.lf false (.sc (.bool r))) [] 0 := by
  unfold impl_in at h
  refine fn_code tab_ok mixed [] Try.func40 rfl rfl (by simp [Try.f40]) (by kernel_rfl) ?_
  simp only [Try.f40]
  refine sA ?_
  refine Sp_if h (fun h hc1 => ?_) (fun h hc1 => ?_)
  · try refine sA ?_
    have he := Option.some.inj h
    subst he
    exact endsA ⟨[(6, (.lf false (.sc (.bool (decide (a0 ≤ a2))))))], [], 0, 15⟩ []
  · try refine sA ?_
    have he := Option.some.inj h
    subst he
    exact endsA ⟨[(6, (.lf false (.sc (.bool false))))], [], 0, 15⟩ []
theorem w_impl_accountOk {a0 : Int} {r : Bool} (h : impl_accountOk a0 = some r) : Fn Try.prog 67 [(.lf false (.sc (.int .i64 a0)))] [] 0 (.lf false (.sc (.bool r))) [] 0 := by
  unfold impl_accountOk at h
  refine fn_code tab_ok mixed [] Try.func67 rfl rfl (by simp [Try.f67]) (by kernel_rfl) ?_
  simp only [Try.f67]
  refine sA ?_
  obtain ⟨c219, hr1, h⟩ := bind_ok h
  refine Cl_sA (w_impl_in hr1) ?_
  try refine sA ?_
  have he := Option.some.inj h
  subst he
  exact endsA ⟨[(2, (.lf false (.sc (.bool c219))))], [], 0, 5⟩ []
theorem w_impl_moved_F {a0 : (List Int)} {a1 : MoveT} {r : ((List Int) × Bool)} (h : impl_moved_F a0 a1 = some r) : Fn Try.prog 42 [(.lf true (.sl (a0.map eI))), (.ag [(.lf false (.sc (.int .i64 a1.From))), (.lf false (.sc (.int .i64 a1.To))), (.lf false (.sc (.int .i64 a1.Many)))])] [] 0 (.tu [(.lf false (.sl (r.1.map eI))), (.lf false (.sc (.bool r.2)))]) [] 0 := by
  unfold impl_moved_F at h
  refine fn_code tab_ok mixed [(1000, [(0, 0), (3, 0)]), (1001, [(3, 0), (6, 0)]), (1002, [(3, 0), (6, 0)]), (1003, [(3, 0), (6, 0)]), (1004, [(4, 0), (5, 0)])] Try.func42 rfl rfl (by simp [Try.f42]) (by kernel_rfl) ?_
  simp only [Try.f42]
  refine sA ?_
  obtain ⟨c218, hr1, h⟩ := bind_ok h
  refine Cl_sA (w_slices_Clone_int hr1) ?_
  try refine sA ?_
  obtain ⟨hp2, h⟩ := guard_some h
  have hn2 : a1.From.toNat < c218.length := by first | omega | (simp only [List.length_set, List.length_append, List.length_replicate, List.length_map]; omega)
  try refine sA ?_
  try refine andA ?_
  try refine andB ?_
  try refine sA ?_
  obtain ⟨hp4, h⟩ := guard_some h
  have hn4 : a1.From.toNat < c218.length := by first | omega | (simp only [List.length_set, List.length_append, List.length_replicate, List.length_map]; omega)
  try refine sA ?_
  try refine andA ?_
  try refine andB ?_
  try refine sA ?_
  obtain ⟨hp6, h⟩ := guard_some h
  have hn6 : a1.To.toNat < c218.length := by first | omega | (simp only [List.length_set, List.length_append, List.length_replicate, List.length_map]; omega)
  try refine sA ?_
  try refine andA ?_
  try refine andB ?_
  try refine sA ?_
  obtain ⟨hp8, h⟩ := guard_some h
  have hn8 : a1.To.toNat < c218.length := by first | omega | (simp only [List.length_set, List.length_append, List.length_replicate, List.length_map]; omega)
  try refine sA ?_
  try refine andA ?_
  try refine andB ?_
  try refine sA ?_
  obtain ⟨hp10, h⟩ := guard_some h
  have hn10 : a1.From.toNat < c218.length := by first | omega | (simp only [List.length_set, List.length_append, List.length_replicate, List.length_map]; omega)
  try refine sA ?_
  try refine andA ?_
  try refine andB ?_
  try refine sA ?_
  obtain ⟨c220, hr12, h⟩ := bind_ok h
  refine Cl_sA (w_impl_accountOk hr12) ?_
  try refine sA ?_
  refine Sp_if h (fun h hc13 => ?_) (fun h hc13 => ?_)
  · try refine sA ?_
    obtain ⟨hp14, h⟩ := guard_some h
    have hn14 : a1.To.toNat < c218.length := by first | omega | (simp only [List.length_set, List.length_append, List.length_replicate, List.length_map]; omega)
    try refine sA ?_
    try refine andA ?_
    try refine andB ?_
    try refine sA ?_
    obtain ⟨c221, hr16, h⟩ := bind_ok h
    refine Cl_sA (w_impl_accountOk hr16) ?_
    try refine sA ?_
    have he := Option.some.inj h
    subst he
    refine ends_frz 1 ?_
    try refine sA ?_
    exact endsA ⟨[(4, (.lf false (.sl (((c218.set a1.From.toNat (wI ((nth c218 a1.From.toNat) - a1.Many))).set a1.To.toNat (wI ((nth (c218.set a1.From.toNat (wI ((nth c218 a1.From.toNat) - a1.Many))) a1.To.toNat) + a1.Many))).map eI)))), (5, (.lf false (.sc (.bool c221))))], [], 0, 42⟩ []
  · try refine sA ?_
    have he := Option.some.inj h
    subst he
    refine ends_frz 1 ?_
    try refine sA ?_
    exact endsA ⟨[(4, (.lf false (.sl (((c218.set a1.From.toNat (wI ((nth c218 a1.From.toNat) - a1.Many))).set a1.To.toNat (wI ((nth (c218.set a1.From.toNat (wI ((nth c218 a1.From.toNat) - a1.Many))) a1.To.toNat) + a1.Many))).map eI)))), (5, (.lf false (.sc (.bool false))))], [], 0, 42⟩ []
theorem w_impl_back {a0 : MoveT} {r : MoveT} (h : impl_back a0 = some r) : Fn Try.prog 43 [(.ag [(.lf false (.sc (.int .i64 a0.From))), (.lf false (.sc (.int .i64 a0.To))), (.lf false (.sc (.int .i64 a0.Many)))])] [] 0 (.ag [(.lf false (.sc (.int .i64 r.From))), (.lf false (.sc (.int .i64 r.To))), (.lf false (.sc (.int .i64 r.Many)))]) [] 1 := by
  unfold impl_back at h
  refine fn_code tab_ok mixed [] Try.func43 rfl rfl (by simp [Try.f43]) (by kernel_rfl) ?_
  simp only [Try.f43]
  refine sA ?_
  have he := Option.some.inj h
  subst he
  exact endsA ⟨[(2, (.pb 0 0))], [(0, some (true, .box [(.lf false (.sc (.int .i64 a0.To))), (.lf false (.sc (.int .i64 a0.From))), (.lf false (.sc (.int .i64 a0.Many)))]))], 1, 10⟩ [some 1]
theorem w_impl_accountsOk_c1 {a0 : Int} {r : Bool} (h : impl_accountsOk_c1 a0 = some r) : Fn Try.prog 66 [(.lf false (.sc (.int .i64 a0)))] [] 0 (.lf false (.sc (.bool r))) [] 0 := by
  unfold impl_accountsOk_c1 at h
  refine fn_code tab_ok mixed [] Try.func66 rfl rfl (by simp [Try.f66]) (by kernel_rfl) ?_
  simp only [Try.f66]
  refine sA ?_
  obtain ⟨c224, hr1, h⟩ := bind_ok h
  refine Cl_sA (w_impl_accountOk hr1) ?_
  try refine sA ?_
  have he := Option.some.inj h
  subst he
  exact endsA ⟨[(2, (.lf false (.sc (.bool (!c224)))))], [], 0, 6⟩ []
theorem w_slices_IndexFunc_int_impl_accountsOk_c1 {a0 : (List Int)} {r : Int} (h : slices_IndexFunc_int_impl_accountsOk_c1 a0 = some r) : Fn Try.prog 72 [(.lf true (.sl (a0.map eI))), (.fn 66 [])] [] 0 (.lf false (.sc (.int .i64 r))) [] 0 := by
  unfold slices_IndexFunc_int_impl_accountsOk_c1 at h
  refine fn_code tab_ok mixed [(1000, [(0, 0), (1, 0)]), (1001, [(0, 0), (1, 0), (7, 0), (8, 0)]), (1002, [(0, 0), (1, 0), (7, 0), (8, 0), (9, 0)]), (1003, [(0, 0), (1, 0), (5, 0), (7, 0), (8, 0)]), (1004, [(0, 0), (1, 0), (5, 0), (7, 0), (8, 0), (16, 0)]), (1005, [(4, 0)]), (1006, [(0, 0), (1, 0), (7, 0), (8, 0)]), (1007, [(4, 0)])] Try.func72 rfl rfl (by simp [Try.f72]) (by kernel_rfl) ?_
  simp only [Try.f72]
  refine sA ?_
  obtain ⟨y227, hl1, h⟩ := bind_ok h
  refine W_loopP (fun g223 : slices_IndexFunc_int_impl_accountsOk_c1_G1 => ⟨[(0, (.lf true (.sl (a0.map eI)))), (1, (.fn 66 [])), (7, (.lf false (.sc (.int .i64 ((a0.length : Nat) : Int))))), (8, (.lf false (.sc (.int .i64 g223.t8))))], [], 0, 19⟩) (slices_IndexFunc_int_impl_accountsOk_c1_L1 a0) _ _ hl1 (weakA []) ?_
  · intro n1 g223 z1 hs1 hk1
    unfold slices_IndexFunc_int_impl_accountsOk_c1_L1 at hs1
    try dsimp only at hs1
    refine sA ?_
    refine Bs_if hs1 (fun hs1 hc2 => ?_) (fun hs1 hc2 => ?_)
    · try refine sA ?_
      obtain ⟨hp3, hs1⟩ := guard_some hs1
      have hn3 : g223.t8.toNat < a0.length := by first | omega | (simp only [List.length_set, List.length_append, List.length_replicate, List.length_map]; omega)
      try refine sA ?_
      try refine andA ?_
      obtain ⟨c226, hr4, hs1⟩ := bind_ok hs1
      refine Cl_sA (w_impl_accountsOk_c1 hr4) ?_
      try refine sA ?_
      refine Bs_if hs1 (fun hs1 hc5 => ?_) (fun hs1 hc5 => ?_)
      · try refine sA ?_
        cases hs1
        cases hk1
        try dsimp only at h
        try refine sA ?_
        have he := Option.some.inj h
        subst he
        exact endsA ⟨[(4, (.lf false (.sc (.int .i64 g223.t8))))], [], 0, 19⟩ []
      · try refine sA ?_
        cases hs1
        exact X_backP hk1 (weakA [])
    · try refine sA ?_
      cases hs1
      cases hk1
      try dsimp only at h
      try refine sA ?_
      have he := Option.some.inj h
      subst he
      exact endsA ⟨[(4, (.lf false (.sc (.int .i64 (-1)))))], [], 0, 19⟩ []
theorem w_slices_ContainsFunc_int_impl_accountsOk_c1 {a0 : (List Int)} {r : Bool} (h : slices_ContainsFunc_int_impl_accountsOk_c1 a0 = some r) : Fn Try.prog 65 [(.lf true (.sl (a0.map eI))), (.fn 66 [])] [] 0 (.lf false (.sc (.bool r))) [] 0 := by
  unfold slices_ContainsFunc_int_impl_accountsOk_c1 at h
  refine fn_code tab_ok mixed [] Try.func65 rfl rfl (by simp [Try.f65]) (by kernel_rfl) ?_
  simp only [Try.f65]
  refine sA ?_
  obtain ⟨c230, hr1, h⟩ := bind_ok h
  refine Cl_sA (w_slices_IndexFunc_int_impl_accountsOk_c1 hr1) ?_
  try refine sA ?_
  have he := Option.some.inj h
  subst he
  exact endsA ⟨[(4, (.lf false (.sc (.bool (decide (c230 ≥ 0))))))], [], 0, 9⟩ []
theorem w_impl_accountsOk {a0 : (List Int)} {r : Bool} (h : impl_accountsOk a0 = some r) : Fn Try.prog 39 [(.lf true (.sl (a0.map eI)))] [] 0 (.lf false (.sc (.bool r))) [] 0 := by
  unfold impl_accountsOk at h
  refine fn_code tab_ok mixed [] Try.func39 rfl rfl (by simp [Try.f39]) (by kernel_rfl) ?_
  simp only [Try.f39]
  refine sA ?_
  obtain ⟨c222, hr1, h⟩ := bind_ok h
  refine Cl_sA (w_impl_in hr1) ?_
  try refine sA ?_
  refine Sp_if h (fun h hc2 => ?_) (fun h hc2 => ?_)
  · try refine sA ?_
    obtain ⟨c231, hr3, h⟩ := bind_ok h
    refine Cl_sA (w_slices_ContainsFunc_int_impl_accountsOk_c1 hr3) ?_
    try refine sA ?_
    have he := Option.some.inj h
    subst he
    exact endsA ⟨[(2, (.lf false (.sc (.bool (!c231)))))], [], 0, 11⟩ []
  · try refine sA ?_
    have he := Option.some.inj h
    subst he
    exact endsA ⟨[(2, (.lf false (.sc (.bool false))))], [], 0, 11⟩ []
theorem w_impl_moveOk {a0 : MoveT} {a1 : Int} {r : Bool} (h : impl_moveOk a0 a1 = some r) : Fn Try.prog 38 [(.ag [(.lf false (.sc (.int .i64 a0.From))), (.lf false (.sc (.int .i64 a0.To))), (.lf false (.sc (.int .i64 a0.Many)))]), (.lf false (.sc (.int .i64 a1)))] [] 0 (.lf false (.sc (.bool r))) [] 0 := by
  unfold impl_moveOk at h
  refine fn_code tab_ok mixed [] Try.func38 rfl rfl (by simp [Try.f38]) (by kernel_rfl) ?_
  simp only [Try.f38]
  refine sA ?_
  obtain ⟨c233, hr1, h⟩ := bind_ok h
  refine Cl_sA (w_impl_in hr1) ?_
  try refine sA ?_
  refine Sp_if h (fun h hc2 => ?_) (fun h hc2 => ?_)
  · try refine sA ?_
    obtain ⟨c234, hr3, h⟩ := bind_ok h
    refine Cl_sA (w_impl_in hr3) ?_
    try refine sA ?_
    refine Sp_if h (fun h hc4 => ?_) (fun h hc4 => ?_)
    · try refine sA ?_
      refine Sp_if h (fun h hc5 => ?_) (fun h hc5 => ?_)
      · try refine sA ?_
        obtain ⟨c235, hr6, h⟩ := bind_ok h
        refine Cl_sA (w_impl_in hr6) ?_
        try refine sA ?_
        have he := Option.some.inj h
        subst he
        exact endsA ⟨[(4, (.lf false (.sc (.bool c235))))], [], 0, 29⟩ []
      · try refine sA ?_
        have he := Option.some.inj h
        subst he
        exact endsA ⟨[(4, (.lf false (.sc (.bool false))))], [], 0, 29⟩ []
    · try refine sA ?_
      have he := Option.some.inj h
      subst he
      exact endsA ⟨[(4, (.lf false (.sc (.bool false))))], [], 0, 29⟩ []
  · try refine sA ?_
    have he := Option.some.inj h
    subst he
    exact endsA ⟨[(4, (.lf false (.sc (.bool false))))], [], 0, 29⟩ []
theorem w_impl_GoodSaga_c1_r {a0 : MoveT} {a1 : SagaT} {r : Bool} (h : impl_GoodSaga_c1_r a0 a1 = some r) : Fn Try.prog 37 [(.ag [(.lf false (.sc (.int .i64 a0.From))), (.lf false (.sc (.int .i64 a0.To))), (.lf false (.sc (.int .i64 a0.Many)))]), (.ra true [.sl (a1.Accounts.map eI), .sl (a1.Moves.map eMove), .sc (.int .i64 a1.Done), .sc (.bool a1.Undoing)])] [] 0 (.lf false (.sc (.bool r))) [] 0 := by
  unfold impl_GoodSaga_c1_r at h
  refine fn_code tab_ok mixed [] Try.func37 rfl rfl (by simp [Try.f37]) (by kernel_rfl) ?_
  simp only [Try.f37]
  refine sA ?_
  obtain ⟨c236, hr1, h⟩ := bind_ok h
  refine Cl_sA (w_impl_moveOk hr1) ?_
  try refine sA ?_
  have he := Option.some.inj h
  subst he
  exact endsA ⟨[(3, (.lf false (.sc (.bool (!c236)))))], [], 0, 10⟩ []
theorem w_slices_IndexFunc_impl_Move_impl_GoodSaga_c1r {a0 : (List MoveT)} {a1 : SagaT} {r : Int} (h : slices_IndexFunc_impl_Move_impl_GoodSaga_c1r a0 a1 = some r) : Fn Try.prog 64 [(.lf true (.sl (a0.map eMove))), (.fn 37 [(.ra true [.sl (a1.Accounts.map eI), .sl (a1.Moves.map eMove), .sc (.int .i64 a1.Done), .sc (.bool a1.Undoing)])])] [] 0 (.lf false (.sc (.int .i64 r))) [] 0 := by
  unfold slices_IndexFunc_impl_Move_impl_GoodSaga_c1r at h
  refine fn_code tab_ok mixed [(1000, [(0, 0), (1, 0)]), (1001, [(0, 0), (1, 0), (7, 0), (8, 0)]), (1002, [(0, 0), (1, 0), (7, 0), (8, 0), (9, 0)]), (1003, [(0, 0), (1, 0), (5, 0), (7, 0), (8, 0)]), (1004, [(0, 0), (1, 0), (5, 0), (7, 0), (8, 0), (16, 0)]), (1005, [(4, 0)]), (1006, [(0, 0), (1, 0), (7, 0), (8, 0)]), (1007, [(4, 0)])] Try.func64 rfl rfl (by simp [Try.f64]) (by kernel_rfl) ?_
  simp only [Try.f64]
  refine sA ?_
  obtain ⟨y239, hl1, h⟩ := bind_ok h
  refine W_loopP (fun g232 : slices_IndexFunc_impl_Move_impl_GoodSaga_c1r_G1 => ⟨[(0, (.lf true (.sl (a0.map eMove)))), (1, (.fn 37 [(.ra true [.sl (a1.Accounts.map eI), .sl (a1.Moves.map eMove), .sc (.int .i64 a1.Done), .sc (.bool a1.Undoing)])])), (7, (.lf false (.sc (.int .i64 ((a0.length : Nat) : Int))))), (8, (.lf false (.sc (.int .i64 g232.t8))))], [], 0, 19⟩) (slices_IndexFunc_impl_Move_impl_GoodSaga_c1r_L1 a0 a1) _ _ hl1 (weakA []) ?_
  · intro n1 g232 z1 hs1 hk1
    unfold slices_IndexFunc_impl_Move_impl_GoodSaga_c1r_L1 at hs1
    try dsimp only at hs1
    refine sA ?_
    refine Bs_if hs1 (fun hs1 hc2 => ?_) (fun hs1 hc2 => ?_)
    · try refine sA ?_
      obtain ⟨hp3, hs1⟩ := guard_some hs1
      have hn3 : g232.t8.toNat < a0.length := by first | omega | (simp only [List.length_set, List.length_append, List.length_replicate, List.length_map]; omega)
      try refine sA ?_
      try refine andA ?_
      obtain ⟨c238, hr4, hs1⟩ := bind_ok hs1
      refine Cl_sA (w_impl_GoodSaga_c1_r hr4) ?_
      try refine sA ?_
      refine Bs_if hs1 (fun hs1 hc5 => ?_) (fun hs1 hc5 => ?_)
      · try refine sA ?_
        cases hs1
        cases hk1
        try dsimp only at h
        try refine sA ?_
        have he := Option.some.inj h
        subst he
        exact endsA ⟨[(4, (.lf false (.sc (.int .i64 g232.t8))))], [], 0, 19⟩ []
      · try refine sA ?_
        cases hs1
        exact X_backP hk1 (weakA [])
    · try refine sA ?_
      cases hs1
      cases hk1
      try dsimp only at h
      try refine sA ?_
      have he := Option.some.inj h
      subst he
      exact endsA ⟨[(4, (.lf false (.sc (.int .i64 (-1)))))], [], 0, 19⟩ []
theorem w_slices_ContainsFunc_impl_Move_impl_GoodSaga_c1r {a0 : (List MoveT)} {a1 : SagaT} {r : Bool} (h : slices_ContainsFunc_impl_Move_impl_GoodSaga_c1r a0 a1 = some r) : Fn Try.prog 36 [(.lf true (.sl (a0.map eMove))), (.fn 37 [(.ra true [.sl (a1.Accounts.map eI), .sl (a1.Moves.map eMove), .sc (.int .i64 a1.Done), .sc (.bool a1.Undoing)])])] [] 0 (.lf false (.sc (.bool r))) [] 0 := by
  unfold slices_ContainsFunc_impl_Move_impl_GoodSaga_c1r at h
  refine fn_code tab_ok mixed [] Try.func36 rfl rfl (by simp [Try.f36]) (by kernel_rfl) ?_
  simp only [Try.f36]
  refine sA ?_
  obtain ⟨c242, hr1, h⟩ := bind_ok h
  refine Cl_sA (w_slices_IndexFunc_impl_Move_impl_GoodSaga_c1r hr1) ?_
  try refine sA ?_
  have he := Option.some.inj h
  subst he
  exact endsA ⟨[(4, (.lf false (.sc (.bool (decide (c242 ≥ 0))))))], [], 0, 9⟩ []
theorem w_impl_GoodSaga {a0 : SagaT} {r : Bool} (h : impl_GoodSaga a0 = some r) : Fn Try.prog 18 [(.ag [(.lf true (.sl (a0.Accounts.map eI))), (.lf true (.sl (a0.Moves.map eMove))), (.lf false (.sc (.int .i64 a0.Done))), (.lf false (.sc (.bool a0.Undoing)))])] [] 0 (.lf false (.sc (.bool r))) [] 0 := by
  refine ⟨Ent.of Try.func18 rfl (by simp [Try.f18]), fun w F loc vs hsit hvs hv => ?_⟩
  obtain ⟨v0, e0, hc0⟩ := hv 0 (by simp)
  obtain ⟨av, cs, rfl, n0, g0, g1⟩ := cv_ag_inv hc0
  have k0 := cv_lf_inv (g1 0 (by simp))
  have k1 := cv_lf_inv (g1 1 (by simp))
  have k2 := cv_sc (g1 2 (by simp))
  have k3 := cv_sc (g1 3 (by simp))
  have g0' := g0
  have has := arr4 n0 (g0 0 (by simp)) (g0 1 (by simp)) (g0 2 (by simp)) (g0 3 (by simp))
  have hvs' := arr1 hvs e0
  subst has
  subst hvs'
  rw [k2, k3]
  have hFF : ∀ b k, (ctx0 F loc 0).fs true b k → F b k := fun b k x => x.elim (fun h => h.elim) (·.2)
  have hFs : ∀ b k, F b k → b < w.heap.size := fun b k x => (hsit.old b k x).1
  have k0' : RepL w F (cs 0) (.sl (a0.Accounts.map eI)) := k0.mono hFF fun _ _ _ => rfl
  have k1' : RepL w F (cs 1) (.sl (a0.Moves.map eMove)) := k1.mono hFF fun _ _ _ => rfl
  obtain ⟨aa, ac, hsa⟩ := rep_slice k0'
  obtain ⟨ma, mc, hsm⟩ := rep_slice k1'
  rw [List.length_map] at hsa hsm
  rw [hsa] at k0' ⊢
  rw [hsm] at k1' ⊢
  clear k0 k1 k2 k3 g0 g1 g0' hc0 hv hsa hsm
  have hLM : LM (a0.Moves.map fun m => (m.From, m.To, m.Many)) = .sl (a0.Moves.map eMove) := by unfold LM; rw [List.map_map]; rfl
  have hML : (a0.Moves.map fun m => (m.From, m.To, m.Many)).length = a0.Moves.length := List.length_map ..
  unfold impl_GoodSaga at h
  obtain ⟨c1, hc1, h⟩ := Option.bind_eq_some_iff.1 h
  obtain ⟨c2, hc2, h⟩ := Option.bind_eq_some_iff.1 h
  obtain ⟨ins, hin⟩ : ∃ ins : Bool, (c2 = true → a0.Moves.length ≤ 20 → c1 = false → impl_in a0.Done 0 ((a0.Moves.length : Nat) : Int) = some ins ∧ (ins = false → r = false) ∧ (ins = true → (0 ≤ a0.Done ∧ a0.Done ≤ ((a0.Moves.length : Nat) : Int)) ∧ impl_GoodSaga_back (a0.Moves.take a0.Done.toNat).reverse a0.Accounts = some r)) ∧ (c2 = false → r = false) ∧ (a0.Moves.length > 20 → r = false) ∧ (c1 = true → r = false) := by
    cases c2
    · have h : r = false := by simpa using h.symm
      exact ⟨false, (fun h => by cases h), fun _ => h, fun _ => h, fun _ => h⟩
    · by_cases hl : a0.Moves.length > 20
      · rw [if_neg (by simp), if_pos hl] at h
        have h := (Option.some.inj h).symm
        exact ⟨false, (fun _ h2 => absurd hl (by omega)), (fun h => by cases h), fun _ => h, fun _ => h⟩
      · cases c1
        · rw [if_neg (by simp), if_neg hl, if_neg (by simp)] at h
          obtain ⟨c3, hc3, h⟩ := Option.bind_eq_some_iff.1 h
          refine ⟨c3, fun _ _ _ => ⟨hc3, fun h3 => ?_, fun h3 => ?_⟩, (fun h => by cases h), fun h => absurd h hl, (fun h => by cases h)⟩
          · subst h3; simpa using h.symm
          · subst h3
            rw [if_neg (by simp)] at h
            exact guard_some h
        · rw [if_neg (by simp), if_neg hl, if_pos rfl] at h
          have h := (Option.some.inj h).symm
          exact ⟨false, fun _ _ h => by (cases h), (fun h => by cases h), fun h => absurd h hl, fun _ => h⟩
  obtain ⟨hin, q1, q2, q3⟩ := hin
  have key := Go.Proofs.Try.goodSaga_w w F hFs a0.Accounts (a0.Moves.map fun m => (m.From, m.To, m.Many)) a0.Done a0.Undoing aa ac ma mc k0' (by rw [hLM, hML]; exact k1') c1 c2 ins ?hCF ?hAO ?hIN ?hdn
    (fun l now => impl_GoodSaga_back (l.map fun x => (⟨x.1, x.2.1, x.2.2⟩ : MoveT)) now) r (fun now e => by simpa [impl_GoodSaga_back] using e.symm) ?hG0 ?hG ?hBK q1 (by rw [hML]; exact q2) q3 ?h4
  · rw [hML] at key
    refine key.mono fun e w' ⟨he, hb⟩ => ?_
    exact ⟨_, _, he, .refl _, rfl, (sit_keep hsit (keep_below hb)).1, .lf (.sc rfl)⟩
  case hCF =>
    intro W gs
    rw [hML] at gs ⊢
    have hb := gs.below
    have hz := gs.sz
    refine fn_useS (w_slices_ContainsFunc_impl_Move_impl_GoodSaga_c1r hc1) (fun b k => F b k ∨ (b = w.heap.size ∧ k < 4)) (fun b k hf => ?_) rfl fun j hj => ?_
    · rcases hf with hf | ⟨rfl, _⟩
      · have := hFs b k hf; omega
      · omega
    · have : j = 0 ∨ j = 1 := by simp at hj; omega
      rcases this with rfl | rfl
      · exact ⟨_, rfl, cv_show (rep_below k1' hFs hb) fun b k x => .inl x⟩
      · refine ⟨_, rfl, .fn (fun _ => .pointer (some ⟨w.heap.size, 0, none⟩)) rfl (fun j hj => ?_) fun j hj => ?_⟩
        · have : j = 0 := by simp at hj; omega
          subst this; rfl
        · have : j = 0 := by simp at hj; omega
          subst this
          refine .ra (fun j => [Value.slice aa a0.Accounts.length ac, .slice ma a0.Moves.length mc, .int .i64 a0.Done, .bool a0.Undoing].getD j (.bool false)) (fun j hj => ?_) fun j hj => ?_
          · have : j = 0 ∨ j = 1 ∨ j = 2 ∨ j = 3 := by simp at hj; omega
            refine ⟨.inr ⟨rfl, .inr ⟨rfl, by omega⟩⟩, ?_⟩
            rcases this with rfl | rfl | rfl | rfl
            · exact gs.s0
            · exact gs.s1
            · exact gs.s2
            · exact gs.s3
          · have : j = 0 ∨ j = 1 ∨ j = 2 ∨ j = 3 := by simp at hj; omega
            rcases this with rfl | rfl | rfl | rfl
            · exact cv_lf_inv (cv_show (rep_below k0' hFs hb) fun b k x => .inl x)
            · exact cv_lf_inv (cv_show (rep_below k1' hFs hb) fun b k x => .inl x)
            · exact .sc rfl
            · exact .sc rfl
  case hAO =>
    intro W hb
    refine fn_useS (w_impl_accountsOk hc2) F (fun b k hf => Nat.lt_of_lt_of_le (hFs b k hf) hb.size) rfl fun j hj => ?_
    have : j = 0 := by simp at hj; omega
    subst this
    exact ⟨_, rfl, cv_show (rep_below k0' hFs hb) fun b k x => x⟩
  case hIN =>
    intro a b c W
    rw [hML] at b ⊢
    refine fn_useS (w_impl_in (hin a b c).1) (fun _ _ => False) (fun b k hf => hf.elim) rfl fun j hj => ?_
    have : j = 0 ∨ j = 1 ∨ j = 2 := by simp at hj; omega
    rcases this with rfl | rfl | rfl <;> exact ⟨_, rfl, .lf (.sc rfl)⟩
  case hdn =>
    intro a b c d
    rw [hML] at b ⊢
    exact ((hin a b c).2.2 d).1
  case hG0 =>
    intro a b c d
    rw [hML] at b
    have := ((hin a b c).2.2 d).2
    rw [← List.map_take, ← List.map_reverse]
    simp only [List.map_map]
    rw [show ((fun x : Int × Int × Int => (⟨x.1, x.2.1, x.2.2⟩ : MoveT)) ∘ fun m : MoveT => (m.From, m.To, m.Many)) = id from rfl, List.map_id]
    exact this
  case hG =>
    intro m rest now hm
    simp only [List.map_cons, impl_GoodSaga_back, impl_back, Option.bind_some] at hm
    obtain ⟨c, hc, hm⟩ := Option.bind_eq_some_iff.1 hm
    refine ⟨c, fun W F v hF hr => ?_, fun h => ?_, fun h => ?_⟩
    · refine (fn_use (w_impl_moved_F hc) F hF (vs := #[v, Mv3 (m.2.1, m.1, m.2.2)]) rfl fun j hj => ?_).mono ?_
      · have : j = 0 ∨ j = 1 := by simp at hj; omega
        rcases this with rfl | rfl
        · exact ⟨_, rfl, cv_show hr fun b k x => x⟩
        · exact ⟨_, rfl, cv_ag3 rfl rfl rfl⟩
      · rintro e w' ⟨v', c', he, hF', hb, hG', hcv⟩
        obtain ⟨us, cs', rfl, m0, m1, m2⟩ := cv_tu_inv hcv
        have := arr2 m0 (m1 0 (by simp)) (m1 1 (by simp))
        subst this
        have z0 := cv_lf_inv (m2 0 (by simp))
        have z1 := cv_sc (m2 1 (by simp))
        rw [z1] at he
        exact ⟨_, c'.G, he, hb, hG', z0.mono (fun b k x => x.elim id (fun h => by cases h.1)) fun _ _ _ => rfl⟩
    · rw [if_pos h] at hm; exact hm
    · rw [if_neg (by simp [h])] at hm; exact (Option.some.inj hm).symm
  case hBK =>
    intro x W
    refine (fn_use (w_impl_back (a0 := ⟨x.1, x.2.1, x.2.2⟩) rfl) (fun _ _ => False) (fun b k hf => hf.elim) (vs := #[Mv3 x]) rfl fun j hj => ?_).mono ?_
    · have : j = 0 := by simp at hj; omega
      subst this
      exact ⟨_, rfl, cv_ag3 rfl rfl rfl⟩
    · rintro e w' ⟨v', c', he, hF', hb, hG', hcv⟩
      obtain ⟨us, cs', rfl, m0, m1, m2⟩ := cv_ag_inv hcv
      have := arr3 m0 (m1 0 (by simp)) (m1 1 (by simp)) (m1 2 (by simp))
      subst this
      rw [cv_sc (m2 0 (by simp)), cv_sc (m2 1 (by simp)), cv_sc (m2 2 (by simp))] at he
      exact ⟨he, hb⟩
  case h4 =>
    intro a b c d
    rw [hML] at b
    exact (hin a b c).2.1 d

theorem w_slices_Clone_impl_Move {a0 : (List MoveT)} {r : (List MoveT)} (h : slices_Clone_impl_Move a0 = some r) : Fn Try.prog 63 [(.lf true (.sl (a0.map eMove)))] [] 0 (.os 0 3 0 r.length r.length false) [(0, some (true, .arr false 3 (r.map eMove)))] 1 := by
  unfold slices_Clone_impl_Move at h
  obtain ⟨hp, h⟩ := guard_some h
  have he := Option.some.inj h; subst he
  refine fn_code tab_ok mixed [] Try.func63 rfl rfl (by simp [Try.f63]) (by kernel_rfl) ?_
  simp only [Try.f63]
  simp (disch := assumption) only [go_sem, Nat.reduceAdd, Nat.reduceMul, Nat.reduceSub, Nat.reduceEqDiff, ↓reduceIte, Nat.reduceLT, reduceCtorEq, Nat.reduceLeDiff, Int.reduceToNat, Int.reduceEq, Int.reduceLE, Int.reduceLT, Nat.reduceBEq]
  intro b hb
  refine Bs_splitC (b = true) (by simp) (fun hc => ?_) (fun hc => ?_)
  · have h0 : a0 = [] := by simpa using hb (by simpa using hc)
    subst h0
    try simp (disch := assumption) only [go_sem, Nat.reduceAdd, Nat.reduceMul, Nat.reduceSub, Nat.reduceEqDiff, ↓reduceIte, Nat.reduceLT, reduceCtorEq, Nat.reduceLeDiff, Int.reduceToNat, Int.reduceEq, Int.reduceLE, Int.reduceLT, Nat.reduceBEq]
    refine ends_weak ⟨[(2, (.os 0 3 0 0 0 false))], [(0, some (true, .arr false 3 (([] : List MoveT).map eMove)))], 1, 8⟩ (weak_of (m := 0) [none] rfl rfl rfl (by rfl) ?_ ?_) ?_
    all_goals ((try simp (disch := assumption) only [go_sem, Nat.reduceAdd, Nat.reduceMul, Nat.reduceSub, Nat.reduceEqDiff, ↓reduceIte, Nat.reduceLT, reduceCtorEq, Nat.reduceLeDiff, Int.reduceToNat, Int.reduceEq, Int.reduceLE, Int.reduceLT, Nat.reduceBEq]); (repeat' first | done | rfl | omega | refine And.intro ?_ ?_ | (simp; done) | (simp; omega)))
  · try simp (disch := assumption) only [go_sem, Nat.reduceAdd, Nat.reduceMul, Nat.reduceSub, Nat.reduceEqDiff, ↓reduceIte, Nat.reduceLT, reduceCtorEq, Nat.reduceLeDiff, Int.reduceToNat, Int.reduceEq, Int.reduceLE, Int.reduceLT, Nat.reduceBEq]
    first | refine And.intro (by first | omega | exact ⟨by omega, fun _ => mapLen fun _ => rfl⟩ | (refine ⟨?_, by omega⟩; first | exact mapLen fun _ => rfl | simp)) ?_ | skip
    try simp (disch := assumption) only [go_sem, Nat.reduceAdd, Nat.reduceMul, Nat.reduceSub, Nat.reduceEqDiff, ↓reduceIte, Nat.reduceLT, reduceCtorEq, Nat.reduceLeDiff, Int.reduceToNat, Int.reduceEq, Int.reduceLE, Int.reduceLT, Nat.reduceBEq]
    refine ends_weak ⟨[(2, (.os 0 3 0 a0.length a0.length false))], [(0, some (true, .arr false 3 (a0.map eMove)))], 1, 8⟩ (weak_of (m := 0) [some 1] rfl rfl rfl (by rfl) ?_ ?_) ?_
    all_goals ((try simp (disch := assumption) only [go_sem, Nat.reduceAdd, Nat.reduceMul, Nat.reduceSub, Nat.reduceEqDiff, ↓reduceIte, Nat.reduceLT, reduceCtorEq, Nat.reduceLeDiff, Int.reduceToNat, Int.reduceEq, Int.reduceLE, Int.reduceLT, Nat.reduceBEq]); (repeat' first | done | rfl | omega | refine And.intro ?_ ?_ | (simp; done) | (simp; omega)))
theorem w_impl_cloneSaga {a0 : SagaT} {r : SagaT} (h : impl_cloneSaga a0 = some r) : Fn Try.prog 28 [(.ag [(.lf true (.sl (a0.Accounts.map eI))), (.lf true (.sl (a0.Moves.map eMove))), (.lf false (.sc (.int .i64 a0.Done))), (.lf false (.sc (.bool a0.Undoing)))])] [] 0 (.ag [(.os 0 1 0 r.Accounts.length r.Accounts.length false), (.os 1 3 0 r.Moves.length r.Moves.length false), (.lf false (.sc (.int .i64 r.Done))), (.lf false (.sc (.bool r.Undoing)))]) [(0, some (true, .arr false 1 (r.Accounts.map eI))), (1, some (true, .arr false 3 (r.Moves.map eMove)))] 3 := by
  unfold impl_cloneSaga at h
  refine fn_code tab_ok mixed [(1, [(4, 2)]), (1000, [(1, 0), (2, 0)]), (1001, [(1, 0), (2, 0)]), (1002, [(2, 0)])] Try.func28 rfl rfl (by simp [Try.f28]) (by kernel_rfl) ?_
  simp only [Try.f28]
  refine sA ?_
  obtain ⟨c244, hr1, h⟩ := bind_ok h
  refine Cl_sA (w_slices_Clone_int hr1) ?_
  try refine sA ?_
  obtain ⟨c245, hr2, h⟩ := bind_ok h
  refine Cl_sA (w_slices_Clone_impl_Move hr2) ?_
  try refine sA ?_
  have he := Option.some.inj h
  subst he
  exact endsA ⟨[(2, (.pb 2 0))], [(0, some (true, .arr false 1 (c244.map eI))), (1, some (true, .arr false 3 (c245.map eMove))), (2, some (true, .box [(.os 0 1 0 c244.length c244.length false), (.os 1 3 0 c245.length c245.length false), (.lf false (.sc (.int .i64 a0.Done))), (.lf false (.sc (.bool a0.Undoing)))]))], 3, 12⟩ [some 2, some 3, some 1]
theorem w_impl_NewSaga {a0 : (List Int)} {a1 : (List MoveT)} {r : (SagaT × Bool)} (h : impl_NewSaga a0 a1 = some r) : Fn Try.prog 7 [(.lf true (.sl (a0.map eI))), (.lf true (.sl (a1.map eMove)))] [] 0 (.tu [(.ag [(.os 0 1 0 r.1.Accounts.length r.1.Accounts.length false), (.os 1 3 0 r.1.Moves.length r.1.Moves.length false), (.lf false (.sc (.int .i64 r.1.Done))), (.lf false (.sc (.bool r.1.Undoing)))]), (.lf false (.sc (.bool r.2)))]) [(0, some (true, .arr false 1 (r.1.Accounts.map eI))), (1, some (true, .arr false 3 (r.1.Moves.map eMove)))] 3 := by
  unfold impl_NewSaga at h
  refine fn_code tab_ok mixed [(1000, [(0, 0), (1, 0), (4, 0)]), (1001, [(4, 0), (6, 0)]), (1002, [(4, 0), (6, 0), (12, 0)]), (1003, [(4, 0), (5, 0)]), (1004, [(4, 0), (5, 0)])] Try.func7 rfl rfl (by simp [Try.f7]) (by kernel_rfl) ?_
  simp only [Try.f7]
  refine sA ?_
  obtain ⟨c243, hr1, h⟩ := bind_ok h
  refine Cl_sA (w_impl_GoodSaga hr1) ?_
  try refine sA ?_
  refine Bs_if h (fun h hc2 => ?_) (fun h hc2 => ?_)
  · try refine sA ?_
    have he := Option.some.inj h
    subst he
    exact endsA ⟨[(4, (.pb 2 0)), (5, (.lf false (.sc (.bool false))))], [(0, some (true, .arr false 1 (([] : List Int).map eI))), (1, some (true, .arr false 3 (([] : List MoveT).map eMove))), (2, some (true, .box [(.os 0 1 0 (([] : List Int).length) (([] : List Int).length) false), (.os 1 3 0 (([] : List MoveT).length) (([] : List MoveT).length) false), (.lf false (.sc (.int .i64 0))), (.lf false (.sc (.bool false)))]))], 3, 16⟩ [none, none, some 0]
  · try refine sA ?_
    obtain ⟨c246, hr3, h⟩ := bind_ok h
    refine Cl_sA (w_impl_cloneSaga hr3) ?_
    try refine sA ?_
    have he := Option.some.inj h
    subst he
    exact endsA ⟨[(4, (.pb 2 0)), (5, (.lf false (.sc (.bool true))))], [(0, some (true, .arr false 1 (c246.Accounts.map eI))), (1, some (true, .arr false 3 (c246.Moves.map eMove))), (2, some (true, .box [(.os 0 1 0 c246.Accounts.length c246.Accounts.length false), (.os 1 3 0 c246.Moves.length c246.Moves.length false), (.lf false (.sc (.int .i64 c246.Done))), (.lf false (.sc (.bool c246.Undoing)))]))], 3, 16⟩ [some 2, some 3, some 0]
theorem w_laws_sameInts {a0 : (List Int)} {a1 : (List Int)} {r : Bool} (h : laws_sameInts a0 a1 = some r) : Fn Try.prog 14 [(.lf true (.sl (a0.map eI))), (.lf true (.sl (a1.map eI)))] [] 0 (.lf false (.sc (.bool r))) [] 0 := by
  unfold laws_sameInts at h
  refine fn_code tab_ok mixed [(1000, [(0, 0), (1, 0)]), (1001, [(0, 0), (1, 0), (10, 0)]), (1002, [(4, 0)]), (1003, [(0, 0), (1, 0), (12, 0), (13, 0)]), (1004, [(0, 0), (1, 0), (12, 0), (13, 0), (14, 0)]), (1005, [(0, 0), (1, 0), (5, 0), (12, 0), (13, 0)]), (1006, [(0, 0), (1, 0), (12, 0), (13, 0), (24, 0)]), (1007, [(4, 0)]), (1008, [(0, 0), (1, 0), (12, 0), (13, 0)]), (1009, [(4, 0)])] Try.func14 rfl rfl (by simp [Try.f14]) (by kernel_rfl) ?_
  simp only [Try.f14]
  refine sA ?_
  refine Bs_if h (fun h hc1 => ?_) (fun h hc1 => ?_)
  · try refine sA ?_
    have he := Option.some.inj h
    subst he
    exact endsA ⟨[(4, (.lf false (.sc (.bool false))))], [], 0, 26⟩ []
  · try refine sA ?_
    obtain ⟨y250, hl2, h⟩ := bind_ok h
    refine W_loopP (fun g249 : laws_sameInts_G1 => ⟨[(0, (.lf true (.sl (a0.map eI)))), (1, (.lf true (.sl (a1.map eI)))), (12, (.lf false (.sc (.int .i64 ((a0.length : Nat) : Int))))), (13, (.lf false (.sc (.int .i64 g249.t13))))], [], 0, 26⟩) (laws_sameInts_L1 a0 a1) _ _ hl2 (weakA []) ?_
    · intro n1 g249 z1 hs1 hk1
      unfold laws_sameInts_L1 at hs1
      try dsimp only at hs1
      refine sA ?_
      refine Bs_if hs1 (fun hs1 hc3 => ?_) (fun hs1 hc3 => ?_)
      · try refine sA ?_
        obtain ⟨hp4, hs1⟩ := guard_some hs1
        have hn4 : g249.t13.toNat < a0.length := by first | omega | (simp only [List.length_set, List.length_append, List.length_replicate, List.length_map]; omega)
        try refine sA ?_
        try refine andA ?_
        obtain ⟨hp5, hs1⟩ := guard_some hs1
        have hn5 : g249.t13.toNat < a1.length := by first | omega | (simp only [List.length_set, List.length_append, List.length_replicate, List.length_map]; omega)
        try refine sA ?_
        try refine andA ?_
        refine Bs_if hs1 (fun hs1 hc6 => ?_) (fun hs1 hc6 => ?_)
        · try refine sA ?_
          cases hs1
          cases hk1
          try dsimp only at h
          try refine sA ?_
          have he := Option.some.inj h
          subst he
          exact endsA ⟨[(4, (.lf false (.sc (.bool false))))], [], 0, 26⟩ []
        · try refine sA ?_
          cases hs1
          exact X_backP hk1 (weakA [])
      · try refine sA ?_
        cases hs1
        cases hk1
        try dsimp only at h
        try refine sA ?_
        have he := Option.some.inj h
        subst he
        exact endsA ⟨[(4, (.lf false (.sc (.bool true))))], [], 0, 26⟩ []
theorem w_laws_sameSagas {a0 : SagaT} {a1 : SagaT} {r : Bool} (h : laws_sameSagas a0 a1 = some r) : Fn Try.prog 9 [(.ag [(.lf true (.sl (a0.Accounts.map eI))), (.lf true (.sl (a0.Moves.map eMove))), (.lf false (.sc (.int .i64 a0.Done))), (.lf false (.sc (.bool a0.Undoing)))]), (.ag [(.lf true (.sl (a1.Accounts.map eI))), (.lf true (.sl (a1.Moves.map eMove))), (.lf false (.sc (.int .i64 a1.Done))), (.lf false (.sc (.bool a1.Undoing)))])] [] 0 (.lf false (.sc (.bool r))) [] 0 := by
  unfold laws_sameSagas at h
  refine fn_code tab_ok mixed [(1000, [(2, 0), (3, 0)]), (1001, [(2, 0), (3, 0), (34, 0)]), (1002, [(4, 0)]), (1003, [(2, 0), (3, 0), (37, 0), (38, 0)]), (1004, [(2, 0), (3, 0), (37, 0), (38, 0), (39, 0)]), (1005, [(2, 0), (3, 0), (5, 0), (37, 0), (38, 0)]), (1006, [(2, 0), (3, 0), (37, 0), (38, 0), (51, 0)]), (1007, [(4, 0)]), (1008, [(2, 0), (3, 0), (37, 0), (38, 0)]), (1009, [(4, 0)]), (4001, [])] Try.func9 rfl rfl (by simp [Try.f9]) (by kernel_rfl) ?_
  simp only [Try.f9]
  refine sA ?_
  obtain ⟨p254, hq1, h⟩ := bind_ok h
  refine Sq_cut (fun s2 => s2 = ⟨[(2, (.pb 0 0)), (3, (.pb 1 0)), (34, (.lf false (.sc (.bool p254.t34))))], [(0, some (true, .box [(.lf true (.sl (a0.Accounts.map eI))), (.lf true (.sl (a0.Moves.map eMove))), (.lf false (.sc (.int .i64 a0.Done))), (.lf false (.sc (.bool a0.Undoing)))])), (1, some (true, .box [(.lf true (.sl (a1.Accounts.map eI))), (.lf true (.sl (a1.Moves.map eMove))), (.lf false (.sc (.int .i64 a1.Done))), (.lf false (.sc (.bool a1.Undoing)))]))], 2, 53⟩) ?_ ?_
  · try refine sA ?_
    refine Sp_if hq1 (fun hq1 hc2 => ?_) (fun hq1 hc2 => ?_)
    · try refine sA ?_
      cases hq1
      exact X_cut rfl (weakA [some 0, some 1])
    · try refine sA ?_
      refine Sp_if hq1 (fun hq1 hc3 => ?_) (fun hq1 hc3 => ?_)
      · try refine sA ?_
        cases hq1
        exact X_cut rfl (weakA [some 0, some 1])
      · try refine sA ?_
        refine Sp_if hq1 (fun hq1 hc4 => ?_) (fun hq1 hc4 => ?_)
        · try refine sA ?_
          cases hq1
          exact X_cut rfl (weakA [some 0, some 1])
        · try refine sA ?_
          obtain ⟨c253, hr5, hq1⟩ := bind_ok hq1
          refine Cl_sA (w_laws_sameInts hr5) ?_
          try refine sA ?_
          cases hq1
          exact X_cut rfl (weakA [some 0, some 1])
  · intro s2 hJ; subst hJ
    try dsimp only at h
    try refine sA ?_
    refine Bs_if h (fun h hc6 => ?_) (fun h hc6 => ?_)
    · try refine sA ?_
      have he := Option.some.inj h
      subst he
      exact endsA ⟨[(4, (.lf false (.sc (.bool false))))], [], 0, 53⟩ []
    · try refine sA ?_
      obtain ⟨y256, hl7, h⟩ := bind_ok h
      refine W_loopP (fun g255 : laws_sameSagas_G1 => ⟨[(2, (.pb 0 0)), (3, (.pb 1 0)), (37, (.lf false (.sc (.int .i64 ((a0.Moves.length : Nat) : Int))))), (38, (.lf false (.sc (.int .i64 g255.t38))))], [(0, some (true, .box [(.lf true (.sl (a0.Accounts.map eI))), (.lf true (.sl (a0.Moves.map eMove))), (.lf false (.sc (.int .i64 a0.Done))), (.lf false (.sc (.bool a0.Undoing)))])), (1, some (true, .box [(.lf true (.sl (a1.Accounts.map eI))), (.lf true (.sl (a1.Moves.map eMove))), (.lf false (.sc (.int .i64 a1.Done))), (.lf false (.sc (.bool a1.Undoing)))]))], 2, 53⟩) (laws_sameSagas_L1 a0 a1) _ _ hl7 (weakA [some 0, some 1]) ?_
      · intro n1 g255 z1 hs1 hk1
        unfold laws_sameSagas_L1 at hs1
        try dsimp only at hs1
        refine sA ?_
        refine Bs_if hs1 (fun hs1 hc8 => ?_) (fun hs1 hc8 => ?_)
        · try refine sA ?_
          obtain ⟨hp9, hs1⟩ := guard_some hs1
          have hn9 : g255.t38.toNat < a0.Moves.length := by first | omega | (simp only [List.length_set, List.length_append, List.length_replicate, List.length_map]; omega)
          try refine sA ?_
          try refine andA ?_
          obtain ⟨hp10, hs1⟩ := guard_some hs1
          have hn10 : g255.t38.toNat < a1.Moves.length := by first | omega | (simp only [List.length_set, List.length_append, List.length_replicate, List.length_map]; omega)
          try refine sA ?_
          try refine andA ?_
          first | refine And.intro ⟨by kernel_rfl, by kernel_rfl, by kernel_rfl⟩ ?_ | skip
          try refine sA ?_
          refine Bs_if hs1 (fun hs1 hc12 => ?_) (fun hs1 hc12 => ?_)
          · try refine sA ?_
            cases hs1
            cases hk1
            try dsimp only at h
            try refine sA ?_
            have he := Option.some.inj h
            subst he
            exact endsA ⟨[(4, (.lf false (.sc (.bool false))))], [], 0, 53⟩ []
          · try refine sA ?_
            cases hs1
            exact X_backP hk1 (weakA [some 0, some 1])
        · try refine sA ?_
          cases hs1
          cases hk1
          try dsimp only at h
          try refine sA ?_
          have he := Option.some.inj h
          subst he
          exact endsA ⟨[(4, (.lf false (.sc (.bool true))))], [], 0, 53⟩ []
theorem w_laws_numberOf {a0 : (List Int)} {r : Int} (h : laws_numberOf a0 = some r) : Fn Try.prog 11 [(.lf true (.sl (a0.map eU8)))] [] 0 (.lf false (.sc (.int .i64 r))) [] 0 := by
  unfold laws_numberOf at h
  refine fn_code tab_ok mixed [(1000, [(0, 0)]), (1001, [(0, 0), (3, 0)]), (1002, [(3, 0), (6, 0), (7, 0), (8, 0)]), (1003, [(3, 0), (6, 0), (7, 0), (8, 0), (9, 0)]), (1004, [(3, 0), (5, 0), (6, 0), (7, 0), (8, 0)]), (1005, [(3, 0), (6, 0), (7, 0), (8, 0)]), (1006, [(3, 0), (6, 0), (7, 0), (8, 0)]), (1007, [(2, 0)])] Try.func11 rfl rfl (by simp [Try.f11]) (by kernel_rfl) ?_
  simp only [Try.f11]
  refine sA ?_
  obtain ⟨y262, hl1, h⟩ := bind_ok h
  refine W_loopP (fun g261 : laws_numberOf_G1 => ⟨[(3, (.lf false (.sc (.int .i64 g261.t3)))), (6, (.lf true (.sl (a0.map eU8)))), (7, (.lf false (.sc (.int .i64 ((a0.length : Nat) : Int))))), (8, (.lf false (.sc (.int .i64 g261.t8))))], [], 0, 20⟩) (laws_numberOf_L1 a0) _ _ hl1 (weakA []) ?_
  · intro n1 g261 z1 hs1 hk1
    unfold laws_numberOf_L1 at hs1
    try dsimp only at hs1
    refine sA ?_
    refine Bs_if hs1 (fun hs1 hc2 => ?_) (fun hs1 hc2 => ?_)
    · try refine sA ?_
      obtain ⟨hp3, hs1⟩ := guard_some hs1
      have hn3 : g261.t8.toNat < a0.length := by first | omega | (simp only [List.length_set, List.length_append, List.length_replicate, List.length_map]; omega)
      try refine sA ?_
      try refine andA ?_
      cases hs1
      exact X_backP hk1 (weakA [])
    · try refine sA ?_
      cases hs1
      cases hk1
      try dsimp only at h
      try refine sA ?_
      have he := Option.some.inj h
      subst he
      exact endsA ⟨[(2, (.lf false (.sc (.int .i64 g261.t3))))], [], 0, 20⟩ []
theorem w_impl_Saga_fail_o {a0 : SagaT} {m1 : Nat} {x1 : Bool} {m2 : Nat} {x2 : Bool} {r : (Bool × SagaT)} (h : impl_Saga_fail_o a0 = some r) : Fn Try.prog 32 [(.pb 0 0)] [(0, some (false, .box [(.os 1 1 0 a0.Accounts.length m1 x1), (.os 2 3 0 a0.Moves.length m2 x2), (.lf false (.sc (.int .i64 a0.Done))), (.lf false (.sc (.bool a0.Undoing)))])), (1, some (false, .arr true 1 (a0.Accounts.map eI))), (2, some (false, .arr true 3 (a0.Moves.map eMove)))] 3 (.lf false (.sc (.bool r.1))) [(0, some (false, .box [(.os 1 1 0 a0.Accounts.length a0.Accounts.length false), (.os 2 3 0 a0.Moves.length a0.Moves.length false), (.lf false (.sc (.int .i64 r.2.Done))), (.lf false (.sc (.bool r.2.Undoing)))])), (1, some (false, .arr false 1 (a0.Accounts.map eI))), (2, some (false, .arr false 3 (a0.Moves.map eMove)))] 3 := by
  unfold impl_Saga_fail_o at h
  refine fn_code tab_ok mixed [(1000, [(0, 0)]), (1001, [(0, 0), (18, 0)]), (1002, [(2, 0)]), (1003, []), (1004, [(2, 0)]), (4001, [])] Try.func32 rfl rfl (by simp [Try.f32]) (by kernel_rfl) ?_
  simp only [Try.f32]
  refine sA ?_
  obtain ⟨p267, hq1, h⟩ := bind_ok h
  refine Sq_cut (fun s2 => s2 = ⟨[(0, (.pb 0 0)), (18, (.lf false (.sc (.bool p267.t18))))], [(0, some (false, .box [(.os 1 1 0 a0.Accounts.length m1 x1), (.os 2 3 0 a0.Moves.length m2 x2), (.lf false (.sc (.int .i64 a0.Done))), (.lf false (.sc (.bool a0.Undoing)))])), (1, some (false, .arr true 1 (a0.Accounts.map eI))), (2, some (false, .arr true 3 (a0.Moves.map eMove)))], 3, 22⟩) ?_ ?_
  · try refine sA ?_
    refine Sp_if hq1 (fun hq1 hc2 => ?_) (fun hq1 hc2 => ?_)
    · try refine sA ?_
      cases hq1
      exact X_cut rfl (weakA [some 0, some 1, some 2])
    · try refine sA ?_
      cases hq1
      exact X_cut rfl (weakA [some 0, some 1, some 2])
  · intro s2 hJ; subst hJ
    try dsimp only at h
    try refine sA ?_
    refine Bs_if h (fun h hc3 => ?_) (fun h hc3 => ?_)
    · try refine sA ?_
      have he := Option.some.inj h
      subst he
      exact endsA ⟨[(2, (.lf false (.sc (.bool false))))], [(0, some (false, .box [(.os 1 1 0 a0.Accounts.length a0.Accounts.length false), (.os 2 3 0 a0.Moves.length a0.Moves.length false), (.lf false (.sc (.int .i64 a0.Done))), (.lf false (.sc (.bool a0.Undoing)))])), (1, some (false, .arr false 1 (a0.Accounts.map eI))), (2, some (false, .arr false 3 (a0.Moves.map eMove)))], 3, 22⟩ [some 0, some 1, some 2]
    · try refine sA ?_
      have he := Option.some.inj h
      subst he
      exact endsA ⟨[(2, (.lf false (.sc (.bool true))))], [(0, some (false, .box [(.os 1 1 0 a0.Accounts.length a0.Accounts.length false), (.os 2 3 0 a0.Moves.length a0.Moves.length false), (.lf false (.sc (.int .i64 a0.Done))), (.lf false (.sc (.bool true)))])), (1, some (false, .arr false 1 (a0.Accounts.map eI))), (2, some (false, .arr false 3 (a0.Moves.map eMove)))], 3, 22⟩ [some 0, some 1, some 2]
theorem w_impl_moved {a0 : (List Int)} {a1 : MoveT} {r : ((List Int) × Bool)} (h : impl_moved a0 a1 = some r) : Fn Try.prog 42 [(.lf true (.sl (a0.map eI))), (.ag [(.lf false (.sc (.int .i64 a1.From))), (.lf false (.sc (.int .i64 a1.To))), (.lf false (.sc (.int .i64 a1.Many)))])] [] 0 (.tu [(.os 0 1 0 r.1.length r.1.length false), (.lf false (.sc (.bool r.2)))]) [(0, some (true, .arr false 1 (r.1.map eI)))] 1 := by
  unfold impl_moved at h
  refine fn_code tab_ok mixed [(1000, [(0, 0), (3, 0)]), (1001, [(3, 0), (6, 0)]), (1002, [(3, 0), (6, 0)]), (1003, [(3, 0), (6, 0)]), (1004, [(4, 0), (5, 0)])] Try.func42 rfl rfl (by simp [Try.f42]) (by kernel_rfl) ?_
  simp only [Try.f42]
  refine sA ?_
  obtain ⟨c275, hr1, h⟩ := bind_ok h
  refine Cl_sA (w_slices_Clone_int hr1) ?_
  try refine sA ?_
  obtain ⟨hp2, h⟩ := guard_some h
  have hn2 : a1.From.toNat < c275.length := by first | omega | (simp only [List.length_set, List.length_append, List.length_replicate, List.length_map]; omega)
  try refine sA ?_
  try refine andA ?_
  try refine andB ?_
  try refine sA ?_
  obtain ⟨hp4, h⟩ := guard_some h
  have hn4 : a1.From.toNat < c275.length := by first | omega | (simp only [List.length_set, List.length_append, List.length_replicate, List.length_map]; omega)
  try refine sA ?_
  try refine andA ?_
  try refine andB ?_
  try refine sA ?_
  obtain ⟨hp6, h⟩ := guard_some h
  have hn6 : a1.To.toNat < c275.length := by first | omega | (simp only [List.length_set, List.length_append, List.length_replicate, List.length_map]; omega)
  try refine sA ?_
  try refine andA ?_
  try refine andB ?_
  try refine sA ?_
  obtain ⟨hp8, h⟩ := guard_some h
  have hn8 : a1.To.toNat < c275.length := by first | omega | (simp only [List.length_set, List.length_append, List.length_replicate, List.length_map]; omega)
  try refine sA ?_
  try refine andA ?_
  try refine andB ?_
  try refine sA ?_
  obtain ⟨hp10, h⟩ := guard_some h
  have hn10 : a1.From.toNat < c275.length := by first | omega | (simp only [List.length_set, List.length_append, List.length_replicate, List.length_map]; omega)
  try refine sA ?_
  try refine andA ?_
  try refine andB ?_
  try refine sA ?_
  obtain ⟨c276, hr12, h⟩ := bind_ok h
  refine Cl_sA (w_impl_accountOk hr12) ?_
  try refine sA ?_
  refine Sp_if h (fun h hc13 => ?_) (fun h hc13 => ?_)
  · try refine sA ?_
    obtain ⟨hp14, h⟩ := guard_some h
    have hn14 : a1.To.toNat < c275.length := by first | omega | (simp only [List.length_set, List.length_append, List.length_replicate, List.length_map]; omega)
    try refine sA ?_
    try refine andA ?_
    try refine andB ?_
    try refine sA ?_
    obtain ⟨c277, hr16, h⟩ := bind_ok h
    refine Cl_sA (w_impl_accountOk hr16) ?_
    try refine sA ?_
    have he := Option.some.inj h
    subst he
    exact endsA ⟨[(4, (.os 0 1 0 (((c275.set a1.From.toNat (wI ((nth c275 a1.From.toNat) - a1.Many))).set a1.To.toNat (wI ((nth (c275.set a1.From.toNat (wI ((nth c275 a1.From.toNat) - a1.Many))) a1.To.toNat) + a1.Many))).length) (((c275.set a1.From.toNat (wI ((nth c275 a1.From.toNat) - a1.Many))).set a1.To.toNat (wI ((nth (c275.set a1.From.toNat (wI ((nth c275 a1.From.toNat) - a1.Many))) a1.To.toNat) + a1.Many))).length) false)), (5, (.lf false (.sc (.bool c277))))], [(0, some (true, .arr false 1 (((c275.set a1.From.toNat (wI ((nth c275 a1.From.toNat) - a1.Many))).set a1.To.toNat (wI ((nth (c275.set a1.From.toNat (wI ((nth c275 a1.From.toNat) - a1.Many))) a1.To.toNat) + a1.Many))).map eI)))], 1, 42⟩ [some 1]
  · try refine sA ?_
    have he := Option.some.inj h
    subst he
    exact endsA ⟨[(4, (.os 0 1 0 (((c275.set a1.From.toNat (wI ((nth c275 a1.From.toNat) - a1.Many))).set a1.To.toNat (wI ((nth (c275.set a1.From.toNat (wI ((nth c275 a1.From.toNat) - a1.Many))) a1.To.toNat) + a1.Many))).length) (((c275.set a1.From.toNat (wI ((nth c275 a1.From.toNat) - a1.Many))).set a1.To.toNat (wI ((nth (c275.set a1.From.toNat (wI ((nth c275 a1.From.toNat) - a1.Many))) a1.To.toNat) + a1.Many))).length) false)), (5, (.lf false (.sc (.bool false))))], [(0, some (true, .arr false 1 (((c275.set a1.From.toNat (wI ((nth c275 a1.From.toNat) - a1.Many))).set a1.To.toNat (wI ((nth (c275.set a1.From.toNat (wI ((nth c275 a1.From.toNat) - a1.Many))) a1.To.toNat) + a1.Many))).map eI)))], 1, 42⟩ [some 1]
theorem w_impl_Saga_step_o {a0 : SagaT} {m1 : Nat} {x1 : Bool} {m2 : Nat} {x2 : Bool} {r : (Bool × SagaT)} (h : impl_Saga_step_o a0 = some r) : Fn Try.prog 33 [(.pb 0 0)] [(0, some (false, .box [(.os 1 1 0 a0.Accounts.length m1 x1), (.os 2 3 0 a0.Moves.length m2 x2), (.lf false (.sc (.int .i64 a0.Done))), (.lf false (.sc (.bool a0.Undoing)))])), (1, some (false, .arr true 1 (a0.Accounts.map eI))), (2, some (false, .arr true 3 (a0.Moves.map eMove)))] 3 (.lf false (.sc (.bool r.1))) [(0, some (false, .box [(.os 3 1 0 r.2.Accounts.length r.2.Accounts.length false), (.os 2 3 0 a0.Moves.length a0.Moves.length false), (.lf false (.sc (.int .i64 r.2.Done))), (.lf false (.sc (.bool r.2.Undoing)))])), (1, none), (2, some (false, .arr false 3 (a0.Moves.map eMove))), (3, some (false, .arr false 1 (r.2.Accounts.map eI)))] 4 := by
  unfold impl_Saga_step_o at h
  refine fn_code tab_ok mixed [(5, [(4, 15)]), (1000, [(0, 0)]), (1001, [(0, 0), (5, 0)]), (1002, [(2, 0)]), (1003, [(0, 0), (36, 0)]), (1004, [(0, 0)]), (1005, []), (1006, [(2, 0)]), (1007, [(0, 0), (3, 0), (4, 0)]), (1008, [(0, 0), (3, 0), (89, 0)]), (1009, []), (1010, [(2, 0)]), (1011, [(0, 0)]), (1012, []), (1013, [(2, 0)]), (4001, [])] Try.func33 rfl rfl (by simp [Try.f33]) (by kernel_rfl) ?_
  simp only [Try.f33]
  refine sA ?_
  obtain ⟨p273, hq1, h⟩ := bind_ok h
  refine Sq_cut (fun s2 => s2 = ⟨[(0, (.pb 0 0)), (5, (.lf false (.sc (.bool p273.t5))))], [(0, some (false, .box [(.os 1 1 0 a0.Accounts.length m1 x1), (.os 2 3 0 a0.Moves.length m2 x2), (.lf false (.sc (.int .i64 a0.Done))), (.lf false (.sc (.bool a0.Undoing)))])), (1, some (false, .arr true 1 (a0.Accounts.map eI))), (2, some (false, .arr true 3 (a0.Moves.map eMove)))], 3, 104⟩) ?_ ?_
  · try refine sA ?_
    refine Sp_if hq1 (fun hq1 hc2 => ?_) (fun hq1 hc2 => ?_)
    · try refine sA ?_
      refine Sp_if hq1 (fun hq1 hc3 => ?_) (fun hq1 hc3 => ?_)
      · try refine sA ?_
        cases hq1
        exact X_cut rfl (weakA [some 0, some 1, some 2])
      · try refine sA ?_
        refine Sp_if hq1 (fun hq1 hc4 => ?_) (fun hq1 hc4 => ?_)
        · try refine sA ?_
          cases hq1
          exact X_cut rfl (weakA [some 0, some 1, some 2])
        · try refine sA ?_
          cases hq1
          exact X_cut rfl (weakA [some 0, some 1, some 2])
    · try refine sA ?_
      refine Sp_if hq1 (fun hq1 hc5 => ?_) (fun hq1 hc5 => ?_)
      · try refine sA ?_
        cases hq1
        exact X_cut rfl (weakA [some 0, some 1, some 2])
      · try refine sA ?_
        cases hq1
        exact X_cut rfl (weakA [some 0, some 1, some 2])
  · intro s2 hJ; subst hJ
    try dsimp only at h
    try refine sA ?_
    refine Bs_if h (fun h hc6 => ?_) (fun h hc6 => ?_)
    · try refine sA ?_
      have he := Option.some.inj h
      subst he
      exact endsA ⟨[(2, (.lf false (.sc (.bool false))))], [(0, some (false, .box [(.os 3 1 0 a0.Accounts.length a0.Accounts.length false), (.os 2 3 0 a0.Moves.length a0.Moves.length false), (.lf false (.sc (.int .i64 a0.Done))), (.lf false (.sc (.bool a0.Undoing)))])), (1, none), (2, some (false, .arr false 3 (a0.Moves.map eMove))), (3, some (false, .arr false 1 (a0.Accounts.map eI)))], 4, 104⟩ [some 0, some 1, some 2, some 1]
    · try refine sA ?_
      refine Bs_if h (fun h hc7 => ?_) (fun h hc7 => ?_)
      · try refine sA ?_
        obtain ⟨hp8, h⟩ := guard_some h
        have hn8 : (wI (a0.Done - 1)).toNat < a0.Moves.length := by first | omega | (simp only [List.length_set, List.length_append, List.length_replicate, List.length_map]; omega)
        try refine sA ?_
        try refine andA ?_
        try refine andB ?_
        try refine sA ?_
        obtain ⟨c274, hr10, h⟩ := bind_ok h
        refine Cl_sA (w_impl_back hr10) ?_
        try refine sA ?_
        obtain ⟨c278, hr11, h⟩ := bind_ok h
        refine Cl_sA (w_impl_moved hr11) ?_
        try refine sA ?_
        have he := Option.some.inj h
        subst he
        exact endsA ⟨[(2, (.lf false (.sc (.bool true))))], [(0, some (false, .box [(.os 3 1 0 c278.1.length c278.1.length false), (.os 2 3 0 a0.Moves.length a0.Moves.length false), (.lf false (.sc (.int .i64 (wI (a0.Done - 1))))), (.lf false (.sc (.bool a0.Undoing)))])), (1, none), (2, some (false, .arr false 3 (a0.Moves.map eMove))), (3, some (false, .arr false 1 (c278.1.map eI)))], 4, 104⟩ [some 0, some 1, some 2, some 4]
      · try refine sA ?_
        obtain ⟨hp12, h⟩ := guard_some h
        have hn12 : a0.Done.toNat < a0.Moves.length := by first | omega | (simp only [List.length_set, List.length_append, List.length_replicate, List.length_map]; omega)
        try refine sA ?_
        try refine andA ?_
        try refine andB ?_
        try refine sA ?_
        obtain ⟨c279, hr14, h⟩ := bind_ok h
        refine Cl_sA (w_impl_moved hr14) ?_
        try refine sA ?_
        refine Bs_if h (fun h hc15 => ?_) (fun h hc15 => ?_)
        · try refine sA ?_
          have he := Option.some.inj h
          subst he
          exact endsA ⟨[(2, (.lf false (.sc (.bool true))))], [(0, some (false, .box [(.os 3 1 0 a0.Accounts.length a0.Accounts.length false), (.os 2 3 0 a0.Moves.length a0.Moves.length false), (.lf false (.sc (.int .i64 a0.Done))), (.lf false (.sc (.bool true)))])), (1, none), (2, some (false, .arr false 3 (a0.Moves.map eMove))), (3, some (false, .arr false 1 (a0.Accounts.map eI)))], 4, 104⟩ [some 0, some 1, some 2, some 1]
        · try refine sA ?_
          have he := Option.some.inj h
          subst he
          exact endsA ⟨[(2, (.lf false (.sc (.bool true))))], [(0, some (false, .box [(.os 3 1 0 c279.1.length c279.1.length false), (.os 2 3 0 a0.Moves.length a0.Moves.length false), (.lf false (.sc (.int .i64 (wI (a0.Done + 1))))), (.lf false (.sc (.bool a0.Undoing)))])), (1, none), (2, some (false, .arr false 3 (a0.Moves.map eMove))), (3, some (false, .arr false 1 (c279.1.map eI)))], 4, 104⟩ [some 0, some 1, some 2, some 3]
theorem w_impl_RunSaga_c1_ooo {a0 : SagaT} {a1 : Int} {a2 : Int} {m1 : Nat} {x1 : Bool} {m2 : Nat} {x2 : Bool} {r : (Bool × SagaT × Int)} (h : impl_RunSaga_c1_ooo a0 a1 a2 = some r) : Fn Try.prog 31 [(.pb 0 0), (.pb 3 0), (.pb 4 0)] [(0, some (false, .box [(.os 1 1 0 a0.Accounts.length m1 x1), (.os 2 3 0 a0.Moves.length m2 x2), (.lf false (.sc (.int .i64 a0.Done))), (.lf false (.sc (.bool a0.Undoing)))])), (1, some (false, .arr true 1 (a0.Accounts.map eI))), (2, some (false, .arr true 3 (a0.Moves.map eMove))), (3, some (false, .box [(.lf false (.sc (.int .i64 a1)))])), (4, some (false, .box [(.lf false (.sc (.int .i64 a2)))]))] 5 (.lf false (.sc (.bool r.1))) [(0, some (false, .box [(.os 5 1 0 r.2.1.Accounts.length r.2.1.Accounts.length false), (.os 2 3 0 a0.Moves.length a0.Moves.length false), (.lf false (.sc (.int .i64 r.2.1.Done))), (.lf false (.sc (.bool r.2.1.Undoing)))])), (1, none), (2, some (false, .arr false 3 (a0.Moves.map eMove))), (3, some (false, .box [(.lf false (.sc (.int .i64 r.2.2)))])), (4, some (false, .box [(.lf false (.sc (.int .i64 a2)))])), (5, some (false, .arr false 1 (r.2.1.Accounts.map eI)))] 6 := by
  unfold impl_RunSaga_c1_ooo at h
  refine fn_code tab_ok mixed [(1000, [(0, 0), (1, 0), (2, 0)]), (1001, [(0, 0), (1, 0), (2, 0), (15, 0)]), (1002, [(0, 0), (1, 0), (2, 0)]), (1003, [(4, 0)])] Try.func31 rfl rfl (by simp [Try.f31]) (by kernel_rfl) ?_
  simp only [Try.f31]
  refine sA ?_
  obtain ⟨y285, hl1, h⟩ := bind_ok h
  refine W_loopP (fun g271 : impl_RunSaga_c1_ooo_G1 => ⟨[(0, (.pb 0 0)), (1, (.pb 3 0)), (2, (.pb 4 0))], [(0, some (false, .box [(.os 5 1 0 g271.c5.length g271.c5.length false), (.os 2 3 0 a0.Moves.length a0.Moves.length false), (.lf false (.sc (.int .i64 g271.b0_2))), (.lf false (.sc (.bool g271.b0_3)))])), (1, none), (2, some (false, .arr true 3 (a0.Moves.map eMove))), (3, some (false, .box [(.lf false (.sc (.int .i64 g271.b3_0)))])), (4, some (false, .box [(.lf false (.sc (.int .i64 a2)))])), (5, some (false, .arr true 1 (g271.c5.map eI)))], 6, 18⟩) (impl_RunSaga_c1_ooo_L1 a2 a0) _ _ hl1 (weakA [some 0, some 1, some 2, some 3, some 4, some 1]) ?_
  · intro n1 g271 z1 hs1 hk1
    unfold impl_RunSaga_c1_ooo_L1 at hs1
    try dsimp only at hs1
    refine sA ?_
    refine Sp_if hs1 (fun hs1 hc2 => ?_) (fun hs1 hc2 => ?_)
    · try refine sA ?_
      obtain ⟨c282, hr3, hs1⟩ := bind_ok hs1
      refine Cl_hA [0, 5, 2] (w_impl_Saga_fail_o hr3) ?_
      try refine sA ?_
      refine Sp_if hs1 (fun hs1 hc4 => ?_) (fun hs1 hc4 => ?_)
      · try refine sA ?_
        cases hs1
        exact X_backP hk1 (weakA [some 0, some 1, some 2, some 3, some 4, some 5])
      · try refine sA ?_
        obtain ⟨c283, hr5, hs1⟩ := bind_ok hs1
        refine Cl_hA [0, 5, 2] (w_impl_Saga_step_o hr5) ?_
        try refine sA ?_
        refine Bs_if hs1 (fun hs1 hc6 => ?_) (fun hs1 hc6 => ?_)
        · try refine sA ?_
          cases hs1
          exact X_backP hk1 (weakA [some 0, some 1, some 2, some 3, some 4, some 6])
        · try refine sA ?_
          cases hs1
          cases hk1
          try dsimp only at h
          try refine sA ?_
          have he := Option.some.inj h
          subst he
          exact endsA ⟨[(4, (.lf false (.sc (.bool true))))], [(0, some (false, .box [(.os 5 1 0 c283.2.Accounts.length c283.2.Accounts.length false), (.os 2 3 0 a0.Moves.length a0.Moves.length false), (.lf false (.sc (.int .i64 c283.2.Done))), (.lf false (.sc (.bool c283.2.Undoing)))])), (1, none), (2, some (false, .arr false 3 (a0.Moves.map eMove))), (3, some (false, .box [(.lf false (.sc (.int .i64 g271.b3_0)))])), (4, some (false, .box [(.lf false (.sc (.int .i64 a2)))])), (5, some (false, .arr false 1 (c283.2.Accounts.map eI)))], 6, 18⟩ [some 0, some 1, some 2, some 3, some 4, some 6]
    · try refine sA ?_
      obtain ⟨c284, hr7, hs1⟩ := bind_ok hs1
      refine Cl_hA [0, 5, 2] (w_impl_Saga_step_o hr7) ?_
      try refine sA ?_
      refine Bs_if hs1 (fun hs1 hc8 => ?_) (fun hs1 hc8 => ?_)
      · try refine sA ?_
        cases hs1
        exact X_backP hk1 (weakA [some 0, some 1, some 2, some 3, some 4, some 6])
      · try refine sA ?_
        cases hs1
        cases hk1
        try dsimp only at h
        try refine sA ?_
        have he := Option.some.inj h
        subst he
        exact endsA ⟨[(4, (.lf false (.sc (.bool true))))], [(0, some (false, .box [(.os 5 1 0 c284.2.Accounts.length c284.2.Accounts.length false), (.os 2 3 0 a0.Moves.length a0.Moves.length false), (.lf false (.sc (.int .i64 c284.2.Done))), (.lf false (.sc (.bool c284.2.Undoing)))])), (1, none), (2, some (false, .arr false 3 (a0.Moves.map eMove))), (3, some (false, .box [(.lf false (.sc (.int .i64 g271.b3_0)))])), (4, some (false, .box [(.lf false (.sc (.int .i64 a2)))])), (5, some (false, .arr false 1 (c284.2.Accounts.map eI)))], 6, 18⟩ [some 0, some 1, some 2, some 3, some 4, some 6]
theorem w_impl_changedSaga_impl_RunSaga_c1oo {a0 : SagaT} {a1 : Int} {a2 : Int} {r : (SagaT × Bool × Int)} (h : impl_changedSaga_impl_RunSaga_c1oo a0 a1 a2 = some r) : Fn Try.prog 30 [(.ag [(.lf true (.sl (a0.Accounts.map eI))), (.lf true (.sl (a0.Moves.map eMove))), (.lf false (.sc (.int .i64 a0.Done))), (.lf false (.sc (.bool a0.Undoing)))]), (.fn 31 [(.pb 0 0), (.pb 1 0)])] [(0, some (false, .box [(.lf false (.sc (.int .i64 a1)))])), (1, some (false, .box [(.lf false (.sc (.int .i64 a2)))]))] 2 (.tu [(.ag [(.os 2 1 0 r.1.Accounts.length r.1.Accounts.length false), (.os 3 3 0 r.1.Moves.length r.1.Moves.length false), (.lf false (.sc (.int .i64 r.1.Done))), (.lf false (.sc (.bool r.1.Undoing)))]), (.lf false (.sc (.bool r.2.1)))]) [(0, some (false, .box [(.lf false (.sc (.int .i64 r.2.2)))])), (1, some (false, .box [(.lf false (.sc (.int .i64 a2)))])), (2, some (false, .arr false 1 (r.1.Accounts.map eI))), (3, some (true, .arr false 3 (r.1.Moves.map eMove)))] 5 := by
  unfold impl_changedSaga_impl_RunSaga_c1oo at h
  refine fn_code tab_ok mixed [(1000, [(1, 0), (2, 0), (4, 0)]), (1001, [(1, 0), (2, 0), (4, 0), (9, 0)]), (1002, [(4, 0), (5, 0)]), (1003, [(1, 0), (4, 0), (6, 0)]), (1004, [(4, 0), (6, 0), (15, 0)]), (1005, [(4, 0), (5, 0)]), (1006, [(4, 0), (5, 0)])] Try.func30 rfl rfl (by simp [Try.f30]) (by kernel_rfl) ?_
  simp only [Try.f30]
  refine sA ?_
  obtain ⟨c269, hr1, h⟩ := bind_ok h
  refine Cl_sA (w_impl_GoodSaga hr1) ?_
  try refine sA ?_
  refine Bs_if h (fun h hc2 => ?_) (fun h hc2 => ?_)
  · try refine sA ?_
    have he := Option.some.inj h
    subst he
    exact endsA ⟨[(4, (.pb 4 0)), (5, (.lf false (.sc (.bool false))))], [(0, some (false, .box [(.lf false (.sc (.int .i64 a1)))])), (1, some (false, .box [(.lf false (.sc (.int .i64 a2)))])), (2, some (false, .arr false 1 (([] : List Int).map eI))), (3, some (true, .arr false 3 (([] : List MoveT).map eMove))), (4, some (true, .box [(.os 2 1 0 (([] : List Int).length) (([] : List Int).length) false), (.os 3 3 0 (([] : List MoveT).length) (([] : List MoveT).length) false), (.lf false (.sc (.int .i64 0))), (.lf false (.sc (.bool false)))]))], 5, 18⟩ [some 0, some 1, none, none, some 3]
  · try refine sA ?_
    obtain ⟨c270, hr3, h⟩ := bind_ok h
    refine Cl_sA (w_impl_cloneSaga hr3) ?_
    try refine sA ?_
    obtain ⟨c286, hr4, h⟩ := bind_ok h
    refine Cl_hA [7, 4, 5, 0, 1] (w_impl_RunSaga_c1_ooo hr4) ?_
    try refine sA ?_
    refine Bs_if h (fun h hc5 => ?_) (fun h hc5 => ?_)
    · try refine sA ?_
      have he := Option.some.inj h
      subst he
      exact endsA ⟨[(4, (.pb 4 0)), (5, (.lf false (.sc (.bool false))))], [(0, some (false, .box [(.lf false (.sc (.int .i64 c286.2.2)))])), (1, some (false, .box [(.lf false (.sc (.int .i64 a2)))])), (2, some (false, .arr false 1 (([] : List Int).map eI))), (3, some (true, .arr false 3 (([] : List MoveT).map eMove))), (4, some (true, .box [(.os 2 1 0 (([] : List Int).length) (([] : List Int).length) false), (.os 3 3 0 (([] : List MoveT).length) (([] : List MoveT).length) false), (.lf false (.sc (.int .i64 0))), (.lf false (.sc (.bool false)))]))], 5, 18⟩ [some 0, some 1, none, none, some 3]
    · try refine sA ?_
      have he := Option.some.inj h
      subst he
      exact endsA ⟨[(4, (.pb 4 0)), (5, (.lf false (.sc (.bool true))))], [(0, some (false, .box [(.lf false (.sc (.int .i64 c286.2.2)))])), (1, some (false, .box [(.lf false (.sc (.int .i64 a2)))])), (2, some (false, .arr false 1 (c286.2.1.Accounts.map eI))), (3, some (true, .arr false 3 (c270.Moves.map eMove))), (4, some (true, .box [(.os 2 1 0 c286.2.1.Accounts.length c286.2.1.Accounts.length false), (.os 3 3 0 c270.Moves.length c270.Moves.length false), (.lf false (.sc (.int .i64 c286.2.1.Done))), (.lf false (.sc (.bool c286.2.1.Undoing)))]))], 5, 18⟩ [some 0, some 1, some 8, some 5, some 3]
theorem w_impl_RunSaga {a0 : SagaT} {a1 : Int} {r : (SagaT × Int × Bool)} (h : impl_RunSaga a0 a1 = some r) : Fn Try.prog 10 [(.ag [(.lf true (.sl (a0.Accounts.map eI))), (.lf true (.sl (a0.Moves.map eMove))), (.lf false (.sc (.int .i64 a0.Done))), (.lf false (.sc (.bool a0.Undoing)))]), (.lf false (.sc (.int .i64 a1)))] [] 0 (.tu [(.ag [(.os 0 1 0 r.1.Accounts.length r.1.Accounts.length false), (.os 1 3 0 r.1.Moves.length r.1.Moves.length false), (.lf false (.sc (.int .i64 r.1.Done))), (.lf false (.sc (.bool r.1.Undoing)))]), (.lf false (.sc (.int .i64 r.2.1))), (.lf false (.sc (.bool r.2.2)))]) [(0, some (false, .arr false 1 (r.1.Accounts.map eI))), (1, some (true, .arr false 3 (r.1.Moves.map eMove)))] 3 := by
  unfold impl_RunSaga at h
  refine fn_code tab_ok mixed [(5, [(1, 2)]), (1000, [(2, 0), (3, 0), (4, 0)]), (1001, [(2, 0), (3, 0), (4, 0), (7, 0)]), (1002, [(4, 0), (7, 0), (8, 0), (9, 0)]), (1003, [(4, 0), (7, 0), (8, 0), (17, 0)]), (1004, [(4, 0), (5, 0), (6, 0)]), (1005, [(4, 0), (5, 0), (6, 0)])] Try.func10 rfl rfl (by simp [Try.f10]) (by kernel_rfl) ?_
  simp only [Try.f10]
  refine sA ?_
  obtain ⟨c287, hr1, h⟩ := bind_ok h
  refine Cl_hA [3, 1] (w_impl_changedSaga_impl_RunSaga_c1oo hr1) ?_
  try refine sA ?_
  refine Bs_if h (fun h hc2 => ?_) (fun h hc2 => ?_)
  · try refine sA ?_
    have he := Option.some.inj h
    subst he
    exact endsA ⟨[(4, (.pb 2 0)), (5, (.lf false (.sc (.int .i64 0)))), (6, (.lf false (.sc (.bool false))))], [(0, some (false, .arr false 1 (([] : List Int).map eI))), (1, some (true, .arr false 3 (([] : List MoveT).map eMove))), (2, some (true, .box [(.os 0 1 0 (([] : List Int).length) (([] : List Int).length) false), (.os 1 3 0 (([] : List MoveT).length) (([] : List MoveT).length) false), (.lf false (.sc (.int .i64 0))), (.lf false (.sc (.bool false)))]))], 3, 21⟩ [none, none, some 2]
  · try refine sA ?_
    have he := Option.some.inj h
    subst he
    exact endsA ⟨[(4, (.pb 2 0)), (5, (.lf false (.sc (.int .i64 c287.2.2)))), (6, (.lf false (.sc (.bool true))))], [(0, some (false, .arr false 1 (c287.1.Accounts.map eI))), (1, some (true, .arr false 3 (c287.1.Moves.map eMove))), (2, some (true, .box [(.os 0 1 0 c287.1.Accounts.length c287.1.Accounts.length false), (.os 1 3 0 c287.1.Moves.length c287.1.Moves.length false), (.lf false (.sc (.int .i64 c287.1.Done))), (.lf false (.sc (.bool c287.1.Undoing)))]))], 3, 21⟩ [some 4, some 5, some 2]
theorem w_impl_IsOver {a0 : SagaT} {r : (Bool × Bool × Bool)} (h : impl_IsOver a0 = some r) : Fn Try.prog 12 [(.ag [(.lf true (.sl (a0.Accounts.map eI))), (.lf true (.sl (a0.Moves.map eMove))), (.lf false (.sc (.int .i64 a0.Done))), (.lf false (.sc (.bool a0.Undoing)))])] [] 0 (.tu [(.lf false (.sc (.bool r.1))), (.lf false (.sc (.bool r.2.1))), (.lf false (.sc (.bool r.2.2)))]) [] 0 := by
  unfold impl_IsOver at h
  refine fn_code tab_ok mixed [(1000, [(1, 0)]), (1001, [(1, 0), (8, 0)]), (1002, [(2, 0), (3, 0), (4, 0)]), (1003, [(1, 0), (5, 0)]), (1004, [(2, 0), (3, 0), (4, 0)]), (4003, [])] Try.func12 rfl rfl (by simp [Try.f12]) (by kernel_rfl) ?_
  simp only [Try.f12]
  refine sA ?_
  obtain ⟨c289, hr1, h⟩ := bind_ok h
  refine Cl_sA (w_impl_GoodSaga hr1) ?_
  try refine sA ?_
  refine Bs_if h (fun h hc2 => ?_) (fun h hc2 => ?_)
  · try refine sA ?_
    have he := Option.some.inj h
    subst he
    exact endsA ⟨[(2, (.lf false (.sc (.bool false)))), (3, (.lf false (.sc (.bool false)))), (4, (.lf false (.sc (.bool false))))], [], 0, 31⟩ []
  · try refine sA ?_
    obtain ⟨p290, hq3, h⟩ := bind_ok h
    refine Sq_cut (fun s2 => s2 = ⟨[(1, (.pb 0 0)), (5, (.lf false (.sc (.bool p290.t5))))], [(0, some (true, .box [(.lf true (.sl (a0.Accounts.map eI))), (.lf true (.sl (a0.Moves.map eMove))), (.lf false (.sc (.int .i64 a0.Done))), (.lf false (.sc (.bool a0.Undoing)))]))], 1, 31⟩) ?_ ?_
    · try refine sA ?_
      refine Sp_if hq3 (fun hq3 hc4 => ?_) (fun hq3 hc4 => ?_)
      · try refine sA ?_
        cases hq3
        exact X_cut rfl (weakA [some 0])
      · try refine sA ?_
        cases hq3
        exact X_cut rfl (weakA [some 0])
    · intro s2 hJ; subst hJ
      try dsimp only at h
      try refine sA ?_
      refine Sp_if h (fun h hc5 => ?_) (fun h hc5 => ?_)
      · try refine sA ?_
        have he := Option.some.inj h
        subst he
        exact endsA ⟨[(2, (.lf false (.sc (.bool true)))), (3, (.lf false (.sc (.bool p290.t5)))), (4, (.lf false (.sc (.bool true))))], [], 0, 31⟩ []
      · try refine sA ?_
        refine Sp_if h (fun h hc6 => ?_) (fun h hc6 => ?_)
        · try refine sA ?_
          have he := Option.some.inj h
          subst he
          exact endsA ⟨[(2, (.lf false (.sc (.bool (a0.Done == 0))))), (3, (.lf false (.sc (.bool p290.t5)))), (4, (.lf false (.sc (.bool true))))], [], 0, 31⟩ []
        · try refine sA ?_
          have he := Option.some.inj h
          subst he
          exact endsA ⟨[(2, (.lf false (.sc (.bool false)))), (3, (.lf false (.sc (.bool p290.t5)))), (4, (.lf false (.sc (.bool true))))], [], 0, 31⟩ []
theorem w_impl_SumIn {a0 : SagaT} {r : (Int × Bool)} (h : impl_SumIn a0 = some r) : Fn Try.prog 13 [(.ag [(.lf true (.sl (a0.Accounts.map eI))), (.lf true (.sl (a0.Moves.map eMove))), (.lf false (.sc (.int .i64 a0.Done))), (.lf false (.sc (.bool a0.Undoing)))])] [] 0 (.tu [(.lf false (.sc (.int .i64 r.1))), (.lf false (.sc (.bool r.2)))]) [] 0 := by
  unfold impl_SumIn at h
  refine fn_code tab_ok mixed [(1000, [(1, 0)]), (1001, [(1, 0), (9, 0)]), (1002, [(2, 0), (3, 0)]), (1003, [(1, 0), (4, 0)]), (1004, [(4, 0), (11, 0), (12, 0), (13, 0)]), (1005, [(4, 0), (11, 0), (12, 0), (13, 0), (14, 0)]), (1006, [(4, 0), (6, 0), (11, 0), (12, 0), (13, 0)]), (1007, [(4, 0), (11, 0), (12, 0), (13, 0)]), (1008, [(4, 0), (11, 0), (12, 0), (13, 0)]), (1009, [(2, 0), (3, 0)])] Try.func13 rfl rfl (by simp [Try.f13]) (by kernel_rfl) ?_
  simp only [Try.f13]
  refine sA ?_
  obtain ⟨c292, hr1, h⟩ := bind_ok h
  refine Cl_sA (w_impl_GoodSaga hr1) ?_
  try refine sA ?_
  refine Bs_if h (fun h hc2 => ?_) (fun h hc2 => ?_)
  · try refine sA ?_
    have he := Option.some.inj h
    subst he
    exact endsA ⟨[(2, (.lf false (.sc (.int .i64 0)))), (3, (.lf false (.sc (.bool false))))], [], 0, 22⟩ []
  · try refine sA ?_
    obtain ⟨y294, hl3, h⟩ := bind_ok h
    refine W_loopP (fun g293 : impl_SumIn_G1 => ⟨[(4, (.lf false (.sc (.int .i64 g293.t4)))), (11, (.lf true (.sl (a0.Accounts.map eI)))), (12, (.lf false (.sc (.int .i64 ((a0.Accounts.length : Nat) : Int))))), (13, (.lf false (.sc (.int .i64 g293.t13))))], [], 0, 22⟩) (impl_SumIn_L1 a0) _ _ hl3 (weakA []) ?_
    · intro n1 g293 z1 hs1 hk1
      unfold impl_SumIn_L1 at hs1
      try dsimp only at hs1
      refine sA ?_
      refine Bs_if hs1 (fun hs1 hc4 => ?_) (fun hs1 hc4 => ?_)
      · try refine sA ?_
        obtain ⟨hp5, hs1⟩ := guard_some hs1
        have hn5 : g293.t13.toNat < a0.Accounts.length := by first | omega | (simp only [List.length_set, List.length_append, List.length_replicate, List.length_map]; omega)
        try refine sA ?_
        try refine andA ?_
        cases hs1
        exact X_backP hk1 (weakA [])
      · try refine sA ?_
        cases hs1
        cases hk1
        try dsimp only at h
        try refine sA ?_
        have he := Option.some.inj h
        subst he
        exact endsA ⟨[(2, (.lf false (.sc (.int .i64 g293.t4)))), (3, (.lf false (.sc (.bool true))))], [], 0, 22⟩ []
theorem w_spec_DrawGoodSaga {a0 : (List Int)} {r : SagaT} (h : spec_DrawGoodSaga a0 = some r) : Fn Try.prog 34 [(.lf true (.sl (a0.map eU8)))] [] 0 (.ag [(.os 0 1 0 r.Accounts.length r.Accounts.length false), (.os 1 3 0 r.Moves.length r.Moves.length false), (.lf false (.sc (.int .i64 r.Done))), (.lf false (.sc (.bool r.Undoing)))]) [(0, some (false, .arr false 1 (r.Accounts.map eI))), (1, some (true, .arr false 3 (r.Moves.map eMove)))] 3 := by
  unfold spec_DrawGoodSaga at h
  refine fn_code tab_ok mixed [(1000, [(0, 0), (2, 0)]), (1001, [(2, 0), (3, 0)]), (1002, [(2, 0)])] Try.func34 rfl rfl (by simp [Try.f34]) (by kernel_rfl) ?_
  simp only [Try.f34]
  refine sA ?_
  obtain ⟨c301, hr1, h⟩ := bind_ok h
  refine Cl_hA [1] (w_spec_l1Cur_saga_o hr1) ?_
  try refine sA ?_
  have he := Option.some.inj h
  subst he
  exact endsA ⟨[(2, (.pb 2 0))], [(0, some (false, .arr false 1 (c301.1.Accounts.map eI))), (1, some (true, .arr false 3 (c301.1.Moves.map eMove))), (2, some (true, .box [(.os 0 1 0 c301.1.Accounts.length c301.1.Accounts.length false), (.os 1 3 0 c301.1.Moves.length c301.1.Moves.length false), (.lf false (.sc (.int .i64 c301.1.Done))), (.lf false (.sc (.bool c301.1.Undoing)))]))], 3, 9⟩ [some 2, some 3, some 0]
theorem w_spec_DrawStepSaga {a0 : (List Int)} {r : SagaT} (h : spec_DrawStepSaga a0 = some r) : Fn Try.prog 15 [(.lf true (.sl (a0.map eU8)))] [] 0 (.ag [(.os 0 1 0 r.Accounts.length r.Accounts.length false), (.os 1 3 0 r.Moves.length r.Moves.length false), (.lf false (.sc (.int .i64 r.Done))), (.lf false (.sc (.bool r.Undoing)))]) [(0, some (false, .arr false 1 (r.Accounts.map eI))), (1, some (true, .arr false 3 (r.Moves.map eMove)))] 3 := by
  unfold spec_DrawStepSaga at h
  refine fn_code tab_ok mixed [] Try.func15 rfl rfl (by simp [Try.f15]) (by kernel_rfl) ?_
  simp only [Try.f15]
  refine sA ?_
  obtain ⟨c302, hr1, h⟩ := bind_ok h
  refine Cl_sA (w_spec_DrawGoodSaga hr1) ?_
  try refine sA ?_
  have he := Option.some.inj h
  subst he
  exact endsA ⟨[(2, (.pb 2 0))], [(0, some (false, .arr false 1 (c302.Accounts.map eI))), (1, some (true, .arr false 3 (c302.Moves.map eMove))), (2, some (true, .box [(.os 0 1 0 c302.Accounts.length c302.Accounts.length false), (.os 1 3 0 c302.Moves.length c302.Moves.length false), (.lf false (.sc (.int .i64 c302.Done))), (.lf false (.sc (.bool c302.Undoing)))]))], 3, 5⟩ [some 1, some 2, some 0]
theorem w_impl_changedSaga_impl_Saga_step {a0 : SagaT} {r : (SagaT × Bool)} (h : impl_changedSaga_impl_Saga_step a0 = some r) : Fn Try.prog 30 [(.ag [(.lf true (.sl (a0.Accounts.map eI))), (.lf true (.sl (a0.Moves.map eMove))), (.lf false (.sc (.int .i64 a0.Done))), (.lf false (.sc (.bool a0.Undoing)))]), (.fn 33 [])] [] 0 (.tu [(.ag [(.os 0 1 0 r.1.Accounts.length r.1.Accounts.length false), (.os 1 3 0 r.1.Moves.length r.1.Moves.length false), (.lf false (.sc (.int .i64 r.1.Done))), (.lf false (.sc (.bool r.1.Undoing)))]), (.lf false (.sc (.bool r.2)))]) [(0, some (false, .arr false 1 (r.1.Accounts.map eI))), (1, some (true, .arr false 3 (r.1.Moves.map eMove)))] 3 := by
  unfold impl_changedSaga_impl_Saga_step at h
  refine fn_code tab_ok mixed [(1000, [(1, 0), (2, 0), (4, 0)]), (1001, [(1, 0), (2, 0), (4, 0), (9, 0)]), (1002, [(4, 0), (5, 0)]), (1003, [(1, 0), (4, 0), (6, 0)]), (1004, [(4, 0), (6, 0), (15, 0)]), (1005, [(4, 0), (5, 0)]), (1006, [(4, 0), (5, 0)])] Try.func30 rfl rfl (by simp [Try.f30]) (by kernel_rfl) ?_
  simp only [Try.f30]
  refine sA ?_
  obtain ⟨c304, hr1, h⟩ := bind_ok h
  refine Cl_sA (w_impl_GoodSaga hr1) ?_
  try refine sA ?_
  refine Bs_if h (fun h hc2 => ?_) (fun h hc2 => ?_)
  · try refine sA ?_
    have he := Option.some.inj h
    subst he
    exact endsA ⟨[(4, (.pb 2 0)), (5, (.lf false (.sc (.bool false))))], [(0, some (false, .arr false 1 (([] : List Int).map eI))), (1, some (true, .arr false 3 (([] : List MoveT).map eMove))), (2, some (true, .box [(.os 0 1 0 (([] : List Int).length) (([] : List Int).length) false), (.os 1 3 0 (([] : List MoveT).length) (([] : List MoveT).length) false), (.lf false (.sc (.int .i64 0))), (.lf false (.sc (.bool false)))]))], 3, 18⟩ [none, none, some 1]
  · try refine sA ?_
    obtain ⟨c305, hr3, h⟩ := bind_ok h
    refine Cl_sA (w_impl_cloneSaga hr3) ?_
    try refine sA ?_
    obtain ⟨c306, hr4, h⟩ := bind_ok h
    refine Cl_hA [5, 2, 3] (w_impl_Saga_step_o hr4) ?_
    try refine sA ?_
    refine Bs_if h (fun h hc5 => ?_) (fun h hc5 => ?_)
    · try refine sA ?_
      have he := Option.some.inj h
      subst he
      exact endsA ⟨[(4, (.pb 2 0)), (5, (.lf false (.sc (.bool false))))], [(0, some (false, .arr false 1 (([] : List Int).map eI))), (1, some (true, .arr false 3 (([] : List MoveT).map eMove))), (2, some (true, .box [(.os 0 1 0 (([] : List Int).length) (([] : List Int).length) false), (.os 1 3 0 (([] : List MoveT).length) (([] : List MoveT).length) false), (.lf false (.sc (.int .i64 0))), (.lf false (.sc (.bool false)))]))], 3, 18⟩ [none, none, some 1]
    · try refine sA ?_
      have he := Option.some.inj h
      subst he
      exact endsA ⟨[(4, (.pb 2 0)), (5, (.lf false (.sc (.bool true))))], [(0, some (false, .arr false 1 (c306.2.Accounts.map eI))), (1, some (true, .arr false 3 (c305.Moves.map eMove))), (2, some (true, .box [(.os 0 1 0 c306.2.Accounts.length c306.2.Accounts.length false), (.os 1 3 0 c305.Moves.length c305.Moves.length false), (.lf false (.sc (.int .i64 c306.2.Done))), (.lf false (.sc (.bool c306.2.Undoing)))]))], 3, 18⟩ [some 6, some 3, some 1]
theorem w_impl_StepSaga {a0 : SagaT} {r : (SagaT × Bool)} (h : impl_StepSaga a0 = some r) : Fn Try.prog 16 [(.ag [(.lf true (.sl (a0.Accounts.map eI))), (.lf true (.sl (a0.Moves.map eMove))), (.lf false (.sc (.int .i64 a0.Done))), (.lf false (.sc (.bool a0.Undoing)))])] [] 0 (.tu [(.ag [(.os 0 1 0 r.1.Accounts.length r.1.Accounts.length false), (.os 1 3 0 r.1.Moves.length r.1.Moves.length false), (.lf false (.sc (.int .i64 r.1.Done))), (.lf false (.sc (.bool r.1.Undoing)))]), (.lf false (.sc (.bool r.2)))]) [(0, some (false, .arr false 1 (r.1.Accounts.map eI))), (1, some (true, .arr false 3 (r.1.Moves.map eMove)))] 3 := by
  unfold impl_StepSaga at h
  refine fn_code tab_ok mixed [] Try.func16 rfl rfl (by simp [Try.f16]) (by kernel_rfl) ?_
  simp only [Try.f16]
  refine sA ?_
  obtain ⟨c307, hr1, h⟩ := bind_ok h
  refine Cl_sA (w_impl_changedSaga_impl_Saga_step hr1) ?_
  try refine sA ?_
  have he := Option.some.inj h
  subst he
  exact endsA ⟨[(2, (.pb 2 0)), (3, (.lf false (.sc (.bool c307.2))))], [(0, some (false, .arr false 1 (c307.1.Accounts.map eI))), (1, some (true, .arr false 3 (c307.1.Moves.map eMove))), (2, some (true, .box [(.os 0 1 0 c307.1.Accounts.length c307.1.Accounts.length false), (.os 1 3 0 c307.1.Moves.length c307.1.Moves.length false), (.lf false (.sc (.int .i64 c307.1.Done))), (.lf false (.sc (.bool c307.1.Undoing)))]))], 3, 8⟩ [some 2, some 3, some 1]
theorem w_laws_FnUndone {a0 : (List Int)} {a1 : (List Int)} {r : Bool} (h : laws_FnUndone a0 a1 = some r) : Fn Try.prog 3 [(.lf true (.sl (a0.map eU8))), (.lf true (.sl (a1.map eU8)))] [] 0 (.lf false (.sc (.bool r))) [] 0 := by
  unfold laws_FnUndone at h
  refine fn_code tab_ok mixed [(9, [(0, 2), (0, 13)]), (20, [(12, 11)]), (1000, [(0, 0), (1, 0)]), (1001, [(0, 0), (1, 0), (35, 0)]), (1002, [(4, 0)]), (1003, [(1, 0), (5, 0), (6, 0)]), (1004, [(1, 0), (5, 0), (6, 0), (7, 0), (8, 0)]), (1005, [(1, 0), (5, 0), (6, 0), (7, 0), (8, 0), (9, 0), (10, 0)]), (1006, [(1, 0), (5, 0), (6, 0), (7, 0), (8, 0), (61, 0)]), (1007, [(4, 0)]), (1008, [(1, 0), (5, 0), (6, 0), (7, 0), (62, 0)]), (1009, [(1, 0), (5, 0), (6, 0), (7, 0), (11, 0), (12, 0), (13, 0)]), (1010, [(1, 0), (5, 0), (6, 0), (7, 0), (11, 0), (12, 0), (13, 0), (14, 0), (15, 0), (16, 0)]), (1011, [(1, 0), (5, 0), (6, 0), (11, 0), (12, 0), (13, 0), (14, 0), (15, 0), (16, 0), (17, 0), (18, 0)]), (1012, [(1, 0), (5, 0), (6, 0), (11, 0), (12, 0), (13, 0), (14, 0), (15, 0), (16, 0), (17, 0), (18, 0), (19, 0), (20, 0)]), (1013, [(1, 0), (5, 0), (6, 0), (11, 0), (15, 0), (133, 0)]), (1014, [(4, 0)]), (1015, [(1, 0), (152, 0)]), (1016, [(4, 0)]), (1017, [(21, 0)]), (1018, [(21, 0), (22, 0), (23, 0)]), (1019, [(21, 0), (22, 0), (23, 0), (24, 0), (25, 0)]), (1020, [(21, 0), (22, 0), (23, 0), (180, 0)]), (1021, [(4, 0)]), (1022, [(21, 0), (22, 0), (182, 0)]), (1023, [(4, 0)]), (1024, [(22, 0), (26, 0), (27, 0)]), (1025, [(22, 0), (26, 0), (27, 0), (28, 0), (29, 0)]), (1026, [(4, 0)]), (2062, []), (4006, []), (4013, []), (4015, []), (4020, [])] Try.func3 rfl rfl (by simp [Try.f3]) (by kernel_rfl) ?_
  simp only [Try.f3]
  refine sA ?_
  refine Bs_if h (fun h hc1 => ?_) (fun h hc1 => ?_)
  · try refine sA ?_
    have he := Option.some.inj h
    subst he
    exact endsA ⟨[(4, (.lf false (.sc (.bool true))))], [], 0, 210⟩ []
  · try refine sA ?_
    obtain ⟨c217, hr2, h⟩ := bind_ok h
    refine Cl_sA (w_spec_DrawNewSaga hr2) ?_
    try refine sA ?_
    obtain ⟨c247, hr3, h⟩ := bind_ok h
    refine Cl_sA (w_impl_NewSaga hr3) ?_
    try refine sA ?_
    obtain ⟨c248, hr4, h⟩ := bind_ok h
    refine Cl_sA (w_spec_NewSaga hr4) ?_
    try refine sA ?_
    obtain ⟨p260, hq5, h⟩ := bind_ok h
    refine Sq_cut (fun s2 => s2 = ⟨[(1, (.lf true (.sl (a1.map eU8)))), (5, (.os 0 1 0 c217.1.length c217.1.length false)), (6, (.os 1 3 0 c217.2.length c217.2.length false)), (7, (.pb 2 0)), (8, (.lf false (.sc (.bool c247.2)))), (61, (.lf false (.sc (.bool p260.t61))))], [(0, some (false, .arr false 1 (c217.1.map eI))), (1, some (true, .arr false 3 (c217.2.map eMove))), (2, some (true, .box [(.os 3 1 0 c247.1.Accounts.length c247.1.Accounts.length false), (.os 4 3 0 c247.1.Moves.length c247.1.Moves.length false), (.lf false (.sc (.int .i64 c247.1.Done))), (.lf false (.sc (.bool c247.1.Undoing)))])), (3, some (true, .arr false 1 (c247.1.Accounts.map eI))), (4, some (true, .arr false 3 (c247.1.Moves.map eMove)))], 5, 210⟩) ?_ ?_
    · try refine sA ?_
      refine Sp_if hq5 (fun hq5 hc6 => ?_) (fun hq5 hc6 => ?_)
      · try refine sA ?_
        cases hq5
        exact X_cut rfl (weakA [some 0, some 1, some 5, some 2, some 3])
      · try refine sA ?_
        obtain ⟨c259, hr7, hq5⟩ := bind_ok hq5
        refine Cl_sA (w_laws_sameSagas hr7) ?_
        try refine sA ?_
        cases hq5
        exact X_cut rfl (weakA [some 0, some 1, some 5, some 2, some 3])
    · intro s2 hJ; subst hJ
      try dsimp only at h
      try refine sA ?_
      refine Bs_if h (fun h hc8 => ?_) (fun h hc8 => ?_)
      · try refine sA ?_
        have he := Option.some.inj h
        subst he
        exact endsA ⟨[(4, (.lf false (.sc (.bool false))))], [], 0, 210⟩ []
      · try refine sA ?_
        obtain ⟨q9, hq9, h⟩ := bind_ok h
        refine Sq_cut (fun s2 => ∃ p300 : Unit, q9 = .inl p300 ∧ s2 = ⟨[(1, (.lf true (.sl (a1.map eU8))))], [], 0, 210⟩) ?_ ?_
        · try refine sA ?_
          refine Bs_if hq9 (fun hq9 hc10 => ?_) (fun hq9 hc10 => ?_)
          · try refine sA ?_
            obtain ⟨c263, hr11, hq9⟩ := bind_ok hq9
            refine Cl_sA (w_laws_numberOf hr11) ?_
            try refine sA ?_
            obtain ⟨hp12, hq9⟩ := guard_some hq9
            try refine sA ?_
            try refine andA ?_
            obtain ⟨c288, hr13, hq9⟩ := bind_ok hq9
            refine Cl_sA (w_impl_RunSaga hr13) ?_
            try refine sA ?_
            obtain ⟨c291, hr14, hq9⟩ := bind_ok hq9
            refine Cl_sA (w_impl_IsOver hr14) ?_
            try refine sA ?_
            obtain ⟨c295, hr15, hq9⟩ := bind_ok hq9
            refine Cl_sA (w_impl_SumIn hr15) ?_
            try refine sA ?_
            obtain ⟨c296, hr16, hq9⟩ := bind_ok hq9
            refine Cl_sA (w_impl_SumIn hr16) ?_
            try refine sA ?_
            obtain ⟨p297, hq17, hq9⟩ := bind_ok hq9
            refine Sq_cut (fun s2 => s2 = ⟨[(1, (.lf true (.sl (a1.map eU8)))), (5, (.os 0 1 0 c217.1.length c217.1.length false)), (6, (.os 1 3 0 c217.2.length c217.2.length false)), (11, (.pb 2 0)), (15, (.lf false (.sc (.bool c291.2.1)))), (133, (.lf false (.sc (.bool p297.t133))))], [(0, some (false, .arr false 1 (c217.1.map eI))), (1, some (true, .arr false 3 (c217.2.map eMove))), (2, some (true, .box [(.os 3 1 0 c288.1.Accounts.length c288.1.Accounts.length false), (.os 4 3 0 c288.1.Moves.length c288.1.Moves.length false), (.lf false (.sc (.int .i64 c288.1.Done))), (.lf false (.sc (.bool c288.1.Undoing)))])), (3, some (false, .arr false 1 (c288.1.Accounts.map eI))), (4, some (true, .arr false 3 (c288.1.Moves.map eMove)))], 5, 210⟩) ?_ ?_
            · try refine sA ?_
              refine Sp_if hq17 (fun hq17 hc18 => ?_) (fun hq17 hc18 => ?_)
              · try refine sA ?_
                cases hq17
                exact X_cut rfl (weakA [some 0, some 1, some 8, some 5, some 6])
              · try refine sA ?_
                refine Sp_if hq17 (fun hq17 hc19 => ?_) (fun hq17 hc19 => ?_)
                · try refine sA ?_
                  cases hq17
                  exact X_cut rfl (weakA [some 0, some 1, some 8, some 5, some 6])
                · try refine sA ?_
                  refine Sp_if hq17 (fun hq17 hc20 => ?_) (fun hq17 hc20 => ?_)
                  · try refine sA ?_
                    cases hq17
                    exact X_cut rfl (weakA [some 0, some 1, some 8, some 5, some 6])
                  · try refine sA ?_
                    refine Sp_if hq17 (fun hq17 hc21 => ?_) (fun hq17 hc21 => ?_)
                    · try refine sA ?_
                      cases hq17
                      exact X_cut rfl (weakA [some 0, some 1, some 8, some 5, some 6])
                    · try refine sA ?_
                      refine Sp_if hq17 (fun hq17 hc22 => ?_) (fun hq17 hc22 => ?_)
                      · try refine sA ?_
                        cases hq17
                        exact X_cut rfl (weakA [some 0, some 1, some 8, some 5, some 6])
                      · try refine sA ?_
                        refine Sp_if hq17 (fun hq17 hc23 => ?_) (fun hq17 hc23 => ?_)
                        · try refine sA ?_
                          cases hq17
                          exact X_cut rfl (weakA [some 0, some 1, some 8, some 5, some 6])
                        · try refine sA ?_
                          refine Sp_if hq17 (fun hq17 hc24 => ?_) (fun hq17 hc24 => ?_)
                          · try refine sA ?_
                            cases hq17
                            exact X_cut rfl (weakA [some 0, some 1, some 8, some 5, some 6])
                          · try refine sA ?_
                            refine Sp_if hq17 (fun hq17 hc25 => ?_) (fun hq17 hc25 => ?_)
                            · try refine sA ?_
                              cases hq17
                              exact X_cut rfl (weakA [some 0, some 1, some 8, some 5, some 6])
                            · try refine sA ?_
                              cases hq17
                              exact X_cut rfl (weakA [some 0, some 1, some 8, some 5, some 6])
            · intro s2 hJ; subst hJ
              try dsimp only at hq9
              try refine sA ?_
              refine Bs_if hq9 (fun hq9 hc26 => ?_) (fun hq9 hc26 => ?_)
              · try refine sA ?_
                cases hq9
                try dsimp only at h
                have he := Option.some.inj h
                subst he
                exact endsA ⟨[(4, (.lf false (.sc (.bool false))))], [], 0, 210⟩ []
              · try refine sA ?_
                obtain ⟨p299, hq27, hq9⟩ := bind_ok hq9
                refine Sq_cut (fun s2 => s2 = ⟨[(1, (.lf true (.sl (a1.map eU8)))), (152, (.lf false (.sc (.bool p299.t152))))], [], 0, 210⟩) ?_ ?_
                · try refine sA ?_
                  refine Sp_if hq27 (fun hq27 hc28 => ?_) (fun hq27 hc28 => ?_)
                  · try refine sA ?_
                    obtain ⟨c298, hr29, hq27⟩ := bind_ok hq27
                    refine Cl_sA (w_laws_sameInts hr29) ?_
                    try refine sA ?_
                    refine Sp_if hq27 (fun hq27 hc30 => ?_) (fun hq27 hc30 => ?_)
                    · try refine sA ?_
                      cases hq27
                      exact X_cut rfl (weakA [])
                    · try refine sA ?_
                      refine Sp_if hq27 (fun hq27 hc31 => ?_) (fun hq27 hc31 => ?_)
                      · try refine sA ?_
                        cases hq27
                        exact X_cut rfl (weakA [])
                      · try refine sA ?_
                        cases hq27
                        exact X_cut rfl (weakA [])
                  · try refine sA ?_
                    refine Sp_if hq27 (fun hq27 hc32 => ?_) (fun hq27 hc32 => ?_)
                    · try refine sA ?_
                      cases hq27
                      exact X_cut rfl (weakA [])
                    · try refine sA ?_
                      cases hq27
                      exact X_cut rfl (weakA [])
                · intro s2 hJ; subst hJ
                  try dsimp only at hq9
                  try refine sA ?_
                  refine Bs_if hq9 (fun hq9 hc33 => ?_) (fun hq9 hc33 => ?_)
                  · try refine sA ?_
                    cases hq9
                    try dsimp only at h
                    have he := Option.some.inj h
                    subst he
                    exact endsA ⟨[(4, (.lf false (.sc (.bool false))))], [], 0, 210⟩ []
                  · try refine sA ?_
                    cases hq9
                    exact X_cut ⟨_, rfl, rfl⟩ (weakA [])
          · try refine sA ?_
            cases hq9
            exact X_cut ⟨_, rfl, rfl⟩ (weakA [])
        · intro s2 hJ; obtain ⟨p300, e, rfl⟩ := hJ; subst e
          try dsimp only at h
          try refine sA ?_
          obtain ⟨c303, hr34, h⟩ := bind_ok h
          refine Cl_sA (w_spec_DrawStepSaga hr34) ?_
          try refine sA ?_
          obtain ⟨c308, hr35, h⟩ := bind_ok h
          refine Cl_sA (w_impl_StepSaga hr35) ?_
          try refine sA ?_
          obtain ⟨c309, hr36, h⟩ := bind_ok h
          refine Cl_sA (w_spec_StepSaga hr36) ?_
          try refine sA ?_
          obtain ⟨p313, hq37, h⟩ := bind_ok h
          refine Sq_cut (fun s2 => s2 = ⟨[(21, (.pb 0 0)), (22, (.pb 1 0)), (23, (.lf false (.sc (.bool c308.2)))), (180, (.lf false (.sc (.bool p313.t180))))], [(0, some (true, .box [(.os 2 1 0 c303.Accounts.length c303.Accounts.length false), (.os 3 3 0 c303.Moves.length c303.Moves.length false), (.lf false (.sc (.int .i64 c303.Done))), (.lf false (.sc (.bool c303.Undoing)))])), (1, some (true, .box [(.os 4 1 0 c308.1.Accounts.length c308.1.Accounts.length false), (.os 5 3 0 c308.1.Moves.length c308.1.Moves.length false), (.lf false (.sc (.int .i64 c308.1.Done))), (.lf false (.sc (.bool c308.1.Undoing)))])), (2, some (false, .arr false 1 (c303.Accounts.map eI))), (3, some (true, .arr false 3 (c303.Moves.map eMove))), (4, some (false, .arr false 1 (c308.1.Accounts.map eI))), (5, some (true, .arr false 3 (c308.1.Moves.map eMove)))], 6, 210⟩) ?_ ?_
          · try refine sA ?_
            refine Sp_if hq37 (fun hq37 hc38 => ?_) (fun hq37 hc38 => ?_)
            · try refine sA ?_
              cases hq37
              exact X_cut rfl (weakA [some 3, some 7, some 0, some 1, some 4, some 5])
            · try refine sA ?_
              obtain ⟨c310, hr39, hq37⟩ := bind_ok hq37
              refine Cl_sA (w_laws_sameSagas hr39) ?_
              try refine sA ?_
              refine Sp_if hq37 (fun hq37 hc40 => ?_) (fun hq37 hc40 => ?_)
              · try refine sA ?_
                cases hq37
                exact X_cut rfl (weakA [some 3, some 7, some 0, some 1, some 4, some 5])
              · try refine sA ?_
                obtain ⟨c311, hr41, hq37⟩ := bind_ok hq37
                refine Cl_sA (w_impl_GoodSaga hr41) ?_
                try refine sA ?_
                obtain ⟨c312, hr42, hq37⟩ := bind_ok hq37
                refine Cl_sA (w_spec_GoodSaga hr42) ?_
                try refine sA ?_
                cases hq37
                exact X_cut rfl (weakA [some 3, some 7, some 0, some 1, some 4, some 5])
          · intro s2 hJ; subst hJ
            try dsimp only at h
            try refine sA ?_
            refine Bs_if h (fun h hc43 => ?_) (fun h hc43 => ?_)
            · try refine sA ?_
              have he := Option.some.inj h
              subst he
              exact endsA ⟨[(4, (.lf false (.sc (.bool false))))], [], 0, 210⟩ []
            · try refine sA ?_
              refine Bs_if h (fun h hc44 => ?_) (fun h hc44 => ?_)
              · try refine sA ?_
                have he := Option.some.inj h
                subst he
                exact endsA ⟨[(4, (.lf false (.sc (.bool (((c308.1.Accounts.length : Nat) : Int) == 0)))))], [], 0, 210⟩ []
              · try refine sA ?_
                obtain ⟨c314, hr45, h⟩ := bind_ok h
                refine Cl_sA (w_impl_SumIn hr45) ?_
                try refine sA ?_
                obtain ⟨c315, hr46, h⟩ := bind_ok h
                refine Cl_sA (w_impl_SumIn hr46) ?_
                try refine sA ?_
                refine Sp_if h (fun h hc47 => ?_) (fun h hc47 => ?_)
                · try refine sA ?_
                  refine Sp_if h (fun h hc48 => ?_) (fun h hc48 => ?_)
                  · try refine sA ?_
                    refine Sp_if h (fun h hc49 => ?_) (fun h hc49 => ?_)
                    · try refine sA ?_
                      obtain ⟨c316, hr50, h⟩ := bind_ok h
                      refine Cl_sA (w_impl_GoodSaga hr50) ?_
                      try refine sA ?_
                      have he := Option.some.inj h
                      subst he
                      exact endsA ⟨[(4, (.lf false (.sc (.bool c316))))], [], 0, 210⟩ []
                    · try refine sA ?_
                      have he := Option.some.inj h
                      subst he
                      exact endsA ⟨[(4, (.lf false (.sc (.bool false))))], [], 0, 210⟩ []
                  · try refine sA ?_
                    have he := Option.some.inj h
                    subst he
                    exact endsA ⟨[(4, (.lf false (.sc (.bool false))))], [], 0, 210⟩ []
                · try refine sA ?_
                  have he := Option.some.inj h
                  subst he
                  exact endsA ⟨[(4, (.lf false (.sc (.bool false))))], [], 0, 210⟩ []
end Go.TL.Ytjhcfmcdllfmpaa

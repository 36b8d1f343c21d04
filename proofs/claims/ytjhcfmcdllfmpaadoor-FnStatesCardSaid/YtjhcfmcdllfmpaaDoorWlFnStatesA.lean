import Derived.Test.YtjhcfmcdllfmpaaDoorTlTabr3D
import Derived.Test.YtjhcfmcdllfmpaaDoorG22EnR1
import Derived.Test.YtjhcfmcdllfmpaaDoorTlAuto
import Derived.Test.YtjhcfmcdllfmpaaDoorTlOwnU
import Derived.Test.YtjhcfmcdllfmpaaDoorTlTrimr3D
import Derived.Test.YtjhcfmcdllfmpaaDoorTlBelow
import Derived.Test.YtjhcfmcdllfmpaaDoorTlInsr3D
import Derived.Test.YtjhcfmcdllfmpaaDoorTlInsert
set_option linter.unusedSimpArgs false
set_option linter.unusedVariables false
set_option linter.unusedVariables false
set_option linter.unusedSimpArgs false
set_option maxRecDepth 8000
set_option maxHeartbeats 0
namespace Go.TL.YtjhcfmcdllfmpaaDoor
open Go Go.Proofs Go.TL
theorem w_spec_NewState {r : StateT} (h : spec_NewState = some r) : Fn Tryd.prog 117 [] [] 0 (.ag [(.lf false (.sc (.int .i64 r.Status))), (.lf false (.sc (.int .i64 r.Next))), (.lf false (.sc (.bool r.Cancel))), (.lf false (.sc (.int .i64 r.Done))), .nl, .nl]) [] 1 := by
  unfold spec_NewState at h
  refine fn_code tab_ok mixed [] Tryd.func117 rfl rfl (by simp [Tryd.f117]) (by kernel_rfl) ?_
  simp only [Tryd.f117]
  refine sA ?_
  have he := Option.some.inj h
  subst he
  exact endsA ⟨[(0, (.pb 0 0))], [(0, some (true, .box [(.lf false (.sc (.int .i64 0))), (.lf false (.sc (.int .i64 1))), (.lf false (.sc (.bool false))), (.lf false (.sc (.int .i64 0))), .nl, .nl]))], 1, 2⟩ [some 0]
theorem w_spec_l1Cur_next_o {a0 : l1CurT} {r : (Int × l1CurT)} (h : spec_l1Cur_next_o a0 = some r) : Fn Tryd.prog 119 [(.pb 0 0)] [(0, some (false, .box [(.lf true (.sl (a0.code.map eU8))), (.lf false (.sc (.int .i64 a0.at_))), (.lf false (.sc (.int .u64 a0.seed)))]))] 1 (.lf false (.sc (.int .i64 r.1))) [(0, some (false, .box [(.lf true (.sl (r.2.code.map eU8))), (.lf false (.sc (.int .i64 r.2.at_))), (.lf false (.sc (.int .u64 r.2.seed)))]))] 1 := by
  unfold spec_l1Cur_next_o at h
  refine fn_code tab_ok mixed [(1000, [(0, 0)]), (1001, [(0, 0), (3, 0)]), (1002, [(0, 0), (3, 0), (13, 0)]), (1003, [(0, 0), (3, 0)]), (1004, [(0, 0), (3, 0)]), (1005, [(0, 0), (3, 0)]), (1006, [(0, 0), (3, 0), (53, 0)]), (1007, [(2, 0)]), (1008, [(2, 0)]), (2013, [])] Tryd.func119 rfl rfl (by simp [Tryd.f119]) (by kernel_rfl) ?_
  simp only [Tryd.f119]
  refine sA ?_
  obtain ⟨p4, hq1, h⟩ := bind_ok h
  refine Sq_cut (fun s2 => s2 = ⟨[(0, (.pb 0 0)), (3, (.lf false (.sc (.int .i64 p4.t3))))], [(0, some (false, .box [(.lf true (.sl (a0.code.map eU8))), (.lf false (.sc (.int .i64 a0.at_))), (.lf false (.sc (.int .u64 a0.seed)))]))], 1, 62⟩) ?_ ?_
  · try refine sA ?_
    refine Bs_if hq1 (fun hq1 hc2 => ?_) (fun hq1 hc2 => ?_)
    · try refine sA ?_
      obtain ⟨hp3, hq1⟩ := guard_some hq1
      have hn3 : a0.at_.toNat < a0.code.length := by first | omega | (simp only [List.length_set, List.length_append, List.length_replicate, List.length_map]; omega)
      try refine sA ?_
      try refine andA ?_
      cases hq1
      exact X_cut rfl (weakA [some 0])
    · try refine sA ?_
      cases hq1
      exact X_cut rfl (weakA [some 0])
  · intro s2 hJ; subst hJ
    try dsimp only at h
    try refine sA ?_
    refine Bs_if h (fun h hc4 => ?_) (fun h hc4 => ?_)
    · try refine sA ?_
      have he := Option.some.inj h
      subst he
      exact endsA ⟨[(2, (.lf false (.sc (.int .i64 p4.t3))))], [(0, some (false, .box [(.lf true (.sl (a0.code.map eU8))), (.lf false (.sc (.int .i64 (wI (a0.at_ + 1))))), (.lf false (.sc (.int .u64 (wU ((wU ((wU (a0.seed * 6364136223846793005)) + (wU p4.t3))) + 1442695040888963407)))))]))], 1, 62⟩ [some 0]
    · try refine sA ?_
      have he := Option.some.inj h
      subst he
      exact endsA ⟨[(2, (.lf false (.sc (.int .i64 (wI (wU (bvAnd 64 (shR 64 (wU ((wU ((wU (a0.seed * 6364136223846793005)) + (wU p4.t3))) + 1442695040888963407)) 40) 255)))))))], [(0, some (false, .box [(.lf true (.sl (a0.code.map eU8))), (.lf false (.sc (.int .i64 (wI (a0.at_ + 1))))), (.lf false (.sc (.int .u64 (wU ((wU ((wU (a0.seed * 6364136223846793005)) + (wU p4.t3))) + 1442695040888963407)))))]))], 1, 62⟩ [some 0]
theorem w_spec_l1Cur_pick_o {a0 : l1CurT} {a1 : Int} {r : (Int × l1CurT)} (h : spec_l1Cur_pick_o a0 a1 = some r) : Fn Tryd.prog 72 [(.pb 0 0), (.lf false (.sc (.int .i64 a1)))] [(0, some (false, .box [(.lf true (.sl (a0.code.map eU8))), (.lf false (.sc (.int .i64 a0.at_))), (.lf false (.sc (.int .u64 a0.seed)))]))] 1 (.lf false (.sc (.int .i64 r.1))) [(0, some (false, .box [(.lf true (.sl (r.2.code.map eU8))), (.lf false (.sc (.int .i64 r.2.at_))), (.lf false (.sc (.int .u64 r.2.seed)))]))] 1 := by
  unfold spec_l1Cur_pick_o at h
  refine fn_code tab_ok mixed [(1000, [(0, 0), (1, 0)]), (1001, [(0, 0), (1, 0), (7, 0)]), (1002, [(4, 0)]), (1003, [(0, 0), (1, 0), (5, 0)]), (1004, [(0, 0), (1, 0), (5, 0), (11, 0)]), (1005, [(1, 0), (5, 0)]), (1006, [(4, 0)])] Tryd.func72 rfl rfl (by simp [Tryd.f72]) (by kernel_rfl) ?_
  simp only [Tryd.f72]
  refine sA ?_
  refine Bs_if h (fun h hc1 => ?_) (fun h hc1 => ?_)
  · try refine sA ?_
    have he := Option.some.inj h
    subst he
    exact endsA ⟨[(4, (.lf false (.sc (.int .i64 0))))], [(0, some (false, .box [(.lf true (.sl (a0.code.map eU8))), (.lf false (.sc (.int .i64 a0.at_))), (.lf false (.sc (.int .u64 a0.seed)))]))], 1, 20⟩ [some 0]
  · try refine sA ?_
    obtain ⟨c5, hr2, h⟩ := bind_ok h
    refine Cl_hA [0] (w_spec_l1Cur_next_o hr2) ?_
    try refine sA ?_
    refine Bs_if h (fun h hc3 => ?_) (fun h hc3 => ?_)
    · try refine sA ?_
      obtain ⟨c6, hr4, h⟩ := bind_ok h
      refine Cl_hA [0] (w_spec_l1Cur_next_o hr4) ?_
      try refine sA ?_
      obtain ⟨hp5, h⟩ := guard_some h
      try refine sA ?_
      try refine andA ?_
      have he := Option.some.inj h
      subst he
      exact endsA ⟨[(4, (.lf false (.sc (.int .i64 ((wI ((wI (c5.1 * 256)) + c6.1)).tmod a1)))))], [(0, some (false, .box [(.lf true (.sl (c6.2.code.map eU8))), (.lf false (.sc (.int .i64 c6.2.at_))), (.lf false (.sc (.int .u64 c6.2.seed)))]))], 1, 20⟩ [some 0]
    · try refine sA ?_
      obtain ⟨hp6, h⟩ := guard_some h
      try refine sA ?_
      try refine andA ?_
      have he := Option.some.inj h
      subst he
      exact endsA ⟨[(4, (.lf false (.sc (.int .i64 (c5.1.tmod a1)))))], [(0, some (false, .box [(.lf true (.sl (c5.2.code.map eU8))), (.lf false (.sc (.int .i64 c5.2.at_))), (.lf false (.sc (.int .u64 c5.2.seed)))]))], 1, 20⟩ [some 0]
theorem w_spec_l1Cur_among_ow {a0 : l1CurT} {a1 : (List Int)} {m1 : Nat} {x1 : Bool} {r : (Int × l1CurT)} (h : spec_l1Cur_among_ow a0 a1 = some r) : Fn Tryd.prog 118 [(.pb 0 0), (.os 1 1 0 a1.length m1 x1)] [(0, some (false, .box [(.lf true (.sl (a0.code.map eU8))), (.lf false (.sc (.int .i64 a0.at_))), (.lf false (.sc (.int .u64 a0.seed)))])), (1, some (false, .arr true 1 (a1.map eI)))] 2 (.lf false (.sc (.int .i64 r.1))) [(0, some (false, .box [(.lf true (.sl (r.2.code.map eU8))), (.lf false (.sc (.int .i64 r.2.at_))), (.lf false (.sc (.int .u64 r.2.seed)))])), (1, some (false, .arr false 1 (a1.map eI)))] 2 := by
  unfold spec_l1Cur_among_ow at h
  refine fn_code tab_ok mixed [] Tryd.func118 rfl rfl (by simp [Tryd.f118]) (by kernel_rfl) ?_
  simp only [Tryd.f118]
  refine sA ?_
  obtain ⟨c12, hr1, h⟩ := bind_ok h
  refine Cl_hA [0] (w_spec_l1Cur_pick_o hr1) ?_
  try refine sA ?_
  obtain ⟨hp2, h⟩ := guard_some h
  have hn2 : c12.1.toNat < a1.length := by first | omega | (simp only [List.length_set, List.length_append, List.length_replicate, List.length_map]; omega)
  try refine sA ?_
  try refine andA ?_
  try refine andB ?_
  try refine sA ?_
  have he := Option.some.inj h
  subst he
  exact endsA ⟨[(4, (.lf false (.sc (.int .i64 (nth a1 c12.1.toNat)))))], [(0, some (false, .box [(.lf true (.sl (c12.2.code.map eU8))), (.lf false (.sc (.int .i64 c12.2.at_))), (.lf false (.sc (.int .u64 c12.2.seed)))])), (1, some (false, .arr false 1 (a1.map eI)))], 2, 12⟩ [some 0, some 1]
theorem w_spec_l1Cur_of_ow {a0 : l1CurT} {a1 : (List ByteArray)} {m1 : Nat} {x1 : Bool} {r : (ByteArray × l1CurT)} (h : spec_l1Cur_of_ow a0 a1 = some r) : Fn Tryd.prog 107 [(.pb 0 0), (.os 1 1 0 a1.length m1 x1)] [(0, some (false, .box [(.lf true (.sl (a0.code.map eU8))), (.lf false (.sc (.int .i64 a0.at_))), (.lf false (.sc (.int .u64 a0.seed)))])), (1, some (false, .arr true 1 (a1.map eS)))] 2 (.lf false (.sc (.string r.1))) [(0, some (false, .box [(.lf true (.sl (r.2.code.map eU8))), (.lf false (.sc (.int .i64 r.2.at_))), (.lf false (.sc (.int .u64 r.2.seed)))])), (1, some (false, .arr false 1 (a1.map eS)))] 2 := by
  unfold spec_l1Cur_of_ow at h
  refine fn_code tab_ok mixed [] Tryd.func107 rfl rfl (by simp [Tryd.f107]) (by kernel_rfl) ?_
  simp only [Tryd.f107]
  refine sA ?_
  obtain ⟨c14, hr1, h⟩ := bind_ok h
  refine Cl_hA [0] (w_spec_l1Cur_pick_o hr1) ?_
  try refine sA ?_
  obtain ⟨hp2, h⟩ := guard_some h
  have hn2 : c14.1.toNat < a1.length := by first | omega | (simp only [List.length_set, List.length_append, List.length_replicate, List.length_map]; omega)
  try refine sA ?_
  try refine andA ?_
  try refine andB ?_
  try refine sA ?_
  have he := Option.some.inj h
  subst he
  exact endsA ⟨[(4, (.lf false (.sc (.string (nth a1 c14.1.toNat)))))], [(0, some (false, .box [(.lf true (.sl (c14.2.code.map eU8))), (.lf false (.sc (.int .i64 c14.2.at_))), (.lf false (.sc (.int .u64 c14.2.seed)))])), (1, some (false, .arr false 1 (a1.map eS)))], 2, 12⟩ [some 0, some 1]
theorem w_spec_l1Cur_eventName_o {a0 : l1CurT} {r : (ByteArray × l1CurT)} (h : spec_l1Cur_eventName_o a0 = some r) : Fn Tryd.prog 73 [(.pb 0 0)] [(0, some (false, .box [(.lf true (.sl (a0.code.map eU8))), (.lf false (.sc (.int .i64 a0.at_))), (.lf false (.sc (.int .u64 a0.seed)))]))] 1 (.lf false (.sc (.string r.1))) [(0, some (false, .box [(.lf true (.sl (r.2.code.map eU8))), (.lf false (.sc (.int .i64 r.2.at_))), (.lf false (.sc (.int .u64 r.2.seed)))]))] 1 := by
  unfold spec_l1Cur_eventName_o at h
  refine fn_code tab_ok mixed [] Tryd.func73 rfl rfl (by simp [Tryd.f73]) (by kernel_rfl) ?_
  simp only [Tryd.f73]
  refine sA ?_
  obtain ⟨c15, hr1, h⟩ := bind_ok h
  refine Cl_hA [0, 1] (w_spec_l1Cur_of_ow hr1) ?_
  try refine sA ?_
  have he := Option.some.inj h
  subst he
  exact endsA ⟨[(2, (.lf false (.sc (.string c15.1))))], [(0, some (false, .box [(.lf true (.sl (c15.2.code.map eU8))), (.lf false (.sc (.int .i64 c15.2.at_))), (.lf false (.sc (.int .u64 c15.2.seed)))]))], 1, 6⟩ [some 0]
theorem w_spec_l1In {a0 : Int} {a1 : Int} {a2 : Int} {r : Bool} (h : spec_l1In a0 a1 a2 = some r) : Fn Tryd.prog 84 [(.lf false (.sc (.int .i64 a0))), (.lf false (.sc (.int .i64 a1))), (.lf false (.sc (.int .i64 a2)))] [] 0 (.lf false (.sc (.bool r))) [] 0 := by
  unfold spec_l1In at h
  refine fn_code tab_ok mixed [] Tryd.func84 rfl rfl (by simp [Tryd.f84]) (by kernel_rfl) ?_
  simp only [Tryd.f84]
  refine sA ?_
  refine Sp_if h (fun h hc1 => ?_) (fun h hc1 => ?_)
  · try refine sA ?_
    have he := Option.some.inj h
    subst he
    exact endsA ⟨[(6, (.lf false (.sc (.bool (decide (a0 ≤ a2))))))], [], 0, 15⟩ []
  · try refine sA ?_
    have he := Option.some.inj h
    subst he
    exact endsA ⟨[(6, (.lf false (.sc (.bool false))))], [], 0, 15⟩ []
theorem w_spec_l1Name {a0 : ByteArray} {r : Bool} (h : spec_l1Name a0 = some r) : Fn Tryd.prog 86 [(.lf false (.sc (.string a0)))] [] 0 (.lf false (.sc (.bool r))) [] 0 := by
  unfold spec_l1Name at h
  refine fn_code tab_ok mixed [(1000, [(0, 0)]), (1001, [(0, 0), (3, 0)]), (1002, [(0, 0), (3, 0), (7, 0)]), (1003, [(0, 0), (3, 0)]), (1004, [(0, 0), (3, 0), (32, 0)]), (1005, [(2, 0)]), (1006, [(2, 0)]), (4004, [])] Tryd.func86 rfl rfl (by simp [Tryd.f86]) (by kernel_rfl) ?_
  simp only [Tryd.f86]
  refine sA ?_
  obtain ⟨y24, hl1, h⟩ := bind_ok h
  refine W_loopP (fun g21 : spec_l1Name_G1 => ⟨[(0, (.lf false (.sc (.string a0)))), (3, (.lf false (.sc (.int .i64 g21.t3))))], [], 0, 36⟩) (spec_l1Name_L1 a0) _ _ hl1 (weakA []) ?_
  · intro n1 g21 z1 hs1 hk1
    unfold spec_l1Name_L1 at hs1
    try dsimp only at hs1
    refine sA ?_
    refine Bs_if hs1 (fun hs1 hc2 => ?_) (fun hs1 hc2 => ?_)
    · try refine sA ?_
      obtain ⟨p23, hq3, hs1⟩ := bind_ok hs1
      refine Sq_cut (fun s2 => s2 = ⟨[(0, (.lf false (.sc (.string a0)))), (3, (.lf false (.sc (.int .i64 g21.t3)))), (32, (.lf false (.sc (.bool p23.t32))))], [], 0, 36⟩) ?_ ?_
      · try refine sA ?_
        obtain ⟨hp4, hq3⟩ := guard_some hq3
        try refine sA ?_
        try refine andA ?_
        refine Sp_if hq3 (fun hq3 hc5 => ?_) (fun hq3 hc5 => ?_)
        · try refine sA ?_
          obtain ⟨hp6, hq3⟩ := guard_some hq3
          try refine sA ?_
          try refine andA ?_
          refine Sp_if hq3 (fun hq3 hc7 => ?_) (fun hq3 hc7 => ?_)
          · try refine sA ?_
            cases hq3
            exact X_cut rfl (weakA [])
          · try refine sA ?_
            obtain ⟨hp8, hq3⟩ := guard_some hq3
            try refine sA ?_
            try refine andA ?_
            refine Sp_if hq3 (fun hq3 hc9 => ?_) (fun hq3 hc9 => ?_)
            · try refine sA ?_
              obtain ⟨hp10, hq3⟩ := guard_some hq3
              try refine sA ?_
              try refine andA ?_
              cases hq3
              exact X_cut rfl (weakA [])
            · try refine sA ?_
              cases hq3
              exact X_cut rfl (weakA [])
        · try refine sA ?_
          obtain ⟨hp11, hq3⟩ := guard_some hq3
          try refine sA ?_
          try refine andA ?_
          refine Sp_if hq3 (fun hq3 hc12 => ?_) (fun hq3 hc12 => ?_)
          · try refine sA ?_
            obtain ⟨hp13, hq3⟩ := guard_some hq3
            try refine sA ?_
            try refine andA ?_
            cases hq3
            exact X_cut rfl (weakA [])
          · try refine sA ?_
            cases hq3
            exact X_cut rfl (weakA [])
      · intro s2 hJ; subst hJ
        try dsimp only at hs1
        try refine sA ?_
        refine Bs_if hs1 (fun hs1 hc14 => ?_) (fun hs1 hc14 => ?_)
        · try refine sA ?_
          cases hs1
          cases hk1
          try dsimp only at h
          try refine sA ?_
          have he := Option.some.inj h
          subst he
          exact endsA ⟨[(2, (.lf false (.sc (.bool false))))], [], 0, 36⟩ []
        · try refine sA ?_
          cases hs1
          exact X_backP hk1 (weakA [])
    · try refine sA ?_
      cases hs1
      cases hk1
      try dsimp only at h
      try refine sA ?_
      have he := Option.some.inj h
      subst he
      exact endsA ⟨[(2, (.lf false (.sc (.bool (decide ((a0.size : Int) ≤ 12))))))], [], 0, 36⟩ []
theorem w_spec_GoodEvent {a0 : EventT} {r : Bool} (h : spec_GoodEvent a0 = some r) : Fn Tryd.prog 33 [(.ag [(.lf false (.sc (.int .i64 a0.Id))), (.lf false (.sc (.int .i64 a0.Version))), (.lf false (.sc (.int .i64 a0.Kind))), (.lf false (.sc (.string a0.Name)))])] [] 0 (.lf false (.sc (.bool r))) [] 0 := by
  unfold spec_GoodEvent at h
  refine fn_code tab_ok mixed [] Tryd.func33 rfl rfl (by simp [Tryd.f33]) (by kernel_rfl) ?_
  simp only [Tryd.f33]
  refine sA ?_
  obtain ⟨c18, hr1, h⟩ := bind_ok h
  refine Cl_sA (w_spec_l1In hr1) ?_
  try refine sA ?_
  refine Sp_if h (fun h hc2 => ?_) (fun h hc2 => ?_)
  · try refine sA ?_
    obtain ⟨c19, hr3, h⟩ := bind_ok h
    refine Cl_sA (w_spec_l1In hr3) ?_
    try refine sA ?_
    refine Sp_if h (fun h hc4 => ?_) (fun h hc4 => ?_)
    · try refine sA ?_
      obtain ⟨c20, hr5, h⟩ := bind_ok h
      refine Cl_sA (w_spec_l1In hr5) ?_
      try refine sA ?_
      refine Sp_if h (fun h hc6 => ?_) (fun h hc6 => ?_)
      · try refine sA ?_
        obtain ⟨c27, hr7, h⟩ := bind_ok h
        refine Cl_sA (w_spec_l1Name hr7) ?_
        try refine sA ?_
        have he := Option.some.inj h
        subst he
        exact endsA ⟨[(2, (.lf false (.sc (.bool c27))))], [], 0, 21⟩ []
      · try refine sA ?_
        have he := Option.some.inj h
        subst he
        exact endsA ⟨[(2, (.lf false (.sc (.bool false))))], [], 0, 21⟩ []
    · try refine sA ?_
      have he := Option.some.inj h
      subst he
      exact endsA ⟨[(2, (.lf false (.sc (.bool false))))], [], 0, 21⟩ []
  · try refine sA ?_
    have he := Option.some.inj h
    subst he
    exact endsA ⟨[(2, (.lf false (.sc (.bool false))))], [], 0, 21⟩ []
theorem w_spec_l12Own {a0 : StateT} {r : StateT} (h : spec_l12Own a0 = some r) : Fn Tryd.prog 123 [(.ag [(.lf false (.sc (.int .i64 a0.Status))), (.lf false (.sc (.int .i64 a0.Next))), (.lf false (.sc (.bool a0.Cancel))), (.lf false (.sc (.int .i64 a0.Done))), (.lf true (.sl (a0.Signals.map eS))), (.lf true (.sl (a0.Timers.map eS)))])] [] 0 (.ag [(.lf false (.sc (.int .i64 r.Status))), (.lf false (.sc (.int .i64 r.Next))), (.lf false (.sc (.bool r.Cancel))), (.lf false (.sc (.int .i64 r.Done))), (.os 0 1 0 r.Signals.length r.Signals.length false), (.os 1 1 0 r.Timers.length r.Timers.length false)]) [(0, some (true, .arr false 1 (r.Signals.map eS))), (1, some (true, .arr false 1 (r.Timers.map eS)))] 3 := by
  unfold spec_l12Own at h
  refine fn_code tab_ok mixed [(1000, [(1, 0), (2, 0)]), (1001, [(1, 0), (2, 0)]), (1002, [(1, 0), (2, 0)]), (1003, [(2, 0)])] Tryd.func123 rfl rfl (by simp [Tryd.f123]) (by kernel_rfl) ?_
  simp only [Tryd.f123]
  refine sA ?_
  obtain ⟨hp1, h⟩ := guard_some h
  try refine sA ?_
  try refine andA ?_
  obtain ⟨hp2, h⟩ := guard_some h
  try refine sA ?_
  try refine andA ?_
  have he := Option.some.inj h
  subst he
  exact endsA ⟨[(2, (.pb 2 0))], [(0, some (true, .arr false 1 ((([]) ++ a0.Signals).map eS))), (1, some (true, .arr false 1 ((([]) ++ a0.Timers).map eS))), (2, some (true, .box [(.lf false (.sc (.int .i64 a0.Status))), (.lf false (.sc (.int .i64 a0.Next))), (.lf false (.sc (.bool a0.Cancel))), (.lf false (.sc (.int .i64 a0.Done))), (.os 0 1 0 ((([]) ++ a0.Signals).length) ((([]) ++ a0.Signals).length) false), (.os 1 1 0 ((([]) ++ a0.Timers).length) ((([]) ++ a0.Timers).length) false)]))], 3, 14⟩ [some 3, some 5, some 1]
theorem w_spec_l12At {a0 : (List ByteArray)} {a1 : ByteArray} {r : Int} (h : spec_l12At a0 a1 = some r) : Fn Tryd.prog 124 [(.lf true (.sl (a0.map eS))), (.lf false (.sc (.string a1)))] [] 0 (.lf false (.sc (.int .i64 r))) [] 0 := by
  unfold spec_l12At at h
  refine fn_code tab_ok mixed [(1000, [(0, 0), (1, 0)]), (1001, [(1, 0), (7, 0), (8, 0), (9, 0)]), (1002, [(1, 0), (7, 0), (8, 0), (9, 0), (10, 0)]), (1003, [(1, 0), (5, 0), (6, 0), (7, 0), (8, 0), (9, 0)]), (1004, [(1, 0), (5, 0), (7, 0), (8, 0), (9, 0), (16, 0)]), (1005, [(4, 0)]), (1006, [(1, 0), (7, 0), (8, 0), (9, 0)]), (1007, [(4, 0)])] Tryd.func124 rfl rfl (by simp [Tryd.f124]) (by kernel_rfl) ?_
  simp only [Tryd.f124]
  refine sA ?_
  obtain ⟨y32, hl1, h⟩ := bind_ok h
  refine W_loopP (fun g31 : spec_l12At_G1 => ⟨[(1, (.lf false (.sc (.string a1)))), (7, (.lf true (.sl (a0.map eS)))), (8, (.lf false (.sc (.int .i64 ((a0.length : Nat) : Int))))), (9, (.lf false (.sc (.int .i64 g31.t9))))], [], 0, 19⟩) (spec_l12At_L1 a0 a1) _ _ hl1 (weakA []) ?_
  · intro n1 g31 z1 hs1 hk1
    unfold spec_l12At_L1 at hs1
    try dsimp only at hs1
    refine sA ?_
    refine Bs_if hs1 (fun hs1 hc2 => ?_) (fun hs1 hc2 => ?_)
    · try refine sA ?_
      obtain ⟨hp3, hs1⟩ := guard_some hs1
      have hn3 : g31.t9.toNat < a0.length := by first | omega | (simp only [List.length_set, List.length_append, List.length_replicate, List.length_map]; omega)
      try refine sA ?_
      try refine andA ?_
      refine Bs_if hs1 (fun hs1 hc4 => ?_) (fun hs1 hc4 => ?_)
      · try refine sA ?_
        cases hs1
        cases hk1
        try dsimp only at h
        try refine sA ?_
        have he := Option.some.inj h
        subst he
        exact endsA ⟨[(4, (.lf false (.sc (.int .i64 g31.t9))))], [], 0, 19⟩ []
      · try refine sA ?_
        cases hs1
        exact X_backP hk1 (weakA [])
    · try refine sA ?_
      cases hs1
      cases hk1
      try dsimp only at h
      try refine sA ?_
      have he := Option.some.inj h
      subst he
      exact endsA ⟨[(4, (.lf false (.sc (.int .i64 (-1)))))], [], 0, 19⟩ []
theorem w_spec_l12Timer {a0 : (List ByteArray)} {a1 : ByteArray} {r : (List ByteArray)} (h : spec_l12Timer a0 a1 = some r) : Fn Tryd.prog 125 [(.lf true (.sl (a0.map eS))), (.lf false (.sc (.string a1)))] [] 0 (.os 0 1 0 r.length r.length false) [(0, some (true, .arr false 1 (r.map eS)))] 1 := by
  unfold spec_l12Timer at h
  refine fn_code tab_ok mixed [(1000, [(0, 0), (1, 0)]), (1001, [(0, 0), (1, 0), (5, 0)]), (1002, [(0, 0), (1, 0), (5, 0), (6, 0)]), (1003, [(1, 0), (5, 0), (6, 0), (13, 0), (14, 0), (15, 0)]), (1004, [(1, 0), (5, 0), (6, 0), (13, 0), (14, 0), (15, 0), (16, 0)]), (1005, [(1, 0), (5, 0), (6, 0), (8, 0), (13, 0), (14, 0), (15, 0)]), (1006, [(1, 0), (5, 0), (6, 0), (8, 0), (13, 0), (14, 0), (15, 0), (21, 0)]), (1007, [(1, 0), (5, 0), (6, 0), (8, 0), (13, 0), (14, 0), (15, 0), (28, 0)]), (1008, [(1, 0), (5, 0), (8, 0), (13, 0), (14, 0), (15, 0)]), (1009, [(1, 0), (5, 0), (6, 0), (8, 0), (13, 0), (14, 0), (15, 0)]), (1010, [(1, 0), (5, 0), (6, 0), (13, 0), (14, 0), (15, 0)]), (1011, [(1, 0), (5, 0), (6, 0), (13, 0), (14, 0), (15, 0)]), (1012, [(1, 0), (5, 0), (39, 0)]), (1013, [(5, 0)]), (1014, [(4, 0)]), (4007, [])] Tryd.func125 rfl rfl (by simp [Tryd.f125]) (by kernel_rfl) ?_
  simp only [Tryd.f125]
  refine sA ?_
  obtain ⟨c37, hr1, h⟩ := bind_ok h
  refine Cl_sA (w_spec_l12At hr1) ?_
  try refine sA ?_
  obtain ⟨y41, hl2, h⟩ := bind_ok h
  refine W_loopP (fun g38 : spec_l12Timer_G1 => ⟨[(1, (.lf false (.sc (.string a1)))), (5, (.os 0 1 0 g38.c0.length g38.c0.length false)), (6, (.lf false (.sc (.bool g38.t6)))), (13, (.lf true (.sl (a0.map eS)))), (14, (.lf false (.sc (.int .i64 ((a0.length : Nat) : Int))))), (15, (.lf false (.sc (.int .i64 g38.t15))))], [(0, some (true, .arr false 1 (g38.c0.map eS)))], 1, 45⟩) (spec_l12Timer_L1 a0 a1) _ _ hl2 (weakA [none]) ?_
  · intro n1 g38 z1 hs1 hk1
    unfold spec_l12Timer_L1 at hs1
    try dsimp only at hs1
    refine sA ?_
    refine Bs_if hs1 (fun hs1 hc3 => ?_) (fun hs1 hc3 => ?_)
    · try refine sA ?_
      obtain ⟨hp4, hs1⟩ := guard_some hs1
      have hn4 : g38.t15.toNat < a0.length := by first | omega | (simp only [List.length_set, List.length_append, List.length_replicate, List.length_map]; omega)
      try refine sA ?_
      try refine andA ?_
      refine Bs_if hs1 (fun hs1 hc5 => ?_) (fun hs1 hc5 => ?_)
      · try refine sA ?_
        cases hs1
        exact X_backP hk1 (weakA [some 0])
      · try refine sA ?_
        obtain ⟨p40, hq6, hs1⟩ := bind_ok hs1
        refine Sq_cut (fun s2 => s2 = ⟨[(1, (.lf false (.sc (.string a1)))), (5, (.os 0 1 0 g38.c0.length g38.c0.length false)), (6, (.lf false (.sc (.bool g38.t6)))), (8, (.lf false (.sc (.string (nth a0 g38.t15.toNat))))), (13, (.lf true (.sl (a0.map eS)))), (14, (.lf false (.sc (.int .i64 ((a0.length : Nat) : Int))))), (15, (.lf false (.sc (.int .i64 g38.t15)))), (28, (.lf false (.sc (.bool p40.t28))))], [(0, some (true, .arr false 1 (g38.c0.map eS)))], 1, 45⟩) ?_ ?_
        · try refine sA ?_
          refine Sp_if hq6 (fun hq6 hc7 => ?_) (fun hq6 hc7 => ?_)
          · try refine sA ?_
            cases hq6
            exact X_cut rfl (weakA [some 0])
          · try refine sA ?_
            cases hq6
            exact X_cut rfl (weakA [some 0])
        · intro s2 hJ; subst hJ
          try dsimp only at hs1
          try refine sA ?_
          refine Bs_if hs1 (fun hs1 hc8 => ?_) (fun hs1 hc8 => ?_)
          · try refine sA ?_
            obtain ⟨hp9, hs1⟩ := guard_some hs1
            try refine sA ?_
            try refine andA ?_
            obtain ⟨hp10, hs1⟩ := guard_some hs1
            try refine sA ?_
            try refine andA ?_
            cases hs1
            exact X_backP hk1 (weakA [some 4])
          · try refine sA ?_
            obtain ⟨hp11, hs1⟩ := guard_some hs1
            try refine sA ?_
            try refine andA ?_
            cases hs1
            exact X_backP hk1 (weakA [some 2])
    · try refine sA ?_
      cases hs1
      cases hk1
      try dsimp only at h
      try refine sA ?_
      refine Bs_if h (fun h hc12 => ?_) (fun h hc12 => ?_)
      · try refine sA ?_
        obtain ⟨hp13, h⟩ := guard_some h
        try refine sA ?_
        try refine andA ?_
        have he := Option.some.inj h
        subst he
        exact endsA ⟨[(4, (.os 0 1 0 ((g38.c0 ++ ([a1])).length) ((g38.c0 ++ ([a1])).length) false))], [(0, some (true, .arr false 1 ((g38.c0 ++ ([a1])).map eS)))], 1, 45⟩ [some 2]
      · try refine sA ?_
        have he := Option.some.inj h
        subst he
        exact endsA ⟨[(4, (.os 0 1 0 g38.c0.length g38.c0.length false))], [(0, some (true, .arr false 1 (g38.c0.map eS)))], 1, 45⟩ [some 0]
theorem w_spec_l12Names {a0 : (List ByteArray)} {a1 : Bool} {r : Bool} (h : spec_l12Names a0 a1 = some r) : Fn Tryd.prog 85 [(.lf true (.sl (a0.map eS))), (.lf false (.sc (.bool a1)))] [] 0 (.lf false (.sc (.bool r))) [] 0 := by
  unfold spec_l12Names at h
  refine fn_code tab_ok mixed [(1000, [(0, 0), (1, 0)]), (1001, [(0, 0), (1, 0), (9, 0), (10, 0), (11, 0)]), (1002, [(0, 0), (1, 0), (9, 0), (10, 0), (11, 0), (12, 0)]), (1003, [(0, 0), (1, 0), (5, 0), (6, 0), (9, 0), (10, 0), (11, 0)]), (1004, [(0, 0), (1, 0), (5, 0), (6, 0), (9, 0), (10, 0), (11, 0), (18, 0)]), (1005, [(4, 0)]), (1006, [(0, 0), (1, 0), (5, 0), (6, 0), (9, 0), (10, 0), (11, 0), (21, 0), (22, 0), (23, 0)]), (1007, [(0, 0), (1, 0), (5, 0), (6, 0), (9, 0), (10, 0), (11, 0), (21, 0), (22, 0), (23, 0), (24, 0)]), (1008, [(0, 0), (1, 0), (5, 0), (6, 0), (7, 0), (8, 0), (9, 0), (10, 0), (11, 0), (21, 0), (22, 0), (23, 0)]), (1009, [(0, 0), (1, 0), (5, 0), (6, 0), (9, 0), (10, 0), (11, 0), (21, 0), (22, 0), (23, 0), (44, 0)]), (1010, [(4, 0)]), (1011, [(0, 0), (1, 0), (5, 0), (6, 0), (9, 0), (10, 0), (11, 0), (21, 0), (22, 0), (23, 0)]), (1012, [(0, 0), (1, 0), (9, 0), (10, 0), (11, 0)]), (1013, [(4, 0)]), (4009, [])] Tryd.func85 rfl rfl (by simp [Tryd.f85]) (by kernel_rfl) ?_
  simp only [Tryd.f85]
  refine sA ?_
  obtain ⟨y61, hl1, h⟩ := bind_ok h
  refine W_loopP (fun g46 : spec_l12Names_G1 => ⟨[(0, (.lf true (.sl (a0.map eS)))), (1, (.lf false (.sc (.bool a1)))), (9, (.lf true (.sl (a0.map eS)))), (10, (.lf false (.sc (.int .i64 ((a0.length : Nat) : Int))))), (11, (.lf false (.sc (.int .i64 g46.t11))))], [], 0, 50⟩) (spec_l12Names_L1 a0 a1) _ _ hl1 (weakA []) ?_
  · intro n1 g46 z1 hs1 hk1
    unfold spec_l12Names_L1 at hs1
    try dsimp only at hs1
    refine sA ?_
    refine Bs_if hs1 (fun hs1 hc2 => ?_) (fun hs1 hc2 => ?_)
    · try refine sA ?_
      obtain ⟨hp3, hs1⟩ := guard_some hs1
      have hn3 : g46.t11.toNat < a0.length := by first | omega | (simp only [List.length_set, List.length_append, List.length_replicate, List.length_map]; omega)
      try refine sA ?_
      try refine andA ?_
      obtain ⟨c54, hr4, hs1⟩ := bind_ok hs1
      refine Cl_sA (w_spec_l1Name hr4) ?_
      try refine sA ?_
      refine Bs_if hs1 (fun hs1 hc5 => ?_) (fun hs1 hc5 => ?_)
      · try refine sA ?_
        cases hs1
        cases hk1
        try dsimp only at h
        try refine sA ?_
        have he := Option.some.inj h
        subst he
        exact endsA ⟨[(4, (.lf false (.sc (.bool false))))], [], 0, 50⟩ []
      · try refine sA ?_
        obtain ⟨hp6, hs1⟩ := guard_some hs1
        try refine sA ?_
        try refine andA ?_
        obtain ⟨y58, hl7, hs1⟩ := bind_ok hs1
        refine W_loopP (fun g55 : spec_l12Names_G2 => ⟨[(0, (.lf true (.sl (a0.map eS)))), (1, (.lf false (.sc (.bool a1)))), (5, (.lf false (.sc (.int .i64 g46.t11)))), (6, (.lf false (.sc (.string (nth a0 g46.t11.toNat))))), (9, (.lf true (.sl (a0.map eS)))), (10, (.lf false (.sc (.int .i64 ((a0.length : Nat) : Int))))), (11, (.lf false (.sc (.int .i64 g46.t11)))), (21, (.lf true (.sl ((a0.take g46.t11.toNat).map eS)))), (22, (.lf false (.sc (.int .i64 (((a0.take g46.t11.toNat).length : Nat) : Int))))), (23, (.lf false (.sc (.int .i64 g55.t23))))], [], 0, 50⟩) (spec_l12Names_L2 a0 g46 a1) _ _ hl7 (weakA []) ?_
        · intro n2 g55 z2 hs2 hk2
          unfold spec_l12Names_L2 at hs2
          try dsimp only at hs2
          refine sA ?_
          refine Bs_if hs2 (fun hs2 hc8 => ?_) (fun hs2 hc8 => ?_)
          · try refine sA ?_
            obtain ⟨hp9, hs2⟩ := guard_some hs2
            have hn9 : g55.t23.toNat < (a0.take g46.t11.toNat).length := by first | omega | (simp only [List.length_set, List.length_append, List.length_replicate, List.length_map]; omega)
            try refine sA ?_
            try refine andA ?_
            obtain ⟨p57, hq10, hs2⟩ := bind_ok hs2
            refine Sq_cut (fun s2 => s2 = ⟨[(0, (.lf true (.sl (a0.map eS)))), (1, (.lf false (.sc (.bool a1)))), (5, (.lf false (.sc (.int .i64 g46.t11)))), (6, (.lf false (.sc (.string (nth a0 g46.t11.toNat))))), (9, (.lf true (.sl (a0.map eS)))), (10, (.lf false (.sc (.int .i64 ((a0.length : Nat) : Int))))), (11, (.lf false (.sc (.int .i64 g46.t11)))), (21, (.lf true (.sl ((a0.take g46.t11.toNat).map eS)))), (22, (.lf false (.sc (.int .i64 (((a0.take g46.t11.toNat).length : Nat) : Int))))), (23, (.lf false (.sc (.int .i64 g55.t23)))), (44, (.lf false (.sc (.bool p57.t44))))], [], 0, 50⟩) ?_ ?_
            · try refine sA ?_
              refine Sp_if hq10 (fun hq10 hc11 => ?_) (fun hq10 hc11 => ?_)
              · try refine sA ?_
                cases hq10
                exact X_cut rfl (weakA [])
              · try refine sA ?_
                refine Sp_if hq10 (fun hq10 hc12 => ?_) (fun hq10 hc12 => ?_)
                · try refine sA ?_
                  refine Sp_if hq10 (fun hq10 hc13 => ?_) (fun hq10 hc13 => ?_)
                  · try refine sA ?_
                    cases hq10
                    exact X_cut rfl (weakA [])
                  · try refine sA ?_
                    cases hq10
                    exact X_cut rfl (weakA [])
                · try refine sA ?_
                  cases hq10
                  exact X_cut rfl (weakA [])
            · intro s2 hJ; subst hJ
              try dsimp only at hs2
              try refine sA ?_
              refine Bs_if hs2 (fun hs2 hc14 => ?_) (fun hs2 hc14 => ?_)
              · try refine sA ?_
                cases hs2
                cases hk2
                try dsimp only at hs1
                try refine sA ?_
                cases hs1
                cases hk1
                try dsimp only at h
                try refine sA ?_
                have he := Option.some.inj h
                subst he
                exact endsA ⟨[(4, (.lf false (.sc (.bool false))))], [], 0, 50⟩ []
              · try refine sA ?_
                cases hs2
                exact X_backP hk2 (weakA [])
          · try refine sA ?_
            cases hs2
            cases hk2
            try dsimp only at hs1
            try refine sA ?_
            cases hs1
            exact X_backP hk1 (weakA [])
    · try refine sA ?_
      cases hs1
      cases hk1
      try dsimp only at h
      try refine sA ?_
      have he := Option.some.inj h
      subst he
      exact endsA ⟨[(4, (.lf false (.sc (.bool (decide (((a0.length : Nat) : Int) ≤ 30))))))], [], 0, 50⟩ []
theorem w_spec_GoodState {a0 : StateT} {r : Bool} (h : spec_GoodState a0 = some r) : Fn Tryd.prog 32 [(.ag [(.lf false (.sc (.int .i64 a0.Status))), (.lf false (.sc (.int .i64 a0.Next))), (.lf false (.sc (.bool a0.Cancel))), (.lf false (.sc (.int .i64 a0.Done))), (.lf true (.sl (a0.Signals.map eS))), (.lf true (.sl (a0.Timers.map eS)))])] [] 0 (.lf false (.sc (.bool r))) [] 0 := by
  unfold spec_GoodState at h
  refine fn_code tab_ok mixed [(1000, [(1, 0)]), (1001, [(1, 0), (30, 0)]), (1002, [(2, 0)]), (1003, [(1, 0), (33, 0)]), (1004, [(2, 0)]), (1005, [(2, 0)]), (4001, [])] Tryd.func32 rfl rfl (by simp [Tryd.f32]) (by kernel_rfl) ?_
  simp only [Tryd.f32]
  refine sA ?_
  obtain ⟨p67, hq1, h⟩ := bind_ok h
  refine Sq_cut (fun s2 => s2 = ⟨[(1, (.pb 0 0)), (30, (.lf false (.sc (.bool p67.t30))))], [(0, some (true, .box [(.lf false (.sc (.int .i64 a0.Status))), (.lf false (.sc (.int .i64 a0.Next))), (.lf false (.sc (.bool a0.Cancel))), (.lf false (.sc (.int .i64 a0.Done))), (.lf true (.sl (a0.Signals.map eS))), (.lf true (.sl (a0.Timers.map eS)))]))], 1, 62⟩) ?_ ?_
  · try refine sA ?_
    obtain ⟨c44, hr2, hq1⟩ := bind_ok hq1
    refine Cl_sA (w_spec_l1In hr2) ?_
    try refine sA ?_
    refine Sp_if hq1 (fun hq1 hc3 => ?_) (fun hq1 hc3 => ?_)
    · try refine sA ?_
      cases hq1
      exact X_cut rfl (weakA [some 0])
    · try refine sA ?_
      obtain ⟨c45, hr4, hq1⟩ := bind_ok hq1
      refine Cl_sA (w_spec_l1In hr4) ?_
      try refine sA ?_
      refine Sp_if hq1 (fun hq1 hc5 => ?_) (fun hq1 hc5 => ?_)
      · try refine sA ?_
        cases hq1
        exact X_cut rfl (weakA [some 0])
      · try refine sA ?_
        obtain ⟨c64, hr6, hq1⟩ := bind_ok hq1
        refine Cl_sA (w_spec_l12Names hr6) ?_
        try refine sA ?_
        refine Sp_if hq1 (fun hq1 hc7 => ?_) (fun hq1 hc7 => ?_)
        · try refine sA ?_
          cases hq1
          exact X_cut rfl (weakA [some 0])
        · try refine sA ?_
          obtain ⟨c65, hr8, hq1⟩ := bind_ok hq1
          refine Cl_sA (w_spec_l12Names hr8) ?_
          try refine sA ?_
          refine Sp_if hq1 (fun hq1 hc9 => ?_) (fun hq1 hc9 => ?_)
          · try refine sA ?_
            cases hq1
            exact X_cut rfl (weakA [some 0])
          · try refine sA ?_
            obtain ⟨c66, hr10, hq1⟩ := bind_ok hq1
            refine Cl_sA (w_spec_l1In hr10) ?_
            try refine sA ?_
            cases hq1
            exact X_cut rfl (weakA [some 0])
  · intro s2 hJ; subst hJ
    try dsimp only at h
    try refine sA ?_
    refine Bs_if h (fun h hc11 => ?_) (fun h hc11 => ?_)
    · try refine sA ?_
      have he := Option.some.inj h
      subst he
      exact endsA ⟨[(2, (.lf false (.sc (.bool false))))], [], 0, 62⟩ []
    · try refine sA ?_
      refine Bs_if h (fun h hc12 => ?_) (fun h hc12 => ?_)
      · try refine sA ?_
        refine Sp_if h (fun h hc13 => ?_) (fun h hc13 => ?_)
        · try refine sA ?_
          refine Sp_if h (fun h hc14 => ?_) (fun h hc14 => ?_)
          · try refine sA ?_
            refine Sp_if h (fun h hc15 => ?_) (fun h hc15 => ?_)
            · try refine sA ?_
              refine Sp_if h (fun h hc16 => ?_) (fun h hc16 => ?_)
              · try refine sA ?_
                have he := Option.some.inj h
                subst he
                exact endsA ⟨[(2, (.lf false (.sc (.bool (((a0.Timers.length : Nat) : Int) == 0)))))], [], 0, 62⟩ []
              · try refine sA ?_
                have he := Option.some.inj h
                subst he
                exact endsA ⟨[(2, (.lf false (.sc (.bool false))))], [], 0, 62⟩ []
            · try refine sA ?_
              have he := Option.some.inj h
              subst he
              exact endsA ⟨[(2, (.lf false (.sc (.bool false))))], [], 0, 62⟩ []
          · try refine sA ?_
            have he := Option.some.inj h
            subst he
            exact endsA ⟨[(2, (.lf false (.sc (.bool false))))], [], 0, 62⟩ []
        · try refine sA ?_
          have he := Option.some.inj h
          subst he
          exact endsA ⟨[(2, (.lf false (.sc (.bool false))))], [], 0, 62⟩ []
      · try refine sA ?_
        have he := Option.some.inj h
        subst he
        exact endsA ⟨[(2, (.lf false (.sc (.bool (decide (a0.Next > 1))))))], [], 0, 62⟩ []
theorem w_spec_l12Apply {a0 : StateT} {a1 : EventT} {r : (StateT × Bool)} (h : spec_l12Apply a0 a1 = some r) : Fn Tryd.prog 79 [(.ag [(.lf false (.sc (.int .i64 a0.Status))), (.lf false (.sc (.int .i64 a0.Next))), (.lf false (.sc (.bool a0.Cancel))), (.lf false (.sc (.int .i64 a0.Done))), (.lf true (.sl (a0.Signals.map eS))), (.lf true (.sl (a0.Timers.map eS)))]), (.ag [(.lf false (.sc (.int .i64 a1.Id))), (.lf false (.sc (.int .i64 a1.Version))), (.lf false (.sc (.int .i64 a1.Kind))), (.lf false (.sc (.string a1.Name)))])] [] 0 (.tu [(.ag [(.lf false (.sc (.int .i64 r.1.Status))), (.lf false (.sc (.int .i64 r.1.Next))), (.lf false (.sc (.bool r.1.Cancel))), (.lf false (.sc (.int .i64 r.1.Done))), (.lf true (.sl (r.1.Signals.map eS))), (.lf true (.sl (r.1.Timers.map eS)))]), (.lf false (.sc (.bool r.2)))]) [] 1 := by
  unfold spec_l12Apply at h
  refine fn_code tab_ok mixed [(22, [(0, 2)]), (1000, [(2, 0), (3, 0), (4, 0)]), (1001, [(2, 0), (3, 0), (4, 0), (29, 0)]), (1002, [(4, 0), (5, 0)]), (1003, [(2, 0), (3, 0), (4, 0)]), (1004, [(2, 0), (3, 0), (4, 0), (34, 0)]), (1005, [(2, 0), (4, 0)]), (1006, [(2, 0), (4, 0)]), (1007, [(2, 0), (3, 0), (4, 0), (34, 0), (37, 0)]), (1008, [(2, 0), (4, 0)]), (1009, [(2, 0), (3, 0), (4, 0), (34, 0), (40, 0)]), (1010, [(2, 0), (3, 0), (4, 0), (53, 0)]), (1011, [(4, 0), (5, 0)]), (1012, [(2, 0), (4, 0)]), (1013, [(2, 0), (3, 0), (4, 0), (34, 0), (62, 0)]), (1014, [(2, 0), (4, 0)]), (1015, [(2, 0), (3, 0), (4, 0), (34, 0), (68, 0)]), (1016, [(2, 0), (4, 0)]), (1017, [(2, 0), (4, 0), (76, 0)]), (1018, [(2, 0), (4, 0), (79, 0)]), (1019, [(4, 0), (5, 0)]), (1020, [(2, 0), (4, 0)]), (1021, [(2, 0), (4, 0)]), (1022, [(4, 0), (5, 0)]), (3000, []), (4001, []), (4010, [])] Tryd.func79 rfl rfl (by simp [Tryd.f79]) (by kernel_rfl) ?_
  simp only [Tryd.f79]
  refine sA ?_
  obtain ⟨p29, hq1, h⟩ := bind_ok h
  refine Sq_cut (fun s2 => s2 = ⟨[(2, (.pb 0 0)), (3, (.pb 1 0)), (4, (.pb 2 0)), (29, (.lf false (.sc (.bool p29.t29))))], [(0, some (true, .box [(.lf false (.sc (.int .i64 a0.Status))), (.lf false (.sc (.int .i64 a0.Next))), (.lf false (.sc (.bool a0.Cancel))), (.lf false (.sc (.int .i64 a0.Done))), (.lf true (.sl (a0.Signals.map eS))), (.lf true (.sl (a0.Timers.map eS)))])), (1, some (true, .box [(.lf false (.sc (.int .i64 a1.Id))), (.lf false (.sc (.int .i64 a1.Version))), (.lf false (.sc (.int .i64 a1.Kind))), (.lf false (.sc (.string a1.Name)))])), (2, some (true, .box [(.lf false (.sc (.int .i64 0))), (.lf false (.sc (.int .i64 0))), (.lf false (.sc (.bool false))), (.lf false (.sc (.int .i64 0))), .nl, .nl]))], 3, 89⟩) ?_ ?_
  · try refine sA ?_
    obtain ⟨c28, hr2, hq1⟩ := bind_ok hq1
    refine Cl_sA (w_spec_GoodEvent hr2) ?_
    try refine sA ?_
    refine Sp_if hq1 (fun hq1 hc3 => ?_) (fun hq1 hc3 => ?_)
    · try refine sA ?_
      cases hq1
      exact X_cut rfl (weakA [some 0, some 1, some 2])
    · try refine sA ?_
      refine Sp_if hq1 (fun hq1 hc4 => ?_) (fun hq1 hc4 => ?_)
      · try refine sA ?_
        cases hq1
        exact X_cut rfl (weakA [some 0, some 1, some 2])
      · try refine sA ?_
        refine Sp_if hq1 (fun hq1 hc5 => ?_) (fun hq1 hc5 => ?_)
        · try refine sA ?_
          cases hq1
          exact X_cut rfl (weakA [some 0, some 1, some 2])
        · try refine sA ?_
          cases hq1
          exact X_cut rfl (weakA [some 0, some 1, some 2])
  · intro s2 hJ; subst hJ
    try dsimp only at h
    try refine sA ?_
    refine Bs_if h (fun h hc6 => ?_) (fun h hc6 => ?_)
    · try refine sA ?_
      have he := Option.some.inj h
      subst he
      exact endsA ⟨[(4, (.pb 0 0)), (5, (.lf false (.sc (.bool false))))], [(0, some (true, .box [(.lf false (.sc (.int .i64 a0.Status))), (.lf false (.sc (.int .i64 a0.Next))), (.lf false (.sc (.bool a0.Cancel))), (.lf false (.sc (.int .i64 a0.Done))), (.lf true (.sl (a0.Signals.map eS))), (.lf true (.sl (a0.Timers.map eS)))]))], 1, 89⟩ [some 2]
    · try refine sA ?_
      obtain ⟨c30, hr7, h⟩ := bind_ok h
      refine Cl_sA (w_spec_l12Own hr7) ?_
      try refine sA ?_
      obtain ⟨q8, hq8, h⟩ := bind_ok h
      refine Sq_cut (fun s2 => ∃ p43 : spec_l12Apply_J3000, q8 = .inl p43 ∧ s2 = ⟨[(2, (.pb 0 0)), (4, (.pb 1 0))], [(0, some (true, .box [(.lf false (.sc (.int .i64 p43.b0_0))), (.lf false (.sc (.int .i64 c30.Next))), (.lf false (.sc (.bool p43.b0_2))), (.lf false (.sc (.int .i64 p43.b0_3))), (.os 2 1 0 p43.c2.length p43.c2.length false), (.os 3 1 0 p43.c3.length p43.c3.length false)])), (1, some (true, .box [(.lf false (.sc (.int .i64 0))), (.lf false (.sc (.int .i64 0))), (.lf false (.sc (.bool false))), (.lf false (.sc (.int .i64 0))), .nl, .nl])), (2, some (true, .arr false 1 (p43.c2.map eS))), (3, some (true, .arr false 1 (p43.c3.map eS)))], 4, 89⟩) ?_ ?_
      · try refine sA ?_
        refine Bs_if hq8 (fun hq8 hc9 => ?_) (fun hq8 hc9 => ?_)
        · try refine sA ?_
          cases hq8
          exact X_cut ⟨_, rfl, rfl⟩ (weakA [some 0, some 2, some 3, some 4])
        · try refine sA ?_
          refine Bs_if hq8 (fun hq8 hc10 => ?_) (fun hq8 hc10 => ?_)
          · try refine sA ?_
            obtain ⟨p36, hq11, hq8⟩ := bind_ok hq8
            refine Sq_cut (fun s2 => s2 = ⟨[(2, (.pb 0 0)), (3, (.pb 1 0)), (4, (.pb 2 0)), (53, (.lf false (.sc (.bool p36.t53))))], [(0, some (true, .box [(.lf false (.sc (.int .i64 c30.Status))), (.lf false (.sc (.int .i64 c30.Next))), (.lf false (.sc (.bool c30.Cancel))), (.lf false (.sc (.int .i64 c30.Done))), (.os 3 1 0 c30.Signals.length c30.Signals.length false), (.os 4 1 0 c30.Timers.length c30.Timers.length false)])), (1, some (true, .box [(.lf false (.sc (.int .i64 a1.Id))), (.lf false (.sc (.int .i64 a1.Version))), (.lf false (.sc (.int .i64 a1.Kind))), (.lf false (.sc (.string a1.Name)))])), (2, some (true, .box [(.lf false (.sc (.int .i64 0))), (.lf false (.sc (.int .i64 0))), (.lf false (.sc (.bool false))), (.lf false (.sc (.int .i64 0))), .nl, .nl])), (3, some (true, .arr false 1 (c30.Signals.map eS))), (4, some (true, .arr false 1 (c30.Timers.map eS)))], 5, 89⟩) ?_ ?_
            · try refine sA ?_
              obtain ⟨c35, hr12, hq11⟩ := bind_ok hq11
              refine Cl_sA (w_spec_l12At hr12) ?_
              try refine sA ?_
              refine Sp_if hq11 (fun hq11 hc13 => ?_) (fun hq11 hc13 => ?_)
              · try refine sA ?_
                cases hq11
                exact X_cut rfl (weakA [some 0, some 1, some 2, some 3, some 4])
              · try refine sA ?_
                cases hq11
                exact X_cut rfl (weakA [some 0, some 1, some 2, some 3, some 4])
            · intro s2 hJ; subst hJ
              try dsimp only at hq8
              try refine sA ?_
              refine Bs_if hq8 (fun hq8 hc14 => ?_) (fun hq8 hc14 => ?_)
              · try refine sA ?_
                cases hq8
                try dsimp only at h
                have he := Option.some.inj h
                subst he
                refine ends_frz 3 ?_
                refine ends_frz 4 ?_
                try refine sA ?_
                exact endsA ⟨[(4, (.pb 0 0)), (5, (.lf false (.sc (.bool false))))], [(0, some (true, .box [(.lf false (.sc (.int .i64 c30.Status))), (.lf false (.sc (.int .i64 c30.Next))), (.lf false (.sc (.bool c30.Cancel))), (.lf false (.sc (.int .i64 c30.Done))), (.lf true (.sl (c30.Signals.map eS))), (.lf true (.sl (c30.Timers.map eS)))]))], 1, 89⟩ [some 2]
              · try refine sA ?_
                obtain ⟨hp15, hq8⟩ := guard_some hq8
                try refine sA ?_
                try refine andA ?_
                cases hq8
                exact X_cut ⟨_, rfl, rfl⟩ (weakA [some 0, some 2, some 6, some 4])
          · try refine sA ?_
            refine Bs_if hq8 (fun hq8 hc16 => ?_) (fun hq8 hc16 => ?_)
            · try refine sA ?_
              cases hq8
              exact X_cut ⟨_, rfl, rfl⟩ (weakA [some 0, some 2, some 3, some 4])
            · try refine sA ?_
              refine Bs_if hq8 (fun hq8 hc17 => ?_) (fun hq8 hc17 => ?_)
              · try refine sA ?_
                obtain ⟨c42, hr18, hq8⟩ := bind_ok hq8
                refine Cl_sA (w_spec_l12Timer hr18) ?_
                try refine sA ?_
                cases hq8
                exact X_cut ⟨_, rfl, rfl⟩ (weakA [some 0, some 2, some 3, some 6])
              · try refine sA ?_
                refine Bs_if hq8 (fun hq8 hc19 => ?_) (fun hq8 hc19 => ?_)
                · try refine sA ?_
                  refine Bs_if hq8 (fun hq8 hc20 => ?_) (fun hq8 hc20 => ?_)
                  · try refine sA ?_
                    cases hq8
                    try dsimp only at h
                    have he := Option.some.inj h
                    subst he
                    refine ends_frz 3 ?_
                    refine ends_frz 4 ?_
                    try refine sA ?_
                    exact endsA ⟨[(4, (.pb 0 0)), (5, (.lf false (.sc (.bool false))))], [(0, some (true, .box [(.lf false (.sc (.int .i64 c30.Status))), (.lf false (.sc (.int .i64 c30.Next))), (.lf false (.sc (.bool c30.Cancel))), (.lf false (.sc (.int .i64 c30.Done))), (.lf true (.sl (c30.Signals.map eS))), (.lf true (.sl (c30.Timers.map eS)))]))], 1, 89⟩ [some 2]
                  · try refine sA ?_
                    cases hq8
                    exact X_cut ⟨_, rfl, rfl⟩ (weakA [some 0, some 2, some 3, some 4])
                · try refine sA ?_
                  cases hq8
                  exact X_cut ⟨_, rfl, rfl⟩ (weakA [some 0, some 2, some 3, none])
      · intro s2 hJ; obtain ⟨p43, e, rfl⟩ := hJ; subst e
        try dsimp only at h
        try refine sA ?_
        obtain ⟨c68, hr21, h⟩ := bind_ok h
        refine Cl_sA (w_spec_GoodState hr21) ?_
        try refine sA ?_
        have he := Option.some.inj h
        subst he
        refine ends_frz 2 ?_
        refine ends_frz 3 ?_
        try refine sA ?_
        exact endsA ⟨[(4, (.pb 0 0)), (5, (.lf false (.sc (.bool c68))))], [(0, some (true, .box [(.lf false (.sc (.int .i64 p43.b0_0))), (.lf false (.sc (.int .i64 (wI (c30.Next + 1))))), (.lf false (.sc (.bool p43.b0_2))), (.lf false (.sc (.int .i64 p43.b0_3))), (.lf true (.sl (p43.c2.map eS))), (.lf true (.sl (p43.c3.map eS)))]))], 1, 89⟩ [some 1]
theorem w_spec_l1Cur_one_o {a0 : l1CurT} {a1 : Int} {r : (Bool × l1CurT)} (h : spec_l1Cur_one_o a0 a1 = some r) : Fn Tryd.prog 74 [(.pb 0 0), (.lf false (.sc (.int .i64 a1)))] [(0, some (false, .box [(.lf true (.sl (a0.code.map eU8))), (.lf false (.sc (.int .i64 a0.at_))), (.lf false (.sc (.int .u64 a0.seed)))]))] 1 (.lf false (.sc (.bool r.1))) [(0, some (false, .box [(.lf true (.sl (r.2.code.map eU8))), (.lf false (.sc (.int .i64 r.2.at_))), (.lf false (.sc (.int .u64 r.2.seed)))]))] 1 := by
  unfold spec_l1Cur_one_o at h
  refine fn_code tab_ok mixed [] Tryd.func74 rfl rfl (by simp [Tryd.f74]) (by kernel_rfl) ?_
  simp only [Tryd.f74]
  refine sA ?_
  obtain ⟨c70, hr1, h⟩ := bind_ok h
  refine Cl_hA [0] (w_spec_l1Cur_pick_o hr1) ?_
  try refine sA ?_
  have he := Option.some.inj h
  subst he
  exact endsA ⟨[(4, (.lf false (.sc (.bool (c70.1 == 0)))))], [(0, some (false, .box [(.lf true (.sl (c70.2.code.map eU8))), (.lf false (.sc (.int .i64 c70.2.at_))), (.lf false (.sc (.int .u64 c70.2.seed)))]))], 1, 9⟩ [some 0]
theorem w_spec_l1Cur_event_o {a0 : l1CurT} {r : (EventT × l1CurT)} (h : spec_l1Cur_event_o a0 = some r) : Fn Tryd.prog 75 [(.pb 0 0)] [(0, some (false, .box [(.lf true (.sl (a0.code.map eU8))), (.lf false (.sc (.int .i64 a0.at_))), (.lf false (.sc (.int .u64 a0.seed)))]))] 1 (.ag [(.lf false (.sc (.int .i64 r.1.Id))), (.lf false (.sc (.int .i64 r.1.Version))), (.lf false (.sc (.int .i64 r.1.Kind))), (.lf false (.sc (.string r.1.Name)))]) [(0, some (false, .box [(.lf true (.sl (r.2.code.map eU8))), (.lf false (.sc (.int .i64 r.2.at_))), (.lf false (.sc (.int .u64 r.2.seed)))]))] 2 := by
  unfold spec_l1Cur_event_o at h
  refine fn_code tab_ok mixed [(1000, [(0, 0), (2, 0)]), (1001, [(0, 0), (2, 0), (3, 0)]), (1002, [(0, 0), (2, 0), (3, 0), (17, 0)]), (1003, [(0, 0), (2, 0), (3, 0), (17, 0), (18, 0)]), (1004, [(2, 0), (3, 0)]), (1005, [(0, 0), (2, 0), (3, 0), (17, 0), (24, 0)]), (1006, [(2, 0), (3, 0)]), (1007, [(0, 0), (2, 0), (3, 0), (17, 0), (30, 0)]), (1008, [(2, 0), (3, 0)]), (1009, [(0, 0), (2, 0), (3, 0), (36, 0)]), (1010, [(2, 0), (3, 0)]), (1011, [(2, 0)])] Tryd.func75 rfl rfl (by simp [Tryd.f75]) (by kernel_rfl) ?_
  simp only [Tryd.f75]
  refine sA ?_
  obtain ⟨c86, hr1, h⟩ := bind_ok h
  refine Cl_hA [0] (w_spec_l1Cur_pick_o hr1) ?_
  try refine sA ?_
  obtain ⟨c87, hr2, h⟩ := bind_ok h
  refine Cl_hA [0] (w_spec_l1Cur_pick_o hr2) ?_
  try refine sA ?_
  obtain ⟨c88, hr3, h⟩ := bind_ok h
  refine Cl_hA [0] (w_spec_l1Cur_pick_o hr3) ?_
  try refine sA ?_
  obtain ⟨c89, hr4, h⟩ := bind_ok h
  refine Cl_hA [0, 2] (w_spec_l1Cur_of_ow hr4) ?_
  try refine sA ?_
  obtain ⟨c90, hr5, h⟩ := bind_ok h
  refine Cl_hA [0] (w_spec_l1Cur_pick_o hr5) ?_
  try refine sA ?_
  refine Bs_if h (fun h hc6 => ?_) (fun h hc6 => ?_)
  · try refine sA ?_
    obtain ⟨c91, hr7, h⟩ := bind_ok h
    refine Cl_hA [0, 4] (w_spec_l1Cur_among_ow hr7) ?_
    try refine sA ?_
    have he := Option.some.inj h
    subst he
    exact endsA ⟨[(2, (.pb 1 0))], [(0, some (false, .box [(.lf true (.sl (c91.2.code.map eU8))), (.lf false (.sc (.int .i64 c91.2.at_))), (.lf false (.sc (.int .u64 c91.2.seed)))])), (1, some (true, .box [(.lf false (.sc (.int .i64 c91.1))), (.lf false (.sc (.int .i64 c87.1))), (.lf false (.sc (.int .i64 (wI (1 + c88.1))))), (.lf false (.sc (.string c89.1)))]))], 2, 43⟩ [some 0, some 1]
  · try refine sA ?_
    refine Bs_if h (fun h hc8 => ?_) (fun h hc8 => ?_)
    · try refine sA ?_
      obtain ⟨c92, hr9, h⟩ := bind_ok h
      refine Cl_hA [0, 4] (w_spec_l1Cur_among_ow hr9) ?_
      try refine sA ?_
      have he := Option.some.inj h
      subst he
      exact endsA ⟨[(2, (.pb 1 0))], [(0, some (false, .box [(.lf true (.sl (c92.2.code.map eU8))), (.lf false (.sc (.int .i64 c92.2.at_))), (.lf false (.sc (.int .u64 c92.2.seed)))])), (1, some (true, .box [(.lf false (.sc (.int .i64 (wI (1 + c86.1))))), (.lf false (.sc (.int .i64 c87.1))), (.lf false (.sc (.int .i64 c92.1))), (.lf false (.sc (.string c89.1)))]))], 2, 43⟩ [some 0, some 1]
    · try refine sA ?_
      refine Bs_if h (fun h hc10 => ?_) (fun h hc10 => ?_)
      · try refine sA ?_
        obtain ⟨c93, hr11, h⟩ := bind_ok h
        refine Cl_hA [0, 4] (w_spec_l1Cur_of_ow hr11) ?_
        try refine sA ?_
        have he := Option.some.inj h
        subst he
        exact endsA ⟨[(2, (.pb 1 0))], [(0, some (false, .box [(.lf true (.sl (c93.2.code.map eU8))), (.lf false (.sc (.int .i64 c93.2.at_))), (.lf false (.sc (.int .u64 c93.2.seed)))])), (1, some (true, .box [(.lf false (.sc (.int .i64 (wI (1 + c86.1))))), (.lf false (.sc (.int .i64 c87.1))), (.lf false (.sc (.int .i64 (wI (1 + c88.1))))), (.lf false (.sc (.string c93.1)))]))], 2, 43⟩ [some 0, some 1]
      · try refine sA ?_
        refine Bs_if h (fun h hc12 => ?_) (fun h hc12 => ?_)
        · try refine sA ?_
          obtain ⟨c94, hr13, h⟩ := bind_ok h
          refine Cl_hA [0, 4] (w_spec_l1Cur_among_ow hr13) ?_
          try refine sA ?_
          have he := Option.some.inj h
          subst he
          exact endsA ⟨[(2, (.pb 1 0))], [(0, some (false, .box [(.lf true (.sl (c94.2.code.map eU8))), (.lf false (.sc (.int .i64 c94.2.at_))), (.lf false (.sc (.int .u64 c94.2.seed)))])), (1, some (true, .box [(.lf false (.sc (.int .i64 (wI (1 + c86.1))))), (.lf false (.sc (.int .i64 c94.1))), (.lf false (.sc (.int .i64 (wI (1 + c88.1))))), (.lf false (.sc (.string c89.1)))]))], 2, 43⟩ [some 0, some 1]
        · try refine sA ?_
          have he := Option.some.inj h
          subst he
          exact endsA ⟨[(2, (.pb 1 0))], [(0, some (false, .box [(.lf true (.sl (c90.2.code.map eU8))), (.lf false (.sc (.int .i64 c90.2.at_))), (.lf false (.sc (.int .u64 c90.2.seed)))])), (1, some (true, .box [(.lf false (.sc (.int .i64 (wI (1 + c86.1))))), (.lf false (.sc (.int .i64 c87.1))), (.lf false (.sc (.int .i64 (wI (1 + c88.1))))), (.lf false (.sc (.string c89.1)))]))], 2, 43⟩ [some 0, some 1]
theorem w_spec_l1Cur_history_o {a0 : l1CurT} {r : ((List EventT) × l1CurT)} (h : spec_l1Cur_history_o a0 = some r) : Fn Tryd.prog 89 [(.pb 0 0)] [(0, some (false, .box [(.lf true (.sl (a0.code.map eU8))), (.lf false (.sc (.int .i64 a0.at_))), (.lf false (.sc (.int .u64 a0.seed)))]))] 1 (.os 1 4 0 r.1.length r.1.length false) [(0, some (false, .box [(.lf true (.sl (r.2.code.map eU8))), (.lf false (.sc (.int .i64 r.2.at_))), (.lf false (.sc (.int .u64 r.2.seed)))])), (1, some (true, .arr false 4 (r.1.map eEvent)))] 2 := by
  unfold spec_l1Cur_history_o at h
  refine fn_code tab_ok mixed [(8, [(1, 4), (1, 5), (1, 7), (1, 9)]), (1000, [(0, 0)]), (1001, [(0, 0), (3, 0)]), (1002, [(0, 0), (3, 0), (4, 0)]), (1003, [(0, 0), (3, 0), (4, 0), (5, 0)]), (1004, [(0, 0), (3, 0), (4, 0), (5, 0), (6, 0)]), (1005, [(0, 0), (3, 0), (4, 0), (5, 0), (6, 0), (17, 0)]), (1006, [(0, 0), (3, 0), (4, 0), (5, 0), (6, 0)]), (1007, [(0, 0), (3, 0), (4, 0), (5, 0), (6, 0)]), (1008, [(0, 0), (3, 0), (4, 0), (5, 0), (6, 0), (7, 0)]), (1009, [(0, 0), (3, 0), (4, 0), (5, 0), (6, 0), (7, 0), (38, 0)]), (1010, [(0, 0), (3, 0), (4, 0), (5, 0), (6, 0), (7, 0)]), (1011, [(0, 0), (3, 0), (4, 0), (5, 0), (6, 0), (7, 0), (8, 0), (9, 0)]), (1012, [(0, 0), (3, 0), (4, 0), (5, 0), (6, 0), (7, 0), (8, 0), (9, 0), (50, 0)]), (1013, [(0, 0), (3, 0), (4, 0), (5, 0), (6, 0), (7, 0), (9, 0)]), (1014, [(0, 0), (3, 0), (4, 0), (5, 0), (6, 0), (7, 0), (9, 0)]), (1015, [(0, 0), (3, 0), (4, 0), (5, 0), (6, 0), (61, 0)]), (1016, [(0, 0), (3, 0), (68, 0)]), (1017, [(0, 0), (3, 0), (10, 0)]), (1018, [(3, 0)]), (1019, [(2, 0)]), (2038, []), (3000, []), (4012, []), (4016, [])] Tryd.func89 rfl rfl (by simp [Tryd.f89]) (by kernel_rfl) ?_
  simp only [Tryd.f89]
  refine sA ?_
  obtain ⟨c3, hr1, h⟩ := bind_ok h
  refine Cl_sA (w_spec_NewState hr1) ?_
  try refine sA ?_
  obtain ⟨c7, hr2, h⟩ := bind_ok h
  refine Cl_hA [0] (w_spec_l1Cur_pick_o hr2) ?_
  try refine sA ?_
  obtain ⟨p82, hq3, h⟩ := bind_ok h
  refine Sq_cut (fun s2 => s2 = ⟨[(0, (.pb 0 0)), (3, (.os 1 4 0 p82.c1.length p82.c1.length false))], [(0, some (false, .box [(.lf true (.sl (p82.b0_0.map eU8))), (.lf false (.sc (.int .i64 p82.b0_1))), (.lf false (.sc (.int .u64 p82.b0_2)))])), (1, some (true, .arr false 4 (p82.c1.map eEvent)))], 2, 79⟩) ?_ ?_
  · try refine sA ?_
    obtain ⟨c8, hr4, hq3⟩ := bind_ok hq3
    refine Cl_hA [0] (w_spec_l1Cur_pick_o hr4) ?_
    try refine sA ?_
    obtain ⟨y81, hl5, hq3⟩ := bind_ok hq3
    refine W_loopP (fun g9 : spec_l1Cur_history_o_G1 => ⟨[(0, (.pb 0 0)), (3, (.os 1 4 0 g9.c1.length g9.c1.length false)), (4, (.pb 2 0)), (5, (.lf false (.sc (.int .i64 g9.t5)))), (6, (.lf false (.sc (.int .i64 g9.t6))))], [(0, some (false, .box [(.lf true (.sl (g9.b0_0.map eU8))), (.lf false (.sc (.int .i64 g9.b0_1))), (.lf false (.sc (.int .u64 g9.b0_2)))])), (1, some (true, .arr false 4 (g9.c1.map eEvent))), (2, some (true, .box [(.lf false (.sc (.int .i64 g9.b2_0))), (.lf false (.sc (.int .i64 g9.b2_1))), (.lf false (.sc (.bool g9.b2_2))), (.lf false (.sc (.int .i64 g9.b2_3))), (.lf true (.sl (g9.b2_4.map eS))), (.lf true (.sl (g9.b2_5.map eS)))]))], 3, 79⟩) (spec_l1Cur_history_o_L1) _ _ hl5 (weakA [some 0, none, some 2]) ?_
    · intro n1 g9 z1 hs1 hk1
      unfold spec_l1Cur_history_o_L1 at hs1
      try dsimp only at hs1
      refine sA ?_
      refine Bs_if hs1 (fun hs1 hc6 => ?_) (fun hs1 hc6 => ?_)
      · try refine sA ?_
        obtain ⟨c73, hr7, hs1⟩ := bind_ok hs1
        refine Cl_hA [0] (w_spec_l1Cur_pick_o hr7) ?_
        try refine sA ?_
        obtain ⟨c74, hr8, hs1⟩ := bind_ok hs1
        refine Cl_hA [0] (w_spec_l1Cur_pick_o hr8) ?_
        try refine sA ?_
        obtain ⟨c75, hr9, hs1⟩ := bind_ok hs1
        refine Cl_hA [0, 3] (w_spec_l1Cur_among_ow hr9) ?_
        try refine sA ?_
        obtain ⟨c76, hr10, hs1⟩ := bind_ok hs1
        refine Cl_hA [0] (w_spec_l1Cur_eventName_o hr10) ?_
        try refine sA ?_
        obtain ⟨p77, hq11, hs1⟩ := bind_ok hs1
        refine Sq_cut (fun s2 => s2 = ⟨[(0, (.pb 0 0)), (3, (.os 1 4 0 g9.c1.length g9.c1.length false)), (4, (.pb 2 0)), (5, (.lf false (.sc (.int .i64 (wI (g9.t5 + (wI (c73.1 * c74.1)))))))), (6, (.lf false (.sc (.int .i64 g9.t6)))), (7, (.pb 3 0))], [(0, some (false, .box [(.lf true (.sl (c76.2.code.map eU8))), (.lf false (.sc (.int .i64 c76.2.at_))), (.lf false (.sc (.int .u64 c76.2.seed)))])), (1, some (true, .arr false 4 (g9.c1.map eEvent))), (2, some (true, .box [(.lf false (.sc (.int .i64 g9.b2_0))), (.lf false (.sc (.int .i64 g9.b2_1))), (.lf false (.sc (.bool g9.b2_2))), (.lf false (.sc (.int .i64 g9.b2_3))), (.lf true (.sl (g9.b2_4.map eS))), (.lf true (.sl (g9.b2_5.map eS)))])), (3, some (true, .box [(.lf false (.sc (.int .i64 g9.b2_1))), (.lf false (.sc (.int .i64 (wI (g9.t5 + (wI (c73.1 * c74.1))))))), (.lf false (.sc (.int .i64 p77.b3_2))), (.lf false (.sc (.string c76.1)))]))], 4, 79⟩) ?_ ?_
        · try refine sA ?_
          refine Bs_if hq11 (fun hq11 hc12 => ?_) (fun hq11 hc12 => ?_)
          · try refine sA ?_
            cases hq11
            exact X_cut rfl (weakA [some 0, some 1, some 2, some 4])
          · try refine sA ?_
            cases hq11
            exact X_cut rfl (weakA [some 0, some 1, some 2, some 4])
        · intro s2 hJ; subst hJ
          try dsimp only at hs1
          try refine sA ?_
          obtain ⟨c78, hr13, hs1⟩ := bind_ok hs1
          refine Cl_sA (w_spec_l12Apply hr13) ?_
          try refine sA ?_
          obtain ⟨p80, hq14, hs1⟩ := bind_ok hs1
          refine Sq_cut (fun s2 => s2 = ⟨[(0, (.pb 0 0)), (3, (.os 1 4 0 g9.c1.length g9.c1.length false)), (4, (.pb 2 0)), (5, (.lf false (.sc (.int .i64 (wI (g9.t5 + (wI (c73.1 * c74.1)))))))), (6, (.lf false (.sc (.int .i64 g9.t6)))), (7, (.pb 3 0)), (8, (.pb 4 0)), (9, (.lf false (.sc (.bool c78.2)))), (50, (.lf false (.sc (.bool p80.t50))))], [(0, some (false, .box [(.lf true (.sl (p80.b0_0.map eU8))), (.lf false (.sc (.int .i64 p80.b0_1))), (.lf false (.sc (.int .u64 p80.b0_2)))])), (1, some (true, .arr false 4 (g9.c1.map eEvent))), (2, some (true, .box [(.lf false (.sc (.int .i64 g9.b2_0))), (.lf false (.sc (.int .i64 g9.b2_1))), (.lf false (.sc (.bool g9.b2_2))), (.lf false (.sc (.int .i64 g9.b2_3))), (.lf true (.sl (g9.b2_4.map eS))), (.lf true (.sl (g9.b2_5.map eS)))])), (3, some (true, .box [(.lf false (.sc (.int .i64 g9.b2_1))), (.lf false (.sc (.int .i64 (wI (g9.t5 + (wI (c73.1 * c74.1))))))), (.lf false (.sc (.int .i64 p77.b3_2))), (.lf false (.sc (.string c76.1)))])), (4, some (true, .box [(.lf false (.sc (.int .i64 c78.1.Status))), (.lf false (.sc (.int .i64 c78.1.Next))), (.lf false (.sc (.bool c78.1.Cancel))), (.lf false (.sc (.int .i64 c78.1.Done))), (.lf true (.sl (c78.1.Signals.map eS))), (.lf true (.sl (c78.1.Timers.map eS)))]))], 5, 79⟩) ?_ ?_
          · try refine sA ?_
            refine Sp_if hq14 (fun hq14 hc15 => ?_) (fun hq14 hc15 => ?_)
            · try refine sA ?_
              cases hq14
              exact X_cut rfl (weakA [some 0, some 1, some 2, some 3, some 5])
            · try refine sA ?_
              obtain ⟨c79, hr16, hq14⟩ := bind_ok hq14
              refine Cl_hA [0] (w_spec_l1Cur_one_o hr16) ?_
              try refine sA ?_
              cases hq14
              exact X_cut rfl (weakA [some 0, some 1, some 2, some 3, some 5])
          · intro s2 hJ; subst hJ
            try dsimp only at hs1
            try refine sA ?_
            refine Bs_if hs1 (fun hs1 hc17 => ?_) (fun hs1 hc17 => ?_)
            · try refine sA ?_
              obtain ⟨hp18, hs1⟩ := guard_some hs1
              try refine sA ?_
              try refine andA ?_
              refine Sp_if hs1 (fun hs1 hc19 => ?_) (fun hs1 hc19 => ?_)
              · try refine sA ?_
                refine Bs_if hs1 (fun hs1 hc20 => ?_) (fun hs1 hc20 => ?_)
                · try refine sA ?_
                  cases hs1
                  cases hk1
                  try dsimp only at hq3
                  try refine sA ?_
                  cases hq3
                  exact X_cut rfl (weakA [some 0, some 6])
                · try refine sA ?_
                  cases hs1
                  exact X_backP hk1 (weakA [some 0, some 6, some 2])
              · try refine sA ?_
                cases hs1
                exact X_backP hk1 (weakA [some 0, some 6, some 2])
            · try refine sA ?_
              refine Sp_if hs1 (fun hs1 hc21 => ?_) (fun hs1 hc21 => ?_)
              · try refine sA ?_
                refine Bs_if hs1 (fun hs1 hc22 => ?_) (fun hs1 hc22 => ?_)
                · try refine sA ?_
                  cases hs1
                  cases hk1
                  try dsimp only at hq3
                  try refine sA ?_
                  cases hq3
                  exact X_cut rfl (weakA [some 0, some 1])
                · try refine sA ?_
                  cases hs1
                  exact X_backP hk1 (weakA [some 0, some 1, some 2])
              · try refine sA ?_
                cases hs1
                exact X_backP hk1 (weakA [some 0, some 1, some 2])
      · try refine sA ?_
        cases hs1
        cases hk1
        try dsimp only at hq3
        try refine sA ?_
        cases hq3
        exact X_cut rfl (weakA [some 0, some 1])
  · intro s2 hJ; subst hJ
    try dsimp only at h
    try refine sA ?_
    obtain ⟨p84, hq23, h⟩ := bind_ok h
    refine Sq_cut (fun s2 => s2 = ⟨[(0, (.pb 0 0)), (3, (.os 1 4 0 p82.c1.length p82.c1.length false)), (68, (.lf false (.sc (.bool p84.t68))))], [(0, some (false, .box [(.lf true (.sl (p84.b0_0.map eU8))), (.lf false (.sc (.int .i64 p84.b0_1))), (.lf false (.sc (.int .u64 p84.b0_2)))])), (1, some (true, .arr false 4 (p82.c1.map eEvent)))], 2, 79⟩) ?_ ?_
    · try refine sA ?_
      refine Sp_if hq23 (fun hq23 hc24 => ?_) (fun hq23 hc24 => ?_)
      · try refine sA ?_
        obtain ⟨c83, hr25, hq23⟩ := bind_ok hq23
        refine Cl_hA [0] (w_spec_l1Cur_one_o hr25) ?_
        try refine sA ?_
        cases hq23
        exact X_cut rfl (weakA [some 0, some 1])
      · try refine sA ?_
        cases hq23
        exact X_cut rfl (weakA [some 0, some 1])
    · intro s2 hJ; subst hJ
      try dsimp only at h
      try refine sA ?_
      refine Bs_if h (fun h hc26 => ?_) (fun h hc26 => ?_)
      · try refine sA ?_
        obtain ⟨c85, hr27, h⟩ := bind_ok h
        refine Cl_hA [0] (w_spec_l1Cur_pick_o hr27) ?_
        try refine sA ?_
        obtain ⟨c95, hr28, h⟩ := bind_ok h
        refine Cl_hA [0] (w_spec_l1Cur_event_o hr28) ?_
        try refine sA ?_
        obtain ⟨hp29, h⟩ := guard_some h
        have hn29 : c85.1.toNat < p82.c1.length := by first | omega | (simp only [List.length_set, List.length_append, List.length_replicate, List.length_map]; omega)
        try refine sA ?_
        try refine andA ?_
        try refine andB ?_
        try refine sA ?_
        have he := Option.some.inj h
        subst he
        exact endsA ⟨[(2, (.os 1 4 0 ((p82.c1.set c85.1.toNat c95.1).length) ((p82.c1.set c85.1.toNat c95.1).length) false))], [(0, some (false, .box [(.lf true (.sl (c95.2.code.map eU8))), (.lf false (.sc (.int .i64 c95.2.at_))), (.lf false (.sc (.int .u64 c95.2.seed)))])), (1, some (true, .arr false 4 ((p82.c1.set c85.1.toNat c95.1).map eEvent)))], 2, 79⟩ [some 0, some 1]
      · try refine sA ?_
        have he := Option.some.inj h
        subst he
        exact endsA ⟨[(2, (.os 1 4 0 p82.c1.length p82.c1.length false))], [(0, some (false, .box [(.lf true (.sl (p84.b0_0.map eU8))), (.lf false (.sc (.int .i64 p84.b0_1))), (.lf false (.sc (.int .u64 p84.b0_2)))])), (1, some (true, .arr false 4 (p82.c1.map eEvent)))], 2, 79⟩ [some 0, some 1]
theorem w_spec_l12Fold {a0 : (List EventT)} {r : (StateT × Int)} (h : spec_l12Fold a0 = some r) : Fn Tryd.prog 69 [(.lf true (.sl (a0.map eEvent)))] [] 0 (.tu [(.ag [(.lf false (.sc (.int .i64 r.1.Status))), (.lf false (.sc (.int .i64 r.1.Next))), (.lf false (.sc (.bool r.1.Cancel))), (.lf false (.sc (.int .i64 r.1.Done))), (.lf true (.sl (r.1.Signals.map eS))), (.lf true (.sl (r.1.Timers.map eS)))]), (.lf false (.sc (.int .i64 r.2)))]) [] 1 := by
  unfold spec_l12Fold at h
  refine fn_code tab_ok mixed [(1000, [(0, 0), (2, 0)]), (1001, [(0, 0), (2, 0), (4, 0)]), (1002, [(0, 0), (2, 0), (4, 0), (10, 0), (11, 0), (12, 0)]), (1003, [(0, 0), (2, 0), (4, 0), (10, 0), (11, 0), (12, 0), (13, 0)]), (1004, [(0, 0), (2, 0), (4, 0), (5, 0), (6, 0), (10, 0), (11, 0), (12, 0)]), (1005, [(0, 0), (2, 0), (4, 0), (5, 0), (7, 0), (8, 0), (10, 0), (11, 0), (12, 0)]), (1006, [(0, 0), (2, 0), (4, 0), (5, 0), (7, 0), (10, 0), (11, 0), (12, 0), (24, 0)]), (1007, [(2, 0), (3, 0)]), (1008, [(0, 0), (2, 0), (4, 0), (10, 0), (11, 0), (12, 0)]), (1009, [(0, 0), (2, 0), (4, 0), (10, 0), (11, 0), (12, 0)]), (1010, [(2, 0), (3, 0)])] Tryd.func69 rfl rfl (by simp [Tryd.f69]) (by kernel_rfl) ?_
  simp only [Tryd.f69]
  refine sA ?_
  obtain ⟨c97, hr1, h⟩ := bind_ok h
  refine Cl_sA (w_spec_NewState hr1) ?_
  try refine sA ?_
  obtain ⟨y101, hl2, h⟩ := bind_ok h
  refine W_loopP (fun g98 : spec_l12Fold_G1 => ⟨[(0, (.lf true (.sl (a0.map eEvent)))), (2, (.pb 0 0)), (4, (.pb 1 0)), (10, (.lf true (.sl (a0.map eEvent)))), (11, (.lf false (.sc (.int .i64 ((a0.length : Nat) : Int))))), (12, (.lf false (.sc (.int .i64 g98.t12))))], [(0, some (true, .box [(.lf false (.sc (.int .i64 0))), (.lf false (.sc (.int .i64 0))), (.lf false (.sc (.bool false))), (.lf false (.sc (.int .i64 0))), .nl, .nl])), (1, some (true, .box [(.lf false (.sc (.int .i64 g98.b1_0))), (.lf false (.sc (.int .i64 g98.b1_1))), (.lf false (.sc (.bool g98.b1_2))), (.lf false (.sc (.int .i64 g98.b1_3))), (.lf true (.sl (g98.b1_4.map eS))), (.lf true (.sl (g98.b1_5.map eS)))]))], 2, 32⟩) (spec_l12Fold_L1 a0) _ _ hl2 (weakA [some 0, some 2]) ?_
  · intro n1 g98 z1 hs1 hk1
    unfold spec_l12Fold_L1 at hs1
    try dsimp only at hs1
    refine sA ?_
    refine Bs_if hs1 (fun hs1 hc3 => ?_) (fun hs1 hc3 => ?_)
    · try refine sA ?_
      obtain ⟨hp4, hs1⟩ := guard_some hs1
      have hn4 : g98.t12.toNat < a0.length := by first | omega | (simp only [List.length_set, List.length_append, List.length_replicate, List.length_map]; omega)
      try refine sA ?_
      try refine andA ?_
      obtain ⟨c100, hr5, hs1⟩ := bind_ok hs1
      refine Cl_sA (w_spec_l12Apply hr5) ?_
      try refine sA ?_
      refine Bs_if hs1 (fun hs1 hc6 => ?_) (fun hs1 hc6 => ?_)
      · try refine sA ?_
        cases hs1
        cases hk1
        try dsimp only at h
        try refine sA ?_
        have he := Option.some.inj h
        subst he
        exact endsA ⟨[(2, (.pb 0 0)), (3, (.lf false (.sc (.int .i64 g98.t12))))], [(0, some (true, .box [(.lf false (.sc (.int .i64 g98.b1_0))), (.lf false (.sc (.int .i64 g98.b1_1))), (.lf false (.sc (.bool g98.b1_2))), (.lf false (.sc (.int .i64 g98.b1_3))), (.lf true (.sl (g98.b1_4.map eS))), (.lf true (.sl (g98.b1_5.map eS)))]))], 1, 32⟩ [some 0]
      · try refine sA ?_
        cases hs1
        exact X_backP hk1 (weakA [some 0, some 1])
    · try refine sA ?_
      cases hs1
      cases hk1
      try dsimp only at h
      try refine sA ?_
      have he := Option.some.inj h
      subst he
      exact endsA ⟨[(2, (.pb 0 0)), (3, (.lf false (.sc (.int .i64 ((a0.length : Nat) : Int)))))], [(0, some (true, .box [(.lf false (.sc (.int .i64 g98.b1_0))), (.lf false (.sc (.int .i64 g98.b1_1))), (.lf false (.sc (.bool g98.b1_2))), (.lf false (.sc (.int .i64 g98.b1_3))), (.lf true (.sl (g98.b1_4.map eS))), (.lf true (.sl (g98.b1_5.map eS)))]))], 1, 32⟩ [some 0]
theorem w_spec_l12Apply_t {a0 : StateT} {a1 : EventT} {r : (StateT × Bool)} (h : spec_l12Apply a0 a1 = some r) (hb : r.2 = true) : Fn Tryd.prog 79 [(.ag [(.lf false (.sc (.int .i64 a0.Status))), (.lf false (.sc (.int .i64 a0.Next))), (.lf false (.sc (.bool a0.Cancel))), (.lf false (.sc (.int .i64 a0.Done))), (.lf true (.sl (a0.Signals.map eS))), (.lf true (.sl (a0.Timers.map eS)))]), (.ag [(.lf false (.sc (.int .i64 a1.Id))), (.lf false (.sc (.int .i64 a1.Version))), (.lf false (.sc (.int .i64 a1.Kind))), (.lf false (.sc (.string a1.Name)))])] [] 0 (.tu [(.ag [(.lf false (.sc (.int .i64 r.1.Status))), (.lf false (.sc (.int .i64 r.1.Next))), (.lf false (.sc (.bool r.1.Cancel))), (.lf false (.sc (.int .i64 r.1.Done))), (.os 0 1 0 r.1.Signals.length r.1.Signals.length false), (.os 1 1 0 r.1.Timers.length r.1.Timers.length false)]), (.lf false (.sc (.bool r.2)))]) [(0, some (true, .arr false 1 (r.1.Signals.map eS))), (1, some (true, .arr false 1 (r.1.Timers.map eS)))] 3 := by
  unfold spec_l12Apply at h
  refine fn_code tab_ok mixed [(22, [(0, 2)]), (1000, [(2, 0), (3, 0), (4, 0)]), (1001, [(2, 0), (3, 0), (4, 0), (29, 0)]), (1002, [(4, 0), (5, 0)]), (1003, [(2, 0), (3, 0), (4, 0)]), (1004, [(2, 0), (3, 0), (4, 0), (34, 0)]), (1005, [(2, 0), (4, 0)]), (1006, [(2, 0), (4, 0)]), (1007, [(2, 0), (3, 0), (4, 0), (34, 0), (37, 0)]), (1008, [(2, 0), (4, 0)]), (1009, [(2, 0), (3, 0), (4, 0), (34, 0), (40, 0)]), (1010, [(2, 0), (3, 0), (4, 0), (53, 0)]), (1011, [(4, 0), (5, 0)]), (1012, [(2, 0), (4, 0)]), (1013, [(2, 0), (3, 0), (4, 0), (34, 0), (62, 0)]), (1014, [(2, 0), (4, 0)]), (1015, [(2, 0), (3, 0), (4, 0), (34, 0), (68, 0)]), (1016, [(2, 0), (4, 0)]), (1017, [(2, 0), (4, 0), (76, 0)]), (1018, [(2, 0), (4, 0), (79, 0)]), (1019, [(4, 0), (5, 0)]), (1020, [(2, 0), (4, 0)]), (1021, [(2, 0), (4, 0)]), (1022, [(4, 0), (5, 0)]), (3000, []), (4001, []), (4010, [])] Tryd.func79 rfl rfl (by simp [Tryd.f79]) (by kernel_rfl) ?_
  simp only [Tryd.f79]
  refine sA ?_
  obtain ⟨p29, hq1, h⟩ := bind_ok h
  refine Sq_cut (fun s2 => s2 = ⟨[(2, (.pb 0 0)), (3, (.pb 1 0)), (4, (.pb 2 0)), (29, (.lf false (.sc (.bool p29.t29))))], [(0, some (true, .box [(.lf false (.sc (.int .i64 a0.Status))), (.lf false (.sc (.int .i64 a0.Next))), (.lf false (.sc (.bool a0.Cancel))), (.lf false (.sc (.int .i64 a0.Done))), (.lf true (.sl (a0.Signals.map eS))), (.lf true (.sl (a0.Timers.map eS)))])), (1, some (true, .box [(.lf false (.sc (.int .i64 a1.Id))), (.lf false (.sc (.int .i64 a1.Version))), (.lf false (.sc (.int .i64 a1.Kind))), (.lf false (.sc (.string a1.Name)))])), (2, some (true, .box [(.lf false (.sc (.int .i64 0))), (.lf false (.sc (.int .i64 0))), (.lf false (.sc (.bool false))), (.lf false (.sc (.int .i64 0))), .nl, .nl]))], 3, 89⟩) ?_ ?_
  · try refine sA ?_
    obtain ⟨c28, hr2, hq1⟩ := bind_ok hq1
    refine Cl_sA (w_spec_GoodEvent hr2) ?_
    try refine sA ?_
    refine Sp_if hq1 (fun hq1 hc3 => ?_) (fun hq1 hc3 => ?_)
    · try refine sA ?_
      cases hq1
      exact X_cut rfl (weakA [some 0, some 1, some 2])
    · try refine sA ?_
      refine Sp_if hq1 (fun hq1 hc4 => ?_) (fun hq1 hc4 => ?_)
      · try refine sA ?_
        cases hq1
        exact X_cut rfl (weakA [some 0, some 1, some 2])
      · try refine sA ?_
        refine Sp_if hq1 (fun hq1 hc5 => ?_) (fun hq1 hc5 => ?_)
        · try refine sA ?_
          cases hq1
          exact X_cut rfl (weakA [some 0, some 1, some 2])
        · try refine sA ?_
          cases hq1
          exact X_cut rfl (weakA [some 0, some 1, some 2])
  · intro s2 hJ; subst hJ
    try dsimp only at h
    try refine sA ?_
    refine Bs_if h (fun h hc6 => ?_) (fun h hc6 => ?_)
    · try refine sA ?_
      have he := Option.some.inj h
      subst he
      exact absurd hb (by simp)
    · try refine sA ?_
      obtain ⟨c30, hr7, h⟩ := bind_ok h
      refine Cl_sA (w_spec_l12Own hr7) ?_
      try refine sA ?_
      obtain ⟨q8, hq8, h⟩ := bind_ok h
      refine Sq_cut (fun s2 => ∃ p43 : spec_l12Apply_J3000, q8 = .inl p43 ∧ s2 = ⟨[(2, (.pb 0 0)), (4, (.pb 1 0))], [(0, some (true, .box [(.lf false (.sc (.int .i64 p43.b0_0))), (.lf false (.sc (.int .i64 c30.Next))), (.lf false (.sc (.bool p43.b0_2))), (.lf false (.sc (.int .i64 p43.b0_3))), (.os 2 1 0 p43.c2.length p43.c2.length false), (.os 3 1 0 p43.c3.length p43.c3.length false)])), (1, some (true, .box [(.lf false (.sc (.int .i64 0))), (.lf false (.sc (.int .i64 0))), (.lf false (.sc (.bool false))), (.lf false (.sc (.int .i64 0))), .nl, .nl])), (2, some (true, .arr false 1 (p43.c2.map eS))), (3, some (true, .arr false 1 (p43.c3.map eS)))], 4, 89⟩) ?_ ?_
      · try refine sA ?_
        refine Bs_if hq8 (fun hq8 hc9 => ?_) (fun hq8 hc9 => ?_)
        · try refine sA ?_
          cases hq8
          exact X_cut ⟨_, rfl, rfl⟩ (weakA [some 0, some 2, some 3, some 4])
        · try refine sA ?_
          refine Bs_if hq8 (fun hq8 hc10 => ?_) (fun hq8 hc10 => ?_)
          · try refine sA ?_
            obtain ⟨p36, hq11, hq8⟩ := bind_ok hq8
            refine Sq_cut (fun s2 => s2 = ⟨[(2, (.pb 0 0)), (3, (.pb 1 0)), (4, (.pb 2 0)), (53, (.lf false (.sc (.bool p36.t53))))], [(0, some (true, .box [(.lf false (.sc (.int .i64 c30.Status))), (.lf false (.sc (.int .i64 c30.Next))), (.lf false (.sc (.bool c30.Cancel))), (.lf false (.sc (.int .i64 c30.Done))), (.os 3 1 0 c30.Signals.length c30.Signals.length false), (.os 4 1 0 c30.Timers.length c30.Timers.length false)])), (1, some (true, .box [(.lf false (.sc (.int .i64 a1.Id))), (.lf false (.sc (.int .i64 a1.Version))), (.lf false (.sc (.int .i64 a1.Kind))), (.lf false (.sc (.string a1.Name)))])), (2, some (true, .box [(.lf false (.sc (.int .i64 0))), (.lf false (.sc (.int .i64 0))), (.lf false (.sc (.bool false))), (.lf false (.sc (.int .i64 0))), .nl, .nl])), (3, some (true, .arr false 1 (c30.Signals.map eS))), (4, some (true, .arr false 1 (c30.Timers.map eS)))], 5, 89⟩) ?_ ?_
            · try refine sA ?_
              obtain ⟨c35, hr12, hq11⟩ := bind_ok hq11
              refine Cl_sA (w_spec_l12At hr12) ?_
              try refine sA ?_
              refine Sp_if hq11 (fun hq11 hc13 => ?_) (fun hq11 hc13 => ?_)
              · try refine sA ?_
                cases hq11
                exact X_cut rfl (weakA [some 0, some 1, some 2, some 3, some 4])
              · try refine sA ?_
                cases hq11
                exact X_cut rfl (weakA [some 0, some 1, some 2, some 3, some 4])
            · intro s2 hJ; subst hJ
              try dsimp only at hq8
              try refine sA ?_
              refine Bs_if hq8 (fun hq8 hc14 => ?_) (fun hq8 hc14 => ?_)
              · try refine sA ?_
                cases hq8
                try dsimp only at h
                have he := Option.some.inj h
                subst he
                exact absurd hb (by simp)
              · try refine sA ?_
                obtain ⟨hp15, hq8⟩ := guard_some hq8
                try refine sA ?_
                try refine andA ?_
                cases hq8
                exact X_cut ⟨_, rfl, rfl⟩ (weakA [some 0, some 2, some 6, some 4])
          · try refine sA ?_
            refine Bs_if hq8 (fun hq8 hc16 => ?_) (fun hq8 hc16 => ?_)
            · try refine sA ?_
              cases hq8
              exact X_cut ⟨_, rfl, rfl⟩ (weakA [some 0, some 2, some 3, some 4])
            · try refine sA ?_
              refine Bs_if hq8 (fun hq8 hc17 => ?_) (fun hq8 hc17 => ?_)
              · try refine sA ?_
                obtain ⟨c42, hr18, hq8⟩ := bind_ok hq8
                refine Cl_sA (w_spec_l12Timer hr18) ?_
                try refine sA ?_
                cases hq8
                exact X_cut ⟨_, rfl, rfl⟩ (weakA [some 0, some 2, some 3, some 6])
              · try refine sA ?_
                refine Bs_if hq8 (fun hq8 hc19 => ?_) (fun hq8 hc19 => ?_)
                · try refine sA ?_
                  refine Bs_if hq8 (fun hq8 hc20 => ?_) (fun hq8 hc20 => ?_)
                  · try refine sA ?_
                    cases hq8
                    try dsimp only at h
                    have he := Option.some.inj h
                    subst he
                    exact absurd hb (by simp)
                  · try refine sA ?_
                    cases hq8
                    exact X_cut ⟨_, rfl, rfl⟩ (weakA [some 0, some 2, some 3, some 4])
                · try refine sA ?_
                  cases hq8
                  exact X_cut ⟨_, rfl, rfl⟩ (weakA [some 0, some 2, some 3, none])
      · intro s2 hJ; obtain ⟨p43, e, rfl⟩ := hJ; subst e
        try dsimp only at h
        try refine sA ?_
        obtain ⟨c68, hr21, h⟩ := bind_ok h
        refine Cl_sA (w_spec_GoodState hr21) ?_
        try refine sA ?_
        have he := Option.some.inj h
        subst he
        exact endsA ⟨[(4, (.pb 2 0)), (5, (.lf false (.sc (.bool c68))))], [(0, some (true, .arr false 1 (p43.c2.map eS))), (1, some (true, .arr false 1 (p43.c3.map eS))), (2, some (true, .box [(.lf false (.sc (.int .i64 p43.b0_0))), (.lf false (.sc (.int .i64 (wI (c30.Next + 1))))), (.lf false (.sc (.bool p43.b0_2))), (.lf false (.sc (.int .i64 p43.b0_3))), (.os 0 1 0 p43.c2.length p43.c2.length false), (.os 1 1 0 p43.c3.length p43.c3.length false)]))], 3, 89⟩ [some 2, some 3, some 1]
theorem w_spec_l12Apply_no {a0 : StateT} {a1 : EventT} {m0 : Nat} {x0 : Bool} {m1 : Nat} {x1 : Bool} {r : (StateT × Bool)} (h : spec_l12Apply a0 a1 = some r) : Fn Tryd.prog 79 [(.ag [(.lf false (.sc (.int .i64 a0.Status))), (.lf false (.sc (.int .i64 a0.Next))), (.lf false (.sc (.bool a0.Cancel))), (.lf false (.sc (.int .i64 a0.Done))), (.os 0 1 0 a0.Signals.length m0 x0), (.os 1 1 0 a0.Timers.length m1 x1)]), (.ag [(.lf false (.sc (.int .i64 a1.Id))), (.lf false (.sc (.int .i64 a1.Version))), (.lf false (.sc (.int .i64 a1.Kind))), (.lf false (.sc (.string a1.Name)))])] [(0, some (false, .arr true 1 (a0.Signals.map eS))), (1, some (false, .arr true 1 (a0.Timers.map eS)))] 2 (.tu [(.ag [(.lf false (.sc (.int .i64 r.1.Status))), (.lf false (.sc (.int .i64 r.1.Next))), (.lf false (.sc (.bool r.1.Cancel))), (.lf false (.sc (.int .i64 r.1.Done))), (.os 2 1 0 r.1.Signals.length r.1.Signals.length false), (.os 3 1 0 r.1.Timers.length r.1.Timers.length false)]), (.lf false (.sc (.bool r.2)))]) [(0, some (false, .arr true 1 (a0.Signals.map eS))), (1, some (false, .arr true 1 (a0.Timers.map eS))), (2, none), (3, none)] 5 := by
  unfold spec_l12Apply at h
  refine fn_code tab_ok mixed [(22, [(0, 2)]), (1000, [(2, 0), (3, 0), (4, 0)]), (1001, [(2, 0), (3, 0), (4, 0), (29, 0)]), (1002, [(4, 0), (5, 0)]), (1003, [(2, 0), (3, 0), (4, 0)]), (1004, [(2, 0), (3, 0), (4, 0), (34, 0)]), (1005, [(2, 0), (4, 0)]), (1006, [(2, 0), (4, 0)]), (1007, [(2, 0), (3, 0), (4, 0), (34, 0), (37, 0)]), (1008, [(2, 0), (4, 0)]), (1009, [(2, 0), (3, 0), (4, 0), (34, 0), (40, 0)]), (1010, [(2, 0), (3, 0), (4, 0), (53, 0)]), (1011, [(4, 0), (5, 0)]), (1012, [(2, 0), (4, 0)]), (1013, [(2, 0), (3, 0), (4, 0), (34, 0), (62, 0)]), (1014, [(2, 0), (4, 0)]), (1015, [(2, 0), (3, 0), (4, 0), (34, 0), (68, 0)]), (1016, [(2, 0), (4, 0)]), (1017, [(2, 0), (4, 0), (76, 0)]), (1018, [(2, 0), (4, 0), (79, 0)]), (1019, [(4, 0), (5, 0)]), (1020, [(2, 0), (4, 0)]), (1021, [(2, 0), (4, 0)]), (1022, [(4, 0), (5, 0)]), (3000, []), (4001, []), (4010, [])] Tryd.func79 rfl rfl (by simp [Tryd.f79]) (by kernel_rfl) ?_
  simp only [Tryd.f79]
  refine sA ?_
  obtain ⟨p105, hq1, h⟩ := bind_ok h
  refine Sq_cut (fun s2 => s2 = ⟨[(2, (.pb 2 0)), (3, (.pb 3 0)), (4, (.pb 4 0)), (29, (.lf false (.sc (.bool p105.t29))))], [(0, some (false, .arr true 1 (a0.Signals.map eS))), (1, some (false, .arr true 1 (a0.Timers.map eS))), (2, some (true, .box [(.lf false (.sc (.int .i64 a0.Status))), (.lf false (.sc (.int .i64 a0.Next))), (.lf false (.sc (.bool a0.Cancel))), (.lf false (.sc (.int .i64 a0.Done))), (.os 0 1 0 a0.Signals.length m0 x0), (.os 1 1 0 a0.Timers.length m1 x1)])), (3, some (true, .box [(.lf false (.sc (.int .i64 a1.Id))), (.lf false (.sc (.int .i64 a1.Version))), (.lf false (.sc (.int .i64 a1.Kind))), (.lf false (.sc (.string a1.Name)))])), (4, some (true, .box [(.lf false (.sc (.int .i64 0))), (.lf false (.sc (.int .i64 0))), (.lf false (.sc (.bool false))), (.lf false (.sc (.int .i64 0))), .nl, .nl]))], 5, 89⟩) ?_ ?_
  · try refine sA ?_
    obtain ⟨c104, hr2, hq1⟩ := bind_ok hq1
    refine Cl_sA (w_spec_GoodEvent hr2) ?_
    try refine sA ?_
    refine Sp_if hq1 (fun hq1 hc3 => ?_) (fun hq1 hc3 => ?_)
    · try refine sA ?_
      cases hq1
      exact X_cut rfl (weakA [some 0, some 1, some 2, some 3, some 4])
    · try refine sA ?_
      refine Sp_if hq1 (fun hq1 hc4 => ?_) (fun hq1 hc4 => ?_)
      · try refine sA ?_
        cases hq1
        exact X_cut rfl (weakA [some 0, some 1, some 2, some 3, some 4])
      · try refine sA ?_
        refine Sp_if hq1 (fun hq1 hc5 => ?_) (fun hq1 hc5 => ?_)
        · try refine sA ?_
          cases hq1
          exact X_cut rfl (weakA [some 0, some 1, some 2, some 3, some 4])
        · try refine sA ?_
          cases hq1
          exact X_cut rfl (weakA [some 0, some 1, some 2, some 3, some 4])
  · intro s2 hJ; subst hJ
    try dsimp only at h
    try refine sA ?_
    refine Bs_if h (fun h hc6 => ?_) (fun h hc6 => ?_)
    · try refine sA ?_
      have he := Option.some.inj h
      subst he
      exact endsA ⟨[(4, (.pb 4 0)), (5, (.lf false (.sc (.bool false))))], [(0, some (false, .arr true 1 (a0.Signals.map eS))), (1, some (false, .arr true 1 (a0.Timers.map eS))), (2, none), (3, none), (4, some (true, .box [(.lf false (.sc (.int .i64 a0.Status))), (.lf false (.sc (.int .i64 a0.Next))), (.lf false (.sc (.bool a0.Cancel))), (.lf false (.sc (.int .i64 a0.Done))), (.os 2 1 0 a0.Signals.length a0.Signals.length false), (.os 3 1 0 a0.Timers.length a0.Timers.length false)]))], 5, 89⟩ [some 0, some 1, some 0, some 1, some 4]
    · try refine sA ?_
      obtain ⟨c106, hr7, h⟩ := bind_ok h
      refine Cl_sA (w_spec_l12Own hr7) ?_
      try refine sA ?_
      obtain ⟨q8, hq8, h⟩ := bind_ok h
      refine Sq_cut (fun s2 => ∃ p110 : spec_l12Apply_J3000, q8 = .inl p110 ∧ s2 = ⟨[(2, (.pb 2 0)), (4, (.pb 3 0))], [(0, some (false, .arr true 1 (a0.Signals.map eS))), (1, some (false, .arr true 1 (a0.Timers.map eS))), (2, some (true, .box [(.lf false (.sc (.int .i64 p110.b0_0))), (.lf false (.sc (.int .i64 c106.Next))), (.lf false (.sc (.bool p110.b0_2))), (.lf false (.sc (.int .i64 p110.b0_3))), (.os 4 1 0 p110.c2.length p110.c2.length false), (.os 5 1 0 p110.c3.length p110.c3.length false)])), (3, some (true, .box [(.lf false (.sc (.int .i64 0))), (.lf false (.sc (.int .i64 0))), (.lf false (.sc (.bool false))), (.lf false (.sc (.int .i64 0))), .nl, .nl])), (4, some (true, .arr false 1 (p110.c2.map eS))), (5, some (true, .arr false 1 (p110.c3.map eS)))], 6, 89⟩) ?_ ?_
      · try refine sA ?_
        refine Bs_if hq8 (fun hq8 hc9 => ?_) (fun hq8 hc9 => ?_)
        · try refine sA ?_
          cases hq8
          exact X_cut ⟨_, rfl, rfl⟩ (weakA [some 0, some 1, some 2, some 4, some 5, some 6])
        · try refine sA ?_
          refine Bs_if hq8 (fun hq8 hc10 => ?_) (fun hq8 hc10 => ?_)
          · try refine sA ?_
            obtain ⟨p108, hq11, hq8⟩ := bind_ok hq8
            refine Sq_cut (fun s2 => s2 = ⟨[(2, (.pb 2 0)), (3, (.pb 3 0)), (4, (.pb 4 0)), (53, (.lf false (.sc (.bool p108.t53))))], [(0, some (false, .arr true 1 (a0.Signals.map eS))), (1, some (false, .arr true 1 (a0.Timers.map eS))), (2, some (true, .box [(.lf false (.sc (.int .i64 c106.Status))), (.lf false (.sc (.int .i64 c106.Next))), (.lf false (.sc (.bool c106.Cancel))), (.lf false (.sc (.int .i64 c106.Done))), (.os 5 1 0 c106.Signals.length c106.Signals.length false), (.os 6 1 0 c106.Timers.length c106.Timers.length false)])), (3, some (true, .box [(.lf false (.sc (.int .i64 a1.Id))), (.lf false (.sc (.int .i64 a1.Version))), (.lf false (.sc (.int .i64 a1.Kind))), (.lf false (.sc (.string a1.Name)))])), (4, some (true, .box [(.lf false (.sc (.int .i64 0))), (.lf false (.sc (.int .i64 0))), (.lf false (.sc (.bool false))), (.lf false (.sc (.int .i64 0))), .nl, .nl])), (5, some (true, .arr false 1 (c106.Signals.map eS))), (6, some (true, .arr false 1 (c106.Timers.map eS)))], 7, 89⟩) ?_ ?_
            · try refine sA ?_
              obtain ⟨c107, hr12, hq11⟩ := bind_ok hq11
              refine Cl_sA (w_spec_l12At hr12) ?_
              try refine sA ?_
              refine Sp_if hq11 (fun hq11 hc13 => ?_) (fun hq11 hc13 => ?_)
              · try refine sA ?_
                cases hq11
                exact X_cut rfl (weakA [some 0, some 1, some 2, some 3, some 4, some 5, some 6])
              · try refine sA ?_
                cases hq11
                exact X_cut rfl (weakA [some 0, some 1, some 2, some 3, some 4, some 5, some 6])
            · intro s2 hJ; subst hJ
              try dsimp only at hq8
              try refine sA ?_
              refine Bs_if hq8 (fun hq8 hc14 => ?_) (fun hq8 hc14 => ?_)
              · try refine sA ?_
                cases hq8
                try dsimp only at h
                have he := Option.some.inj h
                subst he
                exact endsA ⟨[(4, (.pb 4 0)), (5, (.lf false (.sc (.bool false))))], [(0, some (false, .arr true 1 (a0.Signals.map eS))), (1, some (false, .arr true 1 (a0.Timers.map eS))), (2, none), (3, none), (4, some (true, .box [(.lf false (.sc (.int .i64 c106.Status))), (.lf false (.sc (.int .i64 c106.Next))), (.lf false (.sc (.bool c106.Cancel))), (.lf false (.sc (.int .i64 c106.Done))), (.os 2 1 0 c106.Signals.length c106.Signals.length false), (.os 3 1 0 c106.Timers.length c106.Timers.length false)]))], 5, 89⟩ [some 0, some 1, some 5, some 6, some 4]
              · try refine sA ?_
                obtain ⟨hp15, hq8⟩ := guard_some hq8
                try refine sA ?_
                try refine andA ?_
                cases hq8
                exact X_cut ⟨_, rfl, rfl⟩ (weakA [some 0, some 1, some 2, some 4, some 8, some 6])
          · try refine sA ?_
            refine Bs_if hq8 (fun hq8 hc16 => ?_) (fun hq8 hc16 => ?_)
            · try refine sA ?_
              cases hq8
              exact X_cut ⟨_, rfl, rfl⟩ (weakA [some 0, some 1, some 2, some 4, some 5, some 6])
            · try refine sA ?_
              refine Bs_if hq8 (fun hq8 hc17 => ?_) (fun hq8 hc17 => ?_)
              · try refine sA ?_
                obtain ⟨c109, hr18, hq8⟩ := bind_ok hq8
                refine Cl_sA (w_spec_l12Timer hr18) ?_
                try refine sA ?_
                cases hq8
                exact X_cut ⟨_, rfl, rfl⟩ (weakA [some 0, some 1, some 2, some 4, some 5, some 8])
              · try refine sA ?_
                refine Bs_if hq8 (fun hq8 hc19 => ?_) (fun hq8 hc19 => ?_)
                · try refine sA ?_
                  refine Bs_if hq8 (fun hq8 hc20 => ?_) (fun hq8 hc20 => ?_)
                  · try refine sA ?_
                    cases hq8
                    try dsimp only at h
                    have he := Option.some.inj h
                    subst he
                    exact endsA ⟨[(4, (.pb 4 0)), (5, (.lf false (.sc (.bool false))))], [(0, some (false, .arr true 1 (a0.Signals.map eS))), (1, some (false, .arr true 1 (a0.Timers.map eS))), (2, none), (3, none), (4, some (true, .box [(.lf false (.sc (.int .i64 c106.Status))), (.lf false (.sc (.int .i64 c106.Next))), (.lf false (.sc (.bool c106.Cancel))), (.lf false (.sc (.int .i64 c106.Done))), (.os 2 1 0 c106.Signals.length c106.Signals.length false), (.os 3 1 0 c106.Timers.length c106.Timers.length false)]))], 5, 89⟩ [some 0, some 1, some 5, some 6, some 4]
                  · try refine sA ?_
                    cases hq8
                    exact X_cut ⟨_, rfl, rfl⟩ (weakA [some 0, some 1, some 2, some 4, some 5, some 6])
                · try refine sA ?_
                  cases hq8
                  exact X_cut ⟨_, rfl, rfl⟩ (weakA [some 0, some 1, some 2, some 4, some 5, none])
      · intro s2 hJ; obtain ⟨p110, e, rfl⟩ := hJ; subst e
        try dsimp only at h
        try refine sA ?_
        obtain ⟨c111, hr21, h⟩ := bind_ok h
        refine Cl_sA (w_spec_GoodState hr21) ?_
        try refine sA ?_
        have he := Option.some.inj h
        subst he
        exact endsA ⟨[(4, (.pb 4 0)), (5, (.lf false (.sc (.bool c111))))], [(0, some (false, .arr true 1 (a0.Signals.map eS))), (1, some (false, .arr true 1 (a0.Timers.map eS))), (2, none), (3, none), (4, some (true, .box [(.lf false (.sc (.int .i64 p110.b0_0))), (.lf false (.sc (.int .i64 (wI (c106.Next + 1))))), (.lf false (.sc (.bool p110.b0_2))), (.lf false (.sc (.int .i64 p110.b0_3))), (.os 2 1 0 p110.c2.length p110.c2.length false), (.os 3 1 0 p110.c3.length p110.c3.length false)]))], 5, 89⟩ [some 0, some 1, some 4, some 5, some 3]
theorem w_spec_l12Fold_own {a0 : (List EventT)} {r : (StateT × Int)} (h : spec_l12Fold a0 = some r) : Fn Tryd.prog 69 [(.lf true (.sl (a0.map eEvent)))] [] 0 (.tu [(.ag [(.lf false (.sc (.int .i64 r.1.Status))), (.lf false (.sc (.int .i64 r.1.Next))), (.lf false (.sc (.bool r.1.Cancel))), (.lf false (.sc (.int .i64 r.1.Done))), (.os 0 1 0 r.1.Signals.length r.1.Signals.length false), (.os 1 1 0 r.1.Timers.length r.1.Timers.length false)]), (.lf false (.sc (.int .i64 r.2)))]) [(0, some (false, .arr false 1 (r.1.Signals.map eS))), (1, some (false, .arr false 1 (r.1.Timers.map eS)))] 3 := by
  unfold spec_l12Fold at h
  refine fn_code tab_ok mixed [(1000, [(0, 0), (2, 0)]), (1001, [(0, 0), (2, 0), (4, 0)]), (1002, [(0, 0), (2, 0), (4, 0), (10, 0), (11, 0), (12, 0)]), (1003, [(0, 0), (2, 0), (4, 0), (10, 0), (11, 0), (12, 0), (13, 0)]), (1004, [(0, 0), (2, 0), (4, 0), (5, 0), (6, 0), (10, 0), (11, 0), (12, 0)]), (1005, [(0, 0), (2, 0), (4, 0), (5, 0), (7, 0), (8, 0), (10, 0), (11, 0), (12, 0)]), (1006, [(0, 0), (2, 0), (4, 0), (5, 0), (7, 0), (10, 0), (11, 0), (12, 0), (24, 0)]), (1007, [(2, 0), (3, 0)]), (1008, [(0, 0), (2, 0), (4, 0), (10, 0), (11, 0), (12, 0)]), (1009, [(0, 0), (2, 0), (4, 0), (10, 0), (11, 0), (12, 0)]), (1010, [(2, 0), (3, 0)])] Tryd.func69 rfl rfl (by simp [Tryd.f69]) (by kernel_rfl) ?_
  simp only [Tryd.f69]
  refine sA ?_
  obtain ⟨c97, hr1, h⟩ := bind_ok h
  refine Cl_sA (w_spec_NewState hr1) ?_
  try refine sA ?_
  obtain ⟨y101, hl2, h⟩ := bind_ok h
  refine W_loopP (fun g98 : spec_l12Fold_G1 => ⟨[(0, (.lf true (.sl (a0.map eEvent)))), (2, (.pb 0 0)), (4, (.pb 1 0)), (10, (.lf true (.sl (a0.map eEvent)))), (11, (.lf false (.sc (.int .i64 ((a0.length : Nat) : Int))))), (12, (.lf false (.sc (.int .i64 g98.t12))))], [(0, some (true, .box [(.lf false (.sc (.int .i64 0))), (.lf false (.sc (.int .i64 0))), (.lf false (.sc (.bool false))), (.lf false (.sc (.int .i64 0))), .nl, .nl])), (1, some (true, .box [(.lf false (.sc (.int .i64 g98.b1_0))), (.lf false (.sc (.int .i64 g98.b1_1))), (.lf false (.sc (.bool g98.b1_2))), (.lf false (.sc (.int .i64 g98.b1_3))), (.os 2 1 0 g98.b1_4.length g98.b1_4.length false), (.os 3 1 0 g98.b1_5.length g98.b1_5.length false)])), (2, some (false, .arr false 1 (g98.b1_4.map eS))), (3, some (false, .arr false 1 (g98.b1_5.map eS)))], 4, 32⟩) (spec_l12Fold_L1 a0) _ _ hl2 (weakA [some 0, some 2, none, none]) ?_
  · intro n1 g98 z1 hs1 hk1
    unfold spec_l12Fold_L1 at hs1
    try dsimp only at hs1
    refine sA ?_
    refine Bs_if hs1 (fun hs1 hc3 => ?_) (fun hs1 hc3 => ?_)
    · try refine sA ?_
      obtain ⟨hp4, hs1⟩ := guard_some hs1
      have hn4 : g98.t12.toNat < a0.length := by first | omega | (simp only [List.length_set, List.length_append, List.length_replicate, List.length_map]; omega)
      try refine sA ?_
      try refine andA ?_
      obtain ⟨c100, hr5, hs1⟩ := bind_ok hs1
      cases hb : c100.2
      · refine Cl_hA [2, 3] (w_spec_l12Apply_no hr5) ?_
        try refine sA ?_
        refine Bs_if hs1 (fun hs1 hc6 => ?_) (fun hs1 hc6 => ?_)
        · try refine sA ?_
          cases hs1
          cases hk1
          try dsimp only at h
          try refine sA ?_
          have he := Option.some.inj h
          subst he
          exact endsA ⟨[(2, (.pb 2 0)), (3, (.lf false (.sc (.int .i64 g98.t12))))], [(0, some (false, .arr false 1 (g98.b1_4.map eS))), (1, some (false, .arr false 1 (g98.b1_5.map eS))), (2, some (true, .box [(.lf false (.sc (.int .i64 g98.b1_0))), (.lf false (.sc (.int .i64 g98.b1_1))), (.lf false (.sc (.bool g98.b1_2))), (.lf false (.sc (.int .i64 g98.b1_3))), (.os 0 1 0 g98.b1_4.length g98.b1_4.length false), (.os 1 1 0 g98.b1_5.length g98.b1_5.length false)]))], 3, 32⟩ [some 2, some 3, some 0]
        · rw [hb] at hc6; exact absurd hc6 (by simp)
      · refine Cl_sA (w_spec_l12Apply_t hr5 hb) ?_
        try refine sA ?_
        refine Bs_if hs1 (fun hs1 hc6 => ?_) (fun hs1 hc6 => ?_)
        · rw [hb] at hc6; exact absurd hc6 (by simp)
        · try refine sA ?_
          cases hs1
          exact X_backP hk1 (weakA [some 0, some 1, some 5, some 6])
    · try refine sA ?_
      cases hs1
      cases hk1
      try dsimp only at h
      try refine sA ?_
      have he := Option.some.inj h
      subst he
      exact endsA ⟨[(2, (.pb 2 0)), (3, (.lf false (.sc (.int .i64 ((a0.length : Nat) : Int)))))], [(0, some (false, .arr false 1 (g98.b1_4.map eS))), (1, some (false, .arr false 1 (g98.b1_5.map eS))), (2, some (true, .box [(.lf false (.sc (.int .i64 g98.b1_0))), (.lf false (.sc (.int .i64 g98.b1_1))), (.lf false (.sc (.bool g98.b1_2))), (.lf false (.sc (.int .i64 g98.b1_3))), (.os 0 1 0 g98.b1_4.length g98.b1_4.length false), (.os 1 1 0 g98.b1_5.length g98.b1_5.length false)]))], 3, 32⟩ [some 2, some 3, some 0]
theorem w_spec_l1Cur_runState_o {a0 : l1CurT} {r : (StateT × l1CurT)} (h : spec_l1Cur_runState_o a0 = some r) : Fn Tryd.prog 71 [(.pb 0 0)] [(0, some (false, .box [(.lf true (.sl (a0.code.map eU8))), (.lf false (.sc (.int .i64 a0.at_))), (.lf false (.sc (.int .u64 a0.seed)))]))] 1 (.ag [(.lf false (.sc (.int .i64 r.1.Status))), (.lf false (.sc (.int .i64 r.1.Next))), (.lf false (.sc (.bool r.1.Cancel))), (.lf false (.sc (.int .i64 r.1.Done))), (.os 1 1 0 r.1.Signals.length r.1.Signals.length false), (.os 2 1 0 r.1.Timers.length r.1.Timers.length false)]) [(0, some (false, .box [(.lf true (.sl (r.2.code.map eU8))), (.lf false (.sc (.int .i64 r.2.at_))), (.lf false (.sc (.int .u64 r.2.seed)))])), (1, some (false, .arr false 1 (r.1.Signals.map eS))), (2, some (false, .arr false 1 (r.1.Timers.map eS)))] 4 := by
  unfold spec_l1Cur_runState_o at h
  refine fn_code tab_ok mixed [(6, [(1, 3), (1, 4), (1, 5)]), (1000, [(0, 0), (2, 0)]), (1001, [(0, 0), (2, 0), (3, 0)]), (1002, [(0, 0), (2, 0), (3, 0), (12, 0)]), (1003, [(0, 0), (2, 0), (3, 0), (12, 0), (13, 0)]), (1004, [(2, 0), (3, 0)]), (1005, [(0, 0), (2, 0), (3, 0), (12, 0), (19, 0)]), (1006, [(2, 0), (3, 0)]), (1007, [(0, 0), (2, 0), (3, 0), (29, 0)]), (1008, [(2, 0), (3, 0)]), (1009, [(2, 0)])] Tryd.func71 rfl rfl (by simp [Tryd.f71]) (by kernel_rfl) ?_
  simp only [Tryd.f71]
  refine sA ?_
  obtain ⟨c96, hr1, h⟩ := bind_ok h
  refine Cl_hA [0] (w_spec_l1Cur_history_o hr1) ?_
  try refine sA ?_
  obtain ⟨c112, hr2, h⟩ := bind_ok h
  refine Cl_sA (w_spec_l12Fold_own hr2) ?_
  try refine sA ?_
  obtain ⟨c113, hr3, h⟩ := bind_ok h
  refine Cl_hA [0] (w_spec_l1Cur_pick_o hr3) ?_
  try refine sA ?_
  refine Bs_if h (fun h hc4 => ?_) (fun h hc4 => ?_)
  · try refine sA ?_
    obtain ⟨c114, hr5, h⟩ := bind_ok h
    refine Cl_hA [0, 7] (w_spec_l1Cur_among_ow hr5) ?_
    try refine sA ?_
    have he := Option.some.inj h
    subst he
    exact endsA ⟨[(2, (.pb 3 0))], [(0, some (false, .box [(.lf true (.sl (c114.2.code.map eU8))), (.lf false (.sc (.int .i64 c114.2.at_))), (.lf false (.sc (.int .u64 c114.2.seed)))])), (1, some (false, .arr false 1 (c112.1.Signals.map eS))), (2, some (false, .arr false 1 (c112.1.Timers.map eS))), (3, some (true, .box [(.lf false (.sc (.int .i64 c112.1.Status))), (.lf false (.sc (.int .i64 c114.1))), (.lf false (.sc (.bool c112.1.Cancel))), (.lf false (.sc (.int .i64 c112.1.Done))), (.os 1 1 0 c112.1.Signals.length c112.1.Signals.length false), (.os 2 1 0 c112.1.Timers.length c112.1.Timers.length false)]))], 4, 36⟩ [some 0, some 3, some 4, some 1]
  · try refine sA ?_
    refine Bs_if h (fun h hc6 => ?_) (fun h hc6 => ?_)
    · try refine sA ?_
      obtain ⟨c115, hr7, h⟩ := bind_ok h
      refine Cl_hA [0, 7] (w_spec_l1Cur_of_ow hr7) ?_
      try refine sA ?_
      obtain ⟨hp8, h⟩ := guard_some h
      try refine sA ?_
      try refine andA ?_
      have he := Option.some.inj h
      subst he
      exact endsA ⟨[(2, (.pb 3 0))], [(0, some (false, .box [(.lf true (.sl (c115.2.code.map eU8))), (.lf false (.sc (.int .i64 c115.2.at_))), (.lf false (.sc (.int .u64 c115.2.seed)))])), (1, some (false, .arr false 1 ((c112.1.Signals ++ ([c115.1])).map eS))), (2, some (false, .arr false 1 (c112.1.Timers.map eS))), (3, some (true, .box [(.lf false (.sc (.int .i64 c112.1.Status))), (.lf false (.sc (.int .i64 c112.1.Next))), (.lf false (.sc (.bool c112.1.Cancel))), (.lf false (.sc (.int .i64 c112.1.Done))), (.os 1 1 0 ((c112.1.Signals ++ ([c115.1])).length) ((c112.1.Signals ++ ([c115.1])).length) false), (.os 2 1 0 c112.1.Timers.length c112.1.Timers.length false)]))], 4, 36⟩ [some 0, some 9, some 4, some 1]
    · try refine sA ?_
      refine Bs_if h (fun h hc9 => ?_) (fun h hc9 => ?_)
      · try refine sA ?_
        obtain ⟨c116, hr10, h⟩ := bind_ok h
        refine Cl_hA [0] (w_spec_l1Cur_pick_o hr10) ?_
        try refine sA ?_
        have he := Option.some.inj h
        subst he
        exact endsA ⟨[(2, (.pb 3 0))], [(0, some (false, .box [(.lf true (.sl (c116.2.code.map eU8))), (.lf false (.sc (.int .i64 c116.2.at_))), (.lf false (.sc (.int .u64 c116.2.seed)))])), (1, some (false, .arr false 1 (c112.1.Signals.map eS))), (2, some (false, .arr false 1 (c112.1.Timers.map eS))), (3, some (true, .box [(.lf false (.sc (.int .i64 (wI (c116.1 - 1))))), (.lf false (.sc (.int .i64 c112.1.Next))), (.lf false (.sc (.bool c112.1.Cancel))), (.lf false (.sc (.int .i64 c112.1.Done))), (.os 1 1 0 c112.1.Signals.length c112.1.Signals.length false), (.os 2 1 0 c112.1.Timers.length c112.1.Timers.length false)]))], 4, 36⟩ [some 0, some 3, some 4, some 1]
      · try refine sA ?_
        have he := Option.some.inj h
        subst he
        exact endsA ⟨[(2, (.pb 3 0))], [(0, some (false, .box [(.lf true (.sl (c113.2.code.map eU8))), (.lf false (.sc (.int .i64 c113.2.at_))), (.lf false (.sc (.int .u64 c113.2.seed)))])), (1, some (false, .arr false 1 (c112.1.Signals.map eS))), (2, some (false, .arr false 1 (c112.1.Timers.map eS))), (3, some (true, .box [(.lf false (.sc (.int .i64 c112.1.Status))), (.lf false (.sc (.int .i64 c112.1.Next))), (.lf false (.sc (.bool c112.1.Cancel))), (.lf false (.sc (.int .i64 c112.1.Done))), (.os 1 1 0 c112.1.Signals.length c112.1.Signals.length false), (.os 2 1 0 c112.1.Timers.length c112.1.Timers.length false)]))], 4, 36⟩ [some 0, some 3, some 4, some 1]
theorem w_spec_DrawApplyEvent {a0 : (List Int)} {r : (StateT × EventT)} (h : spec_DrawApplyEvent a0 = some r) : Fn Tryd.prog 27 [(.lf true (.sl (a0.map eU8)))] [] 0 (.tu [(.ag [(.lf false (.sc (.int .i64 r.1.Status))), (.lf false (.sc (.int .i64 r.1.Next))), (.lf false (.sc (.bool r.1.Cancel))), (.lf false (.sc (.int .i64 r.1.Done))), (.os 0 1 0 r.1.Signals.length r.1.Signals.length false), (.os 1 1 0 r.1.Timers.length r.1.Timers.length false)]), (.ag [(.lf false (.sc (.int .i64 r.2.Id))), (.lf false (.sc (.int .i64 r.2.Version))), (.lf false (.sc (.int .i64 r.2.Kind))), (.lf false (.sc (.string r.2.Name)))])]) [(0, some (false, .arr false 1 (r.1.Signals.map eS))), (1, some (false, .arr false 1 (r.1.Timers.map eS)))] 4 := by
  unfold spec_DrawApplyEvent at h
  refine fn_code tab_ok mixed [(3, [(1, 3), (1, 5), (1, 8), (1, 10)]), (6, [(1, 2)]), (1000, [(0, 0), (2, 0), (3, 0)]), (1001, [(2, 0), (3, 0), (4, 0)]), (1002, [(2, 0), (3, 0), (4, 0), (5, 0)]), (1003, [(2, 0), (3, 0), (4, 0), (5, 0), (6, 0)]), (1004, [(2, 0), (3, 0), (4, 0), (5, 0), (6, 0), (23, 0)]), (1005, [(2, 0), (3, 0), (5, 0), (6, 0)]), (1006, [(2, 0), (3, 0)])] Tryd.func27 rfl rfl (by simp [Tryd.f27]) (by kernel_rfl) ?_
  simp only [Tryd.f27]
  refine sA ?_
  obtain ⟨c117, hr1, h⟩ := bind_ok h
  refine Cl_hA [2] (w_spec_l1Cur_runState_o hr1) ?_
  try refine sA ?_
  obtain ⟨c118, hr2, h⟩ := bind_ok h
  refine Cl_hA [2] (w_spec_l1Cur_pick_o hr2) ?_
  try refine sA ?_
  obtain ⟨c119, hr3, h⟩ := bind_ok h
  refine Cl_hA [2] (w_spec_l1Cur_pick_o hr3) ?_
  try refine sA ?_
  obtain ⟨c120, hr4, h⟩ := bind_ok h
  refine Cl_hA [2] (w_spec_l1Cur_eventName_o hr4) ?_
  try refine sA ?_
  obtain ⟨c121, hr5, h⟩ := bind_ok h
  refine Cl_hA [2] (w_spec_l1Cur_one_o hr5) ?_
  try refine sA ?_
  refine Bs_if h (fun h hc6 => ?_) (fun h hc6 => ?_)
  · try refine sA ?_
    obtain ⟨c122, hr7, h⟩ := bind_ok h
    refine Cl_hA [2] (w_spec_l1Cur_event_o hr7) ?_
    try refine sA ?_
    have he := Option.some.inj h
    subst he
    exact endsA ⟨[(2, (.pb 2 0)), (3, (.pb 3 0))], [(0, some (false, .arr false 1 (c117.1.Signals.map eS))), (1, some (false, .arr false 1 (c117.1.Timers.map eS))), (2, some (true, .box [(.lf false (.sc (.int .i64 c117.1.Status))), (.lf false (.sc (.int .i64 c117.1.Next))), (.lf false (.sc (.bool c117.1.Cancel))), (.lf false (.sc (.int .i64 c117.1.Done))), (.os 0 1 0 c117.1.Signals.length c117.1.Signals.length false), (.os 1 1 0 c117.1.Timers.length c117.1.Timers.length false)])), (3, some (true, .box [(.lf false (.sc (.int .i64 c122.1.Id))), (.lf false (.sc (.int .i64 c122.1.Version))), (.lf false (.sc (.int .i64 c122.1.Kind))), (.lf false (.sc (.string c122.1.Name)))]))], 4, 28⟩ [some 3, some 4, some 0, some 1]
  · try refine sA ?_
    have he := Option.some.inj h
    subst he
    exact endsA ⟨[(2, (.pb 2 0)), (3, (.pb 3 0))], [(0, some (false, .arr false 1 (c117.1.Signals.map eS))), (1, some (false, .arr false 1 (c117.1.Timers.map eS))), (2, some (true, .box [(.lf false (.sc (.int .i64 c117.1.Status))), (.lf false (.sc (.int .i64 c117.1.Next))), (.lf false (.sc (.bool c117.1.Cancel))), (.lf false (.sc (.int .i64 c117.1.Done))), (.os 0 1 0 c117.1.Signals.length c117.1.Signals.length false), (.os 1 1 0 c117.1.Timers.length c117.1.Timers.length false)])), (3, some (true, .box [(.lf false (.sc (.int .i64 c117.1.Next))), (.lf false (.sc (.int .i64 c118.1))), (.lf false (.sc (.int .i64 (wI (1 + c119.1))))), (.lf false (.sc (.string c120.1)))]))], 4, 28⟩ [some 3, some 4, some 0, some 1]
theorem w_impl_in {a0 : Int} {a1 : Int} {a2 : Int} {r : Bool} (h : impl_in a0 a1 a2 = some r) : Fn Tryd.prog 80 [(.lf false (.sc (.int .i64 a0))), (.lf false (.sc (.int .i64 a1))), (.lf false (.sc (.int .i64 a2)))] [] 0 (.lf false (.sc (.bool r))) [] 0 := by
  unfold impl_in at h
  refine fn_code tab_ok mixed [] Tryd.func80 rfl rfl (by simp [Tryd.f80]) (by kernel_rfl) ?_
  simp only [Tryd.f80]
  refine sA ?_
  refine Sp_if h (fun h hc1 => ?_) (fun h hc1 => ?_)
  · try refine sA ?_
    have he := Option.some.inj h
    subst he
    exact endsA ⟨[(6, (.lf false (.sc (.bool (decide (a0 ≤ a2))))))], [], 0, 15⟩ []
  · try refine sA ?_
    have he := Option.some.inj h
    subst he
    exact endsA ⟨[(6, (.lf false (.sc (.bool false))))], [], 0, 15⟩ []
theorem w_strings_Trim {a0 a1 : ByteArray} {r : ByteArray} (h : strings_Trim a0 a1 = some r) : Fn Tryd.prog 129 [.lf false (.sc (.string a0)), .lf false (.sc (.string a1))] [] 0 (.lf false (.sc (.string r))) [] 0 := by
  unfold strings_Trim at h
  obtain ⟨⟨hp1, hp2, hp3⟩, h⟩ := guard_some h
  have he := Option.some.inj h; subst he
  exact fn_str2 (Ent.of Tryd.func129 rfl (by simp [Tryd.f129])) fun w => Go.Proofs.Any.strings_Trim_laid Go.Proofs.Tryd.lays160 (by kernel_rfl) a0 a1 w hp1 hp2 (ascii_of_all hp3)
theorem w_impl_goodName {a0 : ByteArray} {r : Bool} (h : impl_goodName a0 = some r) : Fn Tryd.prog 88 [(.lf false (.sc (.string a0)))] [] 0 (.lf false (.sc (.bool r))) [] 0 := by
  unfold impl_goodName at h
  refine fn_code tab_ok mixed [] Tryd.func88 rfl rfl (by simp [Tryd.f88]) (by kernel_rfl) ?_
  simp only [Tryd.f88]
  refine sA ?_
  refine Sp_if h (fun h hc1 => ?_) (fun h hc1 => ?_)
  · try refine sA ?_
    obtain ⟨c129, hr2, h⟩ := bind_ok h
    refine Cl_sA (w_strings_Trim hr2) ?_
    try refine sA ?_
    have he := Option.some.inj h
    subst he
    exact endsA ⟨[(2, (.lf false (.sc (.bool (c129.toList == ByteArray.empty.toList)))))], [], 0, 11⟩ []
  · try refine sA ?_
    have he := Option.some.inj h
    subst he
    exact endsA ⟨[(2, (.lf false (.sc (.bool false))))], [], 0, 11⟩ []
theorem w_impl_namesOk_c1 {a0 : ByteArray} {r : Bool} (h : impl_namesOk_c1 a0 = some r) : Fn Tryd.prog 127 [(.lf false (.sc (.string a0)))] [] 0 (.lf false (.sc (.bool r))) [] 0 := by
  unfold impl_namesOk_c1 at h
  refine fn_code tab_ok mixed [] Tryd.func127 rfl rfl (by simp [Tryd.f127]) (by kernel_rfl) ?_
  simp only [Tryd.f127]
  refine sA ?_
  obtain ⟨c130, hr1, h⟩ := bind_ok h
  refine Cl_sA (w_impl_goodName hr1) ?_
  try refine sA ?_
  have he := Option.some.inj h
  subst he
  exact endsA ⟨[(2, (.lf false (.sc (.bool (!c130)))))], [], 0, 6⟩ []
theorem w_slices_IndexFunc_string_impl_namesOk_c1 {a0 : (List ByteArray)} {r : Int} (h : slices_IndexFunc_string_impl_namesOk_c1 a0 = some r) : Fn Tryd.prog 150 [(.lf true (.sl (a0.map eS))), (.fn 127 [])] [] 0 (.lf false (.sc (.int .i64 r))) [] 0 := by
  unfold slices_IndexFunc_string_impl_namesOk_c1 at h
  refine fn_code tab_ok mixed [(1000, [(0, 0), (1, 0)]), (1001, [(0, 0), (1, 0), (7, 0), (8, 0)]), (1002, [(0, 0), (1, 0), (7, 0), (8, 0), (9, 0)]), (1003, [(0, 0), (1, 0), (5, 0), (7, 0), (8, 0)]), (1004, [(0, 0), (1, 0), (5, 0), (7, 0), (8, 0), (16, 0)]), (1005, [(4, 0)]), (1006, [(0, 0), (1, 0), (7, 0), (8, 0)]), (1007, [(4, 0)])] Tryd.func150 rfl rfl (by simp [Tryd.f150]) (by kernel_rfl) ?_
  simp only [Tryd.f150]
  refine sA ?_
  obtain ⟨y133, hl1, h⟩ := bind_ok h
  refine W_loopP (fun g128 : slices_IndexFunc_string_impl_namesOk_c1_G1 => ⟨[(0, (.lf true (.sl (a0.map eS)))), (1, (.fn 127 [])), (7, (.lf false (.sc (.int .i64 ((a0.length : Nat) : Int))))), (8, (.lf false (.sc (.int .i64 g128.t8))))], [], 0, 19⟩) (slices_IndexFunc_string_impl_namesOk_c1_L1 a0) _ _ hl1 (weakA []) ?_
  · intro n1 g128 z1 hs1 hk1
    unfold slices_IndexFunc_string_impl_namesOk_c1_L1 at hs1
    try dsimp only at hs1
    refine sA ?_
    refine Bs_if hs1 (fun hs1 hc2 => ?_) (fun hs1 hc2 => ?_)
    · try refine sA ?_
      obtain ⟨hp3, hs1⟩ := guard_some hs1
      have hn3 : g128.t8.toNat < a0.length := by first | omega | (simp only [List.length_set, List.length_append, List.length_replicate, List.length_map]; omega)
      try refine sA ?_
      try refine andA ?_
      obtain ⟨c132, hr4, hs1⟩ := bind_ok hs1
      refine Cl_sA (w_impl_namesOk_c1 hr4) ?_
      try refine sA ?_
      refine Bs_if hs1 (fun hs1 hc5 => ?_) (fun hs1 hc5 => ?_)
      · try refine sA ?_
        cases hs1
        cases hk1
        try dsimp only at h
        try refine sA ?_
        have he := Option.some.inj h
        subst he
        exact endsA ⟨[(4, (.lf false (.sc (.int .i64 g128.t8))))], [], 0, 19⟩ []
      · try refine sA ?_
        cases hs1
        exact X_backP hk1 (weakA [])
    · try refine sA ?_
      cases hs1
      cases hk1
      try dsimp only at h
      try refine sA ?_
      have he := Option.some.inj h
      subst he
      exact endsA ⟨[(4, (.lf false (.sc (.int .i64 (-1)))))], [], 0, 19⟩ []
theorem w_slices_ContainsFunc_string_impl_namesOk_c1 {a0 : (List ByteArray)} {r : Bool} (h : slices_ContainsFunc_string_impl_namesOk_c1 a0 = some r) : Fn Tryd.prog 126 [(.lf true (.sl (a0.map eS))), (.fn 127 [])] [] 0 (.lf false (.sc (.bool r))) [] 0 := by
  unfold slices_ContainsFunc_string_impl_namesOk_c1 at h
  refine fn_code tab_ok mixed [] Tryd.func126 rfl rfl (by simp [Tryd.f126]) (by kernel_rfl) ?_
  simp only [Tryd.f126]
  refine sA ?_
  obtain ⟨c136, hr1, h⟩ := bind_ok h
  refine Cl_sA (w_slices_IndexFunc_string_impl_namesOk_c1 hr1) ?_
  try refine sA ?_
  have he := Option.some.inj h
  subst he
  exact endsA ⟨[(4, (.lf false (.sc (.bool (decide (c136 ≥ 0))))))], [], 0, 9⟩ []
theorem w_impl_namesOk {a0 : (List ByteArray)} {a1 : Int} {r : Bool} (h : impl_namesOk a0 a1 = some r) : Fn Tryd.prog 81 [(.lf true (.sl (a0.map eS))), (.lf false (.sc (.int .i64 a1)))] [] 0 (.lf false (.sc (.bool r))) [] 0 := by
  unfold impl_namesOk at h
  refine fn_code tab_ok mixed [] Tryd.func81 rfl rfl (by simp [Tryd.f81]) (by kernel_rfl) ?_
  simp only [Tryd.f81]
  refine sA ?_
  refine Sp_if h (fun h hc1 => ?_) (fun h hc1 => ?_)
  · try refine sA ?_
    obtain ⟨c137, hr2, h⟩ := bind_ok h
    refine Cl_sA (w_slices_ContainsFunc_string_impl_namesOk_c1 hr2) ?_
    try refine sA ?_
    have he := Option.some.inj h
    subst he
    exact endsA ⟨[(4, (.lf false (.sc (.bool (!c137)))))], [], 0, 14⟩ []
  · try refine sA ?_
    have he := Option.some.inj h
    subst he
    exact endsA ⟨[(4, (.lf false (.sc (.bool false))))], [], 0, 14⟩ []
theorem w_slices_Index_string {a0 : (List ByteArray)} {a1 : ByteArray} {r : Int} (h : slices_Index_string a0 a1 = some r) : Fn Tryd.prog 146 [(.lf true (.sl (a0.map eS))), (.lf false (.sc (.string a1)))] [] 0 (.lf false (.sc (.int .i64 r))) [] 0 := by
  unfold slices_Index_string at h
  refine fn_code tab_ok mixed [(1000, [(0, 0), (1, 0)]), (1001, [(0, 0), (1, 0), (7, 0), (8, 0)]), (1002, [(0, 0), (1, 0), (7, 0), (8, 0), (9, 0)]), (1003, [(0, 0), (1, 0), (5, 0), (7, 0), (8, 0)]), (1004, [(0, 0), (1, 0), (5, 0), (7, 0), (8, 0), (16, 0)]), (1005, [(4, 0)]), (1006, [(0, 0), (1, 0), (7, 0), (8, 0)]), (1007, [(4, 0)])] Tryd.func146 rfl rfl (by simp [Tryd.f146]) (by kernel_rfl) ?_
  simp only [Tryd.f146]
  refine sA ?_
  obtain ⟨y141, hl1, h⟩ := bind_ok h
  refine W_loopP (fun g140 : slices_Index_string_G1 => ⟨[(0, (.lf true (.sl (a0.map eS)))), (1, (.lf false (.sc (.string a1)))), (7, (.lf false (.sc (.int .i64 ((a0.length : Nat) : Int))))), (8, (.lf false (.sc (.int .i64 g140.t8))))], [], 0, 19⟩) (slices_Index_string_L1 a0 a1) _ _ hl1 (weakA []) ?_
  · intro n1 g140 z1 hs1 hk1
    unfold slices_Index_string_L1 at hs1
    try dsimp only at hs1
    refine sA ?_
    refine Bs_if hs1 (fun hs1 hc2 => ?_) (fun hs1 hc2 => ?_)
    · try refine sA ?_
      obtain ⟨hp3, hs1⟩ := guard_some hs1
      have hn3 : g140.t8.toNat < a0.length := by first | omega | (simp only [List.length_set, List.length_append, List.length_replicate, List.length_map]; omega)
      try refine sA ?_
      try refine andA ?_
      refine Bs_if hs1 (fun hs1 hc4 => ?_) (fun hs1 hc4 => ?_)
      · try refine sA ?_
        cases hs1
        cases hk1
        try dsimp only at h
        try refine sA ?_
        have he := Option.some.inj h
        subst he
        exact endsA ⟨[(4, (.lf false (.sc (.int .i64 g140.t8))))], [], 0, 19⟩ []
      · try refine sA ?_
        cases hs1
        exact X_backP hk1 (weakA [])
    · try refine sA ?_
      cases hs1
      cases hk1
      try dsimp only at h
      try refine sA ?_
      have he := Option.some.inj h
      subst he
      exact endsA ⟨[(4, (.lf false (.sc (.int .i64 (-1)))))], [], 0, 19⟩ []
theorem w_slices_Contains_string {a0 : (List ByteArray)} {a1 : ByteArray} {r : Bool} (h : slices_Contains_string a0 a1 = some r) : Fn Tryd.prog 121 [(.lf true (.sl (a0.map eS))), (.lf false (.sc (.string a1)))] [] 0 (.lf false (.sc (.bool r))) [] 0 := by
  unfold slices_Contains_string at h
  refine fn_code tab_ok mixed [] Tryd.func121 rfl rfl (by simp [Tryd.f121]) (by kernel_rfl) ?_
  simp only [Tryd.f121]
  refine sA ?_
  obtain ⟨c144, hr1, h⟩ := bind_ok h
  refine Cl_sA (w_slices_Index_string hr1) ?_
  try refine sA ?_
  have he := Option.some.inj h
  subst he
  exact endsA ⟨[(4, (.lf false (.sc (.bool (decide (c144 ≥ 0))))))], [], 0, 9⟩ []
theorem w_impl_distinct {a0 : (List ByteArray)} {r : Bool} (h : impl_distinct a0 = some r) : Fn Tryd.prog 82 [(.lf true (.sl (a0.map eS)))] [] 0 (.lf false (.sc (.bool r))) [] 0 := by
  unfold impl_distinct at h
  refine fn_code tab_ok mixed [(1000, [(0, 0)]), (1001, [(0, 0), (5, 0), (6, 0), (7, 0)]), (1002, [(0, 0), (5, 0), (6, 0), (7, 0), (8, 0)]), (1003, [(0, 0), (3, 0), (4, 0), (5, 0), (6, 0), (7, 0)]), (1004, [(0, 0), (5, 0), (6, 0), (7, 0), (16, 0)]), (1005, [(2, 0)]), (1006, [(0, 0), (5, 0), (6, 0), (7, 0)]), (1007, [(2, 0)])] Tryd.func82 rfl rfl (by simp [Tryd.f82]) (by kernel_rfl) ?_
  simp only [Tryd.f82]
  refine sA ?_
  obtain ⟨y147, hl1, h⟩ := bind_ok h
  refine W_loopP (fun g139 : impl_distinct_G1 => ⟨[(0, (.lf true (.sl (a0.map eS)))), (5, (.lf true (.sl (a0.map eS)))), (6, (.lf false (.sc (.int .i64 ((a0.length : Nat) : Int))))), (7, (.lf false (.sc (.int .i64 g139.t7))))], [], 0, 18⟩) (impl_distinct_L1 a0) _ _ hl1 (weakA []) ?_
  · intro n1 g139 z1 hs1 hk1
    unfold impl_distinct_L1 at hs1
    try dsimp only at hs1
    refine sA ?_
    refine Bs_if hs1 (fun hs1 hc2 => ?_) (fun hs1 hc2 => ?_)
    · try refine sA ?_
      obtain ⟨hp3, hs1⟩ := guard_some hs1
      have hn3 : g139.t7.toNat < a0.length := by first | omega | (simp only [List.length_set, List.length_append, List.length_replicate, List.length_map]; omega)
      try refine sA ?_
      try refine andA ?_
      obtain ⟨hp4, hs1⟩ := guard_some hs1
      try refine sA ?_
      try refine andA ?_
      obtain ⟨c146, hr5, hs1⟩ := bind_ok hs1
      refine Cl_sA (w_slices_Contains_string hr5) ?_
      try refine sA ?_
      refine Bs_if hs1 (fun hs1 hc6 => ?_) (fun hs1 hc6 => ?_)
      · try refine sA ?_
        cases hs1
        cases hk1
        try dsimp only at h
        try refine sA ?_
        have he := Option.some.inj h
        subst he
        exact endsA ⟨[(2, (.lf false (.sc (.bool false))))], [], 0, 18⟩ []
      · try refine sA ?_
        cases hs1
        exact X_backP hk1 (weakA [])
    · try refine sA ?_
      cases hs1
      cases hk1
      try dsimp only at h
      try refine sA ?_
      have he := Option.some.inj h
      subst he
      exact endsA ⟨[(2, (.lf false (.sc (.bool true))))], [], 0, 18⟩ []
theorem w_cmp_isNaN_string {a0 : ByteArray} {r : Bool} (h : cmp_isNaN_string a0 = some r) : Fn Tryd.prog 138 [(.lf false (.sc (.string a0)))] [] 0 (.lf false (.sc (.bool r))) [] 0 := by
  unfold cmp_isNaN_string at h
  refine fn_code tab_ok mixed [] Tryd.func138 rfl rfl (by simp [Tryd.f138]) (by kernel_rfl) ?_
  simp only [Tryd.f138]
  refine sA ?_
  have he := Option.some.inj h
  subst he
  exact endsA ⟨[(2, (.lf false (.sc (.bool (!(a0.toList == a0.toList))))))], [], 0, 6⟩ []
theorem w_cmp_Less_string {a0 : ByteArray} {a1 : ByteArray} {r : Bool} (h : cmp_Less_string a0 a1 = some r) : Fn Tryd.prog 128 [(.lf false (.sc (.string a0))), (.lf false (.sc (.string a1)))] [] 0 (.lf false (.sc (.bool r))) [] 0 := by
  unfold cmp_Less_string at h
  refine fn_code tab_ok mixed [] Tryd.func128 rfl rfl (by simp [Tryd.f128]) (by kernel_rfl) ?_
  simp only [Tryd.f128]
  refine sA ?_
  obtain ⟨c153, hr1, h⟩ := bind_ok h
  refine Cl_sA (w_cmp_isNaN_string hr1) ?_
  try refine sA ?_
  refine Sp_if h (fun h hc2 => ?_) (fun h hc2 => ?_)
  · try refine sA ?_
    obtain ⟨c154, hr3, h⟩ := bind_ok h
    refine Cl_sA (w_cmp_isNaN_string hr3) ?_
    try refine sA ?_
    refine Sp_if h (fun h hc4 => ?_) (fun h hc4 => ?_)
    · try refine sA ?_
      have he := Option.some.inj h
      subst he
      exact endsA ⟨[(4, (.lf false (.sc (.bool true))))], [], 0, 17⟩ []
    · try refine sA ?_
      have he := Option.some.inj h
      subst he
      exact endsA ⟨[(4, (.lf false (.sc (.bool (sLt a0 a1)))))], [], 0, 17⟩ []
  · try refine sA ?_
    have he := Option.some.inj h
    subst he
    exact endsA ⟨[(4, (.lf false (.sc (.bool (sLt a0 a1)))))], [], 0, 17⟩ []
theorem w_slices_IsSorted_string {a0 : (List ByteArray)} {r : Bool} (h : slices_IsSorted_string a0 = some r) : Fn Tryd.prog 83 [(.lf true (.sl (a0.map eS)))] [] 0 (.lf false (.sc (.bool r))) [] 0 := by
  unfold slices_IsSorted_string at h
  refine fn_code tab_ok mixed [(1000, [(0, 0)]), (1001, [(0, 0), (3, 0)]), (1002, [(0, 0), (3, 0), (8, 0)]), (1003, [(0, 0), (3, 0)]), (1004, [(0, 0), (3, 0), (20, 0)]), (1005, [(2, 0)]), (1006, [(2, 0)])] Tryd.func83 rfl rfl (by simp [Tryd.f83]) (by kernel_rfl) ?_
  simp only [Tryd.f83]
  refine sA ?_
  obtain ⟨y157, hl1, h⟩ := bind_ok h
  refine W_loopP (fun g152 : slices_IsSorted_string_G1 => ⟨[(0, (.lf true (.sl (a0.map eS)))), (3, (.lf false (.sc (.int .i64 g152.t3))))], [], 0, 21⟩) (slices_IsSorted_string_L1 a0) _ _ hl1 (weakA []) ?_
  · intro n1 g152 z1 hs1 hk1
    unfold slices_IsSorted_string_L1 at hs1
    try dsimp only at hs1
    refine sA ?_
    refine Bs_if hs1 (fun hs1 hc2 => ?_) (fun hs1 hc2 => ?_)
    · try refine sA ?_
      obtain ⟨hp3, hs1⟩ := guard_some hs1
      have hn3 : g152.t3.toNat < a0.length := by first | omega | (simp only [List.length_set, List.length_append, List.length_replicate, List.length_map]; omega)
      try refine sA ?_
      try refine andA ?_
      obtain ⟨hp4, hs1⟩ := guard_some hs1
      have hn4 : (wI (g152.t3 - 1)).toNat < a0.length := by first | omega | (simp only [List.length_set, List.length_append, List.length_replicate, List.length_map]; omega)
      try refine sA ?_
      try refine andA ?_
      obtain ⟨c156, hr5, hs1⟩ := bind_ok hs1
      refine Cl_sA (w_cmp_Less_string hr5) ?_
      try refine sA ?_
      refine Bs_if hs1 (fun hs1 hc6 => ?_) (fun hs1 hc6 => ?_)
      · try refine sA ?_
        cases hs1
        cases hk1
        try dsimp only at h
        try refine sA ?_
        have he := Option.some.inj h
        subst he
        exact endsA ⟨[(2, (.lf false (.sc (.bool false))))], [], 0, 21⟩ []
      · try refine sA ?_
        cases hs1
        exact X_backP hk1 (weakA [])
    · try refine sA ?_
      cases hs1
      cases hk1
      try dsimp only at h
      try refine sA ?_
      have he := Option.some.inj h
      subst he
      exact endsA ⟨[(2, (.lf false (.sc (.bool true))))], [], 0, 21⟩ []
theorem w_impl_GoodState {a0 : StateT} {r : Bool} (h : impl_GoodState a0 = some r) : Fn Tryd.prog 31 [(.ag [(.lf false (.sc (.int .i64 a0.Status))), (.lf false (.sc (.int .i64 a0.Next))), (.lf false (.sc (.bool a0.Cancel))), (.lf false (.sc (.int .i64 a0.Done))), (.lf true (.sl (a0.Signals.map eS))), (.lf true (.sl (a0.Timers.map eS)))])] [] 0 (.lf false (.sc (.bool r))) [] 0 := by
  unfold impl_GoodState at h
  refine fn_code tab_ok mixed [(1000, [(1, 0)]), (1001, [(1, 0), (18, 0)]), (1002, [(2, 0)]), (1003, [(1, 0), (46, 0)]), (1004, [(2, 0)]), (1005, [(1, 0), (49, 0)]), (1006, [(2, 0)]), (1007, [(2, 0)]), (4001, []), (4003, [])] Tryd.func31 rfl rfl (by simp [Tryd.f31]) (by kernel_rfl) ?_
  simp only [Tryd.f31]
  refine sA ?_
  obtain ⟨p127, hq1, h⟩ := bind_ok h
  refine Sq_cut (fun s2 => s2 = ⟨[(1, (.pb 0 0)), (18, (.lf false (.sc (.bool p127.t18))))], [(0, some (true, .box [(.lf false (.sc (.int .i64 a0.Status))), (.lf false (.sc (.int .i64 a0.Next))), (.lf false (.sc (.bool a0.Cancel))), (.lf false (.sc (.int .i64 a0.Done))), (.lf true (.sl (a0.Signals.map eS))), (.lf true (.sl (a0.Timers.map eS)))]))], 1, 78⟩) ?_ ?_
  · try refine sA ?_
    obtain ⟨c124, hr2, hq1⟩ := bind_ok hq1
    refine Cl_sA (w_impl_in hr2) ?_
    try refine sA ?_
    refine Sp_if hq1 (fun hq1 hc3 => ?_) (fun hq1 hc3 => ?_)
    · try refine sA ?_
      cases hq1
      exact X_cut rfl (weakA [some 0])
    · try refine sA ?_
      obtain ⟨c125, hr4, hq1⟩ := bind_ok hq1
      refine Cl_sA (w_impl_in hr4) ?_
      try refine sA ?_
      refine Sp_if hq1 (fun hq1 hc5 => ?_) (fun hq1 hc5 => ?_)
      · try refine sA ?_
        cases hq1
        exact X_cut rfl (weakA [some 0])
      · try refine sA ?_
        obtain ⟨c126, hr6, hq1⟩ := bind_ok hq1
        refine Cl_sA (w_impl_in hr6) ?_
        try refine sA ?_
        cases hq1
        exact X_cut rfl (weakA [some 0])
  · intro s2 hJ; subst hJ
    try dsimp only at h
    try refine sA ?_
    refine Bs_if h (fun h hc7 => ?_) (fun h hc7 => ?_)
    · try refine sA ?_
      have he := Option.some.inj h
      subst he
      exact endsA ⟨[(2, (.lf false (.sc (.bool false))))], [], 0, 78⟩ []
    · try refine sA ?_
      obtain ⟨p162, hq8, h⟩ := bind_ok h
      refine Sq_cut (fun s2 => s2 = ⟨[(1, (.pb 0 0)), (46, (.lf false (.sc (.bool p162.t46))))], [(0, some (true, .box [(.lf false (.sc (.int .i64 a0.Status))), (.lf false (.sc (.int .i64 a0.Next))), (.lf false (.sc (.bool a0.Cancel))), (.lf false (.sc (.int .i64 a0.Done))), (.lf true (.sl (a0.Signals.map eS))), (.lf true (.sl (a0.Timers.map eS)))]))], 1, 78⟩) ?_ ?_
      · try refine sA ?_
        obtain ⟨c138, hr9, hq8⟩ := bind_ok hq8
        refine Cl_sA (w_impl_namesOk hr9) ?_
        try refine sA ?_
        refine Sp_if hq8 (fun hq8 hc10 => ?_) (fun hq8 hc10 => ?_)
        · try refine sA ?_
          cases hq8
          exact X_cut rfl (weakA [some 0])
        · try refine sA ?_
          obtain ⟨c150, hr11, hq8⟩ := bind_ok hq8
          refine Cl_sA (w_impl_distinct hr11) ?_
          try refine sA ?_
          refine Sp_if hq8 (fun hq8 hc12 => ?_) (fun hq8 hc12 => ?_)
          · try refine sA ?_
            cases hq8
            exact X_cut rfl (weakA [some 0])
          · try refine sA ?_
            obtain ⟨c151, hr13, hq8⟩ := bind_ok hq8
            refine Cl_sA (w_impl_namesOk hr13) ?_
            try refine sA ?_
            refine Sp_if hq8 (fun hq8 hc14 => ?_) (fun hq8 hc14 => ?_)
            · try refine sA ?_
              cases hq8
              exact X_cut rfl (weakA [some 0])
            · try refine sA ?_
              obtain ⟨c160, hr15, hq8⟩ := bind_ok hq8
              refine Cl_sA (w_slices_IsSorted_string hr15) ?_
              try refine sA ?_
              refine Sp_if hq8 (fun hq8 hc16 => ?_) (fun hq8 hc16 => ?_)
              · try refine sA ?_
                cases hq8
                exact X_cut rfl (weakA [some 0])
              · try refine sA ?_
                obtain ⟨c161, hr17, hq8⟩ := bind_ok hq8
                refine Cl_sA (w_impl_distinct hr17) ?_
                try refine sA ?_
                cases hq8
                exact X_cut rfl (weakA [some 0])
      · intro s2 hJ; subst hJ
        try dsimp only at h
        try refine sA ?_
        refine Bs_if h (fun h hc18 => ?_) (fun h hc18 => ?_)
        · try refine sA ?_
          have he := Option.some.inj h
          subst he
          exact endsA ⟨[(2, (.lf false (.sc (.bool false))))], [], 0, 78⟩ []
        · try refine sA ?_
          refine Bs_if h (fun h hc19 => ?_) (fun h hc19 => ?_)
          · try refine sA ?_
            have he := Option.some.inj h
            subst he
            exact endsA ⟨[(2, (.lf false (.sc (.bool (decide (a0.Next > 1))))))], [], 0, 78⟩ []
          · try refine sA ?_
            refine Sp_if h (fun h hc20 => ?_) (fun h hc20 => ?_)
            · try refine sA ?_
              refine Sp_if h (fun h hc21 => ?_) (fun h hc21 => ?_)
              · try refine sA ?_
                refine Sp_if h (fun h hc22 => ?_) (fun h hc22 => ?_)
                · try refine sA ?_
                  refine Sp_if h (fun h hc23 => ?_) (fun h hc23 => ?_)
                  · try refine sA ?_
                    have he := Option.some.inj h
                    subst he
                    exact endsA ⟨[(2, (.lf false (.sc (.bool (((a0.Timers.length : Nat) : Int) == 0)))))], [], 0, 78⟩ []
                  · try refine sA ?_
                    have he := Option.some.inj h
                    subst he
                    exact endsA ⟨[(2, (.lf false (.sc (.bool false))))], [], 0, 78⟩ []
                · try refine sA ?_
                  have he := Option.some.inj h
                  subst he
                  exact endsA ⟨[(2, (.lf false (.sc (.bool false))))], [], 0, 78⟩ []
              · try refine sA ?_
                have he := Option.some.inj h
                subst he
                exact endsA ⟨[(2, (.lf false (.sc (.bool false))))], [], 0, 78⟩ []
            · try refine sA ?_
              have he := Option.some.inj h
              subst he
              exact endsA ⟨[(2, (.lf false (.sc (.bool false))))], [], 0, 78⟩ []
theorem w_impl_isVersion {a0 : Int} {r : Bool} (h : impl_isVersion a0 = some r) : Fn Tryd.prog 103 [(.lf false (.sc (.int .i64 a0)))] [] 0 (.lf false (.sc (.bool r))) [] 0 := by
  unfold impl_isVersion at h
  refine fn_code tab_ok mixed [] Tryd.func103 rfl rfl (by simp [Tryd.f103]) (by kernel_rfl) ?_
  simp only [Tryd.f103]
  refine sA ?_
  obtain ⟨c165, hr1, h⟩ := bind_ok h
  refine Cl_sA (w_impl_in hr1) ?_
  try refine sA ?_
  have he := Option.some.inj h
  subst he
  exact endsA ⟨[(2, (.lf false (.sc (.bool c165))))], [], 0, 5⟩ []
theorem w_impl_goodKind {a0 : Int} {r : Bool} (h : impl_goodKind a0 = some r) : Fn Tryd.prog 87 [(.lf false (.sc (.int .i64 a0)))] [] 0 (.lf false (.sc (.bool r))) [] 0 := by
  unfold impl_goodKind at h
  refine fn_code tab_ok mixed [] Tryd.func87 rfl rfl (by simp [Tryd.f87]) (by kernel_rfl) ?_
  simp only [Tryd.f87]
  refine sA ?_
  obtain ⟨c167, hr1, h⟩ := bind_ok h
  refine Cl_sA (w_impl_in hr1) ?_
  try refine sA ?_
  have he := Option.some.inj h
  subst he
  exact endsA ⟨[(2, (.lf false (.sc (.bool c167))))], [], 0, 5⟩ []
theorem w_impl_GoodEvent {a0 : EventT} {r : Bool} (h : impl_GoodEvent a0 = some r) : Fn Tryd.prog 76 [(.ag [(.lf false (.sc (.int .i64 a0.Id))), (.lf false (.sc (.int .i64 a0.Version))), (.lf false (.sc (.int .i64 a0.Kind))), (.lf false (.sc (.string a0.Name)))])] [] 0 (.lf false (.sc (.bool r))) [] 0 := by
  unfold impl_GoodEvent at h
  refine fn_code tab_ok mixed [] Tryd.func76 rfl rfl (by simp [Tryd.f76]) (by kernel_rfl) ?_
  simp only [Tryd.f76]
  refine sA ?_
  obtain ⟨c164, hr1, h⟩ := bind_ok h
  refine Cl_sA (w_impl_in hr1) ?_
  try refine sA ?_
  refine Sp_if h (fun h hc2 => ?_) (fun h hc2 => ?_)
  · try refine sA ?_
    obtain ⟨c166, hr3, h⟩ := bind_ok h
    refine Cl_sA (w_impl_isVersion hr3) ?_
    try refine sA ?_
    refine Sp_if h (fun h hc4 => ?_) (fun h hc4 => ?_)
    · try refine sA ?_
      obtain ⟨c168, hr5, h⟩ := bind_ok h
      refine Cl_sA (w_impl_goodKind hr5) ?_
      try refine sA ?_
      refine Sp_if h (fun h hc6 => ?_) (fun h hc6 => ?_)
      · try refine sA ?_
        obtain ⟨c169, hr7, h⟩ := bind_ok h
        refine Cl_sA (w_impl_goodName hr7) ?_
        try refine sA ?_
        have he := Option.some.inj h
        subst he
        exact endsA ⟨[(2, (.lf false (.sc (.bool c169))))], [], 0, 21⟩ []
      · try refine sA ?_
        have he := Option.some.inj h
        subst he
        exact endsA ⟨[(2, (.lf false (.sc (.bool false))))], [], 0, 21⟩ []
    · try refine sA ?_
      have he := Option.some.inj h
      subst he
      exact endsA ⟨[(2, (.lf false (.sc (.bool false))))], [], 0, 21⟩ []
  · try refine sA ?_
    have he := Option.some.inj h
    subst he
    exact endsA ⟨[(2, (.lf false (.sc (.bool false))))], [], 0, 21⟩ []
theorem w_slices_Clone_string {a0 : (List ByteArray)} {r : (List ByteArray)} (h : slices_Clone_string a0 = some r) : Fn Tryd.prog 120 [(.lf true (.sl (a0.map eS)))] [] 0 (.os 0 1 0 r.length r.length false) [(0, some (true, .arr false 1 (r.map eS)))] 1 := by
  unfold slices_Clone_string at h
  obtain ⟨hp, h⟩ := guard_some h
  have he := Option.some.inj h; subst he
  refine fn_code tab_ok mixed [] Tryd.func120 rfl rfl (by simp [Tryd.f120]) (by kernel_rfl) ?_
  simp only [Tryd.f120]
  simp (disch := assumption) only [go_sem, Nat.reduceAdd, Nat.reduceMul, Nat.reduceSub, Nat.reduceEqDiff, ↓reduceIte, Nat.reduceLT, reduceCtorEq, Nat.reduceLeDiff, Int.reduceToNat, Int.reduceEq, Int.reduceLE, Int.reduceLT, Nat.reduceBEq]
  intro b hb
  refine Bs_splitC (b = true) (by simp) (fun hc => ?_) (fun hc => ?_)
  · have h0 : a0 = [] := by simpa using hb (by simpa using hc)
    subst h0
    try simp (disch := assumption) only [go_sem, Nat.reduceAdd, Nat.reduceMul, Nat.reduceSub, Nat.reduceEqDiff, ↓reduceIte, Nat.reduceLT, reduceCtorEq, Nat.reduceLeDiff, Int.reduceToNat, Int.reduceEq, Int.reduceLE, Int.reduceLT, Nat.reduceBEq]
    refine ends_weak ⟨[(2, (.os 0 1 0 0 0 false))], [(0, some (true, .arr false 1 (([] : List ByteArray).map eS)))], 1, 8⟩ (weak_of (m := 0) [none] rfl rfl rfl (by rfl) ?_ ?_) ?_
    all_goals ((try simp (disch := assumption) only [go_sem, Nat.reduceAdd, Nat.reduceMul, Nat.reduceSub, Nat.reduceEqDiff, ↓reduceIte, Nat.reduceLT, reduceCtorEq, Nat.reduceLeDiff, Int.reduceToNat, Int.reduceEq, Int.reduceLE, Int.reduceLT, Nat.reduceBEq]); (repeat' first | done | rfl | omega | refine And.intro ?_ ?_ | (simp; done) | (simp; omega)))
  · try simp (disch := assumption) only [go_sem, Nat.reduceAdd, Nat.reduceMul, Nat.reduceSub, Nat.reduceEqDiff, ↓reduceIte, Nat.reduceLT, reduceCtorEq, Nat.reduceLeDiff, Int.reduceToNat, Int.reduceEq, Int.reduceLE, Int.reduceLT, Nat.reduceBEq]
    first | refine And.intro (by first | omega | exact ⟨by omega, fun _ => mapLen fun _ => rfl⟩ | (refine ⟨?_, by omega⟩; first | exact mapLen fun _ => rfl | simp)) ?_ | skip
    try simp (disch := assumption) only [go_sem, Nat.reduceAdd, Nat.reduceMul, Nat.reduceSub, Nat.reduceEqDiff, ↓reduceIte, Nat.reduceLT, reduceCtorEq, Nat.reduceLeDiff, Int.reduceToNat, Int.reduceEq, Int.reduceLE, Int.reduceLT, Nat.reduceBEq]
    refine ends_weak ⟨[(2, (.os 0 1 0 a0.length a0.length false))], [(0, some (true, .arr false 1 (a0.map eS)))], 1, 8⟩ (weak_of (m := 0) [some 1] rfl rfl rfl (by rfl) ?_ ?_) ?_
    all_goals ((try simp (disch := assumption) only [go_sem, Nat.reduceAdd, Nat.reduceMul, Nat.reduceSub, Nat.reduceEqDiff, ↓reduceIte, Nat.reduceLT, reduceCtorEq, Nat.reduceLeDiff, Int.reduceToNat, Int.reduceEq, Int.reduceLE, Int.reduceLT, Nat.reduceBEq]); (repeat' first | done | rfl | omega | refine And.intro ?_ ?_ | (simp; done) | (simp; omega)))
theorem w_impl_cloneState {a0 : StateT} {r : StateT} (h : impl_cloneState a0 = some r) : Fn Tryd.prog 77 [(.ag [(.lf false (.sc (.int .i64 a0.Status))), (.lf false (.sc (.int .i64 a0.Next))), (.lf false (.sc (.bool a0.Cancel))), (.lf false (.sc (.int .i64 a0.Done))), (.lf true (.sl (a0.Signals.map eS))), (.lf true (.sl (a0.Timers.map eS)))])] [] 0 (.ag [(.lf false (.sc (.int .i64 r.Status))), (.lf false (.sc (.int .i64 r.Next))), (.lf false (.sc (.bool r.Cancel))), (.lf false (.sc (.int .i64 r.Done))), (.os 0 1 0 r.Signals.length r.Signals.length false), (.os 1 1 0 r.Timers.length r.Timers.length false)]) [(0, some (true, .arr false 1 (r.Signals.map eS))), (1, some (true, .arr false 1 (r.Timers.map eS)))] 3 := by
  unfold impl_cloneState at h
  refine fn_code tab_ok mixed [(1, [(4, 2)]), (1000, [(1, 0), (2, 0)]), (1001, [(1, 0), (2, 0)]), (1002, [(2, 0)])] Tryd.func77 rfl rfl (by simp [Tryd.f77]) (by kernel_rfl) ?_
  simp only [Tryd.f77]
  refine sA ?_
  obtain ⟨c172, hr1, h⟩ := bind_ok h
  refine Cl_sA (w_slices_Clone_string hr1) ?_
  try refine sA ?_
  obtain ⟨c173, hr2, h⟩ := bind_ok h
  refine Cl_sA (w_slices_Clone_string hr2) ?_
  try refine sA ?_
  have he := Option.some.inj h
  subst he
  exact endsA ⟨[(2, (.pb 2 0))], [(0, some (true, .arr false 1 (c172.map eS))), (1, some (true, .arr false 1 (c173.map eS))), (2, some (true, .box [(.lf false (.sc (.int .i64 a0.Status))), (.lf false (.sc (.int .i64 a0.Next))), (.lf false (.sc (.bool a0.Cancel))), (.lf false (.sc (.int .i64 a0.Done))), (.os 0 1 0 c172.length c172.length false), (.os 1 1 0 c173.length c173.length false)]))], 3, 12⟩ [some 2, some 3, some 1]
theorem w_slices_isNaN_string {a0 : ByteArray} {r : Bool} (h : slices_isNaN_string a0 = some r) : Fn Tryd.prog 169 [(.lf false (.sc (.string a0)))] [] 0 (.lf false (.sc (.bool r))) [] 0 := by
  unfold slices_isNaN_string at h
  refine fn_code tab_ok mixed [] Tryd.func169 rfl rfl (by simp [Tryd.f169]) (by kernel_rfl) ?_
  simp only [Tryd.f169]
  refine sA ?_
  have he := Option.some.inj h
  subst he
  exact endsA ⟨[(2, (.lf false (.sc (.bool (!(a0.toList == a0.toList))))))], [], 0, 6⟩ []
theorem w_slices_BinarySearch_string {a0 : (List ByteArray)} {a1 : ByteArray} {r : (Int × Bool)} (h : slices_BinarySearch_string a0 a1 = some r) : Fn Tryd.prog 147 [(.lf true (.sl (a0.map eS))), (.lf false (.sc (.string a1)))] [] 0 (.tu [(.lf false (.sc (.int .i64 r.1))), (.lf false (.sc (.bool r.2)))]) [] 0 := by
  unfold slices_BinarySearch_string at h
  refine fn_code tab_ok mixed [(1000, [(0, 0), (1, 0)]), (1001, [(0, 0), (1, 0), (6, 0)]), (1002, [(0, 0), (1, 0), (6, 0), (7, 0), (8, 0)]), (1003, [(0, 0), (1, 0), (6, 0), (7, 0), (8, 0), (15, 0)]), (1004, [(0, 0), (1, 0), (6, 0), (7, 0), (8, 0), (9, 0)]), (1005, [(0, 0), (1, 0), (6, 0), (7, 0), (8, 0), (9, 0), (27, 0)]), (1006, [(0, 0), (1, 0), (6, 0), (7, 0), (8, 0)]), (1007, [(0, 0), (1, 0), (6, 0), (7, 0), (8, 0)]), (1008, [(4, 0), (5, 0)])] Tryd.func147 rfl rfl (by simp [Tryd.f147]) (by kernel_rfl) ?_
  simp only [Tryd.f147]
  refine sA ?_
  obtain ⟨y181, hl1, h⟩ := bind_ok h
  refine W_loopP (fun g178 : slices_BinarySearch_string_G1 => ⟨[(0, (.lf true (.sl (a0.map eS)))), (1, (.lf false (.sc (.string a1)))), (6, (.lf false (.sc (.int .i64 ((a0.length : Nat) : Int))))), (7, (.lf false (.sc (.int .i64 g178.t7)))), (8, (.lf false (.sc (.int .i64 g178.t8))))], [], 0, 54⟩) (slices_BinarySearch_string_L1 a0 a1) _ _ hl1 (weakA []) ?_
  · intro n1 g178 z1 hs1 hk1
    unfold slices_BinarySearch_string_L1 at hs1
    try dsimp only at hs1
    refine sA ?_
    refine Bs_if hs1 (fun hs1 hc2 => ?_) (fun hs1 hc2 => ?_)
    · try refine sA ?_
      obtain ⟨hp3, hs1⟩ := guard_some hs1
      have hn3 : (wI (shR 64 (wU (wI (g178.t7 + g178.t8))) 1)).toNat < a0.length := by first | omega | (simp only [List.length_set, List.length_append, List.length_replicate, List.length_map]; omega)
      try refine sA ?_
      try refine andA ?_
      obtain ⟨c180, hr4, hs1⟩ := bind_ok hs1
      refine Cl_sA (w_cmp_Less_string hr4) ?_
      try refine sA ?_
      refine Bs_if hs1 (fun hs1 hc5 => ?_) (fun hs1 hc5 => ?_)
      · try refine sA ?_
        cases hs1
        exact X_backP hk1 (weakA [])
      · try refine sA ?_
        cases hs1
        exact X_backP hk1 (weakA [])
    · try refine sA ?_
      cases hs1
      cases hk1
      try dsimp only at h
      try refine sA ?_
      refine Sp_if h (fun h hc6 => ?_) (fun h hc6 => ?_)
      · try refine sA ?_
        obtain ⟨hp7, h⟩ := guard_some h
        have hn7 : g178.t7.toNat < a0.length := by first | omega | (simp only [List.length_set, List.length_append, List.length_replicate, List.length_map]; omega)
        try refine sA ?_
        try refine andA ?_
        refine Sp_if h (fun h hc8 => ?_) (fun h hc8 => ?_)
        · try refine sA ?_
          have he := Option.some.inj h
          subst he
          exact endsA ⟨[(4, (.lf false (.sc (.int .i64 g178.t7)))), (5, (.lf false (.sc (.bool true))))], [], 0, 54⟩ []
        · try refine sA ?_
          obtain ⟨hp9, h⟩ := guard_some h
          have hn9 : g178.t7.toNat < a0.length := by first | omega | (simp only [List.length_set, List.length_append, List.length_replicate, List.length_map]; omega)
          try refine sA ?_
          try refine andA ?_
          obtain ⟨c184, hr10, h⟩ := bind_ok h
          refine Cl_sA (w_slices_isNaN_string hr10) ?_
          try refine sA ?_
          refine Sp_if h (fun h hc11 => ?_) (fun h hc11 => ?_)
          · try refine sA ?_
            obtain ⟨c185, hr12, h⟩ := bind_ok h
            refine Cl_sA (w_slices_isNaN_string hr12) ?_
            try refine sA ?_
            have he := Option.some.inj h
            subst he
            exact endsA ⟨[(4, (.lf false (.sc (.int .i64 g178.t7)))), (5, (.lf false (.sc (.bool c185))))], [], 0, 54⟩ []
          · try refine sA ?_
            have he := Option.some.inj h
            subst he
            exact endsA ⟨[(4, (.lf false (.sc (.int .i64 g178.t7)))), (5, (.lf false (.sc (.bool false))))], [], 0, 54⟩ []
      · try refine sA ?_
        have he := Option.some.inj h
        subst he
        exact endsA ⟨[(4, (.lf false (.sc (.int .i64 g178.t7)))), (5, (.lf false (.sc (.bool false))))], [], 0, 54⟩ []
theorem w_slices_Delete_string_w {a0 : List ByteArray} {a1 a2 : Int} {m0 : Nat} {x0 : Bool} {r : List ByteArray} (h : slices_Delete_string_w a0 a1 a2 = some r) : Fn Tryd.prog 148 [(.os 0 1 0 a0.length m0 x0), (.lf false (.sc (.int .i64 a1))), (.lf false (.sc (.int .i64 a2)))] [(0, some (false, .arr true 1 (a0.map eS)))] 1 (.os 1 1 0 r.length r.length false) [(0, none), (1, some (false, .arr false 1 (r.map eS)))] 2 := by
  unfold slices_Delete_string_w at h
  obtain ⟨⟨hp1, hp2, hp3, hp4⟩, h⟩ := guard_some h
  have he := Option.some.inj h; subst he
  refine fn_code tab_ok mixed [] Tryd.func148 rfl rfl (by simp [Tryd.f148]) (by kernel_rfl) ?_
  simp only [Tryd.f148]
  simp (disch := assumption) only [go_sem, Nat.reduceAdd, Nat.reduceMul, Nat.reduceSub, Nat.reduceEqDiff, ↓reduceIte, Nat.reduceLT, reduceCtorEq, Nat.reduceLeDiff, Int.reduceToNat, Int.reduceEq, Int.reduceLE, Int.reduceLT, Nat.reduceBEq]
  refine And.intro (by omega) ?_
  try simp (disch := assumption) only [go_sem, Nat.reduceAdd, Nat.reduceMul, Nat.reduceSub, Nat.reduceEqDiff, ↓reduceIte, Nat.reduceLT, reduceCtorEq, Nat.reduceLeDiff, Int.reduceToNat, Int.reduceEq, Int.reduceLE, Int.reduceLT, Nat.reduceBEq]
  refine Bs_splitC (a1 == a2) (by first | rfl | simp) (fun hc => ?_) (fun hc => ?_)
  · try simp (disch := assumption) only [go_sem, Nat.reduceAdd, Nat.reduceMul, Nat.reduceSub, Nat.reduceEqDiff, ↓reduceIte, Nat.reduceLT, reduceCtorEq, Nat.reduceLeDiff, Int.reduceToNat, Int.reduceEq, Int.reduceLE, Int.reduceLT, Nat.reduceBEq]
    have he : a1 = a2 := by simpa using hc
    have hr : a0.take a1.toNat ++ a0.drop a2.toNat = a0 := by rw [he]; exact List.take_append_drop _ _
    rw [hr]
    refine ends_weak ⟨[(6, (.os 1 1 0 a0.length a0.length false))], [(0, none), (1, some (false, .arr false 1 (a0.map eS)))], 2, 33⟩ (weak_of (m := 1) [some 0, some 0] rfl rfl rfl (by rfl) ?_ ?_) ?_
    all_goals ((try simp (disch := assumption) only [go_sem, Nat.reduceAdd, Nat.reduceMul, Nat.reduceSub, Nat.reduceEqDiff, ↓reduceIte, Nat.reduceLT, reduceCtorEq, Nat.reduceLeDiff, Int.reduceToNat, Int.reduceEq, Int.reduceLE, Int.reduceLT, Nat.reduceBEq]); (repeat' first | done | rfl | omega | refine And.intro ?_ ?_ | (simp; done) | (simp; omega)))
  · try simp (disch := assumption) only [go_sem, Nat.reduceAdd, Nat.reduceMul, Nat.reduceSub, Nat.reduceEqDiff, ↓reduceIte, Nat.reduceLT, reduceCtorEq, Nat.reduceLeDiff, Int.reduceToNat, Int.reduceEq, Int.reduceLE, Int.reduceLT, Nat.reduceBEq]
    refine And.intro (by omega) (And.intro (by omega) ?_)
    have hs : a2.toNat + (a0.length - a2.toNat) ≤ a0.length := by omega
    simp (disch := assumption) only [go_sem, Nat.reduceAdd, Nat.reduceMul, Nat.reduceSub, Nat.reduceEqDiff, ↓reduceIte, Nat.reduceLT, reduceCtorEq, Nat.reduceLeDiff, Int.reduceToNat, Int.reduceEq, Int.reduceLE, Int.reduceLT, Nat.reduceBEq, hs]
    have hd : (a0.drop a2.toNat).length = a0.length - a2.toNat := List.length_drop
    have ht : (a0.take a1.toNat).length = a1.toNat := by rw [List.length_take]; omega
    have hR : (a0.take a1.toNat ++ a0.drop a2.toNat).length = a1.toNat + (a0.drop a2.toNat).length := by rw [List.length_append, ht]
    refine And.intro ⟨by omega, (by first | exact mapLen fun _ => rfl | simp), by omega⟩ (And.intro ⟨by omega, by omega, by omega⟩ (And.intro (by omega) ?_))
    refine ends_weak ⟨[(6, (.os 1 1 0 (a0.take a1.toNat ++ a0.drop a2.toNat).length (a0.take a1.toNat ++ a0.drop a2.toNat).length false))], [(0, none), (1, some (false, .arr false 1 ((a0.take a1.toNat ++ a0.drop a2.toNat).map eS)))], 2, 33⟩ (weak_of (m := 1) [some 0, some 1] rfl rfl rfl (by rfl) ?_ ?_) ?_
    all_goals ((try simp (disch := assumption) only [go_sem, Nat.reduceAdd, Nat.reduceMul, Nat.reduceSub, Nat.reduceEqDiff, ↓reduceIte, Nat.reduceLT, reduceCtorEq, Nat.reduceLeDiff, Int.reduceToNat, Int.reduceEq, Int.reduceLE, Int.reduceLT, Nat.reduceBEq]); (repeat' first | done | rfl | omega | refine And.intro ?_ ?_ | (simp; done) | (simp; omega)))
theorem w_slices_Insert_string_w {a0 : List ByteArray} {a1 : Int} {a2 : List ByteArray} {m0 m2 : Nat} {x0 x2 : Bool} {r : List ByteArray} (h : slices_Insert_string_w a0 a1 a2 = some r) : Fn Tryd.prog 149 [(.os 0 1 0 a0.length m0 x0), (.lf false (.sc (.int .i64 a1))), (.os 1 1 0 a2.length m2 x2)] [(0, some (false, .arr true 1 (a0.map eS))), (1, some (false, .arr true 1 (a2.map eS)))] 2 (.os 2 1 0 r.length r.length false) [(0, none), (1, none), (2, some (false, .arr false 1 (r.map eS)))] 3 := by
  unfold slices_Insert_string_w at h
  obtain ⟨⟨hp1, hp2, hp3, hp4⟩, h⟩ := guard_some h
  have he := Option.some.inj h; subst he
  obtain ⟨x, rfl⟩ := List.length_eq_one_iff.1 hp1
  rw [List.append_assoc, List.singleton_append]
  exact fn_insert Go.Proofs.Tryd.lays22 (Ent.of Tryd.func149 rfl (by simp [Tryd.f149])) (fun _ => rfl) hp2 hp3 hp4
theorem w_impl_State_turnTimer_o {a0 : StateT} {a1 : ByteArray} {m1 : Nat} {x1 : Bool} {m2 : Nat} {x2 : Bool} {r : (Bool × StateT)} (h : impl_State_turnTimer_o a0 a1 = some r) : Fn Tryd.prog 122 [(.pb 0 0), (.lf false (.sc (.string a1)))] [(0, some (false, .box [(.lf false (.sc (.int .i64 a0.Status))), (.lf false (.sc (.int .i64 a0.Next))), (.lf false (.sc (.bool a0.Cancel))), (.lf false (.sc (.int .i64 a0.Done))), (.os 1 1 0 a0.Signals.length m1 x1), (.os 2 1 0 a0.Timers.length m2 x2)])), (1, some (false, .arr true 1 (a0.Signals.map eS))), (2, some (false, .arr true 1 (a0.Timers.map eS)))] 3 (.lf false (.sc (.bool r.1))) [(0, some (false, .box [(.lf false (.sc (.int .i64 r.2.Status))), (.lf false (.sc (.int .i64 r.2.Next))), (.lf false (.sc (.bool r.2.Cancel))), (.lf false (.sc (.int .i64 r.2.Done))), (.os 1 1 0 a0.Signals.length a0.Signals.length false), (.os 3 1 0 r.2.Timers.length r.2.Timers.length false)])), (1, some (false, .arr false 1 (a0.Signals.map eS))), (2, none), (3, some (false, .arr false 1 (r.2.Timers.map eS)))] 4 := by
  unfold impl_State_turnTimer_o at h
  refine fn_code tab_ok mixed [(1000, [(0, 0), (1, 0)]), (1001, [(0, 0), (1, 0), (5, 0), (6, 0)]), (1002, []), (1003, [(0, 0), (1, 0), (5, 0), (27, 0)]), (1004, []), (1005, [(0, 0), (1, 0), (5, 0), (40, 0)]), (1006, [(4, 0)]), (1007, [(4, 0)])] Tryd.func122 rfl rfl (by simp [Tryd.f122]) (by kernel_rfl) ?_
  simp only [Tryd.f122]
  refine sA ?_
  obtain ⟨c186, hr1, h⟩ := bind_ok h
  refine Cl_sA (w_slices_BinarySearch_string hr1) ?_
  try refine sA ?_
  refine Bs_if h (fun h hc2 => ?_) (fun h hc2 => ?_)
  · try refine sA ?_
    obtain ⟨c187, hr3, h⟩ := bind_ok h
    refine Cl_hA [2] (w_slices_Delete_string_w hr3) ?_
    try refine sA ?_
    have he := Option.some.inj h
    subst he
    exact endsA ⟨[(4, (.lf false (.sc (.bool true))))], [(0, some (false, .box [(.lf false (.sc (.int .i64 a0.Status))), (.lf false (.sc (.int .i64 a0.Next))), (.lf false (.sc (.bool a0.Cancel))), (.lf false (.sc (.int .i64 a0.Done))), (.os 1 1 0 a0.Signals.length a0.Signals.length false), (.os 3 1 0 c187.length c187.length false)])), (1, some (false, .arr false 1 (a0.Signals.map eS))), (2, none), (3, some (false, .arr false 1 (c187.map eS)))], 4, 47⟩ [some 0, some 1, some 2, some 3]
  · try refine sA ?_
    refine Bs_if h (fun h hc4 => ?_) (fun h hc4 => ?_)
    · try refine sA ?_
      have he := Option.some.inj h
      subst he
      exact endsA ⟨[(4, (.lf false (.sc (.bool false))))], [(0, some (false, .box [(.lf false (.sc (.int .i64 a0.Status))), (.lf false (.sc (.int .i64 a0.Next))), (.lf false (.sc (.bool a0.Cancel))), (.lf false (.sc (.int .i64 a0.Done))), (.os 1 1 0 a0.Signals.length a0.Signals.length false), (.os 3 1 0 a0.Timers.length a0.Timers.length false)])), (1, some (false, .arr false 1 (a0.Signals.map eS))), (2, none), (3, some (false, .arr false 1 (a0.Timers.map eS)))], 4, 47⟩ [some 0, some 1, some 2, some 2]
    · try refine sA ?_
      obtain ⟨c188, hr5, h⟩ := bind_ok h
      refine Cl_hA [2, 3] (w_slices_Insert_string_w hr5) ?_
      try refine sA ?_
      have he := Option.some.inj h
      subst he
      exact endsA ⟨[(4, (.lf false (.sc (.bool true))))], [(0, some (false, .box [(.lf false (.sc (.int .i64 a0.Status))), (.lf false (.sc (.int .i64 a0.Next))), (.lf false (.sc (.bool a0.Cancel))), (.lf false (.sc (.int .i64 a0.Done))), (.os 1 1 0 a0.Signals.length a0.Signals.length false), (.os 3 1 0 c188.length c188.length false)])), (1, some (false, .arr false 1 (a0.Signals.map eS))), (2, none), (3, some (false, .arr false 1 (c188.map eS)))], 4, 47⟩ [some 0, some 1, some 2, some 4]
theorem w_impl_State_apply_o {a0 : StateT} {a1 : Int} {a2 : ByteArray} {m1 : Nat} {x1 : Bool} {m2 : Nat} {x2 : Bool} {r : (Bool × StateT)} (h : impl_State_apply_o a0 a1 a2 = some r) : Fn Tryd.prog 78 [(.pb 0 0), (.lf false (.sc (.int .i64 a1))), (.lf false (.sc (.string a2)))] [(0, some (false, .box [(.lf false (.sc (.int .i64 a0.Status))), (.lf false (.sc (.int .i64 a0.Next))), (.lf false (.sc (.bool a0.Cancel))), (.lf false (.sc (.int .i64 a0.Done))), (.os 1 1 0 a0.Signals.length m1 x1), (.os 2 1 0 a0.Timers.length m2 x2)])), (1, some (false, .arr true 1 (a0.Signals.map eS))), (2, some (false, .arr true 1 (a0.Timers.map eS)))] 3 (.lf false (.sc (.bool r.1))) [(0, some (false, .box [(.lf false (.sc (.int .i64 r.2.Status))), (.lf false (.sc (.int .i64 r.2.Next))), (.lf false (.sc (.bool r.2.Cancel))), (.lf false (.sc (.int .i64 r.2.Done))), (.os 3 1 0 r.2.Signals.length r.2.Signals.length false), (.os 4 1 0 r.2.Timers.length r.2.Timers.length false)])), (1, none), (2, none), (3, some (false, .arr false 1 (r.2.Signals.map eS))), (4, some (false, .arr false 1 (r.2.Timers.map eS)))] 5 := by
  unfold impl_State_apply_o at h
  refine fn_code tab_ok mixed [(1000, [(0, 0), (1, 0), (2, 0)]), (1001, [(0, 0), (1, 0), (2, 0), (32, 0)]), (1002, [(6, 0)]), (1003, [(0, 0), (2, 0), (33, 0)]), (1004, [(0, 0), (2, 0), (33, 0), (34, 0)]), (1005, [(0, 0)]), (1006, [(0, 0), (2, 0), (33, 0), (39, 0)]), (1007, [(0, 0), (2, 0), (54, 0)]), (1008, [(6, 0)]), (1009, [(0, 0)]), (1010, [(0, 0), (2, 0), (33, 0), (65, 0)]), (1011, [(0, 0)]), (1012, [(0, 0), (2, 0), (33, 0), (74, 0)]), (1013, [(0, 0), (79, 0)]), (1014, [(6, 0)]), (1015, [(0, 0), (33, 0), (80, 0)]), (1016, [(0, 0), (85, 0)]), (1017, [(6, 0)]), (1018, [(0, 0)]), (1019, [(0, 0), (89, 0)]), (1020, [(0, 0)]), (1021, []), (1022, [(6, 0)]), (4001, []), (4007, [])] Tryd.func78 rfl rfl (by simp [Tryd.f78]) (by kernel_rfl) ?_
  simp only [Tryd.f78]
  refine sA ?_
  obtain ⟨p191, hq1, h⟩ := bind_ok h
  refine Sq_cut (fun s2 => s2 = ⟨[(0, (.pb 0 0)), (1, (.lf false (.sc (.int .i64 a1)))), (2, (.lf false (.sc (.string a2)))), (32, (.lf false (.sc (.bool p191.t32))))], [(0, some (false, .box [(.lf false (.sc (.int .i64 a0.Status))), (.lf false (.sc (.int .i64 a0.Next))), (.lf false (.sc (.bool a0.Cancel))), (.lf false (.sc (.int .i64 a0.Done))), (.os 1 1 0 a0.Signals.length m1 x1), (.os 2 1 0 a0.Timers.length m2 x2)])), (1, some (false, .arr true 1 (a0.Signals.map eS))), (2, some (false, .arr true 1 (a0.Timers.map eS)))], 3, 104⟩) ?_ ?_
  · try refine sA ?_
    refine Sp_if hq1 (fun hq1 hc2 => ?_) (fun hq1 hc2 => ?_)
    · try refine sA ?_
      cases hq1
      exact X_cut rfl (weakA [some 0, some 1, some 2])
    · try refine sA ?_
      refine Sp_if hq1 (fun hq1 hc3 => ?_) (fun hq1 hc3 => ?_)
      · try refine sA ?_
        cases hq1
        exact X_cut rfl (weakA [some 0, some 1, some 2])
      · try refine sA ?_
        refine Sp_if hq1 (fun hq1 hc4 => ?_) (fun hq1 hc4 => ?_)
        · try refine sA ?_
          cases hq1
          exact X_cut rfl (weakA [some 0, some 1, some 2])
        · try refine sA ?_
          cases hq1
          exact X_cut rfl (weakA [some 0, some 1, some 2])
  · intro s2 hJ; subst hJ
    try dsimp only at h
    try refine sA ?_
    refine Bs_if h (fun h hc5 => ?_) (fun h hc5 => ?_)
    · try refine sA ?_
      have he := Option.some.inj h
      subst he
      exact endsA ⟨[(6, (.lf false (.sc (.bool false))))], [(0, some (false, .box [(.lf false (.sc (.int .i64 a0.Status))), (.lf false (.sc (.int .i64 a0.Next))), (.lf false (.sc (.bool a0.Cancel))), (.lf false (.sc (.int .i64 a0.Done))), (.os 3 1 0 a0.Signals.length a0.Signals.length false), (.os 4 1 0 a0.Timers.length a0.Timers.length false)])), (1, none), (2, none), (3, some (false, .arr false 1 (a0.Signals.map eS))), (4, some (false, .arr false 1 (a0.Timers.map eS)))], 5, 104⟩ [some 0, some 1, some 2, some 1, some 2]
    · try refine sA ?_
      refine Bs_if h (fun h hc6 => ?_) (fun h hc6 => ?_)
      · try refine sA ?_
        have he := Option.some.inj h
        subst he
        exact endsA ⟨[(6, (.lf false (.sc (.bool true))))], [(0, some (false, .box [(.lf false (.sc (.int .i64 1))), (.lf false (.sc (.int .i64 (wI (a0.Next + 1))))), (.lf false (.sc (.bool a0.Cancel))), (.lf false (.sc (.int .i64 a0.Done))), (.os 3 1 0 a0.Signals.length a0.Signals.length false), (.os 4 1 0 a0.Timers.length a0.Timers.length false)])), (1, none), (2, none), (3, some (false, .arr false 1 (a0.Signals.map eS))), (4, some (false, .arr false 1 (a0.Timers.map eS)))], 5, 104⟩ [some 0, some 1, some 2, some 1, some 2]
      · try refine sA ?_
        refine Bs_if h (fun h hc7 => ?_) (fun h hc7 => ?_)
        · try refine sA ?_
          obtain ⟨p193, hq8, h⟩ := bind_ok h
          refine Sq_cut (fun s2 => s2 = ⟨[(0, (.pb 0 0)), (2, (.lf false (.sc (.string a2)))), (54, (.lf false (.sc (.bool p193.t54))))], [(0, some (false, .box [(.lf false (.sc (.int .i64 a0.Status))), (.lf false (.sc (.int .i64 a0.Next))), (.lf false (.sc (.bool a0.Cancel))), (.lf false (.sc (.int .i64 a0.Done))), (.os 1 1 0 a0.Signals.length m1 x1), (.os 2 1 0 a0.Timers.length m2 x2)])), (1, some (false, .arr true 1 (a0.Signals.map eS))), (2, some (false, .arr true 1 (a0.Timers.map eS)))], 3, 104⟩) ?_ ?_
          · try refine sA ?_
            obtain ⟨c192, hr9, hq8⟩ := bind_ok hq8
            refine Cl_sA (w_slices_Contains_string hr9) ?_
            try refine sA ?_
            refine Sp_if hq8 (fun hq8 hc10 => ?_) (fun hq8 hc10 => ?_)
            · try refine sA ?_
              cases hq8
              exact X_cut rfl (weakA [some 0, some 1, some 2])
            · try refine sA ?_
              cases hq8
              exact X_cut rfl (weakA [some 0, some 1, some 2])
          · intro s2 hJ; subst hJ
            try dsimp only at h
            try refine sA ?_
            refine Bs_if h (fun h hc11 => ?_) (fun h hc11 => ?_)
            · try refine sA ?_
              have he := Option.some.inj h
              subst he
              exact endsA ⟨[(6, (.lf false (.sc (.bool false))))], [(0, some (false, .box [(.lf false (.sc (.int .i64 a0.Status))), (.lf false (.sc (.int .i64 a0.Next))), (.lf false (.sc (.bool a0.Cancel))), (.lf false (.sc (.int .i64 a0.Done))), (.os 3 1 0 a0.Signals.length a0.Signals.length false), (.os 4 1 0 a0.Timers.length a0.Timers.length false)])), (1, none), (2, none), (3, some (false, .arr false 1 (a0.Signals.map eS))), (4, some (false, .arr false 1 (a0.Timers.map eS)))], 5, 104⟩ [some 0, some 1, some 2, some 1, some 2]
            · try refine sA ?_
              obtain ⟨hp12, h⟩ := guard_some h
              try refine sA ?_
              try refine andA ?_
              have he := Option.some.inj h
              subst he
              exact endsA ⟨[(6, (.lf false (.sc (.bool true))))], [(0, some (false, .box [(.lf false (.sc (.int .i64 a0.Status))), (.lf false (.sc (.int .i64 (wI (a0.Next + 1))))), (.lf false (.sc (.bool a0.Cancel))), (.lf false (.sc (.int .i64 a0.Done))), (.os 3 1 0 ((a0.Signals ++ ([a2])).length) ((a0.Signals ++ ([a2])).length) false), (.os 4 1 0 a0.Timers.length a0.Timers.length false)])), (1, none), (2, none), (3, some (false, .arr false 1 ((a0.Signals ++ ([a2])).map eS))), (4, some (false, .arr false 1 (a0.Timers.map eS)))], 5, 104⟩ [some 0, some 1, some 2, some 4, some 2]
        · try refine sA ?_
          refine Bs_if h (fun h hc13 => ?_) (fun h hc13 => ?_)
          · try refine sA ?_
            have he := Option.some.inj h
            subst he
            exact endsA ⟨[(6, (.lf false (.sc (.bool true))))], [(0, some (false, .box [(.lf false (.sc (.int .i64 a0.Status))), (.lf false (.sc (.int .i64 (wI (a0.Next + 1))))), (.lf false (.sc (.bool a0.Cancel))), (.lf false (.sc (.int .i64 (wI (a0.Done + 1))))), (.os 3 1 0 a0.Signals.length a0.Signals.length false), (.os 4 1 0 a0.Timers.length a0.Timers.length false)])), (1, none), (2, none), (3, some (false, .arr false 1 (a0.Signals.map eS))), (4, some (false, .arr false 1 (a0.Timers.map eS)))], 5, 104⟩ [some 0, some 1, some 2, some 1, some 2]
          · try refine sA ?_
            refine Bs_if h (fun h hc14 => ?_) (fun h hc14 => ?_)
            · try refine sA ?_
              obtain ⟨c194, hr15, h⟩ := bind_ok h
              refine Cl_hA [0, 1, 2] (w_impl_State_turnTimer_o hr15) ?_
              try refine sA ?_
              refine Bs_if h (fun h hc16 => ?_) (fun h hc16 => ?_)
              · try refine sA ?_
                have he := Option.some.inj h
                subst he
                exact endsA ⟨[(6, (.lf false (.sc (.bool false))))], [(0, some (false, .box [(.lf false (.sc (.int .i64 c194.2.Status))), (.lf false (.sc (.int .i64 c194.2.Next))), (.lf false (.sc (.bool c194.2.Cancel))), (.lf false (.sc (.int .i64 c194.2.Done))), (.os 3 1 0 a0.Signals.length a0.Signals.length false), (.os 4 1 0 c194.2.Timers.length c194.2.Timers.length false)])), (1, none), (2, none), (3, some (false, .arr false 1 (a0.Signals.map eS))), (4, some (false, .arr false 1 (c194.2.Timers.map eS)))], 5, 104⟩ [some 0, some 1, some 2, some 1, some 3]
              · try refine sA ?_
                have he := Option.some.inj h
                subst he
                exact endsA ⟨[(6, (.lf false (.sc (.bool true))))], [(0, some (false, .box [(.lf false (.sc (.int .i64 c194.2.Status))), (.lf false (.sc (.int .i64 (wI (c194.2.Next + 1))))), (.lf false (.sc (.bool c194.2.Cancel))), (.lf false (.sc (.int .i64 c194.2.Done))), (.os 3 1 0 a0.Signals.length a0.Signals.length false), (.os 4 1 0 c194.2.Timers.length c194.2.Timers.length false)])), (1, none), (2, none), (3, some (false, .arr false 1 (a0.Signals.map eS))), (4, some (false, .arr false 1 (c194.2.Timers.map eS)))], 5, 104⟩ [some 0, some 1, some 2, some 1, some 3]
            · try refine sA ?_
              refine Bs_if h (fun h hc17 => ?_) (fun h hc17 => ?_)
              · try refine sA ?_
                refine Bs_if h (fun h hc18 => ?_) (fun h hc18 => ?_)
                · try refine sA ?_
                  have he := Option.some.inj h
                  subst he
                  exact endsA ⟨[(6, (.lf false (.sc (.bool false))))], [(0, some (false, .box [(.lf false (.sc (.int .i64 a0.Status))), (.lf false (.sc (.int .i64 a0.Next))), (.lf false (.sc (.bool a0.Cancel))), (.lf false (.sc (.int .i64 a0.Done))), (.os 3 1 0 a0.Signals.length a0.Signals.length false), (.os 4 1 0 a0.Timers.length a0.Timers.length false)])), (1, none), (2, none), (3, some (false, .arr false 1 (a0.Signals.map eS))), (4, some (false, .arr false 1 (a0.Timers.map eS)))], 5, 104⟩ [some 0, some 1, some 2, some 1, some 2]
                · try refine sA ?_
                  have he := Option.some.inj h
                  subst he
                  exact endsA ⟨[(6, (.lf false (.sc (.bool true))))], [(0, some (false, .box [(.lf false (.sc (.int .i64 a0.Status))), (.lf false (.sc (.int .i64 (wI (a0.Next + 1))))), (.lf false (.sc (.bool true))), (.lf false (.sc (.int .i64 a0.Done))), (.os 3 1 0 a0.Signals.length a0.Signals.length false), (.os 4 1 0 a0.Timers.length a0.Timers.length false)])), (1, none), (2, none), (3, some (false, .arr false 1 (a0.Signals.map eS))), (4, some (false, .arr false 1 (a0.Timers.map eS)))], 5, 104⟩ [some 0, some 1, some 2, some 1, some 2]
              · try refine sA ?_
                refine Bs_if h (fun h hc19 => ?_) (fun h hc19 => ?_)
                · try refine sA ?_
                  have he := Option.some.inj h
                  subst he
                  exact endsA ⟨[(6, (.lf false (.sc (.bool true))))], [(0, some (false, .box [(.lf false (.sc (.int .i64 2))), (.lf false (.sc (.int .i64 (wI (a0.Next + 1))))), (.lf false (.sc (.bool a0.Cancel))), (.lf false (.sc (.int .i64 a0.Done))), (.os 3 1 0 a0.Signals.length a0.Signals.length false), (.os 4 1 0 (([] : List ByteArray).length) (([] : List ByteArray).length) false)])), (1, none), (2, none), (3, some (false, .arr false 1 (a0.Signals.map eS))), (4, some (false, .arr false 1 (([] : List ByteArray).map eS)))], 5, 104⟩ [some 0, some 1, some 2, some 1, none]
                · try refine sA ?_
                  have he := Option.some.inj h
                  subst he
                  exact endsA ⟨[(6, (.lf false (.sc (.bool true))))], [(0, some (false, .box [(.lf false (.sc (.int .i64 a0.Status))), (.lf false (.sc (.int .i64 (wI (a0.Next + 1))))), (.lf false (.sc (.bool a0.Cancel))), (.lf false (.sc (.int .i64 a0.Done))), (.os 3 1 0 a0.Signals.length a0.Signals.length false), (.os 4 1 0 a0.Timers.length a0.Timers.length false)])), (1, none), (2, none), (3, some (false, .arr false 1 (a0.Signals.map eS))), (4, some (false, .arr false 1 (a0.Timers.map eS)))], 5, 104⟩ [some 0, some 1, some 2, some 1, some 2]
theorem w_impl_ApplyEvent {a0 : StateT} {a1 : EventT} {r : (StateT × Bool)} (h : impl_ApplyEvent a0 a1 = some r) : Fn Tryd.prog 28 [(.ag [(.lf false (.sc (.int .i64 a0.Status))), (.lf false (.sc (.int .i64 a0.Next))), (.lf false (.sc (.bool a0.Cancel))), (.lf false (.sc (.int .i64 a0.Done))), (.lf true (.sl (a0.Signals.map eS))), (.lf true (.sl (a0.Timers.map eS)))]), (.ag [(.lf false (.sc (.int .i64 a1.Id))), (.lf false (.sc (.int .i64 a1.Version))), (.lf false (.sc (.int .i64 a1.Kind))), (.lf false (.sc (.string a1.Name)))])] [] 0 (.tu [(.ag [(.lf false (.sc (.int .i64 r.1.Status))), (.lf false (.sc (.int .i64 r.1.Next))), (.lf false (.sc (.bool r.1.Cancel))), (.lf false (.sc (.int .i64 r.1.Done))), (.os 0 1 0 r.1.Signals.length r.1.Signals.length false), (.os 1 1 0 r.1.Timers.length r.1.Timers.length false)]), (.lf false (.sc (.bool r.2)))]) [(0, some (false, .arr false 1 (r.1.Signals.map eS))), (1, some (false, .arr false 1 (r.1.Timers.map eS)))] 3 := by
  unfold impl_ApplyEvent at h
  refine fn_code tab_ok mixed [(1000, [(2, 0), (3, 0), (4, 0)]), (1001, [(2, 0), (3, 0), (4, 0), (21, 0)]), (1002, [(4, 0), (5, 0)]), (1003, [(3, 0), (4, 0), (6, 0)]), (1004, [(4, 0), (6, 0), (35, 0)]), (1005, [(4, 0), (5, 0)]), (1006, [(4, 0), (5, 0)]), (4001, []), (4004, [])] Tryd.func28 rfl rfl (by simp [Tryd.f28]) (by kernel_rfl) ?_
  simp only [Tryd.f28]
  refine sA ?_
  obtain ⟨p171, hq1, h⟩ := bind_ok h
  refine Sq_cut (fun s2 => s2 = ⟨[(2, (.pb 0 0)), (3, (.pb 1 0)), (4, (.pb 2 0)), (21, (.lf false (.sc (.bool p171.t21))))], [(0, some (true, .box [(.lf false (.sc (.int .i64 a0.Status))), (.lf false (.sc (.int .i64 a0.Next))), (.lf false (.sc (.bool a0.Cancel))), (.lf false (.sc (.int .i64 a0.Done))), (.lf true (.sl (a0.Signals.map eS))), (.lf true (.sl (a0.Timers.map eS)))])), (1, some (true, .box [(.lf false (.sc (.int .i64 a1.Id))), (.lf false (.sc (.int .i64 a1.Version))), (.lf false (.sc (.int .i64 a1.Kind))), (.lf false (.sc (.string a1.Name)))])), (2, some (true, .box [(.lf false (.sc (.int .i64 0))), (.lf false (.sc (.int .i64 0))), (.lf false (.sc (.bool false))), (.lf false (.sc (.int .i64 0))), .nl, .nl]))], 3, 38⟩) ?_ ?_
  · try refine sA ?_
    obtain ⟨c163, hr2, hq1⟩ := bind_ok hq1
    refine Cl_sA (w_impl_GoodState hr2) ?_
    try refine sA ?_
    refine Sp_if hq1 (fun hq1 hc3 => ?_) (fun hq1 hc3 => ?_)
    · try refine sA ?_
      cases hq1
      exact X_cut rfl (weakA [some 0, some 1, some 2])
    · try refine sA ?_
      obtain ⟨c170, hr4, hq1⟩ := bind_ok hq1
      refine Cl_sA (w_impl_GoodEvent hr4) ?_
      try refine sA ?_
      refine Sp_if hq1 (fun hq1 hc5 => ?_) (fun hq1 hc5 => ?_)
      · try refine sA ?_
        cases hq1
        exact X_cut rfl (weakA [some 0, some 1, some 2])
      · try refine sA ?_
        cases hq1
        exact X_cut rfl (weakA [some 0, some 1, some 2])
  · intro s2 hJ; subst hJ
    try dsimp only at h
    try refine sA ?_
    refine Bs_if h (fun h hc6 => ?_) (fun h hc6 => ?_)
    · try refine sA ?_
      have he := Option.some.inj h
      subst he
      exact endsA ⟨[(4, (.pb 2 0)), (5, (.lf false (.sc (.bool false))))], [(0, some (false, .arr false 1 (([] : List ByteArray).map eS))), (1, some (false, .arr false 1 (([] : List ByteArray).map eS))), (2, some (true, .box [(.lf false (.sc (.int .i64 0))), (.lf false (.sc (.int .i64 0))), (.lf false (.sc (.bool false))), (.lf false (.sc (.int .i64 0))), (.os 0 1 0 (([] : List ByteArray).length) (([] : List ByteArray).length) false), (.os 1 1 0 (([] : List ByteArray).length) (([] : List ByteArray).length) false)]))], 3, 38⟩ [none, none, some 2]
    · try refine sA ?_
      obtain ⟨c174, hr7, h⟩ := bind_ok h
      refine Cl_sA (w_impl_cloneState hr7) ?_
      try refine sA ?_
      obtain ⟨p197, hq8, h⟩ := bind_ok h
      refine Sq_cut (fun s2 => s2 = ⟨[(4, (.pb 0 0)), (6, (.pb 1 0)), (35, (.lf false (.sc (.bool p197.t35))))], [(0, some (true, .box [(.lf false (.sc (.int .i64 0))), (.lf false (.sc (.int .i64 0))), (.lf false (.sc (.bool false))), (.lf false (.sc (.int .i64 0))), .nl, .nl])), (1, some (true, .box [(.lf false (.sc (.int .i64 p197.b1_0))), (.lf false (.sc (.int .i64 p197.b1_1))), (.lf false (.sc (.bool p197.b1_2))), (.lf false (.sc (.int .i64 p197.b1_3))), (.os 2 1 0 p197.c2.length p197.c2.length false), (.os 3 1 0 p197.c3.length p197.c3.length false)])), (2, some (false, .arr false 1 (p197.c2.map eS))), (3, some (false, .arr false 1 (p197.c3.map eS)))], 4, 38⟩) ?_ ?_
      · try refine sA ?_
        obtain ⟨c195, hr9, hq8⟩ := bind_ok hq8
        refine Cl_hA [6, 3, 4] (w_impl_State_apply_o hr9) ?_
        try refine sA ?_
        refine Sp_if hq8 (fun hq8 hc10 => ?_) (fun hq8 hc10 => ?_)
        · try refine sA ?_
          cases hq8
          exact X_cut rfl (weakA [some 2, some 6, some 7, some 8])
        · try refine sA ?_
          obtain ⟨c196, hr11, hq8⟩ := bind_ok hq8
          refine Cl_sA (w_impl_GoodState hr11) ?_
          try refine sA ?_
          cases hq8
          exact X_cut rfl (weakA [some 2, some 6, some 7, some 8])
      · intro s2 hJ; subst hJ
        try dsimp only at h
        try refine sA ?_
        refine Bs_if h (fun h hc12 => ?_) (fun h hc12 => ?_)
        · try refine sA ?_
          have he := Option.some.inj h
          subst he
          exact endsA ⟨[(4, (.pb 2 0)), (5, (.lf false (.sc (.bool false))))], [(0, some (false, .arr false 1 (([] : List ByteArray).map eS))), (1, some (false, .arr false 1 (([] : List ByteArray).map eS))), (2, some (true, .box [(.lf false (.sc (.int .i64 0))), (.lf false (.sc (.int .i64 0))), (.lf false (.sc (.bool false))), (.lf false (.sc (.int .i64 0))), (.os 0 1 0 (([] : List ByteArray).length) (([] : List ByteArray).length) false), (.os 1 1 0 (([] : List ByteArray).length) (([] : List ByteArray).length) false)]))], 3, 38⟩ [none, none, some 0]
        · try refine sA ?_
          have he := Option.some.inj h
          subst he
          exact endsA ⟨[(4, (.pb 2 0)), (5, (.lf false (.sc (.bool true))))], [(0, some (false, .arr false 1 (p197.c2.map eS))), (1, some (false, .arr false 1 (p197.c3.map eS))), (2, some (true, .box [(.lf false (.sc (.int .i64 p197.b1_0))), (.lf false (.sc (.int .i64 p197.b1_1))), (.lf false (.sc (.bool p197.b1_2))), (.lf false (.sc (.int .i64 p197.b1_3))), (.os 0 1 0 p197.c2.length p197.c2.length false), (.os 1 1 0 p197.c3.length p197.c3.length false)]))], 3, 38⟩ [some 2, some 3, some 0]
theorem w_spec_ApplyEvent {a0 : StateT} {a1 : EventT} {r : (StateT × Bool)} (h : spec_ApplyEvent a0 a1 = some r) : Fn Tryd.prog 29 [(.ag [(.lf false (.sc (.int .i64 a0.Status))), (.lf false (.sc (.int .i64 a0.Next))), (.lf false (.sc (.bool a0.Cancel))), (.lf false (.sc (.int .i64 a0.Done))), (.lf true (.sl (a0.Signals.map eS))), (.lf true (.sl (a0.Timers.map eS)))]), (.ag [(.lf false (.sc (.int .i64 a1.Id))), (.lf false (.sc (.int .i64 a1.Version))), (.lf false (.sc (.int .i64 a1.Kind))), (.lf false (.sc (.string a1.Name)))])] [] 0 (.tu [(.ag [(.lf false (.sc (.int .i64 r.1.Status))), (.lf false (.sc (.int .i64 r.1.Next))), (.lf false (.sc (.bool r.1.Cancel))), (.lf false (.sc (.int .i64 r.1.Done))), (.lf true (.sl (r.1.Signals.map eS))), (.lf true (.sl (r.1.Timers.map eS)))]), (.lf false (.sc (.bool r.2)))]) [] 1 := by
  unfold spec_ApplyEvent at h
  refine fn_code tab_ok mixed [(1000, [(2, 0), (3, 0), (4, 0)]), (1001, [(2, 0), (3, 0), (4, 0), (10, 0)]), (1002, [(4, 0), (5, 0)]), (1003, [(4, 0), (6, 0), (7, 0)]), (1004, [(4, 0), (6, 0), (19, 0)]), (1005, [(4, 0), (5, 0)]), (1006, [(4, 0), (5, 0)])] Tryd.func29 rfl rfl (by simp [Tryd.f29]) (by kernel_rfl) ?_
  simp only [Tryd.f29]
  refine sA ?_
  obtain ⟨c199, hr1, h⟩ := bind_ok h
  refine Cl_sA (w_spec_GoodState hr1) ?_
  try refine sA ?_
  refine Bs_if h (fun h hc2 => ?_) (fun h hc2 => ?_)
  · try refine sA ?_
    have he := Option.some.inj h
    subst he
    exact endsA ⟨[(4, (.pb 0 0)), (5, (.lf false (.sc (.bool false))))], [(0, some (true, .box [(.lf false (.sc (.int .i64 0))), (.lf false (.sc (.int .i64 0))), (.lf false (.sc (.bool false))), (.lf false (.sc (.int .i64 0))), (.lf true (.sl (([]).map eS))), (.lf true (.sl (([]).map eS)))]))], 1, 22⟩ [some 2]
  · try refine sA ?_
    obtain ⟨c200, hr3, h⟩ := bind_ok h
    refine Cl_sA (w_spec_l12Apply hr3) ?_
    try refine sA ?_
    refine Bs_if h (fun h hc4 => ?_) (fun h hc4 => ?_)
    · try refine sA ?_
      have he := Option.some.inj h
      subst he
      exact endsA ⟨[(4, (.pb 0 0)), (5, (.lf false (.sc (.bool false))))], [(0, some (true, .box [(.lf false (.sc (.int .i64 0))), (.lf false (.sc (.int .i64 0))), (.lf false (.sc (.bool false))), (.lf false (.sc (.int .i64 0))), (.lf true (.sl (([]).map eS))), (.lf true (.sl (([]).map eS)))]))], 1, 22⟩ [some 2]
    · try refine sA ?_
      have he := Option.some.inj h
      subst he
      exact endsA ⟨[(4, (.pb 0 0)), (5, (.lf false (.sc (.bool true))))], [(0, some (true, .box [(.lf false (.sc (.int .i64 c200.1.Status))), (.lf false (.sc (.int .i64 c200.1.Next))), (.lf false (.sc (.bool c200.1.Cancel))), (.lf false (.sc (.int .i64 c200.1.Done))), (.lf true (.sl (c200.1.Signals.map eS))), (.lf true (.sl (c200.1.Timers.map eS)))]))], 1, 22⟩ [some 2]
theorem w_spec_ApplyEvent_own {a0 : StateT} {a1 : EventT} {r : (StateT × Bool)} (h : spec_ApplyEvent a0 a1 = some r) : Fn Tryd.prog 29 [(.ag [(.lf false (.sc (.int .i64 a0.Status))), (.lf false (.sc (.int .i64 a0.Next))), (.lf false (.sc (.bool a0.Cancel))), (.lf false (.sc (.int .i64 a0.Done))), (.lf true (.sl (a0.Signals.map eS))), (.lf true (.sl (a0.Timers.map eS)))]), (.ag [(.lf false (.sc (.int .i64 a1.Id))), (.lf false (.sc (.int .i64 a1.Version))), (.lf false (.sc (.int .i64 a1.Kind))), (.lf false (.sc (.string a1.Name)))])] [] 0 (.tu [(.ag [(.lf false (.sc (.int .i64 r.1.Status))), (.lf false (.sc (.int .i64 r.1.Next))), (.lf false (.sc (.bool r.1.Cancel))), (.lf false (.sc (.int .i64 r.1.Done))), (.os 0 1 0 r.1.Signals.length r.1.Signals.length false), (.os 1 1 0 r.1.Timers.length r.1.Timers.length false)]), (.lf false (.sc (.bool r.2)))]) [(0, some (false, .arr false 1 (r.1.Signals.map eS))), (1, some (false, .arr false 1 (r.1.Timers.map eS)))] 3 := by
  unfold spec_ApplyEvent at h
  refine fn_code tab_ok mixed [(1000, [(2, 0), (3, 0), (4, 0)]), (1001, [(2, 0), (3, 0), (4, 0), (10, 0)]), (1002, [(4, 0), (5, 0)]), (1003, [(4, 0), (6, 0), (7, 0)]), (1004, [(4, 0), (6, 0), (19, 0)]), (1005, [(4, 0), (5, 0)]), (1006, [(4, 0), (5, 0)])] Tryd.func29 rfl rfl (by simp [Tryd.f29]) (by kernel_rfl) ?_
  simp only [Tryd.f29]
  refine sA ?_
  obtain ⟨c199, hr1, h⟩ := bind_ok h
  refine Cl_sA (w_spec_GoodState hr1) ?_
  try refine sA ?_
  refine Bs_if h (fun h hc2 => ?_) (fun h hc2 => ?_)
  · try refine sA ?_
    have he := Option.some.inj h
    subst he
    exact endsA ⟨[(4, (.pb 2 0)), (5, (.lf false (.sc (.bool false))))], [(0, some (false, .arr false 1 (([] : List ByteArray).map eS))), (1, some (false, .arr false 1 (([] : List ByteArray).map eS))), (2, some (true, .box [(.lf false (.sc (.int .i64 0))), (.lf false (.sc (.int .i64 0))), (.lf false (.sc (.bool false))), (.lf false (.sc (.int .i64 0))), (.os 0 1 0 ([] : List ByteArray).length ([] : List ByteArray).length false), (.os 1 1 0 ([] : List ByteArray).length ([] : List ByteArray).length false)]))], 3, 22⟩ [none, none, some 2]
  · try refine sA ?_
    obtain ⟨c200, hr3, h⟩ := bind_ok h
    cases hb : c200.2
    · refine Cl_sA (w_spec_l12Apply hr3) ?_
      try refine sA ?_
      refine Bs_if h (fun h hc4 => ?_) (fun h hc4 => ?_)
      · try refine sA ?_
        have he := Option.some.inj h
        subst he
        exact endsA ⟨[(4, (.pb 2 0)), (5, (.lf false (.sc (.bool false))))], [(0, some (false, .arr false 1 (([] : List ByteArray).map eS))), (1, some (false, .arr false 1 (([] : List ByteArray).map eS))), (2, some (true, .box [(.lf false (.sc (.int .i64 0))), (.lf false (.sc (.int .i64 0))), (.lf false (.sc (.bool false))), (.lf false (.sc (.int .i64 0))), (.os 0 1 0 ([] : List ByteArray).length ([] : List ByteArray).length false), (.os 1 1 0 ([] : List ByteArray).length ([] : List ByteArray).length false)]))], 3, 22⟩ [none, none, some 2]
      · rw [hb] at hc4; exact absurd hc4 (by simp)
    · refine Cl_sA (w_spec_l12Apply_t hr3 hb) ?_
      try refine sA ?_
      refine Bs_if h (fun h hc4 => ?_) (fun h hc4 => ?_)
      · rw [hb] at hc4; exact absurd hc4 (by simp)
      · try refine sA ?_
        have he := Option.some.inj h
        subst he
        exact endsA ⟨[(4, (.pb 2 0)), (5, (.lf false (.sc (.bool true))))], [(0, some (false, .arr false 1 (c200.1.Signals.map eS))), (1, some (false, .arr false 1 (c200.1.Timers.map eS))), (2, some (true, .box [(.lf false (.sc (.int .i64 c200.1.Status))), (.lf false (.sc (.int .i64 c200.1.Next))), (.lf false (.sc (.bool c200.1.Cancel))), (.lf false (.sc (.int .i64 c200.1.Done))), (.os 0 1 0 c200.1.Signals.length c200.1.Signals.length false), (.os 1 1 0 c200.1.Timers.length c200.1.Timers.length false)]))], 3, 22⟩ [some 3, some 4, some 2]
theorem w_laws_sameTexts {a0 : (List ByteArray)} {a1 : (List ByteArray)} {r : Bool} (h : laws_sameTexts a0 a1 = some r) : Fn Tryd.prog 39 [(.lf true (.sl (a0.map eS))), (.lf true (.sl (a1.map eS)))] [] 0 (.lf false (.sc (.bool r))) [] 0 := by
  unfold laws_sameTexts at h
  refine fn_code tab_ok mixed [(1000, [(0, 0), (1, 0)]), (1001, [(0, 0), (1, 0), (10, 0)]), (1002, [(4, 0)]), (1003, [(0, 0), (1, 0), (12, 0), (13, 0)]), (1004, [(0, 0), (1, 0), (12, 0), (13, 0), (14, 0)]), (1005, [(0, 0), (1, 0), (5, 0), (12, 0), (13, 0)]), (1006, [(0, 0), (1, 0), (12, 0), (13, 0), (24, 0)]), (1007, [(4, 0)]), (1008, [(0, 0), (1, 0), (12, 0), (13, 0)]), (1009, [(4, 0)])] Tryd.func39 rfl rfl (by simp [Tryd.f39]) (by kernel_rfl) ?_
  simp only [Tryd.f39]
  refine sA ?_
  refine Bs_if h (fun h hc1 => ?_) (fun h hc1 => ?_)
  · try refine sA ?_
    have he := Option.some.inj h
    subst he
    exact endsA ⟨[(4, (.lf false (.sc (.bool false))))], [], 0, 26⟩ []
  · try refine sA ?_
    obtain ⟨y203, hl2, h⟩ := bind_ok h
    refine W_loopP (fun g202 : laws_sameTexts_G1 => ⟨[(0, (.lf true (.sl (a0.map eS)))), (1, (.lf true (.sl (a1.map eS)))), (12, (.lf false (.sc (.int .i64 ((a0.length : Nat) : Int))))), (13, (.lf false (.sc (.int .i64 g202.t13))))], [], 0, 26⟩) (laws_sameTexts_L1 a0 a1) _ _ hl2 (weakA []) ?_
    · intro n1 g202 z1 hs1 hk1
      unfold laws_sameTexts_L1 at hs1
      try dsimp only at hs1
      refine sA ?_
      refine Bs_if hs1 (fun hs1 hc3 => ?_) (fun hs1 hc3 => ?_)
      · try refine sA ?_
        obtain ⟨hp4, hs1⟩ := guard_some hs1
        have hn4 : g202.t13.toNat < a0.length := by first | omega | (simp only [List.length_set, List.length_append, List.length_replicate, List.length_map]; omega)
        try refine sA ?_
        try refine andA ?_
        obtain ⟨hp5, hs1⟩ := guard_some hs1
        have hn5 : g202.t13.toNat < a1.length := by first | omega | (simp only [List.length_set, List.length_append, List.length_replicate, List.length_map]; omega)
        try refine sA ?_
        try refine andA ?_
        refine Bs_if hs1 (fun hs1 hc6 => ?_) (fun hs1 hc6 => ?_)
        · try refine sA ?_
          cases hs1
          cases hk1
          try dsimp only at h
          try refine sA ?_
          have he := Option.some.inj h
          subst he
          exact endsA ⟨[(4, (.lf false (.sc (.bool false))))], [], 0, 26⟩ []
        · try refine sA ?_
          cases hs1
          exact X_backP hk1 (weakA [])
      · try refine sA ?_
        cases hs1
        cases hk1
        try dsimp only at h
        try refine sA ?_
        have he := Option.some.inj h
        subst he
        exact endsA ⟨[(4, (.lf false (.sc (.bool true))))], [], 0, 26⟩ []
theorem w_laws_sameStates {a0 : StateT} {a1 : StateT} {r : Bool} (h : laws_sameStates a0 a1 = some r) : Fn Tryd.prog 30 [(.ag [(.lf false (.sc (.int .i64 a0.Status))), (.lf false (.sc (.int .i64 a0.Next))), (.lf false (.sc (.bool a0.Cancel))), (.lf false (.sc (.int .i64 a0.Done))), (.lf true (.sl (a0.Signals.map eS))), (.lf true (.sl (a0.Timers.map eS)))]), (.ag [(.lf false (.sc (.int .i64 a1.Status))), (.lf false (.sc (.int .i64 a1.Next))), (.lf false (.sc (.bool a1.Cancel))), (.lf false (.sc (.int .i64 a1.Done))), (.lf true (.sl (a1.Signals.map eS))), (.lf true (.sl (a1.Timers.map eS)))])] [] 0 (.lf false (.sc (.bool r))) [] 0 := by
  unfold laws_sameStates at h
  refine fn_code tab_ok mixed [] Tryd.func30 rfl rfl (by simp [Tryd.f30]) (by kernel_rfl) ?_
  simp only [Tryd.f30]
  refine sA ?_
  refine Sp_if h (fun h hc1 => ?_) (fun h hc1 => ?_)
  · try refine sA ?_
    refine Sp_if h (fun h hc2 => ?_) (fun h hc2 => ?_)
    · try refine sA ?_
      refine Sp_if h (fun h hc3 => ?_) (fun h hc3 => ?_)
      · try refine sA ?_
        refine Sp_if h (fun h hc4 => ?_) (fun h hc4 => ?_)
        · try refine sA ?_
          obtain ⟨c206, hr5, h⟩ := bind_ok h
          refine Cl_sA (w_laws_sameTexts hr5) ?_
          try refine sA ?_
          refine Sp_if h (fun h hc6 => ?_) (fun h hc6 => ?_)
          · try refine sA ?_
            obtain ⟨c207, hr7, h⟩ := bind_ok h
            refine Cl_sA (w_laws_sameTexts hr7) ?_
            try refine sA ?_
            have he := Option.some.inj h
            subst he
            exact endsA ⟨[(4, (.lf false (.sc (.bool c207))))], [], 0, 45⟩ []
          · try refine sA ?_
            have he := Option.some.inj h
            subst he
            exact endsA ⟨[(4, (.lf false (.sc (.bool false))))], [], 0, 45⟩ []
        · try refine sA ?_
          have he := Option.some.inj h
          subst he
          exact endsA ⟨[(4, (.lf false (.sc (.bool false))))], [], 0, 45⟩ []
      · try refine sA ?_
        have he := Option.some.inj h
        subst he
        exact endsA ⟨[(4, (.lf false (.sc (.bool false))))], [], 0, 45⟩ []
    · try refine sA ?_
      have he := Option.some.inj h
      subst he
      exact endsA ⟨[(4, (.lf false (.sc (.bool false))))], [], 0, 45⟩ []
  · try refine sA ?_
    have he := Option.some.inj h
    subst he
    exact endsA ⟨[(4, (.lf false (.sc (.bool false))))], [], 0, 45⟩ []
theorem w_impl_MayCome {a0 : StateT} {a1 : Int} {a2 : ByteArray} {r : (Bool × Bool)} (h : impl_MayCome a0 a1 a2 = some r) : Fn Tryd.prog 34 [(.ag [(.lf false (.sc (.int .i64 a0.Status))), (.lf false (.sc (.int .i64 a0.Next))), (.lf false (.sc (.bool a0.Cancel))), (.lf false (.sc (.int .i64 a0.Done))), (.lf true (.sl (a0.Signals.map eS))), (.lf true (.sl (a0.Timers.map eS)))]), (.lf false (.sc (.int .i64 a1))), (.lf false (.sc (.string a2)))] [] 0 (.tu [(.lf false (.sc (.bool r.1))), (.lf false (.sc (.bool r.2)))]) [] 0 := by
  unfold impl_MayCome at h
  refine fn_code tab_ok mixed [(1000, [(1, 0), (2, 0), (3, 0)]), (1001, [(1, 0), (2, 0), (3, 0), (21, 0)]), (1002, [(6, 0), (7, 0)]), (1003, [(1, 0), (2, 0), (8, 0)]), (1004, [(6, 0), (7, 0)]), (4001, [])] Tryd.func34 rfl rfl (by simp [Tryd.f34]) (by kernel_rfl) ?_
  simp only [Tryd.f34]
  refine sA ?_
  obtain ⟨p218, hq1, h⟩ := bind_ok h
  refine Sq_cut (fun s2 => s2 = ⟨[(1, (.lf false (.sc (.int .i64 a1)))), (2, (.lf false (.sc (.string a2)))), (3, (.pb 0 0)), (21, (.lf false (.sc (.bool p218.t21))))], [(0, some (true, .box [(.lf false (.sc (.int .i64 a0.Status))), (.lf false (.sc (.int .i64 a0.Next))), (.lf false (.sc (.bool a0.Cancel))), (.lf false (.sc (.int .i64 a0.Done))), (.lf true (.sl (a0.Signals.map eS))), (.lf true (.sl (a0.Timers.map eS)))]))], 1, 31⟩) ?_ ?_
  · try refine sA ?_
    obtain ⟨c215, hr2, hq1⟩ := bind_ok hq1
    refine Cl_sA (w_impl_GoodState hr2) ?_
    try refine sA ?_
    refine Sp_if hq1 (fun hq1 hc3 => ?_) (fun hq1 hc3 => ?_)
    · try refine sA ?_
      cases hq1
      exact X_cut rfl (weakA [some 0])
    · try refine sA ?_
      obtain ⟨c216, hr4, hq1⟩ := bind_ok hq1
      refine Cl_sA (w_impl_goodKind hr4) ?_
      try refine sA ?_
      refine Sp_if hq1 (fun hq1 hc5 => ?_) (fun hq1 hc5 => ?_)
      · try refine sA ?_
        cases hq1
        exact X_cut rfl (weakA [some 0])
      · try refine sA ?_
        obtain ⟨c217, hr6, hq1⟩ := bind_ok hq1
        refine Cl_sA (w_impl_goodName hr6) ?_
        try refine sA ?_
        cases hq1
        exact X_cut rfl (weakA [some 0])
  · intro s2 hJ; subst hJ
    try dsimp only at h
    try refine sA ?_
    refine Bs_if h (fun h hc7 => ?_) (fun h hc7 => ?_)
    · try refine sA ?_
      have he := Option.some.inj h
      subst he
      exact endsA ⟨[(6, (.lf false (.sc (.bool false)))), (7, (.lf false (.sc (.bool false))))], [], 0, 31⟩ []
    · try refine sA ?_
      obtain ⟨c219, hr8, h⟩ := bind_ok h
      refine Cl_sA (w_impl_cloneState hr8) ?_
      try refine sA ?_
      obtain ⟨c220, hr9, h⟩ := bind_ok h
      refine Cl_hA [4, 1, 2] (w_impl_State_apply_o hr9) ?_
      try refine sA ?_
      refine Sp_if h (fun h hc10 => ?_) (fun h hc10 => ?_)
      · try refine sA ?_
        obtain ⟨c221, hr11, h⟩ := bind_ok h
        refine Cl_sA (w_impl_GoodState hr11) ?_
        try refine sA ?_
        have he := Option.some.inj h
        subst he
        exact endsA ⟨[(6, (.lf false (.sc (.bool c221)))), (7, (.lf false (.sc (.bool true))))], [], 0, 31⟩ []
      · try refine sA ?_
        have he := Option.some.inj h
        subst he
        exact endsA ⟨[(6, (.lf false (.sc (.bool false)))), (7, (.lf false (.sc (.bool true))))], [], 0, 31⟩ []
theorem w_spec_DrawFoldEvents {a0 : (List Int)} {r : (List EventT)} (h : spec_DrawFoldEvents a0 = some r) : Fn Tryd.prog 35 [(.lf true (.sl (a0.map eU8)))] [] 0 (.os 0 4 0 r.length r.length false) [(0, some (true, .arr false 4 (r.map eEvent)))] 1 := by
  unfold spec_DrawFoldEvents at h
  refine fn_code tab_ok mixed [(1000, [(0, 0)]), (1001, [(3, 0)]), (1002, [(2, 0)])] Tryd.func35 rfl rfl (by simp [Tryd.f35]) (by kernel_rfl) ?_
  simp only [Tryd.f35]
  refine sA ?_
  obtain ⟨c227, hr1, h⟩ := bind_ok h
  refine Cl_hA [0] (w_spec_l1Cur_history_o hr1) ?_
  try refine sA ?_
  have he := Option.some.inj h
  subst he
  exact endsA ⟨[(2, (.os 0 4 0 c227.1.length c227.1.length false))], [(0, some (true, .arr false 4 (c227.1.map eEvent)))], 1, 9⟩ [some 1]
theorem w_impl_NewState {r : StateT} (h : impl_NewState = some r) : Fn Tryd.prog 38 [] [] 0 (.ag [(.lf false (.sc (.int .i64 r.Status))), (.lf false (.sc (.int .i64 r.Next))), (.lf false (.sc (.bool r.Cancel))), (.lf false (.sc (.int .i64 r.Done))), .nl, .nl]) [] 1 := by
  unfold impl_NewState at h
  refine fn_code tab_ok mixed [] Tryd.func38 rfl rfl (by simp [Tryd.f38]) (by kernel_rfl) ?_
  simp only [Tryd.f38]
  refine sA ?_
  have he := Option.some.inj h
  subst he
  exact endsA ⟨[(0, (.pb 0 0))], [(0, some (true, .box [(.lf false (.sc (.int .i64 0))), (.lf false (.sc (.int .i64 1))), (.lf false (.sc (.bool false))), (.lf false (.sc (.int .i64 0))), .nl, .nl]))], 1, 2⟩ [some 0]
theorem w_impl_FoldEvents {a0 : (List EventT)} {r : (StateT × Int)} (h : impl_FoldEvents a0 = some r) : Fn Tryd.prog 23 [(.lf true (.sl (a0.map eEvent)))] [] 0 (.tu [(.ag [(.lf false (.sc (.int .i64 r.1.Status))), (.lf false (.sc (.int .i64 r.1.Next))), (.lf false (.sc (.bool r.1.Cancel))), (.lf false (.sc (.int .i64 r.1.Done))), (.os 0 1 0 r.1.Signals.length r.1.Signals.length false), (.os 1 1 0 r.1.Timers.length r.1.Timers.length false)]), (.lf false (.sc (.int .i64 r.2)))]) [(0, some (false, .arr false 1 (r.1.Signals.map eS))), (1, some (false, .arr false 1 (r.1.Timers.map eS)))] 3 := by
  unfold impl_FoldEvents at h
  refine fn_code tab_ok mixed [(1000, [(0, 0), (2, 0)]), (1001, [(0, 0), (2, 0), (4, 0)]), (1002, [(0, 0), (2, 0), (4, 0), (10, 0), (11, 0), (12, 0)]), (1003, [(0, 0), (2, 0), (4, 0), (10, 0), (11, 0), (12, 0), (13, 0)]), (1004, [(0, 0), (2, 0), (4, 0), (5, 0), (6, 0), (10, 0), (11, 0), (12, 0)]), (1005, [(0, 0), (2, 0), (4, 0), (5, 0), (7, 0), (8, 0), (10, 0), (11, 0), (12, 0)]), (1006, [(0, 0), (2, 0), (4, 0), (5, 0), (7, 0), (10, 0), (11, 0), (12, 0), (24, 0)]), (1007, [(2, 0), (3, 0)]), (1008, [(0, 0), (2, 0), (4, 0), (10, 0), (11, 0), (12, 0)]), (1009, [(0, 0), (2, 0), (4, 0), (10, 0), (11, 0), (12, 0)]), (1010, [(2, 0), (3, 0)])] Tryd.func23 rfl rfl (by simp [Tryd.f23]) (by kernel_rfl) ?_
  simp only [Tryd.f23]
  refine sA ?_
  obtain ⟨c229, hr1, h⟩ := bind_ok h
  refine Cl_sA (w_impl_NewState hr1) ?_
  try refine sA ?_
  obtain ⟨y233, hl2, h⟩ := bind_ok h
  refine W_loopP (fun g230 : impl_FoldEvents_G1 => ⟨[(0, (.lf true (.sl (a0.map eEvent)))), (2, (.pb 0 0)), (4, (.pb 1 0)), (10, (.lf true (.sl (a0.map eEvent)))), (11, (.lf false (.sc (.int .i64 ((a0.length : Nat) : Int))))), (12, (.lf false (.sc (.int .i64 g230.t12))))], [(0, some (true, .box [(.lf false (.sc (.int .i64 0))), (.lf false (.sc (.int .i64 0))), (.lf false (.sc (.bool false))), (.lf false (.sc (.int .i64 0))), .nl, .nl])), (1, some (true, .box [(.lf false (.sc (.int .i64 g230.b1_0))), (.lf false (.sc (.int .i64 g230.b1_1))), (.lf false (.sc (.bool g230.b1_2))), (.lf false (.sc (.int .i64 g230.b1_3))), (.os 2 1 0 g230.c2.length g230.c2.length false), (.os 3 1 0 g230.c3.length g230.c3.length false)])), (2, some (false, .arr false 1 (g230.c2.map eS))), (3, some (false, .arr false 1 (g230.c3.map eS)))], 4, 32⟩) (impl_FoldEvents_L1 a0) _ _ hl2 (weakA [some 0, some 2, none, none]) ?_
  · intro n1 g230 z1 hs1 hk1
    unfold impl_FoldEvents_L1 at hs1
    try dsimp only at hs1
    refine sA ?_
    refine Bs_if hs1 (fun hs1 hc3 => ?_) (fun hs1 hc3 => ?_)
    · try refine sA ?_
      obtain ⟨hp4, hs1⟩ := guard_some hs1
      have hn4 : g230.t12.toNat < a0.length := by first | omega | (simp only [List.length_set, List.length_append, List.length_replicate, List.length_map]; omega)
      try refine sA ?_
      try refine andA ?_
      obtain ⟨c232, hr5, hs1⟩ := bind_ok hs1
      refine Cl_sA (w_impl_ApplyEvent hr5) ?_
      try refine sA ?_
      refine Bs_if hs1 (fun hs1 hc6 => ?_) (fun hs1 hc6 => ?_)
      · try refine sA ?_
        cases hs1
        cases hk1
        try dsimp only at h
        try refine sA ?_
        have he := Option.some.inj h
        subst he
        exact endsA ⟨[(2, (.pb 2 0)), (3, (.lf false (.sc (.int .i64 g230.t12))))], [(0, some (false, .arr false 1 (g230.c2.map eS))), (1, some (false, .arr false 1 (g230.c3.map eS))), (2, some (true, .box [(.lf false (.sc (.int .i64 g230.b1_0))), (.lf false (.sc (.int .i64 g230.b1_1))), (.lf false (.sc (.bool g230.b1_2))), (.lf false (.sc (.int .i64 g230.b1_3))), (.os 0 1 0 g230.c2.length g230.c2.length false), (.os 1 1 0 g230.c3.length g230.c3.length false)]))], 3, 32⟩ [some 2, some 3, some 0]
      · try refine sA ?_
        cases hs1
        exact X_backP hk1 (weakA [some 0, some 1, some 5, some 6])
    · try refine sA ?_
      cases hs1
      cases hk1
      try dsimp only at h
      try refine sA ?_
      have he := Option.some.inj h
      subst he
      exact endsA ⟨[(2, (.pb 2 0)), (3, (.lf false (.sc (.int .i64 ((a0.length : Nat) : Int)))))], [(0, some (false, .arr false 1 (g230.c2.map eS))), (1, some (false, .arr false 1 (g230.c3.map eS))), (2, some (true, .box [(.lf false (.sc (.int .i64 g230.b1_0))), (.lf false (.sc (.int .i64 g230.b1_1))), (.lf false (.sc (.bool g230.b1_2))), (.lf false (.sc (.int .i64 g230.b1_3))), (.os 0 1 0 g230.c2.length g230.c2.length false), (.os 1 1 0 g230.c3.length g230.c3.length false)]))], 3, 32⟩ [some 2, some 3, some 0]
theorem w_spec_l12Fold_w {a0 : (List EventT)} {m0 : Nat} {x0 : Bool} {r : (StateT × Int)} (h : spec_l12Fold_w a0 = some r) : Fn Tryd.prog 69 [(.os 0 4 0 a0.length m0 x0)] [(0, some (false, .arr true 4 (a0.map eEvent)))] 1 (.tu [(.ag [(.lf false (.sc (.int .i64 r.1.Status))), (.lf false (.sc (.int .i64 r.1.Next))), (.lf false (.sc (.bool r.1.Cancel))), (.lf false (.sc (.int .i64 r.1.Done))), (.lf true (.sl (r.1.Signals.map eS))), (.lf true (.sl (r.1.Timers.map eS)))]), (.lf false (.sc (.int .i64 r.2)))]) [(0, some (false, .arr false 4 (a0.map eEvent)))] 2 := by
  unfold spec_l12Fold_w at h
  refine fn_code tab_ok mixed [(1000, [(0, 0), (2, 0)]), (1001, [(0, 0), (2, 0), (4, 0)]), (1002, [(0, 0), (2, 0), (4, 0), (10, 0), (11, 0), (12, 0)]), (1003, [(0, 0), (2, 0), (4, 0), (10, 0), (11, 0), (12, 0), (13, 0)]), (1004, [(0, 0), (2, 0), (4, 0), (5, 0), (6, 0), (10, 0), (11, 0), (12, 0)]), (1005, [(0, 0), (2, 0), (4, 0), (5, 0), (7, 0), (8, 0), (10, 0), (11, 0), (12, 0)]), (1006, [(0, 0), (2, 0), (4, 0), (5, 0), (7, 0), (10, 0), (11, 0), (12, 0), (24, 0)]), (1007, [(2, 0), (3, 0)]), (1008, [(0, 0), (2, 0), (4, 0), (10, 0), (11, 0), (12, 0)]), (1009, [(0, 0), (2, 0), (4, 0), (10, 0), (11, 0), (12, 0)]), (1010, [(2, 0), (3, 0)])] Tryd.func69 rfl rfl (by simp [Tryd.f69]) (by kernel_rfl) ?_
  simp only [Tryd.f69]
  refine sA ?_
  obtain ⟨c238, hr1, h⟩ := bind_ok h
  refine Cl_sA (w_spec_NewState hr1) ?_
  try refine sA ?_
  obtain ⟨y242, hl2, h⟩ := bind_ok h
  refine W_loopP (fun g239 : spec_l12Fold_w_G1 => ⟨[(0, (.os 0 4 0 a0.length m0 x0)), (2, (.pb 1 0)), (4, (.pb 2 0)), (10, (.os 0 4 0 a0.length m0 x0)), (11, (.lf false (.sc (.int .i64 ((a0.length : Nat) : Int))))), (12, (.lf false (.sc (.int .i64 g239.t12))))], [(0, some (false, .arr true 4 (a0.map eEvent))), (1, some (true, .box [(.lf false (.sc (.int .i64 0))), (.lf false (.sc (.int .i64 0))), (.lf false (.sc (.bool false))), (.lf false (.sc (.int .i64 0))), .nl, .nl])), (2, some (true, .box [(.lf false (.sc (.int .i64 g239.b2_0))), (.lf false (.sc (.int .i64 g239.b2_1))), (.lf false (.sc (.bool g239.b2_2))), (.lf false (.sc (.int .i64 g239.b2_3))), (.lf true (.sl (g239.b2_4.map eS))), (.lf true (.sl (g239.b2_5.map eS)))]))], 3, 32⟩) (spec_l12Fold_w_L1 a0) _ _ hl2 (weakA [some 0, some 1, some 3]) ?_
  · intro n1 g239 z1 hs1 hk1
    unfold spec_l12Fold_w_L1 at hs1
    try dsimp only at hs1
    refine sA ?_
    refine Bs_if hs1 (fun hs1 hc3 => ?_) (fun hs1 hc3 => ?_)
    · try refine sA ?_
      obtain ⟨hp4, hs1⟩ := guard_some hs1
      have hn4 : g239.t12.toNat < a0.length := by first | omega | (simp only [List.length_set, List.length_append, List.length_replicate, List.length_map]; omega)
      try refine sA ?_
      try refine andA ?_
      try refine andB ?_
      try refine sA ?_
      obtain ⟨c241, hr6, hs1⟩ := bind_ok hs1
      refine Cl_sA (w_spec_l12Apply hr6) ?_
      try refine sA ?_
      refine Bs_if hs1 (fun hs1 hc7 => ?_) (fun hs1 hc7 => ?_)
      · try refine sA ?_
        cases hs1
        cases hk1
        try dsimp only at h
        try refine sA ?_
        have he := Option.some.inj h
        subst he
        exact endsA ⟨[(2, (.pb 1 0)), (3, (.lf false (.sc (.int .i64 g239.t12))))], [(0, some (false, .arr false 4 (a0.map eEvent))), (1, some (true, .box [(.lf false (.sc (.int .i64 g239.b2_0))), (.lf false (.sc (.int .i64 g239.b2_1))), (.lf false (.sc (.bool g239.b2_2))), (.lf false (.sc (.int .i64 g239.b2_3))), (.lf true (.sl (g239.b2_4.map eS))), (.lf true (.sl (g239.b2_5.map eS)))]))], 2, 32⟩ [some 0, some 1]
      · try refine sA ?_
        cases hs1
        exact X_backP hk1 (weakA [some 0, some 1, some 2])
    · try refine sA ?_
      cases hs1
      cases hk1
      try dsimp only at h
      try refine sA ?_
      have he := Option.some.inj h
      subst he
      exact endsA ⟨[(2, (.pb 1 0)), (3, (.lf false (.sc (.int .i64 ((a0.length : Nat) : Int)))))], [(0, some (false, .arr false 4 (a0.map eEvent))), (1, some (true, .box [(.lf false (.sc (.int .i64 g239.b2_0))), (.lf false (.sc (.int .i64 g239.b2_1))), (.lf false (.sc (.bool g239.b2_2))), (.lf false (.sc (.int .i64 g239.b2_3))), (.lf true (.sl (g239.b2_4.map eS))), (.lf true (.sl (g239.b2_5.map eS)))]))], 2, 32⟩ [some 0, some 1]
theorem w_spec_FoldEvents_w {a0 : (List EventT)} {m0 : Nat} {x0 : Bool} {r : (StateT × Int)} (h : spec_FoldEvents_w a0 = some r) : Fn Tryd.prog 22 [(.os 0 4 0 a0.length m0 x0)] [(0, some (false, .arr true 4 (a0.map eEvent)))] 1 (.tu [(.ag [(.lf false (.sc (.int .i64 r.1.Status))), (.lf false (.sc (.int .i64 r.1.Next))), (.lf false (.sc (.bool r.1.Cancel))), (.lf false (.sc (.int .i64 r.1.Done))), (.lf true (.sl (r.1.Signals.map eS))), (.lf true (.sl (r.1.Timers.map eS)))]), (.lf false (.sc (.int .i64 r.2)))]) [(0, some (false, .arr false 4 (a0.map eEvent)))] 2 := by
  unfold spec_FoldEvents_w at h
  refine fn_code tab_ok mixed [] Tryd.func22 rfl rfl (by simp [Tryd.f22]) (by kernel_rfl) ?_
  simp only [Tryd.f22]
  refine sA ?_
  obtain ⟨c245, hr1, h⟩ := bind_ok h
  refine Cl_hA [0] (w_spec_l12Fold_w hr1) ?_
  try refine sA ?_
  have he := Option.some.inj h
  subst he
  exact endsA ⟨[(2, (.pb 1 0)), (3, (.lf false (.sc (.int .i64 c245.2))))], [(0, some (false, .arr false 4 (a0.map eEvent))), (1, some (true, .box [(.lf false (.sc (.int .i64 c245.1.Status))), (.lf false (.sc (.int .i64 c245.1.Next))), (.lf false (.sc (.bool c245.1.Cancel))), (.lf false (.sc (.int .i64 c245.1.Done))), (.lf true (.sl (c245.1.Signals.map eS))), (.lf true (.sl (c245.1.Timers.map eS)))]))], 2, 8⟩ [some 0, some 1]
theorem w_impl_IsHistory {a0 : (List EventT)} {r : Bool} (h : impl_IsHistory a0 = some r) : Fn Tryd.prog 36 [(.lf true (.sl (a0.map eEvent)))] [] 0 (.lf false (.sc (.bool r))) [] 0 := by
  unfold impl_IsHistory at h
  refine fn_code tab_ok mixed [(1000, [(0, 0)]), (1001, [(0, 0), (9, 0)]), (1002, [(2, 0)]), (1003, [(0, 0), (10, 0), (11, 0), (12, 0)]), (1004, [(0, 0), (10, 0), (11, 0), (12, 0), (13, 0)]), (1005, [(0, 0), (3, 0), (4, 0), (10, 0), (11, 0), (12, 0)]), (1006, [(0, 0), (10, 0), (11, 0), (12, 0), (29, 0)]), (1007, [(2, 0)]), (1008, [(0, 0), (10, 0), (11, 0), (12, 0)]), (1009, [(0, 0), (6, 0)]), (1010, [(2, 0)]), (4006, [])] Tryd.func36 rfl rfl (by simp [Tryd.f36]) (by kernel_rfl) ?_
  simp only [Tryd.f36]
  refine sA ?_
  refine Bs_if h (fun h hc1 => ?_) (fun h hc1 => ?_)
  · try refine sA ?_
    have he := Option.some.inj h
    subst he
    exact endsA ⟨[(2, (.lf false (.sc (.bool false))))], [], 0, 40⟩ []
  · try refine sA ?_
    obtain ⟨y251, hl2, h⟩ := bind_ok h
    refine W_loopP (fun g248 : impl_IsHistory_G1 => ⟨[(0, (.lf true (.sl (a0.map eEvent)))), (10, (.lf true (.sl (a0.map eEvent)))), (11, (.lf false (.sc (.int .i64 ((a0.length : Nat) : Int))))), (12, (.lf false (.sc (.int .i64 g248.t12))))], [], 0, 40⟩) (impl_IsHistory_L1 a0) _ _ hl2 (weakA []) ?_
    · intro n1 g248 z1 hs1 hk1
      unfold impl_IsHistory_L1 at hs1
      try dsimp only at hs1
      refine sA ?_
      refine Bs_if hs1 (fun hs1 hc3 => ?_) (fun hs1 hc3 => ?_)
      · try refine sA ?_
        obtain ⟨hp4, hs1⟩ := guard_some hs1
        have hn4 : g248.t12.toNat < a0.length := by first | omega | (simp only [List.length_set, List.length_append, List.length_replicate, List.length_map]; omega)
        try refine sA ?_
        try refine andA ?_
        obtain ⟨p250, hq5, hs1⟩ := bind_ok hs1
        refine Sq_cut (fun s2 => s2 = ⟨[(0, (.lf true (.sl (a0.map eEvent)))), (10, (.lf true (.sl (a0.map eEvent)))), (11, (.lf false (.sc (.int .i64 ((a0.length : Nat) : Int))))), (12, (.lf false (.sc (.int .i64 g248.t12)))), (29, (.lf false (.sc (.bool p250.t29))))], [], 0, 40⟩) ?_ ?_
        · try refine sA ?_
          refine Sp_if hq5 (fun hq5 hc6 => ?_) (fun hq5 hc6 => ?_)
          · try refine sA ?_
            obtain ⟨hp7, hq5⟩ := guard_some hq5
            have hn7 : (wI (g248.t12 - 1)).toNat < a0.length := by first | omega | (simp only [List.length_set, List.length_append, List.length_replicate, List.length_map]; omega)
            try refine sA ?_
            try refine andA ?_
            cases hq5
            exact X_cut rfl (weakA [])
          · try refine sA ?_
            cases hq5
            exact X_cut rfl (weakA [])
        · intro s2 hJ; subst hJ
          try dsimp only at hs1
          try refine sA ?_
          refine Bs_if hs1 (fun hs1 hc8 => ?_) (fun hs1 hc8 => ?_)
          · try refine sA ?_
            cases hs1
            cases hk1
            try dsimp only at h
            try refine sA ?_
            have he := Option.some.inj h
            subst he
            exact endsA ⟨[(2, (.lf false (.sc (.bool false))))], [], 0, 40⟩ []
          · try refine sA ?_
            cases hs1
            exact X_backP hk1 (weakA [])
      · try refine sA ?_
        cases hs1
        cases hk1
        try dsimp only at h
        try refine sA ?_
        obtain ⟨c255, hr9, h⟩ := bind_ok h
        refine Cl_sA (w_impl_FoldEvents hr9) ?_
        try refine sA ?_
        have he := Option.some.inj h
        subst he
        exact endsA ⟨[(2, (.lf false (.sc (.bool (c255.2 == ((a0.length : Nat) : Int))))))], [], 0, 40⟩ []
theorem w_spec_IsHistory {a0 : (List EventT)} {r : Bool} (h : spec_IsHistory a0 = some r) : Fn Tryd.prog 37 [(.lf true (.sl (a0.map eEvent)))] [] 0 (.lf false (.sc (.bool r))) [] 0 := by
  unfold spec_IsHistory at h
  refine fn_code tab_ok mixed [(1000, [(0, 0)]), (1001, [(0, 0), (7, 0), (8, 0)]), (1002, [(0, 0), (7, 0), (8, 0), (9, 0)]), (1003, [(0, 0), (3, 0), (7, 0), (8, 0)]), (1004, [(0, 0), (7, 0), (8, 0), (26, 0)]), (1005, [(2, 0)]), (1006, [(0, 0), (7, 0), (8, 0)]), (1007, [(0, 0), (5, 0)]), (1008, [(2, 0)]), (4004, [])] Tryd.func37 rfl rfl (by simp [Tryd.f37]) (by kernel_rfl) ?_
  simp only [Tryd.f37]
  refine sA ?_
  obtain ⟨y260, hl1, h⟩ := bind_ok h
  refine W_loopP (fun g257 : spec_IsHistory_G1 => ⟨[(0, (.lf true (.sl (a0.map eEvent)))), (7, (.lf false (.sc (.int .i64 ((a0.length : Nat) : Int))))), (8, (.lf false (.sc (.int .i64 g257.t8))))], [], 0, 42⟩) (spec_IsHistory_L1 a0) _ _ hl1 (weakA []) ?_
  · intro n1 g257 z1 hs1 hk1
    unfold spec_IsHistory_L1 at hs1
    try dsimp only at hs1
    refine sA ?_
    refine Bs_if hs1 (fun hs1 hc2 => ?_) (fun hs1 hc2 => ?_)
    · try refine sA ?_
      obtain ⟨p259, hq3, hs1⟩ := bind_ok hs1
      refine Sq_cut (fun s2 => s2 = ⟨[(0, (.lf true (.sl (a0.map eEvent)))), (7, (.lf false (.sc (.int .i64 ((a0.length : Nat) : Int))))), (8, (.lf false (.sc (.int .i64 g257.t8)))), (26, (.lf false (.sc (.bool p259.t26))))], [], 0, 42⟩) ?_ ?_
      · try refine sA ?_
        refine Sp_if hq3 (fun hq3 hc4 => ?_) (fun hq3 hc4 => ?_)
        · try refine sA ?_
          obtain ⟨hp5, hq3⟩ := guard_some hq3
          have hn5 : (wI (g257.t8 - 1)).toNat < a0.length := by first | omega | (simp only [List.length_set, List.length_append, List.length_replicate, List.length_map]; omega)
          try refine sA ?_
          try refine andA ?_
          obtain ⟨hp6, hq3⟩ := guard_some hq3
          have hn6 : g257.t8.toNat < a0.length := by first | omega | (simp only [List.length_set, List.length_append, List.length_replicate, List.length_map]; omega)
          try refine sA ?_
          try refine andA ?_
          cases hq3
          exact X_cut rfl (weakA [])
        · try refine sA ?_
          cases hq3
          exact X_cut rfl (weakA [])
      · intro s2 hJ; subst hJ
        try dsimp only at hs1
        try refine sA ?_
        refine Bs_if hs1 (fun hs1 hc7 => ?_) (fun hs1 hc7 => ?_)
        · try refine sA ?_
          cases hs1
          cases hk1
          try dsimp only at h
          try refine sA ?_
          have he := Option.some.inj h
          subst he
          exact endsA ⟨[(2, (.lf false (.sc (.bool false))))], [], 0, 42⟩ []
        · try refine sA ?_
          cases hs1
          exact X_backP hk1 (weakA [])
    · try refine sA ?_
      cases hs1
      cases hk1
      try dsimp only at h
      try refine sA ?_
      obtain ⟨c264, hr8, h⟩ := bind_ok h
      refine Cl_sA (w_spec_l12Fold hr8) ?_
      try refine sA ?_
      refine Sp_if h (fun h hc9 => ?_) (fun h hc9 => ?_)
      · try refine sA ?_
        have he := Option.some.inj h
        subst he
        exact endsA ⟨[(2, (.lf false (.sc (.bool (decide (((a0.length : Nat) : Int) ≤ 60))))))], [], 0, 42⟩ []
      · try refine sA ?_
        have he := Option.some.inj h
        subst he
        exact endsA ⟨[(2, (.lf false (.sc (.bool false))))], [], 0, 42⟩ []
theorem w_impl_SignalsIn {a0 : (List EventT)} {r : ((List ByteArray) × Bool)} (h : impl_SignalsIn a0 = some r) : Fn Tryd.prog 17 [(.lf true (.sl (a0.map eEvent)))] [] 0 (.tu [(.os 0 1 0 r.1.length r.1.length false), (.lf false (.sc (.bool r.2)))]) [(0, some (false, .arr false 1 (r.1.map eS)))] 1 := by
  unfold impl_SignalsIn at h
  refine fn_code tab_ok mixed [(1000, [(0, 0)]), (1001, [(0, 0), (8, 0)]), (1002, [(2, 0), (3, 0)]), (1003, [(4, 0)]), (1004, [(2, 0), (3, 0)])] Tryd.func17 rfl rfl (by simp [Tryd.f17]) (by kernel_rfl) ?_
  simp only [Tryd.f17]
  refine sA ?_
  obtain ⟨c275, hr1, h⟩ := bind_ok h
  refine Cl_sA (w_impl_IsHistory hr1) ?_
  try refine sA ?_
  refine Bs_if h (fun h hc2 => ?_) (fun h hc2 => ?_)
  · try refine sA ?_
    have he := Option.some.inj h
    subst he
    exact endsA ⟨[(2, (.os 0 1 0 (([] : List ByteArray).length) (([] : List ByteArray).length) false)), (3, (.lf false (.sc (.bool false))))], [(0, some (false, .arr false 1 (([] : List ByteArray).map eS)))], 1, 16⟩ [none]
  · try refine sA ?_
    obtain ⟨c276, hr3, h⟩ := bind_ok h
    refine Cl_sA (w_impl_FoldEvents hr3) ?_
    try refine sA ?_
    have he := Option.some.inj h
    subst he
    exact endsA ⟨[(2, (.os 0 1 0 c276.1.Signals.length c276.1.Signals.length false)), (3, (.lf false (.sc (.bool true))))], [(0, some (false, .arr false 1 (c276.1.Signals.map eS)))], 1, 16⟩ [some 0]
theorem w_laws_FnStates {a0 : (List Int)} {a1 : (List Int)} {r : Bool} (h : laws_FnStates a0 a1 = some r) : Fn Tryd.prog 6 [(.lf true (.sl (a0.map eU8))), (.lf true (.sl (a1.map eU8)))] [] 0 (.lf false (.sc (.bool r))) [] 0 := by
  unfold laws_FnStates at h
  refine fn_code tab_ok mixed [(6, [(12, 11)]), (23, [(0, 9), (4, 9)]), (1000, [(0, 0), (1, 0)]), (1001, [(0, 0), (1, 0), (29, 0)]), (1002, [(4, 0)]), (1003, [(1, 0), (5, 0), (6, 0)]), (1004, [(1, 0), (5, 0), (6, 0), (7, 0), (8, 0)]), (1005, [(1, 0), (5, 0), (6, 0), (7, 0), (8, 0), (9, 0), (10, 0)]), (1006, [(1, 0), (5, 0), (6, 0), (7, 0), (8, 0), (62, 0)]), (1007, [(4, 0)]), (1008, [(1, 0), (5, 0), (6, 0), (7, 0), (8, 0), (75, 0)]), (1009, [(1, 0), (5, 0), (7, 0), (8, 0), (11, 0), (12, 0)]), (1010, [(1, 0), (5, 0), (7, 0), (8, 0), (91, 0)]), (1011, [(4, 0)]), (1012, [(1, 0), (105, 0)]), (1013, [(4, 0)]), (1014, [(13, 0)]), (1015, [(13, 0), (14, 0), (15, 0)]), (1016, [(13, 0), (14, 0), (15, 0), (16, 0), (17, 0)]), (1017, [(13, 0), (14, 0), (15, 0), (133, 0)]), (1018, [(4, 0)]), (1019, [(13, 0), (14, 0), (15, 0), (18, 0)]), (1020, [(13, 0), (14, 0), (15, 0), (18, 0), (19, 0)]), (1021, [(13, 0), (14, 0), (15, 0), (18, 0), (19, 0), (137, 0)]), (1022, [(13, 0), (14, 0), (15, 0), (18, 0), (19, 0)]), (1023, [(13, 0), (14, 0), (15, 0), (18, 0), (19, 0), (20, 0), (21, 0)]), (1024, [(13, 0), (14, 0), (15, 0), (18, 0), (19, 0), (20, 0), (150, 0)]), (1025, [(4, 0)]), (1026, [(13, 0), (14, 0), (15, 0), (18, 0), (19, 0)]), (1027, [(13, 0), (14, 0), (155, 0)]), (1028, [(4, 0)]), (1029, [(13, 0), (14, 0), (22, 0), (23, 0)]), (1030, [(4, 0)]), (2075, []), (4006, []), (4008, []), (4010, []), (4012, []), (4017, [])] Tryd.func6 rfl rfl (by simp [Tryd.f6]) (by kernel_rfl) ?_
  simp only [Tryd.f6]
  refine sA ?_
  refine Bs_if h (fun h hc1 => ?_) (fun h hc1 => ?_)
  · try refine sA ?_
    have he := Option.some.inj h
    subst he
    exact endsA ⟨[(4, (.lf false (.sc (.bool true))))], [], 0, 175⟩ []
  · try refine sA ?_
    obtain ⟨c123, hr2, h⟩ := bind_ok h
    refine Cl_sA (w_spec_DrawApplyEvent hr2) ?_
    try refine sA ?_
    obtain ⟨c198, hr3, h⟩ := bind_ok h
    refine Cl_sA (w_impl_ApplyEvent hr3) ?_
    try refine sA ?_
    obtain ⟨c201, hr4, h⟩ := bind_ok h
    refine Cl_sA (w_spec_ApplyEvent_own hr4) ?_
    try refine sA ?_
    obtain ⟨p211, hq5, h⟩ := bind_ok h
    refine Sq_cut (fun s2 => s2 = ⟨[(1, (.lf true (.sl (a1.map eU8)))), (5, (.pb 0 0)), (6, (.pb 1 0)), (7, (.pb 2 0)), (8, (.lf false (.sc (.bool c198.2)))), (62, (.lf false (.sc (.bool p211.t62))))], [(0, some (true, .box [(.lf false (.sc (.int .i64 c123.1.Status))), (.lf false (.sc (.int .i64 c123.1.Next))), (.lf false (.sc (.bool c123.1.Cancel))), (.lf false (.sc (.int .i64 c123.1.Done))), (.os 3 1 0 c123.1.Signals.length c123.1.Signals.length false), (.os 4 1 0 c123.1.Timers.length c123.1.Timers.length false)])), (1, some (true, .box [(.lf false (.sc (.int .i64 c123.2.Id))), (.lf false (.sc (.int .i64 c123.2.Version))), (.lf false (.sc (.int .i64 c123.2.Kind))), (.lf false (.sc (.string c123.2.Name)))])), (2, some (true, .box [(.lf false (.sc (.int .i64 c198.1.Status))), (.lf false (.sc (.int .i64 c198.1.Next))), (.lf false (.sc (.bool c198.1.Cancel))), (.lf false (.sc (.int .i64 c198.1.Done))), (.os 5 1 0 c198.1.Signals.length c198.1.Signals.length false), (.os 6 1 0 c198.1.Timers.length c198.1.Timers.length false)])), (3, some (false, .arr false 1 (c123.1.Signals.map eS))), (4, some (false, .arr false 1 (c123.1.Timers.map eS))), (5, some (false, .arr false 1 (c198.1.Signals.map eS))), (6, some (false, .arr false 1 (c198.1.Timers.map eS)))], 7, 175⟩) ?_ ?_
    · try refine sA ?_
      refine Sp_if hq5 (fun hq5 hc6 => ?_) (fun hq5 hc6 => ?_)
      · try refine sA ?_
        cases hq5
        exact X_cut rfl (weakA [some 4, some 5, some 9, some 0, some 1, some 6, some 7])
      · try refine sA ?_
        obtain ⟨c208, hr7, hq5⟩ := bind_ok hq5
        refine Cl_sA (w_laws_sameStates hr7) ?_
        try refine sA ?_
        refine Sp_if hq5 (fun hq5 hc8 => ?_) (fun hq5 hc8 => ?_)
        · try refine sA ?_
          cases hq5
          exact X_cut rfl (weakA [some 4, some 5, some 9, some 0, some 1, some 6, some 7])
        · try refine sA ?_
          obtain ⟨c209, hr9, hq5⟩ := bind_ok hq5
          refine Cl_sA (w_impl_GoodState hr9) ?_
          try refine sA ?_
          obtain ⟨c210, hr10, hq5⟩ := bind_ok hq5
          refine Cl_sA (w_spec_GoodState hr10) ?_
          try refine sA ?_
          cases hq5
          exact X_cut rfl (weakA [some 4, some 5, some 9, some 0, some 1, some 6, some 7])
    · intro s2 hJ; subst hJ
      try dsimp only at h
      try refine sA ?_
      refine Bs_if h (fun h hc11 => ?_) (fun h hc11 => ?_)
      · try refine sA ?_
        have he := Option.some.inj h
        subst he
        exact endsA ⟨[(4, (.lf false (.sc (.bool false))))], [], 0, 175⟩ []
      · try refine sA ?_
        obtain ⟨q12, hq12, h⟩ := bind_ok h
        refine Sq_cut (fun s2 => ∃ p224 : Unit, q12 = .inl p224 ∧ s2 = ⟨[(1, (.lf true (.sl (a1.map eU8)))), (5, (.pb 0 0)), (7, (.pb 1 0)), (8, (.lf false (.sc (.bool c198.2))))], [(0, some (true, .box [(.lf false (.sc (.int .i64 c123.1.Status))), (.lf false (.sc (.int .i64 c123.1.Next))), (.lf false (.sc (.bool c123.1.Cancel))), (.lf false (.sc (.int .i64 c123.1.Done))), (.os 2 1 0 c123.1.Signals.length c123.1.Signals.length false), (.os 3 1 0 c123.1.Timers.length c123.1.Timers.length false)])), (1, some (true, .box [(.lf false (.sc (.int .i64 c198.1.Status))), (.lf false (.sc (.int .i64 c198.1.Next))), (.lf false (.sc (.bool c198.1.Cancel))), (.lf false (.sc (.int .i64 c198.1.Done))), (.os 4 1 0 c198.1.Signals.length c198.1.Signals.length false), (.os 5 1 0 c198.1.Timers.length c198.1.Timers.length false)])), (2, some (false, .arr false 1 (c123.1.Signals.map eS))), (3, some (false, .arr false 1 (c123.1.Timers.map eS))), (4, some (false, .arr false 1 (c198.1.Signals.map eS))), (5, some (false, .arr false 1 (c198.1.Timers.map eS)))], 6, 175⟩) ?_ ?_
        · try refine sA ?_
          obtain ⟨p214, hq13, hq12⟩ := bind_ok hq12
          refine Sq_cut (fun s2 => s2 = ⟨[(1, (.lf true (.sl (a1.map eU8)))), (5, (.pb 0 0)), (6, (.pb 1 0)), (7, (.pb 2 0)), (8, (.lf false (.sc (.bool c198.2)))), (75, (.lf false (.sc (.bool p214.t75))))], [(0, some (true, .box [(.lf false (.sc (.int .i64 c123.1.Status))), (.lf false (.sc (.int .i64 c123.1.Next))), (.lf false (.sc (.bool c123.1.Cancel))), (.lf false (.sc (.int .i64 c123.1.Done))), (.os 3 1 0 c123.1.Signals.length c123.1.Signals.length false), (.os 4 1 0 c123.1.Timers.length c123.1.Timers.length false)])), (1, some (true, .box [(.lf false (.sc (.int .i64 c123.2.Id))), (.lf false (.sc (.int .i64 c123.2.Version))), (.lf false (.sc (.int .i64 c123.2.Kind))), (.lf false (.sc (.string c123.2.Name)))])), (2, some (true, .box [(.lf false (.sc (.int .i64 c198.1.Status))), (.lf false (.sc (.int .i64 c198.1.Next))), (.lf false (.sc (.bool c198.1.Cancel))), (.lf false (.sc (.int .i64 c198.1.Done))), (.os 5 1 0 c198.1.Signals.length c198.1.Signals.length false), (.os 6 1 0 c198.1.Timers.length c198.1.Timers.length false)])), (3, some (false, .arr false 1 (c123.1.Signals.map eS))), (4, some (false, .arr false 1 (c123.1.Timers.map eS))), (5, some (false, .arr false 1 (c198.1.Signals.map eS))), (6, some (false, .arr false 1 (c198.1.Timers.map eS)))], 7, 175⟩) ?_ ?_
          · try refine sA ?_
            obtain ⟨c212, hr14, hq13⟩ := bind_ok hq13
            refine Cl_sA (w_spec_GoodState hr14) ?_
            try refine sA ?_
            refine Sp_if hq13 (fun hq13 hc15 => ?_) (fun hq13 hc15 => ?_)
            · try refine sA ?_
              obtain ⟨c213, hr16, hq13⟩ := bind_ok hq13
              refine Cl_sA (w_spec_GoodEvent hr16) ?_
              try refine sA ?_
              refine Sp_if hq13 (fun hq13 hc17 => ?_) (fun hq13 hc17 => ?_)
              · try refine sA ?_
                cases hq13
                exact X_cut rfl (weakA [some 0, some 1, some 2, some 3, some 4, some 5, some 6])
              · try refine sA ?_
                cases hq13
                exact X_cut rfl (weakA [some 0, some 1, some 2, some 3, some 4, some 5, some 6])
            · try refine sA ?_
              cases hq13
              exact X_cut rfl (weakA [some 0, some 1, some 2, some 3, some 4, some 5, some 6])
          · intro s2 hJ; subst hJ
            try dsimp only at hq12
            try refine sA ?_
            refine Bs_if hq12 (fun hq12 hc18 => ?_) (fun hq12 hc18 => ?_)
            · try refine sA ?_
              obtain ⟨c222, hr19, hq12⟩ := bind_ok hq12
              refine Cl_sA (w_impl_MayCome hr19) ?_
              try refine sA ?_
              obtain ⟨p223, hq20, hq12⟩ := bind_ok hq12
              refine Sq_cut (fun s2 => s2 = ⟨[(1, (.lf true (.sl (a1.map eU8)))), (5, (.pb 0 0)), (7, (.pb 1 0)), (8, (.lf false (.sc (.bool c198.2)))), (91, (.lf false (.sc (.bool p223.t91))))], [(0, some (true, .box [(.lf false (.sc (.int .i64 c123.1.Status))), (.lf false (.sc (.int .i64 c123.1.Next))), (.lf false (.sc (.bool c123.1.Cancel))), (.lf false (.sc (.int .i64 c123.1.Done))), (.os 2 1 0 c123.1.Signals.length c123.1.Signals.length false), (.os 3 1 0 c123.1.Timers.length c123.1.Timers.length false)])), (1, some (true, .box [(.lf false (.sc (.int .i64 c198.1.Status))), (.lf false (.sc (.int .i64 c198.1.Next))), (.lf false (.sc (.bool c198.1.Cancel))), (.lf false (.sc (.int .i64 c198.1.Done))), (.os 4 1 0 c198.1.Signals.length c198.1.Signals.length false), (.os 5 1 0 c198.1.Timers.length c198.1.Timers.length false)])), (2, some (false, .arr false 1 (c123.1.Signals.map eS))), (3, some (false, .arr false 1 (c123.1.Timers.map eS))), (4, some (false, .arr false 1 (c198.1.Signals.map eS))), (5, some (false, .arr false 1 (c198.1.Timers.map eS)))], 6, 175⟩) ?_ ?_
              · try refine sA ?_
                refine Sp_if hq20 (fun hq20 hc21 => ?_) (fun hq20 hc21 => ?_)
                · try refine sA ?_
                  cases hq20
                  exact X_cut rfl (weakA [some 0, some 2, some 3, some 4, some 5, some 6])
                · try refine sA ?_
                  cases hq20
                  exact X_cut rfl (weakA [some 0, some 2, some 3, some 4, some 5, some 6])
              · intro s2 hJ; subst hJ
                try dsimp only at hq12
                try refine sA ?_
                refine Bs_if hq12 (fun hq12 hc22 => ?_) (fun hq12 hc22 => ?_)
                · try refine sA ?_
                  cases hq12
                  try dsimp only at h
                  have he := Option.some.inj h
                  subst he
                  exact endsA ⟨[(4, (.lf false (.sc (.bool false))))], [], 0, 175⟩ []
                · try refine sA ?_
                  cases hq12
                  exact X_cut ⟨_, rfl, rfl⟩ (weakA [some 0, some 1, some 2, some 3, some 4, some 5])
            · try refine sA ?_
              cases hq12
              exact X_cut ⟨_, rfl, rfl⟩ (weakA [some 0, some 2, some 3, some 4, some 5, some 6])
        · intro s2 hJ; obtain ⟨p224, e, rfl⟩ := hJ; subst e
          try dsimp only at h
          try refine sA ?_
          obtain ⟨p226, hq23, h⟩ := bind_ok h
          refine Sq_cut (fun s2 => s2 = ⟨[(1, (.lf true (.sl (a1.map eU8)))), (105, (.lf false (.sc (.bool p226.t105))))], [], 0, 175⟩) ?_ ?_
          · try refine sA ?_
            refine Sp_if hq23 (fun hq23 hc24 => ?_) (fun hq23 hc24 => ?_)
            · try refine sA ?_
              obtain ⟨c225, hr25, hq23⟩ := bind_ok hq23
              refine Cl_sA (w_impl_GoodState hr25) ?_
              try refine sA ?_
              refine Sp_if hq23 (fun hq23 hc26 => ?_) (fun hq23 hc26 => ?_)
              · try refine sA ?_
                cases hq23
                exact X_cut rfl (weakA [])
              · try refine sA ?_
                cases hq23
                exact X_cut rfl (weakA [])
            · try refine sA ?_
              cases hq23
              exact X_cut rfl (weakA [])
          · intro s2 hJ; subst hJ
            try dsimp only at h
            try refine sA ?_
            refine Bs_if h (fun h hc27 => ?_) (fun h hc27 => ?_)
            · try refine sA ?_
              have he := Option.some.inj h
              subst he
              exact endsA ⟨[(4, (.lf false (.sc (.bool false))))], [], 0, 175⟩ []
            · try refine sA ?_
              obtain ⟨c228, hr28, h⟩ := bind_ok h
              refine Cl_sA (w_spec_DrawFoldEvents hr28) ?_
              try refine sA ?_
              obtain ⟨c236, hr29, h⟩ := bind_ok h
              refine Cl_sA (w_impl_FoldEvents hr29) ?_
              try refine sA ?_
              obtain ⟨c246, hr30, h⟩ := bind_ok h
              refine Cl_hA [0] (w_spec_FoldEvents_w hr30) ?_
              try refine sA ?_
              obtain ⟨p266, hq31, h⟩ := bind_ok h
              refine Sq_cut (fun s2 => s2 = ⟨[(13, (.os 0 4 0 c228.length c228.length false)), (14, (.pb 1 0)), (15, (.lf false (.sc (.int .i64 c236.2)))), (133, (.lf false (.sc (.bool p266.t133))))], [(0, some (true, .arr false 4 (c228.map eEvent))), (1, some (true, .box [(.lf false (.sc (.int .i64 c236.1.Status))), (.lf false (.sc (.int .i64 c236.1.Next))), (.lf false (.sc (.bool c236.1.Cancel))), (.lf false (.sc (.int .i64 c236.1.Done))), (.os 2 1 0 c236.1.Signals.length c236.1.Signals.length false), (.os 3 1 0 c236.1.Timers.length c236.1.Timers.length false)])), (2, some (false, .arr false 1 (c236.1.Signals.map eS))), (3, some (false, .arr false 1 (c236.1.Timers.map eS)))], 4, 175⟩) ?_ ?_
              · try refine sA ?_
                refine Sp_if hq31 (fun hq31 hc32 => ?_) (fun hq31 hc32 => ?_)
                · try refine sA ?_
                  cases hq31
                  exact X_cut rfl (weakA [some 0, some 4, some 1, some 2])
                · try refine sA ?_
                  obtain ⟨c247, hr33, hq31⟩ := bind_ok hq31
                  refine Cl_sA (w_laws_sameStates hr33) ?_
                  try refine sA ?_
                  refine Sp_if hq31 (fun hq31 hc34 => ?_) (fun hq31 hc34 => ?_)
                  · try refine sA ?_
                    cases hq31
                    exact X_cut rfl (weakA [some 0, some 4, some 1, some 2])
                  · try refine sA ?_
                    obtain ⟨c256, hr35, hq31⟩ := bind_ok hq31
                    refine Cl_sA (w_impl_IsHistory hr35) ?_
                    try refine sA ?_
                    obtain ⟨c265, hr36, hq31⟩ := bind_ok hq31
                    refine Cl_sA (w_spec_IsHistory hr36) ?_
                    try refine sA ?_
                    cases hq31
                    exact X_cut rfl (weakA [some 0, some 4, some 1, some 2])
              · intro s2 hJ; subst hJ
                try dsimp only at h
                try refine sA ?_
                refine Bs_if h (fun h hc37 => ?_) (fun h hc37 => ?_)
                · try refine sA ?_
                  have he := Option.some.inj h
                  subst he
                  exact endsA ⟨[(4, (.lf false (.sc (.bool false))))], [], 0, 175⟩ []
                · try refine sA ?_
                  obtain ⟨c267, hr38, h⟩ := bind_ok h
                  refine Cl_sA (w_impl_NewState hr38) ?_
                  try refine sA ?_
                  obtain ⟨y271, hl39, h⟩ := bind_ok h
                  refine W_loopP (fun g268 : laws_FnStates_G1 => ⟨[(13, (.os 0 4 0 c228.length c228.length false)), (14, (.pb 1 0)), (15, (.lf false (.sc (.int .i64 c236.2)))), (18, (.pb 2 0)), (19, (.lf false (.sc (.int .i64 g268.t19))))], [(0, some (true, .arr false 4 (c228.map eEvent))), (1, some (true, .box [(.lf false (.sc (.int .i64 c236.1.Status))), (.lf false (.sc (.int .i64 c236.1.Next))), (.lf false (.sc (.bool c236.1.Cancel))), (.lf false (.sc (.int .i64 c236.1.Done))), (.os 3 1 0 c236.1.Signals.length c236.1.Signals.length false), (.os 4 1 0 c236.1.Timers.length c236.1.Timers.length false)])), (2, some (true, .box [(.lf false (.sc (.int .i64 g268.b2_0))), (.lf false (.sc (.int .i64 g268.b2_1))), (.lf false (.sc (.bool g268.b2_2))), (.lf false (.sc (.int .i64 g268.b2_3))), (.os 5 1 0 g268.c5.length g268.c5.length false), (.os 6 1 0 g268.c6.length g268.c6.length false)])), (3, some (false, .arr false 1 (c236.1.Signals.map eS))), (4, some (false, .arr false 1 (c236.1.Timers.map eS))), (5, some (false, .arr false 1 (g268.c5.map eS))), (6, some (false, .arr false 1 (g268.c6.map eS)))], 7, 175⟩) (laws_FnStates_L1 c236 c228) _ _ hl39 (weakA [some 0, some 1, some 5, some 2, some 3, none, none]) ?_
                  · intro n1 g268 z1 hs1 hk1
                    unfold laws_FnStates_L1 at hs1
                    try dsimp only at hs1
                    refine sA ?_
                    refine Bs_if hs1 (fun hs1 hc40 => ?_) (fun hs1 hc40 => ?_)
                    · try refine sA ?_
                      obtain ⟨hp41, hs1⟩ := guard_some hs1
                      have hn41 : g268.t19.toNat < c228.length := by first | omega | (simp only [List.length_set, List.length_append, List.length_replicate, List.length_map]; omega)
                      try refine sA ?_
                      try refine andA ?_
                      try refine andB ?_
                      try refine sA ?_
                      obtain ⟨c270, hr43, hs1⟩ := bind_ok hs1
                      refine Cl_sA (w_impl_ApplyEvent hr43) ?_
                      try refine sA ?_
                      refine Bs_if hs1 (fun hs1 hc44 => ?_) (fun hs1 hc44 => ?_)
                      · try refine sA ?_
                        cases hs1
                        cases hk1
                        try dsimp only at h
                        try refine sA ?_
                        have he := Option.some.inj h
                        subst he
                        exact endsA ⟨[(4, (.lf false (.sc (.bool false))))], [], 0, 175⟩ []
                      · try refine sA ?_
                        cases hs1
                        exact X_backP hk1 (weakA [some 0, some 1, some 2, some 3, some 4, some 7, some 8])
                    · try refine sA ?_
                      cases hs1
                      cases hk1
                      try dsimp only at h
                      try refine sA ?_
                      obtain ⟨c280, hr45, h⟩ := bind_ok h
                      refine Cl_sA (w_laws_sameStates hr45) ?_
                      try refine sA ?_
                      refine Bs_if h (fun h hc46 => ?_) (fun h hc46 => ?_)
                      · try refine sA ?_
                        have he := Option.some.inj h
                        subst he
                        exact endsA ⟨[(4, (.lf false (.sc (.bool false))))], [], 0, 175⟩ []
                      · try refine sA ?_
                        obtain ⟨c281, hr47, h⟩ := bind_ok h
                        refine Cl_sA (w_impl_SignalsIn hr47) ?_
                        try refine sA ?_
                        obtain ⟨c282, hr48, h⟩ := bind_ok h
                        refine Cl_sA (w_impl_IsHistory hr48) ?_
                        try refine sA ?_
                        refine Sp_if h (fun h hc49 => ?_) (fun h hc49 => ?_)
                        · try refine sA ?_
                          refine Sp_if h (fun h hc50 => ?_) (fun h hc50 => ?_)
                          · try refine sA ?_
                            have he := Option.some.inj h
                            subst he
                            exact endsA ⟨[(4, (.lf false (.sc (.bool true))))], [], 0, 175⟩ []
                          · try refine sA ?_
                            obtain ⟨c283, hr51, h⟩ := bind_ok h
                            refine Cl_sA (w_laws_sameTexts hr51) ?_
                            try refine sA ?_
                            have he := Option.some.inj h
                            subst he
                            exact endsA ⟨[(4, (.lf false (.sc (.bool c283))))], [], 0, 175⟩ []
                        · try refine sA ?_
                          have he := Option.some.inj h
                          subst he
                          exact endsA ⟨[(4, (.lf false (.sc (.bool false))))], [], 0, 175⟩ []
end Go.TL.YtjhcfmcdllfmpaaDoor

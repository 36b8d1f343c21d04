import Derived.Test.YtjhcfmcdllfmpaaDoorTlTabr3D
import Derived.Test.YtjhcfmcdllfmpaaDoorG22EnR1
import Derived.Test.YtjhcfmcdllfmpaaDoorTlAuto
import Derived.Test.YtjhcfmcdllfmpaaDoorTlNumr3D
import Derived.Test.YtjhcfmcdllfmpaaDoorTlNumB
import Derived.Test.YtjhcfmcdllfmpaaDoorTlTrimr3D
import Derived.Test.YtjhcfmcdllfmpaaDoorTlBelow
import Derived.Test.YtjhcfmcdllfmpaaDoorTlSrtr3D
import Derived.Test.YtjhcfmcdllfmpaaDoorTlSrCr3D
import Derived.Test.YtjhcfmcdllfmpaaDoorTlSort
set_option linter.unusedSimpArgs false
set_option linter.unusedVariables false
set_option linter.unusedVariables false
set_option linter.unusedSimpArgs false
set_option maxRecDepth 8000
set_option maxHeartbeats 0
namespace Go.TL.YtjhcfmcdllfmpaaDoor
open Go Go.Proofs Go.TL
theorem w_spec_l1Cur_next_o {a0 : l1CurT} {r : (Int × l1CurT)} (h : spec_l1Cur_next_o a0 = some r) : Fn Tryd.prog 119 [(.pb 0 0)] [(0, some (false, .box [(.lf true (.sl (a0.code.map eU8))), (.lf false (.sc (.int .i64 a0.at_))), (.lf false (.sc (.int .u64 a0.seed)))]))] 1 (.lf false (.sc (.int .i64 r.1))) [(0, some (false, .box [(.lf true (.sl (r.2.code.map eU8))), (.lf false (.sc (.int .i64 r.2.at_))), (.lf false (.sc (.int .u64 r.2.seed)))]))] 1 := by
  unfold spec_l1Cur_next_o at h
  refine fn_code tab_ok mixed [(1000, [(0, 0)]), (1001, [(0, 0), (3, 0)]), (1002, [(0, 0), (3, 0), (13, 0)]), (1003, [(0, 0), (3, 0)]), (1004, [(0, 0), (3, 0)]), (1005, [(0, 0), (3, 0)]), (1006, [(0, 0), (3, 0), (53, 0)]), (1007, [(2, 0)]), (1008, [(2, 0)]), (2013, [])] Tryd.func119 rfl rfl (by simp [Tryd.f119]) (by kernel_rfl) ?_
  simp only [Tryd.f119]
  refine sA ?_
  obtain ⟨p4, hq1, h⟩ := bind_ok h
  refine Sq_cut (fun s2 => s2 = ⟨[(0, (.pb 0 0)), (3, (.lf false (.sc (.int .i64 p4.t3))))], [(0, some (false, .box [(.lf true (.sl (a0.code.map eU8))), (.lf false (.sc (.int .i64 a0.at_))), (.lf false (.sc (.int .u64 a0.seed)))]))], 1, 62⟩) ?_ ?_
  · try refine sA ?_
    refine Bs_if hq1 (fun hq1 hc2 => ?_) (fun hq1 hc2 => ?_)
    · try refine sA ?_
      obtain ⟨hp3, hq1⟩ := guard_some hq1
      have hn3 : a0.at_.toNat < a0.code.length := by first | omega | (simp only [List.length_set, List.length_append, List.length_replicate, List.length_map]; omega)
      try refine sA ?_
      try refine andA ?_
      cases hq1
      exact X_cut rfl (weakA [some 0])
    · try refine sA ?_
      cases hq1
      exact X_cut rfl (weakA [some 0])
  · intro s2 hJ; subst hJ
    try dsimp only at h
    try refine sA ?_
    refine Bs_if h (fun h hc4 => ?_) (fun h hc4 => ?_)
    · try refine sA ?_
      have he := Option.some.inj h
      subst he
      exact endsA ⟨[(2, (.lf false (.sc (.int .i64 p4.t3))))], [(0, some (false, .box [(.lf true (.sl (a0.code.map eU8))), (.lf false (.sc (.int .i64 (wI (a0.at_ + 1))))), (.lf false (.sc (.int .u64 (wU ((wU ((wU (a0.seed * 6364136223846793005)) + (wU p4.t3))) + 1442695040888963407)))))]))], 1, 62⟩ [some 0]
    · try refine sA ?_
      have he := Option.some.inj h
      subst he
      exact endsA ⟨[(2, (.lf false (.sc (.int .i64 (wI (wU (bvAnd 64 (shR 64 (wU ((wU ((wU (a0.seed * 6364136223846793005)) + (wU p4.t3))) + 1442695040888963407)) 40) 255)))))))], [(0, some (false, .box [(.lf true (.sl (a0.code.map eU8))), (.lf false (.sc (.int .i64 (wI (a0.at_ + 1))))), (.lf false (.sc (.int .u64 (wU ((wU ((wU (a0.seed * 6364136223846793005)) + (wU p4.t3))) + 1442695040888963407)))))]))], 1, 62⟩ [some 0]
theorem w_spec_l1Cur_pick_o {a0 : l1CurT} {a1 : Int} {r : (Int × l1CurT)} (h : spec_l1Cur_pick_o a0 a1 = some r) : Fn Tryd.prog 72 [(.pb 0 0), (.lf false (.sc (.int .i64 a1)))] [(0, some (false, .box [(.lf true (.sl (a0.code.map eU8))), (.lf false (.sc (.int .i64 a0.at_))), (.lf false (.sc (.int .u64 a0.seed)))]))] 1 (.lf false (.sc (.int .i64 r.1))) [(0, some (false, .box [(.lf true (.sl (r.2.code.map eU8))), (.lf false (.sc (.int .i64 r.2.at_))), (.lf false (.sc (.int .u64 r.2.seed)))]))] 1 := by
  unfold spec_l1Cur_pick_o at h
  refine fn_code tab_ok mixed [(1000, [(0, 0), (1, 0)]), (1001, [(0, 0), (1, 0), (7, 0)]), (1002, [(4, 0)]), (1003, [(0, 0), (1, 0), (5, 0)]), (1004, [(0, 0), (1, 0), (5, 0), (11, 0)]), (1005, [(1, 0), (5, 0)]), (1006, [(4, 0)])] Tryd.func72 rfl rfl (by simp [Tryd.f72]) (by kernel_rfl) ?_
  simp only [Tryd.f72]
  refine sA ?_
  refine Bs_if h (fun h hc1 => ?_) (fun h hc1 => ?_)
  · try refine sA ?_
    have he := Option.some.inj h
    subst he
    exact endsA ⟨[(4, (.lf false (.sc (.int .i64 0))))], [(0, some (false, .box [(.lf true (.sl (a0.code.map eU8))), (.lf false (.sc (.int .i64 a0.at_))), (.lf false (.sc (.int .u64 a0.seed)))]))], 1, 20⟩ [some 0]
  · try refine sA ?_
    obtain ⟨c5, hr2, h⟩ := bind_ok h
    refine Cl_hA [0] (w_spec_l1Cur_next_o hr2) ?_
    try refine sA ?_
    refine Bs_if h (fun h hc3 => ?_) (fun h hc3 => ?_)
    · try refine sA ?_
      obtain ⟨c6, hr4, h⟩ := bind_ok h
      refine Cl_hA [0] (w_spec_l1Cur_next_o hr4) ?_
      try refine sA ?_
      obtain ⟨hp5, h⟩ := guard_some h
      try refine sA ?_
      try refine andA ?_
      have he := Option.some.inj h
      subst he
      exact endsA ⟨[(4, (.lf false (.sc (.int .i64 ((wI ((wI (c5.1 * 256)) + c6.1)).tmod a1)))))], [(0, some (false, .box [(.lf true (.sl (c6.2.code.map eU8))), (.lf false (.sc (.int .i64 c6.2.at_))), (.lf false (.sc (.int .u64 c6.2.seed)))]))], 1, 20⟩ [some 0]
    · try refine sA ?_
      obtain ⟨hp6, h⟩ := guard_some h
      try refine sA ?_
      try refine andA ?_
      have he := Option.some.inj h
      subst he
      exact endsA ⟨[(4, (.lf false (.sc (.int .i64 (c5.1.tmod a1)))))], [(0, some (false, .box [(.lf true (.sl (c5.2.code.map eU8))), (.lf false (.sc (.int .i64 c5.2.at_))), (.lf false (.sc (.int .u64 c5.2.seed)))]))], 1, 20⟩ [some 0]
theorem w_spec_l1Cur_one_o {a0 : l1CurT} {a1 : Int} {r : (Bool × l1CurT)} (h : spec_l1Cur_one_o a0 a1 = some r) : Fn Tryd.prog 74 [(.pb 0 0), (.lf false (.sc (.int .i64 a1)))] [(0, some (false, .box [(.lf true (.sl (a0.code.map eU8))), (.lf false (.sc (.int .i64 a0.at_))), (.lf false (.sc (.int .u64 a0.seed)))]))] 1 (.lf false (.sc (.bool r.1))) [(0, some (false, .box [(.lf true (.sl (r.2.code.map eU8))), (.lf false (.sc (.int .i64 r.2.at_))), (.lf false (.sc (.int .u64 r.2.seed)))]))] 1 := by
  unfold spec_l1Cur_one_o at h
  refine fn_code tab_ok mixed [] Tryd.func74 rfl rfl (by simp [Tryd.f74]) (by kernel_rfl) ?_
  simp only [Tryd.f74]
  refine sA ?_
  obtain ⟨c7, hr1, h⟩ := bind_ok h
  refine Cl_hA [0] (w_spec_l1Cur_pick_o hr1) ?_
  try refine sA ?_
  have he := Option.some.inj h
  subst he
  exact endsA ⟨[(4, (.lf false (.sc (.bool (c7.1 == 0)))))], [(0, some (false, .box [(.lf true (.sl (c7.2.code.map eU8))), (.lf false (.sc (.int .i64 c7.2.at_))), (.lf false (.sc (.int .u64 c7.2.seed)))]))], 1, 9⟩ [some 0]
theorem w_spec_l1Cur_of_ow {a0 : l1CurT} {a1 : (List ByteArray)} {m1 : Nat} {x1 : Bool} {r : (ByteArray × l1CurT)} (h : spec_l1Cur_of_ow a0 a1 = some r) : Fn Tryd.prog 107 [(.pb 0 0), (.os 1 1 0 a1.length m1 x1)] [(0, some (false, .box [(.lf true (.sl (a0.code.map eU8))), (.lf false (.sc (.int .i64 a0.at_))), (.lf false (.sc (.int .u64 a0.seed)))])), (1, some (false, .arr true 1 (a1.map eS)))] 2 (.lf false (.sc (.string r.1))) [(0, some (false, .box [(.lf true (.sl (r.2.code.map eU8))), (.lf false (.sc (.int .i64 r.2.at_))), (.lf false (.sc (.int .u64 r.2.seed)))])), (1, some (false, .arr false 1 (a1.map eS)))] 2 := by
  unfold spec_l1Cur_of_ow at h
  refine fn_code tab_ok mixed [] Tryd.func107 rfl rfl (by simp [Tryd.f107]) (by kernel_rfl) ?_
  simp only [Tryd.f107]
  refine sA ?_
  obtain ⟨c10, hr1, h⟩ := bind_ok h
  refine Cl_hA [0] (w_spec_l1Cur_pick_o hr1) ?_
  try refine sA ?_
  obtain ⟨hp2, h⟩ := guard_some h
  have hn2 : c10.1.toNat < a1.length := by first | omega | (simp only [List.length_set, List.length_append, List.length_replicate, List.length_map]; omega)
  try refine sA ?_
  try refine andA ?_
  try refine andB ?_
  try refine sA ?_
  have he := Option.some.inj h
  subst he
  exact endsA ⟨[(4, (.lf false (.sc (.string (nth a1 c10.1.toNat)))))], [(0, some (false, .box [(.lf true (.sl (c10.2.code.map eU8))), (.lf false (.sc (.int .i64 c10.2.at_))), (.lf false (.sc (.int .u64 c10.2.seed)))])), (1, some (false, .arr false 1 (a1.map eS)))], 2, 12⟩ [some 0, some 1]
theorem w_spec_l1Num {a0 : Int} {r : ByteArray} (h : spec_l1Num a0 = some r) : Fn Tryd.prog 139 [.lf false (.sc (.int .i64 a0))] [] 0 (.lf false (.sc (.string r))) [] 0 := by
  unfold spec_l1Num at h
  obtain ⟨⟨hp1, hp2⟩, h⟩ := guard_some h
  have he := Option.some.inj h; subst he
  exact fn_int1 (Ent.of Tryd.func139 rfl (by simp [Tryd.f139])) fun w => Go.Proofs.Tryd.l1num a0 hp1 hp2 w
theorem w_spec_l1Cur_domains_o {a0 : l1CurT} {r : ((List DomainT) × l1CurT)} (h : spec_l1Cur_domains_o a0 = some r) : Fn Tryd.prog 102 [(.pb 0 0)] [(0, some (false, .box [(.lf true (.sl (a0.code.map eU8))), (.lf false (.sc (.int .i64 a0.at_))), (.lf false (.sc (.int .u64 a0.seed)))]))] 1 (.os 1 3 0 r.1.length r.1.length false) [(0, some (false, .box [(.lf true (.sl (r.2.code.map eU8))), (.lf false (.sc (.int .i64 r.2.at_))), (.lf false (.sc (.int .u64 r.2.seed)))])), (1, some (true, .arr false 3 (r.1.map eDomain)))] 2 := by
  unfold spec_l1Cur_domains_o at h
  refine fn_code tab_ok mixed [(1000, [(0, 0)]), (1001, [(0, 0), (3, 0)]), (1002, [(0, 0), (3, 0), (7, 0), (8, 0), (9, 0)]), (1003, [(0, 0), (3, 0), (7, 0), (8, 0), (9, 0), (10, 0)]), (1004, [(0, 0), (3, 0), (5, 0), (7, 0), (8, 0), (9, 0)]), (1005, [(0, 0), (3, 0), (5, 0), (7, 0), (8, 0), (9, 0), (14, 0)]), (1006, [(0, 0), (3, 0), (7, 0), (8, 0), (9, 0)]), (1007, [(0, 0), (3, 0), (7, 0), (8, 0), (9, 0)]), (1008, [(0, 0), (3, 0), (27, 0)]), (1009, [(0, 0), (3, 0), (6, 0)]), (1010, [(0, 0), (3, 0), (6, 0), (29, 0)]), (1011, [(0, 0), (3, 0), (6, 0)]), (1012, [(0, 0), (3, 0), (6, 0)]), (1013, [(0, 0), (3, 0), (46, 0)]), (1014, [(3, 0)]), (1015, [(2, 0)]), (2027, []), (4013, [])] Tryd.func102 rfl rfl (by simp [Tryd.f102]) (by kernel_rfl) ?_
  simp only [Tryd.f102]
  refine sA ?_
  obtain ⟨y15, hl1, h⟩ := bind_ok h
  refine W_loopP (fun g3 : spec_l1Cur_domains_o_G1 => ⟨[(0, (.pb 0 0)), (3, (.os 1 3 0 g3.c1.length g3.c1.length false)), (7, (.os 2 1 0 5 5 true)), (8, (.lf false (.sc (.int .i64 5)))), (9, (.lf false (.sc (.int .i64 g3.t9))))], [(0, some (false, .box [(.lf true (.sl (g3.b0_0.map eU8))), (.lf false (.sc (.int .i64 g3.b0_1))), (.lf false (.sc (.int .u64 g3.b0_2)))])), (1, some (true, .arr false 3 (g3.c1.map eDomain))), (2, some (true, .arr false 1 (([(⟨#[97]⟩ : ByteArray), (⟨#[98]⟩ : ByteArray), (⟨#[99]⟩ : ByteArray), (⟨#[100, 49]⟩ : ByteArray), (⟨#[112, 97, 121]⟩ : ByteArray)]).map eS)))], 3, 54⟩) (spec_l1Cur_domains_o_L1) _ _ hl1 (weakA [some 0, none, some 1]) ?_
  · intro n1 g3 z1 hs1 hk1
    unfold spec_l1Cur_domains_o_L1 at hs1
    try dsimp only at hs1
    generalize hlit : ([(⟨#[97]⟩ : ByteArray), (⟨#[98]⟩ : ByteArray), (⟨#[99]⟩ : ByteArray), (⟨#[100, 49]⟩ : ByteArray), (⟨#[112, 97, 121]⟩ : ByteArray)] : List ByteArray) = lit at hs1 ⊢
    refine sA ?_
    refine Bs_if hs1 (fun hs1 hc2 => ?_) (fun hs1 hc2 => ?_)
    · try refine sA ?_
      obtain ⟨hp3, hs1⟩ := guard_some hs1
      have hn3 : g3.t9.toNat < 5 := by first | omega | (simp only [List.length_set, List.length_append, List.length_replicate, List.length_map]; omega)
      have hn3' : g3.t9.toNat < lit.length := by rw [← hlit]; exact hn3
      try refine sA ?_
      try refine andA ?_
      try refine andB ?_
      try refine sA ?_
      obtain ⟨c12, hr5, hs1⟩ := bind_ok hs1
      refine Cl_hA [0] (w_spec_l1Cur_one_o hr5) ?_
      try refine sA ?_
      refine Bs_if hs1 (fun hs1 hc6 => ?_) (fun hs1 hc6 => ?_)
      · try refine sA ?_
        obtain ⟨c13, hr7, hs1⟩ := bind_ok hs1
        refine Cl_hA [0] (w_spec_l1Cur_pick_o hr7) ?_
        try refine sA ?_
        obtain ⟨c14, hr8, hs1⟩ := bind_ok hs1
        refine Cl_hA [0, 3] (w_spec_l1Cur_of_ow hr8) ?_
        try refine sA ?_
        obtain ⟨hp9, hs1⟩ := guard_some hs1
        try refine sA ?_
        try refine andA ?_
        cases hs1
        exact X_backP hk1 (weakA [some 0, some 5, some 2])
      · try refine sA ?_
        cases hs1
        exact X_backP hk1 (weakA [some 0, some 1, some 2])
    · try refine sA ?_
      cases hs1
      cases hk1
      try dsimp only at h
      try refine sA ?_
      obtain ⟨p30, hq10, h⟩ := bind_ok h
      refine Sq_cut (fun s2 => s2 = ⟨[(0, (.pb 0 0)), (3, (.os 1 3 0 p30.c1.length p30.c1.length false))], [(0, some (false, .box [(.lf true (.sl (p30.b0_0.map eU8))), (.lf false (.sc (.int .i64 p30.b0_1))), (.lf false (.sc (.int .u64 p30.b0_2)))])), (1, some (true, .arr false 3 (p30.c1.map eDomain)))], 2, 54⟩) ?_ ?_
      · try refine sA ?_
        obtain ⟨c25, hr11, hq10⟩ := bind_ok hq10
        refine Cl_hA [0] (w_spec_l1Cur_one_o hr11) ?_
        try refine sA ?_
        refine Bs_if hq10 (fun hq10 hc12 => ?_) (fun hq10 hc12 => ?_)
        · try refine sA ?_
          obtain ⟨y29, hl13, hq10⟩ := bind_ok hq10
          refine W_loopP (fun g26 : spec_l1Cur_domains_o_G2 => ⟨[(0, (.pb 0 0)), (3, (.os 1 3 0 g26.c1.length g26.c1.length false)), (6, (.lf false (.sc (.int .i64 g26.t6))))], [(0, some (false, .box [(.lf true (.sl (c25.2.code.map eU8))), (.lf false (.sc (.int .i64 c25.2.at_))), (.lf false (.sc (.int .u64 c25.2.seed)))])), (1, some (true, .arr false 3 (g26.c1.map eDomain)))], 2, 54⟩) (_) _ _ hl13 (weakA [some 0, some 1]) ?_
          · intro n3 g26 z3 hs3 hk3
            unfold spec_l1Cur_domains_o_L2 at hs3
            try dsimp only at hs3
            refine sA ?_
            refine Bs_if hs3 (fun hs3 hc14 => ?_) (fun hs3 hc14 => ?_)
            · try refine sA ?_
              obtain ⟨c28, hr15, hs3⟩ := bind_ok hs3
              refine Cl_sA (w_spec_l1Num hr15) ?_
              try refine sA ?_
              obtain ⟨hp16, hs3⟩ := guard_some hs3
              try refine sA ?_
              try refine andA ?_
              obtain ⟨hp17, hs3⟩ := guard_some hs3
              try refine sA ?_
              try refine andA ?_
              cases hs3
              exact X_backP hk3 (weakA [some 0, some 3])
            · try refine sA ?_
              cases hs3
              cases hk3
              try dsimp only at hq10
              try refine sA ?_
              cases hq10
              exact X_cut rfl (weakA [some 0, some 1])
        · try refine sA ?_
          cases hq10
          exact X_cut rfl (weakA [some 0, some 1])
      · intro s2 hJ; subst hJ
        try dsimp only at h
        try refine sA ?_
        obtain ⟨p32, hq18, h⟩ := bind_ok h
        refine Sq_cut (fun s2 => s2 = ⟨[(0, (.pb 0 0)), (3, (.os 1 3 0 p30.c1.length p30.c1.length false)), (46, (.lf false (.sc (.bool p32.t46))))], [(0, some (false, .box [(.lf true (.sl (p32.b0_0.map eU8))), (.lf false (.sc (.int .i64 p32.b0_1))), (.lf false (.sc (.int .u64 p32.b0_2)))])), (1, some (true, .arr false 3 (p30.c1.map eDomain)))], 2, 54⟩) ?_ ?_
        · try refine sA ?_
          refine Sp_if hq18 (fun hq18 hc19 => ?_) (fun hq18 hc19 => ?_)
          · try refine sA ?_
            obtain ⟨c31, hr20, hq18⟩ := bind_ok hq18
            refine Cl_hA [0] (w_spec_l1Cur_one_o hr20) ?_
            try refine sA ?_
            cases hq18
            exact X_cut rfl (weakA [some 0, some 1])
          · try refine sA ?_
            cases hq18
            exact X_cut rfl (weakA [some 0, some 1])
        · intro s2 hJ; subst hJ
          try dsimp only at h
          try refine sA ?_
          refine Bs_if h (fun h hc21 => ?_) (fun h hc21 => ?_)
          · try refine sA ?_
            obtain ⟨c33, hr22, h⟩ := bind_ok h
            refine Cl_hA [0, 2] (w_spec_l1Cur_of_ow hr22) ?_
            try refine sA ?_
            obtain ⟨hp23, h⟩ := guard_some h
            have hn23 : 0 < p30.c1.length := by first | omega | (simp only [List.length_set, List.length_append, List.length_replicate, List.length_map]; omega)
            try refine sA ?_
            try refine andA ?_
            try refine andB ?_
            try refine sA ?_
            have he := Option.some.inj h
            subst he
            exact endsA ⟨[(2, (.os 1 3 0 ((p30.c1.set 0 (⟨c33.1, (nth p30.c1 0).Version, (nth p30.c1 0).Note⟩ : DomainT)).length) ((p30.c1.set 0 (⟨c33.1, (nth p30.c1 0).Version, (nth p30.c1 0).Note⟩ : DomainT)).length) false))], [(0, some (false, .box [(.lf true (.sl (c33.2.code.map eU8))), (.lf false (.sc (.int .i64 c33.2.at_))), (.lf false (.sc (.int .u64 c33.2.seed)))])), (1, some (true, .arr false 3 ((p30.c1.set 0 (⟨c33.1, (nth p30.c1 0).Version, (nth p30.c1 0).Note⟩ : DomainT)).map eDomain)))], 2, 54⟩ [some 0, some 1]
          · try refine sA ?_
            have he := Option.some.inj h
            subst he
            exact endsA ⟨[(2, (.os 1 3 0 p30.c1.length p30.c1.length false))], [(0, some (false, .box [(.lf true (.sl (p32.b0_0.map eU8))), (.lf false (.sc (.int .i64 p32.b0_1))), (.lf false (.sc (.int .u64 p32.b0_2)))])), (1, some (true, .arr false 3 (p30.c1.map eDomain)))], 2, 54⟩ [some 0, some 1]
theorem w_spec_DrawMergeDomains {a0 : (List Int)} {r : ((List DomainT) × (List DomainT))} (h : spec_DrawMergeDomains a0 = some r) : Fn Tryd.prog 49 [(.lf true (.sl (a0.map eU8)))] [] 0 (.tu [(.os 0 3 0 r.1.length r.1.length false), (.os 1 3 0 r.2.length r.2.length false)]) [(0, some (true, .arr false 3 (r.1.map eDomain))), (1, some (true, .arr false 3 (r.2.map eDomain)))] 2 := by
  unfold spec_DrawMergeDomains at h
  refine fn_code tab_ok mixed [(1000, [(0, 0)]), (1001, [(4, 0)]), (1002, [(2, 0), (3, 0)])] Tryd.func49 rfl rfl (by simp [Tryd.f49]) (by kernel_rfl) ?_
  simp only [Tryd.f49]
  refine sA ?_
  obtain ⟨c34, hr1, h⟩ := bind_ok h
  refine Cl_hA [0] (w_spec_l1Cur_domains_o hr1) ?_
  try refine sA ?_
  obtain ⟨c35, hr2, h⟩ := bind_ok h
  refine Cl_hA [0] (w_spec_l1Cur_domains_o hr2) ?_
  try refine sA ?_
  have he := Option.some.inj h
  subst he
  exact endsA ⟨[(2, (.os 0 3 0 c34.1.length c34.1.length false)), (3, (.os 1 3 0 c35.1.length c35.1.length false))], [(0, some (true, .arr false 3 (c34.1.map eDomain))), (1, some (true, .arr false 3 (c35.1.map eDomain)))], 2, 12⟩ [some 1, some 2]
theorem w_strings_Trim {a0 a1 : ByteArray} {r : ByteArray} (h : strings_Trim a0 a1 = some r) : Fn Tryd.prog 129 [.lf false (.sc (.string a0)), .lf false (.sc (.string a1))] [] 0 (.lf false (.sc (.string r))) [] 0 := by
  unfold strings_Trim at h
  obtain ⟨⟨hp1, hp2, hp3⟩, h⟩ := guard_some h
  have he := Option.some.inj h; subst he
  exact fn_str2 (Ent.of Tryd.func129 rfl (by simp [Tryd.f129])) fun w => Go.Proofs.Any.strings_Trim_laid Go.Proofs.Tryd.lays160 (by kernel_rfl) a0 a1 w hp1 hp2 (ascii_of_all hp3)
theorem w_impl_goodName {a0 : ByteArray} {r : Bool} (h : impl_goodName a0 = some r) : Fn Tryd.prog 88 [(.lf false (.sc (.string a0)))] [] 0 (.lf false (.sc (.bool r))) [] 0 := by
  unfold impl_goodName at h
  refine fn_code tab_ok mixed [] Tryd.func88 rfl rfl (by simp [Tryd.f88]) (by kernel_rfl) ?_
  simp only [Tryd.f88]
  refine sA ?_
  refine Sp_if h (fun h hc1 => ?_) (fun h hc1 => ?_)
  · try refine sA ?_
    obtain ⟨c38, hr2, h⟩ := bind_ok h
    refine Cl_sA (w_strings_Trim hr2) ?_
    try refine sA ?_
    have he := Option.some.inj h
    subst he
    exact endsA ⟨[(2, (.lf false (.sc (.bool (c38.toList == ByteArray.empty.toList)))))], [], 0, 11⟩ []
  · try refine sA ?_
    have he := Option.some.inj h
    subst he
    exact endsA ⟨[(2, (.lf false (.sc (.bool false))))], [], 0, 11⟩ []
theorem w_impl_in {a0 : Int} {a1 : Int} {a2 : Int} {r : Bool} (h : impl_in a0 a1 a2 = some r) : Fn Tryd.prog 80 [(.lf false (.sc (.int .i64 a0))), (.lf false (.sc (.int .i64 a1))), (.lf false (.sc (.int .i64 a2)))] [] 0 (.lf false (.sc (.bool r))) [] 0 := by
  unfold impl_in at h
  refine fn_code tab_ok mixed [] Tryd.func80 rfl rfl (by simp [Tryd.f80]) (by kernel_rfl) ?_
  simp only [Tryd.f80]
  refine sA ?_
  refine Sp_if h (fun h hc1 => ?_) (fun h hc1 => ?_)
  · try refine sA ?_
    have he := Option.some.inj h
    subst he
    exact endsA ⟨[(6, (.lf false (.sc (.bool (decide (a0 ≤ a2))))))], [], 0, 15⟩ []
  · try refine sA ?_
    have he := Option.some.inj h
    subst he
    exact endsA ⟨[(6, (.lf false (.sc (.bool false))))], [], 0, 15⟩ []
theorem w_impl_isVersion {a0 : Int} {r : Bool} (h : impl_isVersion a0 = some r) : Fn Tryd.prog 103 [(.lf false (.sc (.int .i64 a0)))] [] 0 (.lf false (.sc (.bool r))) [] 0 := by
  unfold impl_isVersion at h
  refine fn_code tab_ok mixed [] Tryd.func103 rfl rfl (by simp [Tryd.f103]) (by kernel_rfl) ?_
  simp only [Tryd.f103]
  refine sA ?_
  obtain ⟨c40, hr1, h⟩ := bind_ok h
  refine Cl_sA (w_impl_in hr1) ?_
  try refine sA ?_
  have he := Option.some.inj h
  subst he
  exact endsA ⟨[(2, (.lf false (.sc (.bool c40))))], [], 0, 5⟩ []
theorem w_impl_GoodDomains {a0 : (List DomainT)} {r : Bool} (h : impl_GoodDomains a0 = some r) : Fn Tryd.prog 51 [(.lf true (.sl (a0.map eDomain)))] [] 0 (.lf false (.sc (.bool r))) [] 0 := by
  unfold impl_GoodDomains at h
  refine fn_code tab_ok mixed [(1000, [(0, 0)]), (1001, [(0, 0), (7, 0)]), (1002, [(2, 0)]), (1003, [(0, 0), (8, 0), (9, 0), (10, 0)]), (1004, [(0, 0), (8, 0), (9, 0), (10, 0), (11, 0)]), (1005, [(0, 0), (3, 0), (4, 0), (8, 0), (9, 0), (10, 0)]), (1006, [(0, 0), (8, 0), (9, 0), (10, 0), (50, 0)]), (1007, [(2, 0)]), (1008, [(0, 0), (8, 0), (9, 0), (10, 0)]), (1009, [(2, 0)]), (4006, [])] Tryd.func51 rfl rfl (by simp [Tryd.f51]) (by kernel_rfl) ?_
  simp only [Tryd.f51]
  refine sA ?_
  refine Bs_if h (fun h hc1 => ?_) (fun h hc1 => ?_)
  · try refine sA ?_
    have he := Option.some.inj h
    subst he
    exact endsA ⟨[(2, (.lf false (.sc (.bool false))))], [], 0, 52⟩ []
  · try refine sA ?_
    obtain ⟨y46, hl2, h⟩ := bind_ok h
    refine W_loopP (fun g37 : impl_GoodDomains_G1 => ⟨[(0, (.lf true (.sl (a0.map eDomain)))), (8, (.lf true (.sl (a0.map eDomain)))), (9, (.lf false (.sc (.int .i64 ((a0.length : Nat) : Int))))), (10, (.lf false (.sc (.int .i64 g37.t10))))], [], 0, 52⟩) (impl_GoodDomains_L1 a0) _ _ hl2 (weakA []) ?_
    · intro n1 g37 z1 hs1 hk1
      unfold impl_GoodDomains_L1 at hs1
      try dsimp only at hs1
      refine sA ?_
      refine Bs_if hs1 (fun hs1 hc3 => ?_) (fun hs1 hc3 => ?_)
      · try refine sA ?_
        obtain ⟨hp4, hs1⟩ := guard_some hs1
        have hn4 : g37.t10.toNat < a0.length := by first | omega | (simp only [List.length_set, List.length_append, List.length_replicate, List.length_map]; omega)
        try refine sA ?_
        try refine andA ?_
        obtain ⟨p45, hq5, hs1⟩ := bind_ok hs1
        refine Sq_cut (fun s2 => s2 = ⟨[(0, (.lf true (.sl (a0.map eDomain)))), (8, (.lf true (.sl (a0.map eDomain)))), (9, (.lf false (.sc (.int .i64 ((a0.length : Nat) : Int))))), (10, (.lf false (.sc (.int .i64 g37.t10)))), (50, (.lf false (.sc (.bool p45.t50))))], [], 0, 52⟩) ?_ ?_
        · try refine sA ?_
          refine Sp_if hq5 (fun hq5 hc6 => ?_) (fun hq5 hc6 => ?_)
          · try refine sA ?_
            cases hq5
            exact X_cut rfl (weakA [])
          · try refine sA ?_
            obtain ⟨c43, hr7, hq5⟩ := bind_ok hq5
            refine Cl_sA (w_impl_goodName hr7) ?_
            try refine sA ?_
            refine Sp_if hq5 (fun hq5 hc8 => ?_) (fun hq5 hc8 => ?_)
            · try refine sA ?_
              cases hq5
              exact X_cut rfl (weakA [])
            · try refine sA ?_
              obtain ⟨c44, hr9, hq5⟩ := bind_ok hq5
              refine Cl_sA (w_impl_isVersion hr9) ?_
              try refine sA ?_
              refine Sp_if hq5 (fun hq5 hc10 => ?_) (fun hq5 hc10 => ?_)
              · try refine sA ?_
                cases hq5
                exact X_cut rfl (weakA [])
              · try refine sA ?_
                refine Sp_if hq5 (fun hq5 hc11 => ?_) (fun hq5 hc11 => ?_)
                · try refine sA ?_
                  cases hq5
                  exact X_cut rfl (weakA [])
                · try refine sA ?_
                  refine Sp_if hq5 (fun hq5 hc12 => ?_) (fun hq5 hc12 => ?_)
                  · try refine sA ?_
                    obtain ⟨hp13, hq5⟩ := guard_some hq5
                    have hn13 : (wI (g37.t10 - 1)).toNat < a0.length := by first | omega | (simp only [List.length_set, List.length_append, List.length_replicate, List.length_map]; omega)
                    try refine sA ?_
                    try refine andA ?_
                    cases hq5
                    exact X_cut rfl (weakA [])
                  · try refine sA ?_
                    cases hq5
                    exact X_cut rfl (weakA [])
        · intro s2 hJ; subst hJ
          try dsimp only at hs1
          try refine sA ?_
          refine Bs_if hs1 (fun hs1 hc14 => ?_) (fun hs1 hc14 => ?_)
          · try refine sA ?_
            cases hs1
            cases hk1
            try dsimp only at h
            try refine sA ?_
            have he := Option.some.inj h
            subst he
            exact endsA ⟨[(2, (.lf false (.sc (.bool false))))], [], 0, 52⟩ []
          · try refine sA ?_
            cases hs1
            exact X_backP hk1 (weakA [])
      · try refine sA ?_
        cases hs1
        cases hk1
        try dsimp only at h
        try refine sA ?_
        have he := Option.some.inj h
        subst he
        exact endsA ⟨[(2, (.lf false (.sc (.bool true))))], [], 0, 52⟩ []
theorem w_slices_Clone_impl_Domain {a0 : (List DomainT)} {r : (List DomainT)} (h : slices_Clone_impl_Domain a0 = some r) : Fn Tryd.prog 95 [(.lf true (.sl (a0.map eDomain)))] [] 0 (.os 0 3 0 r.length r.length false) [(0, some (true, .arr false 3 (r.map eDomain)))] 1 := by
  unfold slices_Clone_impl_Domain at h
  obtain ⟨hp, h⟩ := guard_some h
  have he := Option.some.inj h; subst he
  refine fn_code tab_ok mixed [] Tryd.func95 rfl rfl (by simp [Tryd.f95]) (by kernel_rfl) ?_
  simp only [Tryd.f95]
  simp (disch := assumption) only [go_sem, Nat.reduceAdd, Nat.reduceMul, Nat.reduceSub, Nat.reduceEqDiff, ↓reduceIte, Nat.reduceLT, reduceCtorEq, Nat.reduceLeDiff, Int.reduceToNat, Int.reduceEq, Int.reduceLE, Int.reduceLT, Nat.reduceBEq]
  intro b hb
  refine Bs_splitC (b = true) (by simp) (fun hc => ?_) (fun hc => ?_)
  · have h0 : a0 = [] := by simpa using hb (by simpa using hc)
    subst h0
    try simp (disch := assumption) only [go_sem, Nat.reduceAdd, Nat.reduceMul, Nat.reduceSub, Nat.reduceEqDiff, ↓reduceIte, Nat.reduceLT, reduceCtorEq, Nat.reduceLeDiff, Int.reduceToNat, Int.reduceEq, Int.reduceLE, Int.reduceLT, Nat.reduceBEq]
    refine ends_weak ⟨[(2, (.os 0 3 0 0 0 false))], [(0, some (true, .arr false 3 (([] : List DomainT).map eDomain)))], 1, 8⟩ (weak_of (m := 0) [none] rfl rfl rfl (by rfl) ?_ ?_) ?_
    all_goals ((try simp (disch := assumption) only [go_sem, Nat.reduceAdd, Nat.reduceMul, Nat.reduceSub, Nat.reduceEqDiff, ↓reduceIte, Nat.reduceLT, reduceCtorEq, Nat.reduceLeDiff, Int.reduceToNat, Int.reduceEq, Int.reduceLE, Int.reduceLT, Nat.reduceBEq]); (repeat' first | done | rfl | omega | refine And.intro ?_ ?_ | (simp; done) | (simp; omega)))
  · try simp (disch := assumption) only [go_sem, Nat.reduceAdd, Nat.reduceMul, Nat.reduceSub, Nat.reduceEqDiff, ↓reduceIte, Nat.reduceLT, reduceCtorEq, Nat.reduceLeDiff, Int.reduceToNat, Int.reduceEq, Int.reduceLE, Int.reduceLT, Nat.reduceBEq]
    first | refine And.intro (by first | omega | exact ⟨by omega, fun _ => mapLen fun _ => rfl⟩ | (refine ⟨?_, by omega⟩; first | exact mapLen fun _ => rfl | simp)) ?_ | skip
    try simp (disch := assumption) only [go_sem, Nat.reduceAdd, Nat.reduceMul, Nat.reduceSub, Nat.reduceEqDiff, ↓reduceIte, Nat.reduceLT, reduceCtorEq, Nat.reduceLeDiff, Int.reduceToNat, Int.reduceEq, Int.reduceLE, Int.reduceLT, Nat.reduceBEq]
    refine ends_weak ⟨[(2, (.os 0 3 0 a0.length a0.length false))], [(0, some (true, .arr false 3 (a0.map eDomain)))], 1, 8⟩ (weak_of (m := 0) [some 1] rfl rfl rfl (by rfl) ?_ ?_) ?_
    all_goals ((try simp (disch := assumption) only [go_sem, Nat.reduceAdd, Nat.reduceMul, Nat.reduceSub, Nat.reduceEqDiff, ↓reduceIte, Nat.reduceLT, reduceCtorEq, Nat.reduceLeDiff, Int.reduceToNat, Int.reduceEq, Int.reduceLE, Int.reduceLT, Nat.reduceBEq]); (repeat' first | done | rfl | omega | refine And.intro ?_ ?_ | (simp; done) | (simp; omega)))
theorem w_impl_domainAt_c1_r {a0 : DomainT} {a1 : ByteArray} {r : Bool} (h : impl_domainAt_c1_r a0 a1 = some r) : Fn Tryd.prog 133 [(.ag [(.lf false (.sc (.string a0.Name))), (.lf false (.sc (.int .i64 a0.Version))), (.lf false (.sc (.string a0.Note)))]), (.ra true [.sc (.string a1)])] [] 0 (.lf false (.sc (.bool r))) [] 0 := by
  unfold impl_domainAt_c1_r at h
  refine fn_code tab_ok mixed [] Tryd.func133 rfl rfl (by simp [Tryd.f133]) (by kernel_rfl) ?_
  simp only [Tryd.f133]
  refine sA ?_
  have he := Option.some.inj h
  subst he
  exact endsA ⟨[(3, (.lf false (.sc (.bool (a0.Name.toList == a1.toList)))))], [], 0, 8⟩ []
theorem w_slices_IndexFunc_impl_Domain_impl_domainAt_c1r {a0 : (List DomainT)} {a1 : ByteArray} {r : Int} (h : slices_IndexFunc_impl_Domain_impl_domainAt_c1r a0 a1 = some r) : Fn Tryd.prog 132 [(.lf true (.sl (a0.map eDomain))), (.fn 133 [(.ra true [.sc (.string a1)])])] [] 0 (.lf false (.sc (.int .i64 r))) [] 0 := by
  unfold slices_IndexFunc_impl_Domain_impl_domainAt_c1r at h
  refine fn_code tab_ok mixed [(1000, [(0, 0), (1, 0)]), (1001, [(0, 0), (1, 0), (7, 0), (8, 0)]), (1002, [(0, 0), (1, 0), (7, 0), (8, 0), (9, 0)]), (1003, [(0, 0), (1, 0), (5, 0), (7, 0), (8, 0)]), (1004, [(0, 0), (1, 0), (5, 0), (7, 0), (8, 0), (16, 0)]), (1005, [(4, 0)]), (1006, [(0, 0), (1, 0), (7, 0), (8, 0)]), (1007, [(4, 0)])] Tryd.func132 rfl rfl (by simp [Tryd.f132]) (by kernel_rfl) ?_
  simp only [Tryd.f132]
  refine sA ?_
  obtain ⟨y57, hl1, h⟩ := bind_ok h
  refine W_loopP (fun g54 : slices_IndexFunc_impl_Domain_impl_domainAt_c1r_G1 => ⟨[(0, (.lf true (.sl (a0.map eDomain)))), (1, (.fn 133 [(.ra true [.sc (.string a1)])])), (7, (.lf false (.sc (.int .i64 ((a0.length : Nat) : Int))))), (8, (.lf false (.sc (.int .i64 g54.t8))))], [], 0, 19⟩) (slices_IndexFunc_impl_Domain_impl_domainAt_c1r_L1 a0 a1) _ _ hl1 (weakA []) ?_
  · intro n1 g54 z1 hs1 hk1
    unfold slices_IndexFunc_impl_Domain_impl_domainAt_c1r_L1 at hs1
    try dsimp only at hs1
    refine sA ?_
    refine Bs_if hs1 (fun hs1 hc2 => ?_) (fun hs1 hc2 => ?_)
    · try refine sA ?_
      obtain ⟨hp3, hs1⟩ := guard_some hs1
      have hn3 : g54.t8.toNat < a0.length := by first | omega | (simp only [List.length_set, List.length_append, List.length_replicate, List.length_map]; omega)
      try refine sA ?_
      try refine andA ?_
      obtain ⟨c56, hr4, hs1⟩ := bind_ok hs1
      refine Cl_sA (w_impl_domainAt_c1_r hr4) ?_
      try refine sA ?_
      refine Bs_if hs1 (fun hs1 hc5 => ?_) (fun hs1 hc5 => ?_)
      · try refine sA ?_
        cases hs1
        cases hk1
        try dsimp only at h
        try refine sA ?_
        have he := Option.some.inj h
        subst he
        exact endsA ⟨[(4, (.lf false (.sc (.int .i64 g54.t8))))], [], 0, 19⟩ []
      · try refine sA ?_
        cases hs1
        exact X_backP hk1 (weakA [])
    · try refine sA ?_
      cases hs1
      cases hk1
      try dsimp only at h
      try refine sA ?_
      have he := Option.some.inj h
      subst he
      exact endsA ⟨[(4, (.lf false (.sc (.int .i64 (-1)))))], [], 0, 19⟩ []
theorem w_impl_domainAt {a0 : (List DomainT)} {a1 : ByteArray} {r : Int} (h : impl_domainAt a0 a1 = some r) : Fn Tryd.prog 96 [(.lf true (.sl (a0.map eDomain))), (.lf false (.sc (.string a1)))] [] 0 (.lf false (.sc (.int .i64 r))) [] 0 := by
  unfold impl_domainAt at h
  refine fn_code tab_ok mixed [] Tryd.func96 rfl rfl (by simp [Tryd.f96]) (by kernel_rfl) ?_
  simp only [Tryd.f96]
  refine sA ?_
  obtain ⟨c60, hr1, h⟩ := bind_ok h
  refine Cl_sA (w_slices_IndexFunc_impl_Domain_impl_domainAt_c1r hr1) ?_
  try refine sA ?_
  have he := Option.some.inj h
  subst he
  exact endsA ⟨[(4, (.lf false (.sc (.int .i64 c60))))], [], 0, 8⟩ []
theorem w_cmp_isNaN_int {a0 : Int} {r : Bool} (h : cmp_isNaN_int a0 = some r) : Fn Tryd.prog 158 [(.lf false (.sc (.int .i64 a0)))] [] 0 (.lf false (.sc (.bool r))) [] 0 := by
  unfold cmp_isNaN_int at h
  refine fn_code tab_ok mixed [] Tryd.func158 rfl rfl (by simp [Tryd.f158]) (by kernel_rfl) ?_
  simp only [Tryd.f158]
  refine sA ?_
  have he := Option.some.inj h
  subst he
  exact endsA ⟨[(2, (.lf false (.sc (.bool (a0 != a0)))))], [], 0, 6⟩ []
theorem w_cmp_Compare_int {a0 : Int} {a1 : Int} {r : Int} (h : cmp_Compare_int a0 a1 = some r) : Fn Tryd.prog 135 [(.lf false (.sc (.int .i64 a0))), (.lf false (.sc (.int .i64 a1)))] [] 0 (.lf false (.sc (.int .i64 r))) [] 0 := by
  unfold cmp_Compare_int at h
  refine fn_code tab_ok mixed [(1000, [(0, 0), (1, 0)]), (1001, [(0, 0), (1, 0), (5, 0)]), (1002, [(0, 0), (1, 0), (5, 0), (6, 0)]), (1003, [(0, 0), (1, 0), (6, 0), (11, 0)]), (1004, [(12, 0)]), (1005, [(4, 0)]), (1006, [(4, 0)]), (1007, [(0, 0), (1, 0), (13, 0)]), (1008, [(4, 0)]), (1009, [(0, 0), (1, 0), (16, 0)]), (1010, [(4, 0)]), (1011, [(19, 0)]), (1012, [(4, 0)]), (1013, [(4, 0)])] Tryd.func135 rfl rfl (by simp [Tryd.f135]) (by kernel_rfl) ?_
  simp only [Tryd.f135]
  refine sA ?_
  obtain ⟨c62, hr1, h⟩ := bind_ok h
  refine Cl_sA (w_cmp_isNaN_int hr1) ?_
  try refine sA ?_
  obtain ⟨c63, hr2, h⟩ := bind_ok h
  refine Cl_sA (w_cmp_isNaN_int hr2) ?_
  try refine sA ?_
  refine Bs_if h (fun h hc3 => ?_) (fun h hc3 => ?_)
  · try refine sA ?_
    refine Bs_if h (fun h hc4 => ?_) (fun h hc4 => ?_)
    · try refine sA ?_
      have he := Option.some.inj h
      subst he
      exact endsA ⟨[(4, (.lf false (.sc (.int .i64 0))))], [], 0, 20⟩ []
    · try refine sA ?_
      have he := Option.some.inj h
      subst he
      exact endsA ⟨[(4, (.lf false (.sc (.int .i64 (-1)))))], [], 0, 20⟩ []
  · try refine sA ?_
    refine Bs_if h (fun h hc5 => ?_) (fun h hc5 => ?_)
    · try refine sA ?_
      have he := Option.some.inj h
      subst he
      exact endsA ⟨[(4, (.lf false (.sc (.int .i64 1))))], [], 0, 20⟩ []
    · try refine sA ?_
      refine Bs_if h (fun h hc6 => ?_) (fun h hc6 => ?_)
      · try refine sA ?_
        have he := Option.some.inj h
        subst he
        exact endsA ⟨[(4, (.lf false (.sc (.int .i64 (-1)))))], [], 0, 20⟩ []
      · try refine sA ?_
        refine Bs_if h (fun h hc7 => ?_) (fun h hc7 => ?_)
        · try refine sA ?_
          have he := Option.some.inj h
          subst he
          exact endsA ⟨[(4, (.lf false (.sc (.int .i64 1))))], [], 0, 20⟩ []
        · try refine sA ?_
          have he := Option.some.inj h
          subst he
          exact endsA ⟨[(4, (.lf false (.sc (.int .i64 0))))], [], 0, 20⟩ []
theorem w_cmp_isNaN_string {a0 : ByteArray} {r : Bool} (h : cmp_isNaN_string a0 = some r) : Fn Tryd.prog 138 [(.lf false (.sc (.string a0)))] [] 0 (.lf false (.sc (.bool r))) [] 0 := by
  unfold cmp_isNaN_string at h
  refine fn_code tab_ok mixed [] Tryd.func138 rfl rfl (by simp [Tryd.f138]) (by kernel_rfl) ?_
  simp only [Tryd.f138]
  refine sA ?_
  have he := Option.some.inj h
  subst he
  exact endsA ⟨[(2, (.lf false (.sc (.bool (!(a0.toList == a0.toList))))))], [], 0, 6⟩ []
theorem w_cmp_Compare_string {a0 : ByteArray} {a1 : ByteArray} {r : Int} (h : cmp_Compare_string a0 a1 = some r) : Fn Tryd.prog 100 [(.lf false (.sc (.string a0))), (.lf false (.sc (.string a1)))] [] 0 (.lf false (.sc (.int .i64 r))) [] 0 := by
  unfold cmp_Compare_string at h
  refine fn_code tab_ok mixed [(1000, [(0, 0), (1, 0)]), (1001, [(0, 0), (1, 0), (5, 0)]), (1002, [(0, 0), (1, 0), (5, 0), (6, 0)]), (1003, [(0, 0), (1, 0), (6, 0), (11, 0)]), (1004, [(12, 0)]), (1005, [(4, 0)]), (1006, [(4, 0)]), (1007, [(0, 0), (1, 0), (13, 0)]), (1008, [(4, 0)]), (1009, [(0, 0), (1, 0), (16, 0)]), (1010, [(4, 0)]), (1011, [(19, 0)]), (1012, [(4, 0)]), (1013, [(4, 0)])] Tryd.func100 rfl rfl (by simp [Tryd.f100]) (by kernel_rfl) ?_
  simp only [Tryd.f100]
  refine sA ?_
  obtain ⟨c65, hr1, h⟩ := bind_ok h
  refine Cl_sA (w_cmp_isNaN_string hr1) ?_
  try refine sA ?_
  obtain ⟨c66, hr2, h⟩ := bind_ok h
  refine Cl_sA (w_cmp_isNaN_string hr2) ?_
  try refine sA ?_
  refine Bs_if h (fun h hc3 => ?_) (fun h hc3 => ?_)
  · try refine sA ?_
    refine Bs_if h (fun h hc4 => ?_) (fun h hc4 => ?_)
    · try refine sA ?_
      have he := Option.some.inj h
      subst he
      exact endsA ⟨[(4, (.lf false (.sc (.int .i64 0))))], [], 0, 20⟩ []
    · try refine sA ?_
      have he := Option.some.inj h
      subst he
      exact endsA ⟨[(4, (.lf false (.sc (.int .i64 (-1)))))], [], 0, 20⟩ []
  · try refine sA ?_
    refine Bs_if h (fun h hc5 => ?_) (fun h hc5 => ?_)
    · try refine sA ?_
      have he := Option.some.inj h
      subst he
      exact endsA ⟨[(4, (.lf false (.sc (.int .i64 1))))], [], 0, 20⟩ []
    · try refine sA ?_
      refine Bs_if h (fun h hc6 => ?_) (fun h hc6 => ?_)
      · try refine sA ?_
        have he := Option.some.inj h
        subst he
        exact endsA ⟨[(4, (.lf false (.sc (.int .i64 (-1)))))], [], 0, 20⟩ []
      · try refine sA ?_
        refine Bs_if h (fun h hc7 => ?_) (fun h hc7 => ?_)
        · try refine sA ?_
          have he := Option.some.inj h
          subst he
          exact endsA ⟨[(4, (.lf false (.sc (.int .i64 1))))], [], 0, 20⟩ []
        · try refine sA ?_
          have he := Option.some.inj h
          subst he
          exact endsA ⟨[(4, (.lf false (.sc (.int .i64 0))))], [], 0, 20⟩ []
theorem w_cmp_Or_int {a0 : (List Int)} {r : Int} (h : cmp_Or_int a0 = some r) : Fn Tryd.prog 134 [(.lf true (.sl (a0.map eI)))] [] 0 (.lf false (.sc (.int .i64 r))) [] 0 := by
  unfold cmp_Or_int at h
  refine fn_code tab_ok mixed [(1000, [(0, 0)]), (1001, [(0, 0), (3, 0)]), (1002, [(3, 0), (6, 0), (7, 0), (8, 0)]), (1003, [(3, 0), (6, 0), (7, 0), (8, 0), (9, 0)]), (1004, [(3, 0), (5, 0), (6, 0), (7, 0), (8, 0)]), (1005, [(3, 0), (5, 0), (6, 0), (7, 0), (8, 0), (14, 0)]), (1006, [(2, 0)]), (1007, [(3, 0), (6, 0), (7, 0), (8, 0)]), (1008, [(2, 0)])] Tryd.func134 rfl rfl (by simp [Tryd.f134]) (by kernel_rfl) ?_
  simp only [Tryd.f134]
  refine sA ?_
  obtain ⟨y69, hl1, h⟩ := bind_ok h
  refine W_loopP (fun g68 : cmp_Or_int_G1 => ⟨[(3, (.lf false (.sc (.int .i64 0)))), (6, (.lf true (.sl (a0.map eI)))), (7, (.lf false (.sc (.int .i64 ((a0.length : Nat) : Int))))), (8, (.lf false (.sc (.int .i64 g68.t8))))], [], 0, 18⟩) (cmp_Or_int_L1 a0) _ _ hl1 (weakA []) ?_
  · intro n1 g68 z1 hs1 hk1
    unfold cmp_Or_int_L1 at hs1
    try dsimp only at hs1
    refine sA ?_
    refine Bs_if hs1 (fun hs1 hc2 => ?_) (fun hs1 hc2 => ?_)
    · try refine sA ?_
      obtain ⟨hp3, hs1⟩ := guard_some hs1
      have hn3 : g68.t8.toNat < a0.length := by first | omega | (simp only [List.length_set, List.length_append, List.length_replicate, List.length_map]; omega)
      try refine sA ?_
      try refine andA ?_
      refine Bs_if hs1 (fun hs1 hc4 => ?_) (fun hs1 hc4 => ?_)
      · try refine sA ?_
        cases hs1
        cases hk1
        try dsimp only at h
        try refine sA ?_
        have he := Option.some.inj h
        subst he
        exact endsA ⟨[(2, (.lf false (.sc (.int .i64 (nth a0 g68.t8.toNat)))))], [], 0, 18⟩ []
      · try refine sA ?_
        cases hs1
        exact X_backP hk1 (weakA [])
    · try refine sA ?_
      cases hs1
      cases hk1
      try dsimp only at h
      try refine sA ?_
      have he := Option.some.inj h
      subst he
      exact endsA ⟨[(2, (.lf false (.sc (.int .i64 0))))], [], 0, 18⟩ []
theorem w_impl_greater {a0 : DomainT} {a1 : DomainT} {r : Int} (h : impl_greater a0 a1 = some r) : Fn Tryd.prog 97 [(.ag [(.lf false (.sc (.string a0.Name))), (.lf false (.sc (.int .i64 a0.Version))), (.lf false (.sc (.string a0.Note)))]), (.ag [(.lf false (.sc (.string a1.Name))), (.lf false (.sc (.int .i64 a1.Version))), (.lf false (.sc (.string a1.Note)))])] [] 0 (.lf false (.sc (.int .i64 r))) [] 0 := by
  unfold impl_greater at h
  refine fn_code tab_ok mixed [(1, [(6, 4), (8, 4)])] Tryd.func97 rfl rfl (by simp [Tryd.f97]) (by kernel_rfl) ?_
  simp only [Tryd.f97]
  refine sA ?_
  obtain ⟨c64, hr1, h⟩ := bind_ok h
  refine Cl_sA (w_cmp_Compare_int hr1) ?_
  try refine sA ?_
  obtain ⟨c67, hr2, h⟩ := bind_ok h
  refine Cl_sA (w_cmp_Compare_string hr2) ?_
  try refine sA ?_
  obtain ⟨c72, hr3, h⟩ := bind_ok h
  refine Cl_sA (w_cmp_Or_int hr3) ?_
  try refine sA ?_
  have he := Option.some.inj h
  subst he
  exact endsA ⟨[(4, (.lf false (.sc (.int .i64 c72))))], [], 0, 17⟩ []
theorem w_slices_SortFunc_impl_Domain_by_name {a0 : List DomainT} {m0 : Nat} {x0 : Bool} {r : List DomainT} (h : slices_SortFunc_impl_Domain_by_name a0 = some r) : Fn Tryd.prog 98 [(.os 0 3 0 a0.length m0 x0), (.fn 99 [])] [(0, some (false, .arr true 3 (a0.map eDomain)))] 1 (.tu []) [(0, some (false, .arr false 3 (r.map eDomain)))] 1 := by
  unfold slices_SortFunc_impl_Domain_by_name at h
  obtain ⟨⟨hp1, hp2⟩, h⟩ := guard_some h
  have he := Option.some.inj h; subst he
  have e1 : Ent Tryd.prog (Tryd.sortD_ren.f 6) := (Ent.of Tryd.func98 rfl (by simp [Tryd.f98]) : Ent Tryd.prog 98)
  have e2 := enters_of (P := Tryd.prog) Tryd.func99 (by kernel_rfl) rfl
  have key := sort_names (α := DomainT) (E := eDomain) (m0 := m0) (x0 := x0) (t0 := true) Go.Proofs.Tryd.sortD e1 Tryd.sortAgg Tryd.sortSize (fun x => [.string x.Name, .int .i64 x.Version, .string x.Note]) (fun x => x.Name) (fun _ => rfl) (fun _ => rfl) (fun x v hv => by simp at hv; rcases hv with rfl | rfl | rfl <;> rfl) e2 (fun x y W => Tryd.closure99 x.Name x.Note y.Name y.Note x.Version y.Version W) hp1 hp2
  have e0 : Tryd.sortD_ren.f 6 = 98 := rfl
  rw [e0] at key
  exact key
theorem w_impl_MergeDomains {a0 : (List DomainT)} {a1 : (List DomainT)} {r : ((List DomainT) × Bool)} (h : impl_MergeDomains a0 a1 = some r) : Fn Tryd.prog 45 [(.lf true (.sl (a0.map eDomain))), (.lf true (.sl (a1.map eDomain)))] [] 0 (.tu [(.os 0 3 0 r.1.length r.1.length false), (.lf false (.sc (.bool r.2)))]) [(0, some (true, .arr false 3 (r.1.map eDomain)))] 1 := by
  unfold impl_MergeDomains at h
  refine fn_code tab_ok mixed [(1000, [(0, 0), (1, 0)]), (1001, [(0, 0), (1, 0), (17, 0)]), (1002, [(4, 0), (5, 0)]), (1003, [(1, 0), (6, 0)]), (1004, [(6, 0), (20, 0), (21, 0), (22, 0)]), (1005, [(6, 0), (20, 0), (21, 0), (22, 0), (23, 0)]), (1006, [(6, 0), (8, 0), (20, 0), (21, 0), (22, 0)]), (1007, [(6, 0), (8, 0), (9, 0), (20, 0), (21, 0), (22, 0)]), (1008, [(6, 0), (8, 0), (9, 0), (20, 0), (21, 0), (22, 0), (30, 0)]), (1009, [(6, 0), (20, 0), (21, 0), (22, 0)]), (1010, [(6, 0), (8, 0), (9, 0), (20, 0), (21, 0), (22, 0), (37, 0)]), (1011, [(6, 0), (20, 0), (21, 0), (22, 0)]), (1012, [(6, 0), (20, 0), (21, 0), (22, 0)]), (1013, [(6, 0)]), (1014, [(6, 0), (54, 0)]), (1015, [(4, 0), (5, 0)]), (1016, [(4, 0), (5, 0)]), (4001, [])] Tryd.func45 rfl rfl (by simp [Tryd.f45]) (by kernel_rfl) ?_
  simp only [Tryd.f45]
  refine sA ?_
  obtain ⟨p51, hq1, h⟩ := bind_ok h
  refine Sq_cut (fun s2 => s2 = ⟨[(0, (.lf true (.sl (a0.map eDomain)))), (1, (.lf true (.sl (a1.map eDomain)))), (17, (.lf false (.sc (.bool p51.t17))))], [], 0, 56⟩) ?_ ?_
  · try refine sA ?_
    obtain ⟨c49, hr2, hq1⟩ := bind_ok hq1
    refine Cl_sA (w_impl_GoodDomains hr2) ?_
    try refine sA ?_
    refine Sp_if hq1 (fun hq1 hc3 => ?_) (fun hq1 hc3 => ?_)
    · try refine sA ?_
      cases hq1
      exact X_cut rfl (weakA [])
    · try refine sA ?_
      obtain ⟨c50, hr4, hq1⟩ := bind_ok hq1
      refine Cl_sA (w_impl_GoodDomains hr4) ?_
      try refine sA ?_
      cases hq1
      exact X_cut rfl (weakA [])
  · intro s2 hJ; subst hJ
    try dsimp only at h
    try refine sA ?_
    refine Bs_if h (fun h hc5 => ?_) (fun h hc5 => ?_)
    · try refine sA ?_
      have he := Option.some.inj h
      subst he
      exact endsA ⟨[(4, (.os 0 3 0 (([] : List DomainT).length) (([] : List DomainT).length) false)), (5, (.lf false (.sc (.bool false))))], [(0, some (true, .arr false 3 (([] : List DomainT).map eDomain)))], 1, 56⟩ [none]
    · try refine sA ?_
      obtain ⟨c52, hr6, h⟩ := bind_ok h
      refine Cl_sA (w_slices_Clone_impl_Domain hr6) ?_
      try refine sA ?_
      obtain ⟨y76, hl7, h⟩ := bind_ok h
      refine W_loopP (fun g53 : impl_MergeDomains_G1 => ⟨[(6, (.os 0 3 0 g53.c0.length g53.c0.length false)), (20, (.lf true (.sl (a1.map eDomain)))), (21, (.lf false (.sc (.int .i64 ((a1.length : Nat) : Int))))), (22, (.lf false (.sc (.int .i64 g53.t22))))], [(0, some (true, .arr false 3 (g53.c0.map eDomain)))], 1, 56⟩) (impl_MergeDomains_L1 a1) _ _ hl7 (weakA [some 0]) ?_
      · intro n1 g53 z1 hs1 hk1
        unfold impl_MergeDomains_L1 at hs1
        try dsimp only at hs1
        refine sA ?_
        refine Bs_if hs1 (fun hs1 hc8 => ?_) (fun hs1 hc8 => ?_)
        · try refine sA ?_
          obtain ⟨hp9, hs1⟩ := guard_some hs1
          have hn9 : g53.t22.toNat < a1.length := by first | omega | (simp only [List.length_set, List.length_append, List.length_replicate, List.length_map]; omega)
          try refine sA ?_
          try refine andA ?_
          obtain ⟨c74, hr10, hs1⟩ := bind_ok hs1
          refine Cl_sA (w_impl_domainAt hr10) ?_
          try refine sA ?_
          refine Bs_if hs1 (fun hs1 hc11 => ?_) (fun hs1 hc11 => ?_)
          · try refine sA ?_
            obtain ⟨hp12, hs1⟩ := guard_some hs1
            try refine sA ?_
            try refine andA ?_
            cases hs1
            exact X_backP hk1 (weakA [some 3])
          · try refine sA ?_
            obtain ⟨hp13, hs1⟩ := guard_some hs1
            have hn13 : c74.toNat < g53.c0.length := by first | omega | (simp only [List.length_set, List.length_append, List.length_replicate, List.length_map]; omega)
            try refine sA ?_
            try refine andA ?_
            try refine andB ?_
            try refine sA ?_
            obtain ⟨c75, hr15, hs1⟩ := bind_ok hs1
            refine Cl_sA (w_impl_greater hr15) ?_
            try refine sA ?_
            refine Bs_if hs1 (fun hs1 hc16 => ?_) (fun hs1 hc16 => ?_)
            · try refine sA ?_
              obtain ⟨hp17, hs1⟩ := guard_some hs1
              have hn17 : c74.toNat < g53.c0.length := by first | omega | (simp only [List.length_set, List.length_append, List.length_replicate, List.length_map]; omega)
              try refine sA ?_
              try refine andA ?_
              try refine andB ?_
              try refine sA ?_
              cases hs1
              exact X_backP hk1 (weakA [some 0])
            · try refine sA ?_
              cases hs1
              exact X_backP hk1 (weakA [some 0])
        · try refine sA ?_
          cases hs1
          cases hk1
          try dsimp only at h
          try refine sA ?_
          obtain ⟨c79, hr19, h⟩ := bind_ok h
          refine Cl_hA [0] (w_slices_SortFunc_impl_Domain_by_name hr19) ?_
          try refine sA ?_
          obtain ⟨hp20, h⟩ := guard_some h
          have hl20 : g53.c0.length ≤ c79.length := by omega
          have ht20 : List.take (g53.c0.length) c79 = c79 := by rw [← hp20]; exact List.take_length
          try simp (disch := first | assumption | (simp only [List.length_set]; assumption)) only [go_sem, Nat.reduceAdd, Nat.reduceMul, Nat.reduceSub, Nat.reduceEqDiff, ↓reduceIte, Nat.reduceLT, reduceCtorEq, Nat.reduceLeDiff, Int.reduceToNat, Int.reduceEq, Int.reduceLE, Int.reduceLT, Nat.reduceBEq, hl20, ht20]
          obtain ⟨c80, hr21, h⟩ := bind_ok h
          refine Cl_shown (w_impl_GoodDomains hr21) (by first | rfl | (simp (disch := first | assumption | (simp only [List.length_set]; assumption)) only [go_sem, Nat.reduceAdd, Nat.reduceMul, Nat.reduceSub, Nat.reduceEqDiff, ↓reduceIte, Nat.reduceLT, reduceCtorEq, Nat.reduceLeDiff, Int.reduceToNat, Int.reduceEq, Int.reduceLE, Int.reduceLT, Nat.reduceBEq, hl20, ht20]; first | done | rfl) | (simp only [List.length_append, List.length_cons, List.length_nil, List.length_map, List.length_set, List.length_replicate, Nat.zero_add, Nat.reduceAdd]; rfl) | (simp (disch := first | assumption | (simp only [List.length_set]; assumption)) only [go_sem, Nat.reduceAdd, Nat.reduceMul, Nat.reduceSub, Nat.reduceEqDiff, ↓reduceIte, Nat.reduceLT, reduceCtorEq, Nat.reduceLeDiff, Int.reduceToNat, Int.reduceEq, Int.reduceLE, Int.reduceLT, Nat.reduceBEq, hl20, ht20]; simp only [List.length_append, List.length_cons, List.length_nil, List.length_map, List.length_set, List.length_replicate, Nat.zero_add, Nat.reduceAdd]; rfl)) (FitAll.refl _) (.inr ⟨rfl, by simp [freeOb, free1]⟩) ?_
          try simp (disch := first | assumption | (simp only [List.length_set]; assumption)) only [go_sem, Nat.reduceAdd, Nat.reduceMul, Nat.reduceSub, Nat.reduceEqDiff, ↓reduceIte, Nat.reduceLT, reduceCtorEq, Nat.reduceLeDiff, Int.reduceToNat, Int.reduceEq, Int.reduceLE, Int.reduceLT, Nat.reduceBEq, hl20, ht20]
          refine Bs_if h (fun h hc22 => ?_) (fun h hc22 => ?_)
          · try simp (disch := first | assumption | (simp only [List.length_set]; assumption)) only [go_sem, Nat.reduceAdd, Nat.reduceMul, Nat.reduceSub, Nat.reduceEqDiff, ↓reduceIte, Nat.reduceLT, reduceCtorEq, Nat.reduceLeDiff, Int.reduceToNat, Int.reduceEq, Int.reduceLE, Int.reduceLT, Nat.reduceBEq, hl20, ht20]
            have he := Option.some.inj h
            subst he
            refine ends_weak ⟨[(4, (.os 0 3 0 (([] : List DomainT).length) (([] : List DomainT).length) false)), (5, (.lf false (.sc (.bool false))))], [(0, some (true, .arr false 3 (([] : List DomainT).map eDomain)))], 1, 56⟩ (weak_of (m := 0) [none] rfl rfl rfl (by rfl) ?_ ?_) ?_
            all_goals ((try simp (disch := first | assumption | (simp only [List.length_set]; assumption)) only [go_sem, Nat.reduceAdd, Nat.reduceMul, Nat.reduceSub, Nat.reduceEqDiff, ↓reduceIte, Nat.reduceLT, reduceCtorEq, Nat.reduceLeDiff, Int.reduceToNat, Int.reduceEq, Int.reduceLE, Int.reduceLT, Nat.reduceBEq, hl20, ht20]); (repeat' first | done | rfl | omega | refine And.intro ?_ ?_ | (simp; done) | (simp; omega)))
          · try simp (disch := first | assumption | (simp only [List.length_set]; assumption)) only [go_sem, Nat.reduceAdd, Nat.reduceMul, Nat.reduceSub, Nat.reduceEqDiff, ↓reduceIte, Nat.reduceLT, reduceCtorEq, Nat.reduceLeDiff, Int.reduceToNat, Int.reduceEq, Int.reduceLE, Int.reduceLT, Nat.reduceBEq, hl20, ht20]
            have he := Option.some.inj h
            subst he
            refine ends_weak ⟨[(4, (.os 0 3 0 c79.length c79.length false)), (5, (.lf false (.sc (.bool true))))], [(0, some (true, .arr false 3 (c79.map eDomain)))], 1, 56⟩ (weak_of (m := 0) [some 0] rfl rfl rfl (by rfl) ?_ ?_) ?_
            all_goals ((try simp (disch := first | assumption | (simp only [List.length_set]; assumption)) only [go_sem, Nat.reduceAdd, Nat.reduceMul, Nat.reduceSub, Nat.reduceEqDiff, ↓reduceIte, Nat.reduceLT, reduceCtorEq, Nat.reduceLeDiff, Int.reduceToNat, Int.reduceEq, Int.reduceLE, Int.reduceLT, Nat.reduceBEq, hl20, ht20]); (repeat' first | done | rfl | omega | refine And.intro ?_ ?_ | (simp; done) | (simp; omega)))
theorem w_spec_l1Name {a0 : ByteArray} {r : Bool} (h : spec_l1Name a0 = some r) : Fn Tryd.prog 86 [(.lf false (.sc (.string a0)))] [] 0 (.lf false (.sc (.bool r))) [] 0 := by
  unfold spec_l1Name at h
  refine fn_code tab_ok mixed [(1000, [(0, 0)]), (1001, [(0, 0), (3, 0)]), (1002, [(0, 0), (3, 0), (7, 0)]), (1003, [(0, 0), (3, 0)]), (1004, [(0, 0), (3, 0), (32, 0)]), (1005, [(2, 0)]), (1006, [(2, 0)]), (4004, [])] Tryd.func86 rfl rfl (by simp [Tryd.f86]) (by kernel_rfl) ?_
  simp only [Tryd.f86]
  refine sA ?_
  obtain ⟨y86, hl1, h⟩ := bind_ok h
  refine W_loopP (fun g83 : spec_l1Name_G1 => ⟨[(0, (.lf false (.sc (.string a0)))), (3, (.lf false (.sc (.int .i64 g83.t3))))], [], 0, 36⟩) (spec_l1Name_L1 a0) _ _ hl1 (weakA []) ?_
  · intro n1 g83 z1 hs1 hk1
    unfold spec_l1Name_L1 at hs1
    try dsimp only at hs1
    refine sA ?_
    refine Bs_if hs1 (fun hs1 hc2 => ?_) (fun hs1 hc2 => ?_)
    · try refine sA ?_
      obtain ⟨p85, hq3, hs1⟩ := bind_ok hs1
      refine Sq_cut (fun s2 => s2 = ⟨[(0, (.lf false (.sc (.string a0)))), (3, (.lf false (.sc (.int .i64 g83.t3)))), (32, (.lf false (.sc (.bool p85.t32))))], [], 0, 36⟩) ?_ ?_
      · try refine sA ?_
        obtain ⟨hp4, hq3⟩ := guard_some hq3
        try refine sA ?_
        try refine andA ?_
        refine Sp_if hq3 (fun hq3 hc5 => ?_) (fun hq3 hc5 => ?_)
        · try refine sA ?_
          obtain ⟨hp6, hq3⟩ := guard_some hq3
          try refine sA ?_
          try refine andA ?_
          refine Sp_if hq3 (fun hq3 hc7 => ?_) (fun hq3 hc7 => ?_)
          · try refine sA ?_
            cases hq3
            exact X_cut rfl (weakA [])
          · try refine sA ?_
            obtain ⟨hp8, hq3⟩ := guard_some hq3
            try refine sA ?_
            try refine andA ?_
            refine Sp_if hq3 (fun hq3 hc9 => ?_) (fun hq3 hc9 => ?_)
            · try refine sA ?_
              obtain ⟨hp10, hq3⟩ := guard_some hq3
              try refine sA ?_
              try refine andA ?_
              cases hq3
              exact X_cut rfl (weakA [])
            · try refine sA ?_
              cases hq3
              exact X_cut rfl (weakA [])
        · try refine sA ?_
          obtain ⟨hp11, hq3⟩ := guard_some hq3
          try refine sA ?_
          try refine andA ?_
          refine Sp_if hq3 (fun hq3 hc12 => ?_) (fun hq3 hc12 => ?_)
          · try refine sA ?_
            obtain ⟨hp13, hq3⟩ := guard_some hq3
            try refine sA ?_
            try refine andA ?_
            cases hq3
            exact X_cut rfl (weakA [])
          · try refine sA ?_
            cases hq3
            exact X_cut rfl (weakA [])
      · intro s2 hJ; subst hJ
        try dsimp only at hs1
        try refine sA ?_
        refine Bs_if hs1 (fun hs1 hc14 => ?_) (fun hs1 hc14 => ?_)
        · try refine sA ?_
          cases hs1
          cases hk1
          try dsimp only at h
          try refine sA ?_
          have he := Option.some.inj h
          subst he
          exact endsA ⟨[(2, (.lf false (.sc (.bool false))))], [], 0, 36⟩ []
        · try refine sA ?_
          cases hs1
          exact X_backP hk1 (weakA [])
    · try refine sA ?_
      cases hs1
      cases hk1
      try dsimp only at h
      try refine sA ?_
      have he := Option.some.inj h
      subst he
      exact endsA ⟨[(2, (.lf false (.sc (.bool (decide ((a0.size : Int) ≤ 12))))))], [], 0, 36⟩ []
theorem w_spec_l1In {a0 : Int} {a1 : Int} {a2 : Int} {r : Bool} (h : spec_l1In a0 a1 a2 = some r) : Fn Tryd.prog 84 [(.lf false (.sc (.int .i64 a0))), (.lf false (.sc (.int .i64 a1))), (.lf false (.sc (.int .i64 a2)))] [] 0 (.lf false (.sc (.bool r))) [] 0 := by
  unfold spec_l1In at h
  refine fn_code tab_ok mixed [] Tryd.func84 rfl rfl (by simp [Tryd.f84]) (by kernel_rfl) ?_
  simp only [Tryd.f84]
  refine sA ?_
  refine Sp_if h (fun h hc1 => ?_) (fun h hc1 => ?_)
  · try refine sA ?_
    have he := Option.some.inj h
    subst he
    exact endsA ⟨[(6, (.lf false (.sc (.bool (decide (a0 ≤ a2))))))], [], 0, 15⟩ []
  · try refine sA ?_
    have he := Option.some.inj h
    subst he
    exact endsA ⟨[(6, (.lf false (.sc (.bool false))))], [], 0, 15⟩ []
theorem w_spec_l13Version {a0 : Int} {r : Bool} (h : spec_l13Version a0 = some r) : Fn Tryd.prog 104 [(.lf false (.sc (.int .i64 a0)))] [] 0 (.lf false (.sc (.bool r))) [] 0 := by
  unfold spec_l13Version at h
  refine fn_code tab_ok mixed [] Tryd.func104 rfl rfl (by simp [Tryd.f104]) (by kernel_rfl) ?_
  simp only [Tryd.f104]
  refine sA ?_
  obtain ⟨c90, hr1, h⟩ := bind_ok h
  refine Cl_sA (w_spec_l1In hr1) ?_
  try refine sA ?_
  have he := Option.some.inj h
  subst he
  exact endsA ⟨[(2, (.lf false (.sc (.bool c90))))], [], 0, 5⟩ []
theorem w_spec_GoodDomains {a0 : (List DomainT)} {r : Bool} (h : spec_GoodDomains a0 = some r) : Fn Tryd.prog 52 [(.lf true (.sl (a0.map eDomain)))] [] 0 (.lf false (.sc (.bool r))) [] 0 := by
  unfold spec_GoodDomains at h
  refine fn_code tab_ok mixed [(1000, [(0, 0)]), (1001, [(0, 0), (5, 0), (6, 0), (7, 0)]), (1002, [(0, 0), (5, 0), (6, 0), (7, 0), (8, 0)]), (1003, [(0, 0), (3, 0), (4, 0), (5, 0), (6, 0), (7, 0)]), (1004, [(0, 0), (5, 0), (6, 0), (7, 0), (47, 0)]), (1005, [(2, 0)]), (1006, [(0, 0), (5, 0), (6, 0), (7, 0)]), (1007, [(2, 0)]), (4004, [])] Tryd.func52 rfl rfl (by simp [Tryd.f52]) (by kernel_rfl) ?_
  simp only [Tryd.f52]
  refine sA ?_
  obtain ⟨y96, hl1, h⟩ := bind_ok h
  refine W_loopP (fun g82 : spec_GoodDomains_G1 => ⟨[(0, (.lf true (.sl (a0.map eDomain)))), (5, (.lf true (.sl (a0.map eDomain)))), (6, (.lf false (.sc (.int .i64 ((a0.length : Nat) : Int))))), (7, (.lf false (.sc (.int .i64 g82.t7))))], [], 0, 52⟩) (spec_GoodDomains_L1 a0) _ _ hl1 (weakA []) ?_
  · intro n1 g82 z1 hs1 hk1
    unfold spec_GoodDomains_L1 at hs1
    try dsimp only at hs1
    refine sA ?_
    refine Bs_if hs1 (fun hs1 hc2 => ?_) (fun hs1 hc2 => ?_)
    · try refine sA ?_
      obtain ⟨hp3, hs1⟩ := guard_some hs1
      have hn3 : g82.t7.toNat < a0.length := by first | omega | (simp only [List.length_set, List.length_append, List.length_replicate, List.length_map]; omega)
      try refine sA ?_
      try refine andA ?_
      obtain ⟨p95, hq4, hs1⟩ := bind_ok hs1
      refine Sq_cut (fun s2 => s2 = ⟨[(0, (.lf true (.sl (a0.map eDomain)))), (5, (.lf true (.sl (a0.map eDomain)))), (6, (.lf false (.sc (.int .i64 ((a0.length : Nat) : Int))))), (7, (.lf false (.sc (.int .i64 g82.t7)))), (47, (.lf false (.sc (.bool p95.t47))))], [], 0, 52⟩) ?_ ?_
      · try refine sA ?_
        obtain ⟨c93, hr5, hq4⟩ := bind_ok hq4
        refine Cl_sA (w_spec_l1Name hr5) ?_
        try refine sA ?_
        refine Sp_if hq4 (fun hq4 hc6 => ?_) (fun hq4 hc6 => ?_)
        · try refine sA ?_
          cases hq4
          exact X_cut rfl (weakA [])
        · try refine sA ?_
          refine Sp_if hq4 (fun hq4 hc7 => ?_) (fun hq4 hc7 => ?_)
          · try refine sA ?_
            cases hq4
            exact X_cut rfl (weakA [])
          · try refine sA ?_
            obtain ⟨c94, hr8, hq4⟩ := bind_ok hq4
            refine Cl_sA (w_spec_l13Version hr8) ?_
            try refine sA ?_
            refine Sp_if hq4 (fun hq4 hc9 => ?_) (fun hq4 hc9 => ?_)
            · try refine sA ?_
              cases hq4
              exact X_cut rfl (weakA [])
            · try refine sA ?_
              refine Sp_if hq4 (fun hq4 hc10 => ?_) (fun hq4 hc10 => ?_)
              · try refine sA ?_
                cases hq4
                exact X_cut rfl (weakA [])
              · try refine sA ?_
                refine Sp_if hq4 (fun hq4 hc11 => ?_) (fun hq4 hc11 => ?_)
                · try refine sA ?_
                  obtain ⟨hp12, hq4⟩ := guard_some hq4
                  have hn12 : (wI (g82.t7 - 1)).toNat < a0.length := by first | omega | (simp only [List.length_set, List.length_append, List.length_replicate, List.length_map]; omega)
                  try refine sA ?_
                  try refine andA ?_
                  cases hq4
                  exact X_cut rfl (weakA [])
                · try refine sA ?_
                  cases hq4
                  exact X_cut rfl (weakA [])
      · intro s2 hJ; subst hJ
        try dsimp only at hs1
        try refine sA ?_
        refine Bs_if hs1 (fun hs1 hc13 => ?_) (fun hs1 hc13 => ?_)
        · try refine sA ?_
          cases hs1
          cases hk1
          try dsimp only at h
          try refine sA ?_
          have he := Option.some.inj h
          subst he
          exact endsA ⟨[(2, (.lf false (.sc (.bool false))))], [], 0, 52⟩ []
        · try refine sA ?_
          cases hs1
          exact X_backP hk1 (weakA [])
    · try refine sA ?_
      cases hs1
      cases hk1
      try dsimp only at h
      try refine sA ?_
      have he := Option.some.inj h
      subst he
      exact endsA ⟨[(2, (.lf false (.sc (.bool (decide (((a0.length : Nat) : Int) ≤ 12))))))], [], 0, 52⟩ []
theorem w_spec_l13Less {a0 : DomainT} {a1 : DomainT} {r : Bool} (h : spec_l13Less a0 a1 = some r) : Fn Tryd.prog 93 [(.ag [(.lf false (.sc (.string a0.Name))), (.lf false (.sc (.int .i64 a0.Version))), (.lf false (.sc (.string a0.Note)))]), (.ag [(.lf false (.sc (.string a1.Name))), (.lf false (.sc (.int .i64 a1.Version))), (.lf false (.sc (.string a1.Note)))])] [] 0 (.lf false (.sc (.bool r))) [] 0 := by
  unfold spec_l13Less at h
  refine fn_code tab_ok mixed [] Tryd.func93 rfl rfl (by simp [Tryd.f93]) (by kernel_rfl) ?_
  simp only [Tryd.f93]
  refine sA ?_
  refine Sp_if h (fun h hc1 => ?_) (fun h hc1 => ?_)
  · try refine sA ?_
    have he := Option.some.inj h
    subst he
    exact endsA ⟨[(4, (.lf false (.sc (.bool true))))], [], 0, 24⟩ []
  · try refine sA ?_
    refine Sp_if h (fun h hc2 => ?_) (fun h hc2 => ?_)
    · try refine sA ?_
      have he := Option.some.inj h
      subst he
      exact endsA ⟨[(4, (.lf false (.sc (.bool (sLt a0.Note a1.Note)))))], [], 0, 24⟩ []
    · try refine sA ?_
      have he := Option.some.inj h
      subst he
      exact endsA ⟨[(4, (.lf false (.sc (.bool false))))], [], 0, 24⟩ []
theorem w_spec_MergeDomains {a0 : (List DomainT)} {a1 : (List DomainT)} {r : ((List DomainT) × Bool)} (h : spec_MergeDomains a0 a1 = some r) : Fn Tryd.prog 43 [(.lf true (.sl (a0.map eDomain))), (.lf true (.sl (a1.map eDomain)))] [] 0 (.tu [(.os 0 3 0 r.1.length r.1.length false), (.lf false (.sc (.bool r.2)))]) [(0, some (true, .arr false 3 (r.1.map eDomain)))] 1 := by
  unfold spec_MergeDomains at h
  refine fn_code tab_ok mixed [(1000, [(0, 0), (1, 0)]), (1001, [(0, 0), (1, 0), (17, 0)]), (1002, [(4, 0), (5, 0)]), (1003, [(0, 0), (1, 0), (6, 0)]), (1004, [(0, 0), (1, 0), (6, 0), (7, 0)]), (1005, [(0, 0), (1, 0), (6, 0), (7, 0), (8, 0)]), (1006, [(0, 0), (1, 0), (6, 0), (7, 0), (8, 0), (27, 0)]), (1007, [(0, 0), (1, 0), (6, 0), (7, 0), (8, 0), (9, 0)]), (1008, [(0, 0), (1, 0), (6, 0), (7, 0), (8, 0), (9, 0), (37, 0)]), (1009, [(0, 0), (1, 0), (6, 0), (7, 0), (8, 0), (9, 0)]), (1010, [(0, 0), (1, 0), (6, 0), (7, 0), (8, 0)]), (1011, [(0, 0), (1, 0), (6, 0), (7, 0), (8, 0)]), (1012, [(0, 0), (1, 0), (6, 0), (7, 0), (8, 0)]), (1013, [(0, 0), (1, 0), (6, 0), (7, 0), (8, 0), (50, 0)]), (1014, [(0, 0), (1, 0), (6, 0), (7, 0), (8, 0)]), (1015, [(0, 0), (1, 0), (6, 0), (7, 0), (8, 0)]), (1016, [(0, 0), (1, 0), (6, 0), (7, 0), (8, 0), (83, 0)]), (1017, [(0, 0), (1, 0), (6, 0), (7, 0), (8, 0)]), (1018, [(0, 0), (1, 0), (6, 0), (7, 0), (8, 0)]), (1019, [(6, 0), (112, 0)]), (1020, [(4, 0), (5, 0)]), (1021, [(4, 0), (5, 0)]), (2037, []), (4001, []), (4013, []), (4016, [])] Tryd.func43 rfl rfl (by simp [Tryd.f43]) (by kernel_rfl) ?_
  simp only [Tryd.f43]
  refine sA ?_
  obtain ⟨p101, hq1, h⟩ := bind_ok h
  refine Sq_cut (fun s2 => s2 = ⟨[(0, (.lf true (.sl (a0.map eDomain)))), (1, (.lf true (.sl (a1.map eDomain)))), (17, (.lf false (.sc (.bool p101.t17))))], [], 0, 114⟩) ?_ ?_
  · try refine sA ?_
    obtain ⟨c99, hr2, hq1⟩ := bind_ok hq1
    refine Cl_sA (w_spec_GoodDomains hr2) ?_
    try refine sA ?_
    refine Sp_if hq1 (fun hq1 hc3 => ?_) (fun hq1 hc3 => ?_)
    · try refine sA ?_
      cases hq1
      exact X_cut rfl (weakA [])
    · try refine sA ?_
      obtain ⟨c100, hr4, hq1⟩ := bind_ok hq1
      refine Cl_sA (w_spec_GoodDomains hr4) ?_
      try refine sA ?_
      cases hq1
      exact X_cut rfl (weakA [])
  · intro s2 hJ; subst hJ
    try dsimp only at h
    try refine sA ?_
    refine Bs_if h (fun h hc5 => ?_) (fun h hc5 => ?_)
    · try refine sA ?_
      have he := Option.some.inj h
      subst he
      exact endsA ⟨[(4, (.os 0 3 0 (([] : List DomainT).length) (([] : List DomainT).length) false)), (5, (.lf false (.sc (.bool false))))], [(0, some (true, .arr false 3 (([] : List DomainT).map eDomain)))], 1, 114⟩ [none]
    · try refine sA ?_
      obtain ⟨y119, hl6, h⟩ := bind_ok h
      refine W_loopP (fun g102 : spec_MergeDomains_G1 => ⟨[(0, (.lf true (.sl (a0.map eDomain)))), (1, (.lf true (.sl (a1.map eDomain)))), (6, (.os 0 3 0 g102.c0.length g102.c0.length false)), (7, (.lf false (.sc (.int .i64 g102.t7)))), (8, (.lf false (.sc (.int .i64 g102.t8))))], [(0, some (true, .arr false 3 (g102.c0.map eDomain)))], 1, 114⟩) (spec_MergeDomains_L1 a0 a1) _ _ hl6 (weakA [none]) ?_
      · intro n1 g102 z1 hs1 hk1
        unfold spec_MergeDomains_L1 at hs1
        try dsimp only at hs1
        refine sA ?_
        refine Sp_if hs1 (fun hs1 hc7 => ?_) (fun hs1 hc7 => ?_)
        · try refine sA ?_
          obtain ⟨p111, hq8, hs1⟩ := bind_ok hs1
          refine Sq_cut (fun s2 => s2 = ⟨[(0, (.lf true (.sl (a0.map eDomain)))), (1, (.lf true (.sl (a1.map eDomain)))), (6, (.os 0 3 0 g102.c0.length g102.c0.length false)), (7, (.lf false (.sc (.int .i64 g102.t7)))), (8, (.lf false (.sc (.int .i64 g102.t8)))), (50, (.lf false (.sc (.bool p111.t50))))], [(0, some (true, .arr false 3 (g102.c0.map eDomain)))], 1, 114⟩) ?_ ?_
          · try refine sA ?_
            refine Sp_if hq8 (fun hq8 hc9 => ?_) (fun hq8 hc9 => ?_)
            · try refine sA ?_
              cases hq8
              exact X_cut rfl (weakA [some 0])
            · try refine sA ?_
              refine Sp_if hq8 (fun hq8 hc10 => ?_) (fun hq8 hc10 => ?_)
              · try refine sA ?_
                obtain ⟨hp11, hq8⟩ := guard_some hq8
                have hn11 : g102.t7.toNat < a0.length := by first | omega | (simp only [List.length_set, List.length_append, List.length_replicate, List.length_map]; omega)
                try refine sA ?_
                try refine andA ?_
                obtain ⟨hp12, hq8⟩ := guard_some hq8
                have hn12 : g102.t8.toNat < a1.length := by first | omega | (simp only [List.length_set, List.length_append, List.length_replicate, List.length_map]; omega)
                try refine sA ?_
                try refine andA ?_
                cases hq8
                exact X_cut rfl (weakA [some 0])
              · try refine sA ?_
                cases hq8
                exact X_cut rfl (weakA [some 0])
          · intro s2 hJ; subst hJ
            try dsimp only at hs1
            try refine sA ?_
            refine Bs_if hs1 (fun hs1 hc13 => ?_) (fun hs1 hc13 => ?_)
            · try refine sA ?_
              obtain ⟨hp14, hs1⟩ := guard_some hs1
              have hn14 : g102.t7.toNat < a0.length := by first | omega | (simp only [List.length_set, List.length_append, List.length_replicate, List.length_map]; omega)
              try refine sA ?_
              try refine andA ?_
              obtain ⟨hp15, hs1⟩ := guard_some hs1
              try refine sA ?_
              try refine andA ?_
              cases hs1
              exact X_backP hk1 (weakA [some 2])
            · try refine sA ?_
              obtain ⟨p112, hq16, hs1⟩ := bind_ok hs1
              refine Sq_cut (fun s2 => s2 = ⟨[(0, (.lf true (.sl (a0.map eDomain)))), (1, (.lf true (.sl (a1.map eDomain)))), (6, (.os 0 3 0 g102.c0.length g102.c0.length false)), (7, (.lf false (.sc (.int .i64 g102.t7)))), (8, (.lf false (.sc (.int .i64 g102.t8)))), (83, (.lf false (.sc (.bool p112.t83))))], [(0, some (true, .arr false 3 (g102.c0.map eDomain)))], 1, 114⟩) ?_ ?_
              · try refine sA ?_
                refine Sp_if hq16 (fun hq16 hc17 => ?_) (fun hq16 hc17 => ?_)
                · try refine sA ?_
                  cases hq16
                  exact X_cut rfl (weakA [some 0])
                · try refine sA ?_
                  obtain ⟨hp18, hq16⟩ := guard_some hq16
                  have hn18 : g102.t8.toNat < a1.length := by first | omega | (simp only [List.length_set, List.length_append, List.length_replicate, List.length_map]; omega)
                  try refine sA ?_
                  try refine andA ?_
                  obtain ⟨hp19, hq16⟩ := guard_some hq16
                  have hn19 : g102.t7.toNat < a0.length := by first | omega | (simp only [List.length_set, List.length_append, List.length_replicate, List.length_map]; omega)
                  try refine sA ?_
                  try refine andA ?_
                  cases hq16
                  exact X_cut rfl (weakA [some 0])
              · intro s2 hJ; subst hJ
                try dsimp only at hs1
                try refine sA ?_
                refine Bs_if hs1 (fun hs1 hc20 => ?_) (fun hs1 hc20 => ?_)
                · try refine sA ?_
                  obtain ⟨hp21, hs1⟩ := guard_some hs1
                  have hn21 : g102.t8.toNat < a1.length := by first | omega | (simp only [List.length_set, List.length_append, List.length_replicate, List.length_map]; omega)
                  try refine sA ?_
                  try refine andA ?_
                  obtain ⟨hp22, hs1⟩ := guard_some hs1
                  try refine sA ?_
                  try refine andA ?_
                  cases hs1
                  exact X_backP hk1 (weakA [some 2])
                · try refine sA ?_
                  obtain ⟨hp23, hs1⟩ := guard_some hs1
                  have hn23 : g102.t7.toNat < a0.length := by first | omega | (simp only [List.length_set, List.length_append, List.length_replicate, List.length_map]; omega)
                  try refine sA ?_
                  try refine andA ?_
                  obtain ⟨p114, hq24, hs1⟩ := bind_ok hs1
                  refine Sq_cut (fun s2 => s2 = ⟨[(0, (.lf true (.sl (a0.map eDomain)))), (1, (.lf true (.sl (a1.map eDomain)))), (6, (.os 0 3 0 g102.c0.length g102.c0.length false)), (7, (.lf false (.sc (.int .i64 g102.t7)))), (8, (.lf false (.sc (.int .i64 g102.t8)))), (9, (.pb 1 0))], [(0, some (true, .arr false 3 (g102.c0.map eDomain))), (1, some (true, .box [(.lf false (.sc (.string p114.b1_0))), (.lf false (.sc (.int .i64 p114.b1_1))), (.lf false (.sc (.string p114.b1_2)))]))], 2, 114⟩) ?_ ?_
                  · try refine sA ?_
                    obtain ⟨hp25, hq24⟩ := guard_some hq24
                    have hn25 : g102.t8.toNat < a1.length := by first | omega | (simp only [List.length_set, List.length_append, List.length_replicate, List.length_map]; omega)
                    try refine sA ?_
                    try refine andA ?_
                    obtain ⟨c113, hr26, hq24⟩ := bind_ok hq24
                    refine Cl_sA (w_spec_l13Less hr26) ?_
                    try refine sA ?_
                    refine Bs_if hq24 (fun hq24 hc27 => ?_) (fun hq24 hc27 => ?_)
                    · try refine sA ?_
                      obtain ⟨hp28, hq24⟩ := guard_some hq24
                      have hn28 : g102.t8.toNat < a1.length := by first | omega | (simp only [List.length_set, List.length_append, List.length_replicate, List.length_map]; omega)
                      try refine sA ?_
                      try refine andA ?_
                      cases hq24
                      exact X_cut rfl (weakA [some 0, some 1])
                    · try refine sA ?_
                      cases hq24
                      exact X_cut rfl (weakA [some 0, some 1])
                  · intro s2 hJ; subst hJ
                    try dsimp only at hs1
                    try refine sA ?_
                    obtain ⟨hp29, hs1⟩ := guard_some hs1
                    try refine sA ?_
                    try refine andA ?_
                    cases hs1
                    exact X_backP hk1 (weakA [some 3])
        · try refine sA ?_
          refine Bs_if hs1 (fun hs1 hc30 => ?_) (fun hs1 hc30 => ?_)
          · try refine sA ?_
            obtain ⟨p115, hq31, hs1⟩ := bind_ok hs1
            refine Sq_cut (fun s2 => s2 = ⟨[(0, (.lf true (.sl (a0.map eDomain)))), (1, (.lf true (.sl (a1.map eDomain)))), (6, (.os 0 3 0 g102.c0.length g102.c0.length false)), (7, (.lf false (.sc (.int .i64 g102.t7)))), (8, (.lf false (.sc (.int .i64 g102.t8)))), (50, (.lf false (.sc (.bool p115.t50))))], [(0, some (true, .arr false 3 (g102.c0.map eDomain)))], 1, 114⟩) ?_ ?_
            · try refine sA ?_
              refine Sp_if hq31 (fun hq31 hc32 => ?_) (fun hq31 hc32 => ?_)
              · try refine sA ?_
                cases hq31
                exact X_cut rfl (weakA [some 0])
              · try refine sA ?_
                refine Sp_if hq31 (fun hq31 hc33 => ?_) (fun hq31 hc33 => ?_)
                · try refine sA ?_
                  obtain ⟨hp34, hq31⟩ := guard_some hq31
                  have hn34 : g102.t7.toNat < a0.length := by first | omega | (simp only [List.length_set, List.length_append, List.length_replicate, List.length_map]; omega)
                  try refine sA ?_
                  try refine andA ?_
                  obtain ⟨hp35, hq31⟩ := guard_some hq31
                  have hn35 : g102.t8.toNat < a1.length := by first | omega | (simp only [List.length_set, List.length_append, List.length_replicate, List.length_map]; omega)
                  try refine sA ?_
                  try refine andA ?_
                  cases hq31
                  exact X_cut rfl (weakA [some 0])
                · try refine sA ?_
                  cases hq31
                  exact X_cut rfl (weakA [some 0])
            · intro s2 hJ; subst hJ
              try dsimp only at hs1
              try refine sA ?_
              refine Bs_if hs1 (fun hs1 hc36 => ?_) (fun hs1 hc36 => ?_)
              · try refine sA ?_
                obtain ⟨hp37, hs1⟩ := guard_some hs1
                have hn37 : g102.t7.toNat < a0.length := by first | omega | (simp only [List.length_set, List.length_append, List.length_replicate, List.length_map]; omega)
                try refine sA ?_
                try refine andA ?_
                obtain ⟨hp38, hs1⟩ := guard_some hs1
                try refine sA ?_
                try refine andA ?_
                cases hs1
                exact X_backP hk1 (weakA [some 2])
              · try refine sA ?_
                obtain ⟨p116, hq39, hs1⟩ := bind_ok hs1
                refine Sq_cut (fun s2 => s2 = ⟨[(0, (.lf true (.sl (a0.map eDomain)))), (1, (.lf true (.sl (a1.map eDomain)))), (6, (.os 0 3 0 g102.c0.length g102.c0.length false)), (7, (.lf false (.sc (.int .i64 g102.t7)))), (8, (.lf false (.sc (.int .i64 g102.t8)))), (83, (.lf false (.sc (.bool p116.t83))))], [(0, some (true, .arr false 3 (g102.c0.map eDomain)))], 1, 114⟩) ?_ ?_
                · try refine sA ?_
                  refine Sp_if hq39 (fun hq39 hc40 => ?_) (fun hq39 hc40 => ?_)
                  · try refine sA ?_
                    cases hq39
                    exact X_cut rfl (weakA [some 0])
                  · try refine sA ?_
                    obtain ⟨hp41, hq39⟩ := guard_some hq39
                    have hn41 : g102.t8.toNat < a1.length := by first | omega | (simp only [List.length_set, List.length_append, List.length_replicate, List.length_map]; omega)
                    try refine sA ?_
                    try refine andA ?_
                    obtain ⟨hp42, hq39⟩ := guard_some hq39
                    have hn42 : g102.t7.toNat < a0.length := by first | omega | (simp only [List.length_set, List.length_append, List.length_replicate, List.length_map]; omega)
                    try refine sA ?_
                    try refine andA ?_
                    cases hq39
                    exact X_cut rfl (weakA [some 0])
                · intro s2 hJ; subst hJ
                  try dsimp only at hs1
                  try refine sA ?_
                  refine Bs_if hs1 (fun hs1 hc43 => ?_) (fun hs1 hc43 => ?_)
                  · try refine sA ?_
                    obtain ⟨hp44, hs1⟩ := guard_some hs1
                    have hn44 : g102.t8.toNat < a1.length := by first | omega | (simp only [List.length_set, List.length_append, List.length_replicate, List.length_map]; omega)
                    try refine sA ?_
                    try refine andA ?_
                    obtain ⟨hp45, hs1⟩ := guard_some hs1
                    try refine sA ?_
                    try refine andA ?_
                    cases hs1
                    exact X_backP hk1 (weakA [some 2])
                  · try refine sA ?_
                    obtain ⟨hp46, hs1⟩ := guard_some hs1
                    have hn46 : g102.t7.toNat < a0.length := by first | omega | (simp only [List.length_set, List.length_append, List.length_replicate, List.length_map]; omega)
                    try refine sA ?_
                    try refine andA ?_
                    obtain ⟨p118, hq47, hs1⟩ := bind_ok hs1
                    refine Sq_cut (fun s2 => s2 = ⟨[(0, (.lf true (.sl (a0.map eDomain)))), (1, (.lf true (.sl (a1.map eDomain)))), (6, (.os 0 3 0 g102.c0.length g102.c0.length false)), (7, (.lf false (.sc (.int .i64 g102.t7)))), (8, (.lf false (.sc (.int .i64 g102.t8)))), (9, (.pb 1 0))], [(0, some (true, .arr false 3 (g102.c0.map eDomain))), (1, some (true, .box [(.lf false (.sc (.string p118.b1_0))), (.lf false (.sc (.int .i64 p118.b1_1))), (.lf false (.sc (.string p118.b1_2)))]))], 2, 114⟩) ?_ ?_
                    · try refine sA ?_
                      obtain ⟨hp48, hq47⟩ := guard_some hq47
                      have hn48 : g102.t8.toNat < a1.length := by first | omega | (simp only [List.length_set, List.length_append, List.length_replicate, List.length_map]; omega)
                      try refine sA ?_
                      try refine andA ?_
                      obtain ⟨c117, hr49, hq47⟩ := bind_ok hq47
                      refine Cl_sA (w_spec_l13Less hr49) ?_
                      try refine sA ?_
                      refine Bs_if hq47 (fun hq47 hc50 => ?_) (fun hq47 hc50 => ?_)
                      · try refine sA ?_
                        obtain ⟨hp51, hq47⟩ := guard_some hq47
                        have hn51 : g102.t8.toNat < a1.length := by first | omega | (simp only [List.length_set, List.length_append, List.length_replicate, List.length_map]; omega)
                        try refine sA ?_
                        try refine andA ?_
                        cases hq47
                        exact X_cut rfl (weakA [some 0, some 1])
                      · try refine sA ?_
                        cases hq47
                        exact X_cut rfl (weakA [some 0, some 1])
                    · intro s2 hJ; subst hJ
                      try dsimp only at hs1
                      try refine sA ?_
                      obtain ⟨hp52, hs1⟩ := guard_some hs1
                      try refine sA ?_
                      try refine andA ?_
                      cases hs1
                      exact X_backP hk1 (weakA [some 3])
          · try refine sA ?_
            cases hs1
            cases hk1
            try dsimp only at h
            try refine sA ?_
            refine Bs_if h (fun h hc53 => ?_) (fun h hc53 => ?_)
            · try refine sA ?_
              have he := Option.some.inj h
              subst he
              exact endsA ⟨[(4, (.os 0 3 0 (([] : List DomainT).length) (([] : List DomainT).length) false)), (5, (.lf false (.sc (.bool false))))], [(0, some (true, .arr false 3 (([] : List DomainT).map eDomain)))], 1, 114⟩ [none]
            · try refine sA ?_
              have he := Option.some.inj h
              subst he
              exact endsA ⟨[(4, (.os 0 3 0 g102.c0.length g102.c0.length false)), (5, (.lf false (.sc (.bool true))))], [(0, some (true, .arr false 3 (g102.c0.map eDomain)))], 1, 114⟩ [some 0]
theorem w_laws_sameDomains {a0 : (List DomainT)} {a1 : (List DomainT)} {r : Bool} (h : laws_sameDomains a0 a1 = some r) : Fn Tryd.prog 50 [(.lf true (.sl (a0.map eDomain))), (.lf true (.sl (a1.map eDomain)))] [] 0 (.lf false (.sc (.bool r))) [] 0 := by
  unfold laws_sameDomains at h
  refine fn_code tab_ok mixed [(1000, [(0, 0), (1, 0)]), (1001, [(0, 0), (1, 0), (10, 0)]), (1002, [(4, 0)]), (1003, [(0, 0), (1, 0), (12, 0), (13, 0)]), (1004, [(0, 0), (1, 0), (12, 0), (13, 0), (14, 0)]), (1005, [(0, 0), (1, 0), (5, 0), (12, 0), (13, 0)]), (1006, [(0, 0), (1, 0), (12, 0), (13, 0), (24, 0)]), (1007, [(4, 0)]), (1008, [(0, 0), (1, 0), (12, 0), (13, 0)]), (1009, [(4, 0)])] Tryd.func50 rfl rfl (by simp [Tryd.f50]) (by kernel_rfl) ?_
  simp only [Tryd.f50]
  refine sA ?_
  refine Bs_if h (fun h hc1 => ?_) (fun h hc1 => ?_)
  · try refine sA ?_
    have he := Option.some.inj h
    subst he
    exact endsA ⟨[(4, (.lf false (.sc (.bool false))))], [], 0, 26⟩ []
  · try refine sA ?_
    obtain ⟨y123, hl2, h⟩ := bind_ok h
    refine W_loopP (fun g122 : laws_sameDomains_G1 => ⟨[(0, (.lf true (.sl (a0.map eDomain)))), (1, (.lf true (.sl (a1.map eDomain)))), (12, (.lf false (.sc (.int .i64 ((a0.length : Nat) : Int))))), (13, (.lf false (.sc (.int .i64 g122.t13))))], [], 0, 26⟩) (laws_sameDomains_L1 a0 a1) _ _ hl2 (weakA []) ?_
    · intro n1 g122 z1 hs1 hk1
      unfold laws_sameDomains_L1 at hs1
      try dsimp only at hs1
      refine sA ?_
      refine Bs_if hs1 (fun hs1 hc3 => ?_) (fun hs1 hc3 => ?_)
      · try refine sA ?_
        obtain ⟨hp4, hs1⟩ := guard_some hs1
        have hn4 : g122.t13.toNat < a0.length := by first | omega | (simp only [List.length_set, List.length_append, List.length_replicate, List.length_map]; omega)
        try refine sA ?_
        try refine andA ?_
        obtain ⟨hp5, hs1⟩ := guard_some hs1
        have hn5 : g122.t13.toNat < a1.length := by first | omega | (simp only [List.length_set, List.length_append, List.length_replicate, List.length_map]; omega)
        try refine sA ?_
        try refine andA ?_
        first | refine And.intro ⟨by kernel_rfl, by kernel_rfl, by kernel_rfl⟩ ?_ | skip
        try refine sA ?_
        refine Bs_if hs1 (fun hs1 hc7 => ?_) (fun hs1 hc7 => ?_)
        · try refine sA ?_
          cases hs1
          cases hk1
          try dsimp only at h
          try refine sA ?_
          have he := Option.some.inj h
          subst he
          exact endsA ⟨[(4, (.lf false (.sc (.bool false))))], [], 0, 26⟩ []
        · try refine sA ?_
          cases hs1
          exact X_backP hk1 (weakA [])
      · try refine sA ?_
        cases hs1
        cases hk1
        try dsimp only at h
        try refine sA ?_
        have he := Option.some.inj h
        subst he
        exact endsA ⟨[(4, (.lf false (.sc (.bool true))))], [], 0, 26⟩ []
theorem w_impl_KnowsAll_c1_r {a0 : DomainT} {a1 : (List DomainT)} {r : Bool} (h : impl_KnowsAll_c1_r a0 a1 = some r) : Fn Tryd.prog 106 [(.ag [(.lf false (.sc (.string a0.Name))), (.lf false (.sc (.int .i64 a0.Version))), (.lf false (.sc (.string a0.Note)))]), (.ra true [.sl (a1.map eDomain)])] [] 0 (.lf false (.sc (.bool r))) [] 0 := by
  unfold impl_KnowsAll_c1_r at h
  refine fn_code tab_ok mixed [(1000, [(1, 0), (2, 0)]), (1001, [(1, 0), (2, 0), (4, 0)]), (1002, [(3, 0)])] Tryd.func106 rfl rfl (by simp [Tryd.f106]) (by kernel_rfl) ?_
  simp only [Tryd.f106]
  refine sA ?_
  obtain ⟨c136, hr1, h⟩ := bind_ok h
  refine Cl_sA (w_impl_domainAt hr1) ?_
  try refine sA ?_
  refine Sp_if h (fun h hc2 => ?_) (fun h hc2 => ?_)
  · try refine sA ?_
    have he := Option.some.inj h
    subst he
    exact endsA ⟨[(3, (.lf false (.sc (.bool true))))], [], 0, 20⟩ []
  · try refine sA ?_
    obtain ⟨hp3, h⟩ := guard_some h
    have hn3 : c136.toNat < a1.length := by first | omega | (simp only [List.length_set, List.length_append, List.length_replicate, List.length_map]; omega)
    try refine sA ?_
    try refine andA ?_
    obtain ⟨c137, hr4, h⟩ := bind_ok h
    refine Cl_sA (w_impl_greater hr4) ?_
    try refine sA ?_
    have he := Option.some.inj h
    subst he
    exact endsA ⟨[(3, (.lf false (.sc (.bool (decide (c137 < 0))))))], [], 0, 20⟩ []
theorem w_slices_IndexFunc_impl_Domain_impl_KnowsAll_c1r {a0 : (List DomainT)} {a1 : (List DomainT)} {r : Int} (h : slices_IndexFunc_impl_Domain_impl_KnowsAll_c1r a0 a1 = some r) : Fn Tryd.prog 132 [(.lf true (.sl (a0.map eDomain))), (.fn 106 [(.ra true [.sl (a1.map eDomain)])])] [] 0 (.lf false (.sc (.int .i64 r))) [] 0 := by
  unfold slices_IndexFunc_impl_Domain_impl_KnowsAll_c1r at h
  refine fn_code tab_ok mixed [(1000, [(0, 0), (1, 0)]), (1001, [(0, 0), (1, 0), (7, 0), (8, 0)]), (1002, [(0, 0), (1, 0), (7, 0), (8, 0), (9, 0)]), (1003, [(0, 0), (1, 0), (5, 0), (7, 0), (8, 0)]), (1004, [(0, 0), (1, 0), (5, 0), (7, 0), (8, 0), (16, 0)]), (1005, [(4, 0)]), (1006, [(0, 0), (1, 0), (7, 0), (8, 0)]), (1007, [(4, 0)])] Tryd.func132 rfl rfl (by simp [Tryd.f132]) (by kernel_rfl) ?_
  simp only [Tryd.f132]
  refine sA ?_
  obtain ⟨y140, hl1, h⟩ := bind_ok h
  refine W_loopP (fun g135 : slices_IndexFunc_impl_Domain_impl_KnowsAll_c1r_G1 => ⟨[(0, (.lf true (.sl (a0.map eDomain)))), (1, (.fn 106 [(.ra true [.sl (a1.map eDomain)])])), (7, (.lf false (.sc (.int .i64 ((a0.length : Nat) : Int))))), (8, (.lf false (.sc (.int .i64 g135.t8))))], [], 0, 19⟩) (slices_IndexFunc_impl_Domain_impl_KnowsAll_c1r_L1 a0 a1) _ _ hl1 (weakA []) ?_
  · intro n1 g135 z1 hs1 hk1
    unfold slices_IndexFunc_impl_Domain_impl_KnowsAll_c1r_L1 at hs1
    try dsimp only at hs1
    refine sA ?_
    refine Bs_if hs1 (fun hs1 hc2 => ?_) (fun hs1 hc2 => ?_)
    · try refine sA ?_
      obtain ⟨hp3, hs1⟩ := guard_some hs1
      have hn3 : g135.t8.toNat < a0.length := by first | omega | (simp only [List.length_set, List.length_append, List.length_replicate, List.length_map]; omega)
      try refine sA ?_
      try refine andA ?_
      obtain ⟨c139, hr4, hs1⟩ := bind_ok hs1
      refine Cl_sA (w_impl_KnowsAll_c1_r hr4) ?_
      try refine sA ?_
      refine Bs_if hs1 (fun hs1 hc5 => ?_) (fun hs1 hc5 => ?_)
      · try refine sA ?_
        cases hs1
        cases hk1
        try dsimp only at h
        try refine sA ?_
        have he := Option.some.inj h
        subst he
        exact endsA ⟨[(4, (.lf false (.sc (.int .i64 g135.t8))))], [], 0, 19⟩ []
      · try refine sA ?_
        cases hs1
        exact X_backP hk1 (weakA [])
    · try refine sA ?_
      cases hs1
      cases hk1
      try dsimp only at h
      try refine sA ?_
      have he := Option.some.inj h
      subst he
      exact endsA ⟨[(4, (.lf false (.sc (.int .i64 (-1)))))], [], 0, 19⟩ []
theorem w_slices_ContainsFunc_impl_Domain_impl_KnowsAll_c1r {a0 : (List DomainT)} {a1 : (List DomainT)} {r : Bool} (h : slices_ContainsFunc_impl_Domain_impl_KnowsAll_c1r a0 a1 = some r) : Fn Tryd.prog 105 [(.lf true (.sl (a0.map eDomain))), (.fn 106 [(.ra true [.sl (a1.map eDomain)])])] [] 0 (.lf false (.sc (.bool r))) [] 0 := by
  unfold slices_ContainsFunc_impl_Domain_impl_KnowsAll_c1r at h
  refine fn_code tab_ok mixed [] Tryd.func105 rfl rfl (by simp [Tryd.f105]) (by kernel_rfl) ?_
  simp only [Tryd.f105]
  refine sA ?_
  obtain ⟨c143, hr1, h⟩ := bind_ok h
  refine Cl_sA (w_slices_IndexFunc_impl_Domain_impl_KnowsAll_c1r hr1) ?_
  try refine sA ?_
  have he := Option.some.inj h
  subst he
  exact endsA ⟨[(4, (.lf false (.sc (.bool (decide (c143 ≥ 0))))))], [], 0, 9⟩ []
theorem w_impl_KnowsAll {a0 : (List DomainT)} {a1 : (List DomainT)} {r : (Bool × Bool)} (h : impl_KnowsAll a0 a1 = some r) : Fn Tryd.prog 53 [(.lf true (.sl (a0.map eDomain))), (.lf true (.sl (a1.map eDomain)))] [] 0 (.tu [(.lf false (.sc (.bool r.1))), (.lf false (.sc (.bool r.2)))]) [] 0 := by
  unfold impl_KnowsAll at h
  refine fn_code tab_ok mixed [(1000, [(0, 0), (3, 0)]), (1001, [(0, 0), (3, 0), (13, 0)]), (1002, [(4, 0), (5, 0)]), (1003, [(4, 0), (5, 0)]), (4001, [])] Tryd.func53 rfl rfl (by simp [Tryd.f53]) (by kernel_rfl) ?_
  simp only [Tryd.f53]
  refine sA ?_
  obtain ⟨p134, hq1, h⟩ := bind_ok h
  refine Sq_cut (fun s2 => s2 = ⟨[(0, (.lf true (.sl (a0.map eDomain)))), (3, (.pb 0 0)), (13, (.lf false (.sc (.bool p134.t13))))], [(0, some (true, .box [(.lf true (.sl (a1.map eDomain)))]))], 1, 18⟩) ?_ ?_
  · try refine sA ?_
    obtain ⟨c132, hr2, hq1⟩ := bind_ok hq1
    refine Cl_sA (w_impl_GoodDomains hr2) ?_
    try refine sA ?_
    refine Sp_if hq1 (fun hq1 hc3 => ?_) (fun hq1 hc3 => ?_)
    · try refine sA ?_
      cases hq1
      exact X_cut rfl (weakA [some 0])
    · try refine sA ?_
      obtain ⟨c133, hr4, hq1⟩ := bind_ok hq1
      refine Cl_sA (w_impl_GoodDomains hr4) ?_
      try refine sA ?_
      cases hq1
      exact X_cut rfl (weakA [some 0])
  · intro s2 hJ; subst hJ
    try dsimp only at h
    try refine sA ?_
    refine Bs_if h (fun h hc5 => ?_) (fun h hc5 => ?_)
    · try refine sA ?_
      have he := Option.some.inj h
      subst he
      exact endsA ⟨[(4, (.lf false (.sc (.bool false)))), (5, (.lf false (.sc (.bool false))))], [], 0, 18⟩ []
    · try refine sA ?_
      obtain ⟨c144, hr6, h⟩ := bind_ok h
      refine Cl_sA (w_slices_ContainsFunc_impl_Domain_impl_KnowsAll_c1r hr6) ?_
      try refine sA ?_
      have he := Option.some.inj h
      subst he
      exact endsA ⟨[(4, (.lf false (.sc (.bool (!c144))))), (5, (.lf false (.sc (.bool true))))], [], 0, 18⟩ []
theorem w_spec_DrawFailOver {a0 : (List Int)} {r : ((List DomainT) × ByteArray × Int)} (h : spec_DrawFailOver a0 = some r) : Fn Tryd.prog 54 [(.lf true (.sl (a0.map eU8)))] [] 0 (.tu [(.os 0 3 0 r.1.length r.1.length false), (.lf false (.sc (.string r.2.1))), (.lf false (.sc (.int .i64 r.2.2)))]) [(0, some (true, .arr false 3 (r.1.map eDomain)))] 1 := by
  unfold spec_DrawFailOver at h
  refine fn_code tab_ok mixed [(1000, [(0, 0)]), (1001, [(5, 0)]), (1002, [(2, 0), (3, 0), (4, 0)])] Tryd.func54 rfl rfl (by simp [Tryd.f54]) (by kernel_rfl) ?_
  simp only [Tryd.f54]
  refine sA ?_
  obtain ⟨c152, hr1, h⟩ := bind_ok h
  refine Cl_hA [0] (w_spec_l1Cur_domains_o hr1) ?_
  try refine sA ?_
  obtain ⟨c153, hr2, h⟩ := bind_ok h
  refine Cl_hA [0, 2] (w_spec_l1Cur_of_ow hr2) ?_
  try refine sA ?_
  obtain ⟨c154, hr3, h⟩ := bind_ok h
  refine Cl_hA [0] (w_spec_l1Cur_pick_o hr3) ?_
  try refine sA ?_
  have he := Option.some.inj h
  subst he
  exact endsA ⟨[(2, (.os 0 3 0 c152.1.length c152.1.length false)), (3, (.lf false (.sc (.string c153.1)))), (4, (.lf false (.sc (.int .i64 (wI (c154.1 - 1))))))], [(0, some (true, .arr false 3 (c152.1.map eDomain)))], 1, 17⟩ [some 1]
theorem w_impl_isRegion {a0 : Int} {r : Bool} (h : impl_isRegion a0 = some r) : Fn Tryd.prog 140 [(.lf false (.sc (.int .i64 a0)))] [] 0 (.lf false (.sc (.bool r))) [] 0 := by
  unfold impl_isRegion at h
  refine fn_code tab_ok mixed [] Tryd.func140 rfl rfl (by simp [Tryd.f140]) (by kernel_rfl) ?_
  simp only [Tryd.f140]
  refine sA ?_
  obtain ⟨c160, hr1, h⟩ := bind_ok h
  refine Cl_sA (w_impl_in hr1) ?_
  try refine sA ?_
  have he := Option.some.inj h
  subst he
  exact endsA ⟨[(2, (.lf false (.sc (.bool c160))))], [], 0, 5⟩ []
theorem w_impl_NextVersion {a0 : Int} {a1 : Int} {r : (Int × Bool)} (h : impl_NextVersion a0 a1 = some r) : Fn Tryd.prog 108 [(.lf false (.sc (.int .i64 a0))), (.lf false (.sc (.int .i64 a1)))] [] 0 (.tu [(.lf false (.sc (.int .i64 r.1))), (.lf false (.sc (.bool r.2)))]) [] 0 := by
  unfold impl_NextVersion at h
  refine fn_code tab_ok mixed [(1000, [(0, 0), (1, 0)]), (1001, [(0, 0), (1, 0), (14, 0)]), (1002, [(4, 0), (5, 0)]), (1003, [(0, 0), (6, 0)]), (1004, [(6, 0), (23, 0)]), (1005, [(6, 0)]), (1006, [(6, 0), (28, 0)]), (1007, [(4, 0), (5, 0)]), (1008, [(4, 0), (5, 0)]), (2023, []), (4001, [])] Tryd.func108 rfl rfl (by simp [Tryd.f108]) (by kernel_rfl) ?_
  simp only [Tryd.f108]
  refine sA ?_
  obtain ⟨p162, hq1, h⟩ := bind_ok h
  refine Sq_cut (fun s2 => s2 = ⟨[(0, (.lf false (.sc (.int .i64 a0)))), (1, (.lf false (.sc (.int .i64 a1)))), (14, (.lf false (.sc (.bool p162.t14))))], [], 0, 30⟩) ?_ ?_
  · try refine sA ?_
    obtain ⟨c159, hr2, hq1⟩ := bind_ok hq1
    refine Cl_sA (w_impl_isVersion hr2) ?_
    try refine sA ?_
    refine Sp_if hq1 (fun hq1 hc3 => ?_) (fun hq1 hc3 => ?_)
    · try refine sA ?_
      cases hq1
      exact X_cut rfl (weakA [])
    · try refine sA ?_
      obtain ⟨c161, hr4, hq1⟩ := bind_ok hq1
      refine Cl_sA (w_impl_isRegion hr4) ?_
      try refine sA ?_
      cases hq1
      exact X_cut rfl (weakA [])
  · intro s2 hJ; subst hJ
    try dsimp only at h
    try refine sA ?_
    refine Bs_if h (fun h hc5 => ?_) (fun h hc5 => ?_)
    · try refine sA ?_
      have he := Option.some.inj h
      subst he
      exact endsA ⟨[(4, (.lf false (.sc (.int .i64 0)))), (5, (.lf false (.sc (.bool false))))], [], 0, 30⟩ []
    · try refine sA ?_
      obtain ⟨p163, hq6, h⟩ := bind_ok h
      refine Sq_cut (fun s2 => s2 = ⟨[(6, (.lf false (.sc (.int .i64 p163.t6))))], [], 0, 30⟩) ?_ ?_
      · try refine sA ?_
        refine Bs_if hq6 (fun hq6 hc7 => ?_) (fun hq6 hc7 => ?_)
        · try refine sA ?_
          cases hq6
          exact X_cut rfl (weakA [])
        · try refine sA ?_
          cases hq6
          exact X_cut rfl (weakA [])
      · intro s2 hJ; subst hJ
        try dsimp only at h
        try refine sA ?_
        obtain ⟨c164, hr8, h⟩ := bind_ok h
        refine Cl_sA (w_impl_isVersion hr8) ?_
        try refine sA ?_
        refine Bs_if h (fun h hc9 => ?_) (fun h hc9 => ?_)
        · try refine sA ?_
          have he := Option.some.inj h
          subst he
          exact endsA ⟨[(4, (.lf false (.sc (.int .i64 0)))), (5, (.lf false (.sc (.bool false))))], [], 0, 30⟩ []
        · try refine sA ?_
          have he := Option.some.inj h
          subst he
          exact endsA ⟨[(4, (.lf false (.sc (.int .i64 p163.t6)))), (5, (.lf false (.sc (.bool true))))], [], 0, 30⟩ []
theorem w_impl_FailOver {a0 : (List DomainT)} {a1 : ByteArray} {a2 : Int} {r : ((List DomainT) × Bool)} (h : impl_FailOver a0 a1 a2 = some r) : Fn Tryd.prog 55 [(.lf true (.sl (a0.map eDomain))), (.lf false (.sc (.string a1))), (.lf false (.sc (.int .i64 a2)))] [] 0 (.tu [(.os 0 3 0 r.1.length r.1.length false), (.lf false (.sc (.bool r.2)))]) [(0, some (true, .arr false 3 (r.1.map eDomain)))] 1 := by
  unfold impl_FailOver at h
  refine fn_code tab_ok mixed [(1000, [(0, 0), (1, 0), (2, 0)]), (1001, [(0, 0), (2, 0), (8, 0)]), (1002, [(0, 0), (2, 0), (8, 0), (21, 0)]), (1003, [(6, 0), (7, 0)]), (1004, [(0, 0), (8, 0), (9, 0), (10, 0)]), (1005, [(0, 0), (8, 0), (9, 0), (33, 0)]), (1006, [(6, 0), (7, 0)]), (1007, [(8, 0), (9, 0), (11, 0)]), (1008, [(11, 0)]), (1009, [(6, 0), (7, 0)]), (4002, [])] Tryd.func55 rfl rfl (by simp [Tryd.f55]) (by kernel_rfl) ?_
  simp only [Tryd.f55]
  refine sA ?_
  obtain ⟨c156, hr1, h⟩ := bind_ok h
  refine Cl_sA (w_impl_domainAt hr1) ?_
  try refine sA ?_
  obtain ⟨p158, hq2, h⟩ := bind_ok h
  refine Sq_cut (fun s2 => s2 = ⟨[(0, (.lf true (.sl (a0.map eDomain)))), (2, (.lf false (.sc (.int .i64 a2)))), (8, (.lf false (.sc (.int .i64 c156)))), (21, (.lf false (.sc (.bool p158.t21))))], [], 0, 42⟩) ?_ ?_
  · try refine sA ?_
    obtain ⟨c157, hr3, hq2⟩ := bind_ok hq2
    refine Cl_sA (w_impl_GoodDomains hr3) ?_
    try refine sA ?_
    refine Sp_if hq2 (fun hq2 hc4 => ?_) (fun hq2 hc4 => ?_)
    · try refine sA ?_
      cases hq2
      exact X_cut rfl (weakA [])
    · try refine sA ?_
      cases hq2
      exact X_cut rfl (weakA [])
  · intro s2 hJ; subst hJ
    try dsimp only at h
    try refine sA ?_
    refine Bs_if h (fun h hc5 => ?_) (fun h hc5 => ?_)
    · try refine sA ?_
      have he := Option.some.inj h
      subst he
      exact endsA ⟨[(6, (.os 0 3 0 (([] : List DomainT).length) (([] : List DomainT).length) false)), (7, (.lf false (.sc (.bool false))))], [(0, some (true, .arr false 3 (([] : List DomainT).map eDomain)))], 1, 42⟩ [none]
    · try refine sA ?_
      obtain ⟨hp6, h⟩ := guard_some h
      have hn6 : c156.toNat < a0.length := by first | omega | (simp only [List.length_set, List.length_append, List.length_replicate, List.length_map]; omega)
      try refine sA ?_
      try refine andA ?_
      obtain ⟨c165, hr7, h⟩ := bind_ok h
      refine Cl_sA (w_impl_NextVersion hr7) ?_
      try refine sA ?_
      refine Bs_if h (fun h hc8 => ?_) (fun h hc8 => ?_)
      · try refine sA ?_
        have he := Option.some.inj h
        subst he
        exact endsA ⟨[(6, (.os 0 3 0 (([] : List DomainT).length) (([] : List DomainT).length) false)), (7, (.lf false (.sc (.bool false))))], [(0, some (true, .arr false 3 (([] : List DomainT).map eDomain)))], 1, 42⟩ [none]
      · try refine sA ?_
        obtain ⟨c166, hr9, h⟩ := bind_ok h
        refine Cl_sA (w_slices_Clone_impl_Domain hr9) ?_
        try refine sA ?_
        obtain ⟨hp10, h⟩ := guard_some h
        have hn10 : c156.toNat < c166.length := by first | omega | (simp only [List.length_set, List.length_append, List.length_replicate, List.length_map]; omega)
        try refine sA ?_
        try refine andA ?_
        try refine andB ?_
        try refine sA ?_
        have he := Option.some.inj h
        subst he
        exact endsA ⟨[(6, (.os 0 3 0 ((c166.set c156.toNat (⟨(nth c166 c156.toNat).Name, c165.1, (nth c166 c156.toNat).Note⟩ : DomainT)).length) ((c166.set c156.toNat (⟨(nth c166 c156.toNat).Name, c165.1, (nth c166 c156.toNat).Note⟩ : DomainT)).length) false)), (7, (.lf false (.sc (.bool true))))], [(0, some (true, .arr false 3 ((c166.set c156.toNat (⟨(nth c166 c156.toNat).Name, c165.1, (nth c166 c156.toNat).Note⟩ : DomainT)).map eDomain)))], 1, 42⟩ [some 0]
theorem w_spec_l13Next {a0 : Int} {a1 : Int} {r : Int} (h : spec_l13Next a0 a1 = some r) : Fn Tryd.prog 141 [(.lf false (.sc (.int .i64 a0))), (.lf false (.sc (.int .i64 a1)))] [] 0 (.lf false (.sc (.int .i64 r))) [] 0 := by
  unfold spec_l13Next at h
  refine fn_code tab_ok mixed [(1000, [(0, 0), (1, 0)]), (1001, [(0, 0), (5, 0)]), (1002, [(5, 0), (14, 0)]), (1003, [(5, 0)]), (1004, [(4, 0)])] Tryd.func141 rfl rfl (by simp [Tryd.f141]) (by kernel_rfl) ?_
  simp only [Tryd.f141]
  refine sA ?_
  refine Bs_if h (fun h hc1 => ?_) (fun h hc1 => ?_)
  · try refine sA ?_
    have he := Option.some.inj h
    subst he
    exact endsA ⟨[(4, (.lf false (.sc (.int .i64 (wI ((wI ((wI (a0 - (a0.tmod 10))) + a1)) + 10))))))], [], 0, 18⟩ []
  · try refine sA ?_
    have he := Option.some.inj h
    subst he
    exact endsA ⟨[(4, (.lf false (.sc (.int .i64 (wI ((wI (a0 - (a0.tmod 10))) + a1))))))], [], 0, 18⟩ []
theorem w_spec_NextVersion {a0 : Int} {a1 : Int} {r : (Int × Bool)} (h : spec_NextVersion a0 a1 = some r) : Fn Tryd.prog 109 [(.lf false (.sc (.int .i64 a0))), (.lf false (.sc (.int .i64 a1)))] [] 0 (.tu [(.lf false (.sc (.int .i64 r.1))), (.lf false (.sc (.bool r.2)))]) [] 0 := by
  unfold spec_NextVersion at h
  refine fn_code tab_ok mixed [(1000, [(0, 0), (1, 0)]), (1001, [(0, 0), (1, 0), (14, 0)]), (1002, [(4, 0), (5, 0)]), (1003, [(6, 0)]), (1004, [(6, 0), (20, 0)]), (1005, [(4, 0), (5, 0)]), (1006, [(4, 0), (5, 0)]), (4001, [])] Tryd.func109 rfl rfl (by simp [Tryd.f109]) (by kernel_rfl) ?_
  simp only [Tryd.f109]
  refine sA ?_
  obtain ⟨p172, hq1, h⟩ := bind_ok h
  refine Sq_cut (fun s2 => s2 = ⟨[(0, (.lf false (.sc (.int .i64 a0)))), (1, (.lf false (.sc (.int .i64 a1)))), (14, (.lf false (.sc (.bool p172.t14))))], [], 0, 22⟩) ?_ ?_
  · try refine sA ?_
    obtain ⟨c170, hr2, hq1⟩ := bind_ok hq1
    refine Cl_sA (w_spec_l13Version hr2) ?_
    try refine sA ?_
    refine Sp_if hq1 (fun hq1 hc3 => ?_) (fun hq1 hc3 => ?_)
    · try refine sA ?_
      cases hq1
      exact X_cut rfl (weakA [])
    · try refine sA ?_
      obtain ⟨c171, hr4, hq1⟩ := bind_ok hq1
      refine Cl_sA (w_spec_l1In hr4) ?_
      try refine sA ?_
      cases hq1
      exact X_cut rfl (weakA [])
  · intro s2 hJ; subst hJ
    try dsimp only at h
    try refine sA ?_
    refine Bs_if h (fun h hc5 => ?_) (fun h hc5 => ?_)
    · try refine sA ?_
      have he := Option.some.inj h
      subst he
      exact endsA ⟨[(4, (.lf false (.sc (.int .i64 0)))), (5, (.lf false (.sc (.bool false))))], [], 0, 22⟩ []
    · try refine sA ?_
      obtain ⟨c173, hr6, h⟩ := bind_ok h
      refine Cl_sA (w_spec_l13Next hr6) ?_
      try refine sA ?_
      obtain ⟨c174, hr7, h⟩ := bind_ok h
      refine Cl_sA (w_spec_l13Version hr7) ?_
      try refine sA ?_
      refine Bs_if h (fun h hc8 => ?_) (fun h hc8 => ?_)
      · try refine sA ?_
        have he := Option.some.inj h
        subst he
        exact endsA ⟨[(4, (.lf false (.sc (.int .i64 0)))), (5, (.lf false (.sc (.bool false))))], [], 0, 22⟩ []
      · try refine sA ?_
        have he := Option.some.inj h
        subst he
        exact endsA ⟨[(4, (.lf false (.sc (.int .i64 c173)))), (5, (.lf false (.sc (.bool true))))], [], 0, 22⟩ []
theorem w_spec_FailOver {a0 : (List DomainT)} {a1 : ByteArray} {a2 : Int} {r : ((List DomainT) × Bool)} (h : spec_FailOver a0 a1 a2 = some r) : Fn Tryd.prog 56 [(.lf true (.sl (a0.map eDomain))), (.lf false (.sc (.string a1))), (.lf false (.sc (.int .i64 a2)))] [] 0 (.tu [(.os 0 3 0 r.1.length r.1.length false), (.lf false (.sc (.bool r.2)))]) [(0, some (true, .arr false 3 (r.1.map eDomain)))] 1 := by
  unfold spec_FailOver at h
  refine fn_code tab_ok mixed [(1000, [(0, 0), (1, 0), (2, 0)]), (1001, [(0, 0), (1, 0), (2, 0), (15, 0)]), (1002, [(6, 0), (7, 0)]), (1003, [(1, 0), (2, 0), (8, 0)]), (1004, [(1, 0), (2, 0), (8, 0), (19, 0), (20, 0), (21, 0)]), (1005, [(1, 0), (2, 0), (8, 0), (19, 0), (20, 0), (21, 0), (22, 0)]), (1006, [(1, 0), (2, 0), (8, 0), (9, 0), (10, 0), (19, 0), (20, 0), (21, 0)]), (1007, [(1, 0), (2, 0), (8, 0), (9, 0), (10, 0), (19, 0), (20, 0), (21, 0), (29, 0)]), (1008, [(8, 0), (9, 0), (11, 0), (12, 0)]), (1009, [(8, 0), (9, 0), (11, 0), (38, 0)]), (1010, [(6, 0), (7, 0)]), (1011, [(8, 0)]), (1012, [(6, 0), (7, 0)]), (1013, [(1, 0), (2, 0), (8, 0), (19, 0), (20, 0), (21, 0)]), (1014, [(6, 0), (7, 0)])] Tryd.func56 rfl rfl (by simp [Tryd.f56]) (by kernel_rfl) ?_
  simp only [Tryd.f56]
  refine sA ?_
  obtain ⟨c168, hr1, h⟩ := bind_ok h
  refine Cl_sA (w_spec_GoodDomains hr1) ?_
  try refine sA ?_
  refine Bs_if h (fun h hc2 => ?_) (fun h hc2 => ?_)
  · try refine sA ?_
    have he := Option.some.inj h
    subst he
    exact endsA ⟨[(6, (.os 0 3 0 (([] : List DomainT).length) (([] : List DomainT).length) false)), (7, (.lf false (.sc (.bool false))))], [(0, some (true, .arr false 3 (([] : List DomainT).map eDomain)))], 1, 46⟩ [none]
  · try refine sA ?_
    obtain ⟨hp3, h⟩ := guard_some h
    try refine sA ?_
    try refine andA ?_
    obtain ⟨y177, hl4, h⟩ := bind_ok h
    refine W_loopP (fun g169 : spec_FailOver_G1 => ⟨[(1, (.lf false (.sc (.string a1)))), (2, (.lf false (.sc (.int .i64 a2)))), (8, (.os 0 3 0 a0.length a0.length false)), (19, (.os 0 3 0 a0.length a0.length false)), (20, (.lf false (.sc (.int .i64 ((a0.length : Nat) : Int))))), (21, (.lf false (.sc (.int .i64 g169.t21))))], [(0, some (true, .arr true 3 ((([]) ++ a0).map eDomain)))], 1, 46⟩) (spec_FailOver_L1 a0 a1 a2) _ _ hl4 (weakA [some 1]) ?_
    · intro n1 g169 z1 hs1 hk1
      unfold spec_FailOver_L1 at hs1
      try dsimp only at hs1
      refine sA ?_
      refine Bs_if hs1 (fun hs1 hc5 => ?_) (fun hs1 hc5 => ?_)
      · try refine sA ?_
        obtain ⟨hp6, hs1⟩ := guard_some hs1
        have hn6 : g169.t21.toNat < a0.length := by first | omega | (simp only [List.length_set, List.length_append, List.length_replicate, List.length_map]; omega)
        try refine sA ?_
        try refine andA ?_
        try refine andB ?_
        try refine sA ?_
        refine Bs_if hs1 (fun hs1 hc8 => ?_) (fun hs1 hc8 => ?_)
        · try refine sA ?_
          obtain ⟨c176, hr9, hs1⟩ := bind_ok hs1
          refine Cl_sA (w_spec_NextVersion hr9) ?_
          try refine sA ?_
          refine Bs_if hs1 (fun hs1 hc10 => ?_) (fun hs1 hc10 => ?_)
          · try refine sA ?_
            cases hs1
            cases hk1
            try dsimp only at h
            try refine sA ?_
            have he := Option.some.inj h
            subst he
            exact endsA ⟨[(6, (.os 0 3 0 (([] : List DomainT).length) (([] : List DomainT).length) false)), (7, (.lf false (.sc (.bool false))))], [(0, some (true, .arr false 3 (([] : List DomainT).map eDomain)))], 1, 46⟩ [none]
          · try refine sA ?_
            obtain ⟨hp11, hs1⟩ := guard_some hs1
            have hn11 : g169.t21.toNat < a0.length := by first | omega | (simp only [List.length_set, List.length_append, List.length_replicate, List.length_map]; omega)
            try refine sA ?_
            try refine andA ?_
            try refine andB ?_
            try refine sA ?_
            cases hs1
            cases hk1
            try dsimp only at h
            try refine sA ?_
            have he := Option.some.inj h
            subst he
            exact endsA ⟨[(6, (.os 0 3 0 (((([]) ++ a0).set g169.t21.toNat (⟨(nth (([]) ++ a0) g169.t21.toNat).Name, c176.1, (nth (([]) ++ a0) g169.t21.toNat).Note⟩ : DomainT)).length) (((([]) ++ a0).set g169.t21.toNat (⟨(nth (([]) ++ a0) g169.t21.toNat).Name, c176.1, (nth (([]) ++ a0) g169.t21.toNat).Note⟩ : DomainT)).length) false)), (7, (.lf false (.sc (.bool true))))], [(0, some (true, .arr false 3 (((([]) ++ a0).set g169.t21.toNat (⟨(nth (([]) ++ a0) g169.t21.toNat).Name, c176.1, (nth (([]) ++ a0) g169.t21.toNat).Note⟩ : DomainT)).map eDomain)))], 1, 46⟩ [some 0]
        · try refine sA ?_
          cases hs1
          exact X_backP hk1 (weakA [some 0])
      · try refine sA ?_
        cases hs1
        cases hk1
        try dsimp only at h
        try refine sA ?_
        have he := Option.some.inj h
        subst he
        exact endsA ⟨[(6, (.os 0 3 0 (([] : List DomainT).length) (([] : List DomainT).length) false)), (7, (.lf false (.sc (.bool false))))], [(0, some (true, .arr false 3 (([] : List DomainT).map eDomain)))], 1, 46⟩ [none]
theorem w_impl_RegionOf {a0 : Int} {r : (Int × Bool)} (h : impl_RegionOf a0 = some r) : Fn Tryd.prog 110 [(.lf false (.sc (.int .i64 a0)))] [] 0 (.tu [(.lf false (.sc (.int .i64 r.1))), (.lf false (.sc (.bool r.2)))]) [] 0 := by
  unfold impl_RegionOf at h
  refine fn_code tab_ok mixed [(1000, [(0, 0)]), (1001, [(0, 0), (6, 0)]), (1002, [(2, 0), (3, 0)]), (1003, [(2, 0), (3, 0)])] Tryd.func110 rfl rfl (by simp [Tryd.f110]) (by kernel_rfl) ?_
  simp only [Tryd.f110]
  refine sA ?_
  obtain ⟨c186, hr1, h⟩ := bind_ok h
  refine Cl_sA (w_impl_isVersion hr1) ?_
  try refine sA ?_
  refine Bs_if h (fun h hc2 => ?_) (fun h hc2 => ?_)
  · try refine sA ?_
    have he := Option.some.inj h
    subst he
    exact endsA ⟨[(2, (.lf false (.sc (.int .i64 0)))), (3, (.lf false (.sc (.bool false))))], [], 0, 9⟩ []
  · try refine sA ?_
    have he := Option.some.inj h
    subst he
    exact endsA ⟨[(2, (.lf false (.sc (.int .i64 (a0.tmod 10))))), (3, (.lf false (.sc (.bool true))))], [], 0, 9⟩ []
theorem w_impl_LeaderOf {a0 : (List DomainT)} {a1 : ByteArray} {r : (Int × Bool)} (h : impl_LeaderOf a0 a1 = some r) : Fn Tryd.prog 57 [(.lf true (.sl (a0.map eDomain))), (.lf false (.sc (.string a1)))] [] 0 (.tu [(.lf false (.sc (.int .i64 r.1))), (.lf false (.sc (.bool r.2)))]) [] 0 := by
  unfold impl_LeaderOf at h
  refine fn_code tab_ok mixed [(1000, [(0, 0), (1, 0)]), (1001, [(0, 0), (6, 0)]), (1002, [(0, 0), (6, 0), (16, 0)]), (1003, [(4, 0), (5, 0)]), (1004, [(4, 0), (5, 0)]), (4002, [])] Tryd.func57 rfl rfl (by simp [Tryd.f57]) (by kernel_rfl) ?_
  simp only [Tryd.f57]
  refine sA ?_
  obtain ⟨c183, hr1, h⟩ := bind_ok h
  refine Cl_sA (w_impl_domainAt hr1) ?_
  try refine sA ?_
  obtain ⟨p185, hq2, h⟩ := bind_ok h
  refine Sq_cut (fun s2 => s2 = ⟨[(0, (.lf true (.sl (a0.map eDomain)))), (6, (.lf false (.sc (.int .i64 c183)))), (16, (.lf false (.sc (.bool p185.t16))))], [], 0, 25⟩) ?_ ?_
  · try refine sA ?_
    obtain ⟨c184, hr3, hq2⟩ := bind_ok hq2
    refine Cl_sA (w_impl_GoodDomains hr3) ?_
    try refine sA ?_
    refine Sp_if hq2 (fun hq2 hc4 => ?_) (fun hq2 hc4 => ?_)
    · try refine sA ?_
      cases hq2
      exact X_cut rfl (weakA [])
    · try refine sA ?_
      cases hq2
      exact X_cut rfl (weakA [])
  · intro s2 hJ; subst hJ
    try dsimp only at h
    try refine sA ?_
    refine Bs_if h (fun h hc5 => ?_) (fun h hc5 => ?_)
    · try refine sA ?_
      have he := Option.some.inj h
      subst he
      exact endsA ⟨[(4, (.lf false (.sc (.int .i64 0)))), (5, (.lf false (.sc (.bool false))))], [], 0, 25⟩ []
    · try refine sA ?_
      obtain ⟨hp6, h⟩ := guard_some h
      have hn6 : c183.toNat < a0.length := by first | omega | (simp only [List.length_set, List.length_append, List.length_replicate, List.length_map]; omega)
      try refine sA ?_
      try refine andA ?_
      obtain ⟨c187, hr7, h⟩ := bind_ok h
      refine Cl_sA (w_impl_RegionOf hr7) ?_
      try refine sA ?_
      have he := Option.some.inj h
      subst he
      exact endsA ⟨[(4, (.lf false (.sc (.int .i64 c187.1)))), (5, (.lf false (.sc (.bool c187.2))))], [], 0, 25⟩ []
theorem w_laws_FnDomains {a0 : (List Int)} {a1 : (List Int)} {r : Bool} (h : laws_FnDomains a0 a1 = some r) : Fn Tryd.prog 9 [(.lf true (.sl (a0.map eU8))), (.lf true (.sl (a1.map eU8)))] [] 0 (.lf false (.sc (.bool r))) [] 0 := by
  unfold laws_FnDomains at h
  refine fn_code tab_ok mixed [(1000, [(0, 0), (1, 0)]), (1001, [(0, 0), (1, 0), (39, 0)]), (1002, [(4, 0)]), (1003, [(1, 0), (5, 0), (6, 0)]), (1004, [(1, 0), (5, 0), (6, 0), (7, 0), (8, 0)]), (1005, [(1, 0), (5, 0), (6, 0), (7, 0), (8, 0), (9, 0), (10, 0)]), (1006, [(1, 0), (5, 0), (6, 0), (7, 0), (8, 0), (9, 0), (10, 0), (11, 0), (12, 0)]), (1007, [(1, 0), (5, 0), (6, 0), (7, 0), (8, 0), (89, 0)]), (1008, [(4, 0)]), (1009, [(1, 0), (5, 0), (6, 0), (7, 0), (90, 0)]), (1010, [(1, 0), (5, 0), (6, 0), (7, 0), (13, 0), (14, 0)]), (1011, [(1, 0), (5, 0), (6, 0), (7, 0), (13, 0), (14, 0), (15, 0), (16, 0)]), (1012, [(1, 0), (5, 0), (7, 0), (13, 0), (14, 0), (15, 0), (16, 0), (17, 0), (18, 0)]), (1013, [(1, 0), (7, 0), (13, 0), (14, 0), (15, 0), (16, 0), (17, 0), (18, 0), (19, 0), (20, 0)]), (1014, [(1, 0), (148, 0)]), (1015, [(4, 0)]), (1016, [(21, 0), (22, 0), (23, 0)]), (1017, [(21, 0), (22, 0), (23, 0), (24, 0), (25, 0)]), (1018, [(21, 0), (22, 0), (23, 0), (24, 0), (25, 0), (26, 0), (27, 0)]), (1019, [(21, 0), (22, 0), (23, 0), (24, 0), (25, 0), (177, 0)]), (1020, [(4, 0)]), (1021, [(21, 0), (22, 0), (23, 0), (24, 0), (179, 0)]), (1022, [(4, 0)]), (1023, [(21, 0), (23, 0), (24, 0), (28, 0), (29, 0)]), (1024, [(21, 0), (23, 0), (24, 0), (28, 0), (29, 0), (30, 0), (31, 0)]), (1025, [(23, 0), (28, 0), (29, 0), (30, 0), (31, 0), (32, 0), (33, 0)]), (1026, [(4, 0)]), (2090, []), (4007, []), (4014, []), (4019, [])] Tryd.func9 rfl rfl (by simp [Tryd.f9]) (by kernel_rfl) ?_
  simp only [Tryd.f9]
  refine sA ?_
  refine Bs_if h (fun h hc1 => ?_) (fun h hc1 => ?_)
  · try refine sA ?_
    have he := Option.some.inj h
    subst he
    exact endsA ⟨[(4, (.lf false (.sc (.bool true))))], [], 0, 220⟩ []
  · try refine sA ?_
    obtain ⟨c36, hr2, h⟩ := bind_ok h
    refine Cl_sA (w_spec_DrawMergeDomains hr2) ?_
    try refine sA ?_
    obtain ⟨c81, hr3, h⟩ := bind_ok h
    refine Cl_sA (w_impl_MergeDomains hr3) ?_
    try refine sA ?_
    obtain ⟨c120, hr4, h⟩ := bind_ok h
    refine Cl_sA (w_spec_MergeDomains hr4) ?_
    try refine sA ?_
    obtain ⟨c121, hr5, h⟩ := bind_ok h
    refine Cl_sA (w_impl_MergeDomains hr5) ?_
    try refine sA ?_
    obtain ⟨p130, hq6, h⟩ := bind_ok h
    refine Sq_cut (fun s2 => s2 = ⟨[(1, (.lf true (.sl (a1.map eU8)))), (5, (.os 0 3 0 c36.1.length c36.1.length false)), (6, (.os 1 3 0 c36.2.length c36.2.length false)), (7, (.os 2 3 0 c81.1.length c81.1.length false)), (8, (.lf false (.sc (.bool c81.2)))), (89, (.lf false (.sc (.bool p130.t89))))], [(0, some (true, .arr false 3 (c36.1.map eDomain))), (1, some (true, .arr false 3 (c36.2.map eDomain))), (2, some (true, .arr false 3 (c81.1.map eDomain)))], 3, 220⟩) ?_ ?_
    · try refine sA ?_
      refine Sp_if hq6 (fun hq6 hc7 => ?_) (fun hq6 hc7 => ?_)
      · try refine sA ?_
        cases hq6
        exact X_cut rfl (weakA [some 0, some 1, some 2])
      · try refine sA ?_
        refine Sp_if hq6 (fun hq6 hc8 => ?_) (fun hq6 hc8 => ?_)
        · try refine sA ?_
          cases hq6
          exact X_cut rfl (weakA [some 0, some 1, some 2])
        · try refine sA ?_
          obtain ⟨c126, hr9, hq6⟩ := bind_ok hq6
          refine Cl_sA (w_laws_sameDomains hr9) ?_
          try refine sA ?_
          refine Sp_if hq6 (fun hq6 hc10 => ?_) (fun hq6 hc10 => ?_)
          · try refine sA ?_
            cases hq6
            exact X_cut rfl (weakA [some 0, some 1, some 2])
          · try refine sA ?_
            obtain ⟨c127, hr11, hq6⟩ := bind_ok hq6
            refine Cl_sA (w_laws_sameDomains hr11) ?_
            try refine sA ?_
            refine Sp_if hq6 (fun hq6 hc12 => ?_) (fun hq6 hc12 => ?_)
            · try refine sA ?_
              cases hq6
              exact X_cut rfl (weakA [some 0, some 1, some 2])
            · try refine sA ?_
              obtain ⟨c128, hr13, hq6⟩ := bind_ok hq6
              refine Cl_sA (w_impl_GoodDomains hr13) ?_
              try refine sA ?_
              obtain ⟨c129, hr14, hq6⟩ := bind_ok hq6
              refine Cl_sA (w_spec_GoodDomains hr14) ?_
              try refine sA ?_
              cases hq6
              exact X_cut rfl (weakA [some 0, some 1, some 2])
    · intro s2 hJ; subst hJ
      try dsimp only at h
      try refine sA ?_
      refine Bs_if h (fun h hc15 => ?_) (fun h hc15 => ?_)
      · try refine sA ?_
        have he := Option.some.inj h
        subst he
        exact endsA ⟨[(4, (.lf false (.sc (.bool false))))], [], 0, 220⟩ []
      · try refine sA ?_
        obtain ⟨q16, hq16, h⟩ := bind_ok h
        refine Sq_cut (fun s2 => ∃ p151 : Unit, q16 = .inl p151 ∧ s2 = ⟨[(1, (.lf true (.sl (a1.map eU8))))], [], 0, 220⟩) ?_ ?_
        · try refine sA ?_
          refine Bs_if hq16 (fun hq16 hc17 => ?_) (fun hq16 hc17 => ?_)
          · try refine sA ?_
            obtain ⟨c131, hr18, hq16⟩ := bind_ok hq16
            refine Cl_sA (w_impl_MergeDomains hr18) ?_
            try refine sA ?_
            obtain ⟨c145, hr19, hq16⟩ := bind_ok hq16
            refine Cl_sA (w_impl_KnowsAll hr19) ?_
            try refine sA ?_
            obtain ⟨c146, hr20, hq16⟩ := bind_ok hq16
            refine Cl_sA (w_impl_KnowsAll hr20) ?_
            try refine sA ?_
            obtain ⟨c147, hr21, hq16⟩ := bind_ok hq16
            refine Cl_sA (w_impl_MergeDomains hr21) ?_
            try refine sA ?_
            obtain ⟨p150, hq22, hq16⟩ := bind_ok hq16
            refine Sq_cut (fun s2 => s2 = ⟨[(1, (.lf true (.sl (a1.map eU8)))), (148, (.lf false (.sc (.bool p150.t148))))], [], 0, 220⟩) ?_ ?_
            · try refine sA ?_
              refine Sp_if hq22 (fun hq22 hc23 => ?_) (fun hq22 hc23 => ?_)
              · try refine sA ?_
                cases hq22
                exact X_cut rfl (weakA [])
              · try refine sA ?_
                refine Sp_if hq22 (fun hq22 hc24 => ?_) (fun hq22 hc24 => ?_)
                · try refine sA ?_
                  cases hq22
                  exact X_cut rfl (weakA [])
                · try refine sA ?_
                  refine Sp_if hq22 (fun hq22 hc25 => ?_) (fun hq22 hc25 => ?_)
                  · try refine sA ?_
                    cases hq22
                    exact X_cut rfl (weakA [])
                  · try refine sA ?_
                    refine Sp_if hq22 (fun hq22 hc26 => ?_) (fun hq22 hc26 => ?_)
                    · try refine sA ?_
                      cases hq22
                      exact X_cut rfl (weakA [])
                    · try refine sA ?_
                      refine Sp_if hq22 (fun hq22 hc27 => ?_) (fun hq22 hc27 => ?_)
                      · try refine sA ?_
                        cases hq22
                        exact X_cut rfl (weakA [])
                      · try refine sA ?_
                        refine Sp_if hq22 (fun hq22 hc28 => ?_) (fun hq22 hc28 => ?_)
                        · try refine sA ?_
                          cases hq22
                          exact X_cut rfl (weakA [])
                        · try refine sA ?_
                          obtain ⟨c148, hr29, hq22⟩ := bind_ok hq22
                          refine Cl_sA (w_laws_sameDomains hr29) ?_
                          try refine sA ?_
                          refine Sp_if hq22 (fun hq22 hc30 => ?_) (fun hq22 hc30 => ?_)
                          · try refine sA ?_
                            cases hq22
                            exact X_cut rfl (weakA [])
                          · try refine sA ?_
                            obtain ⟨c149, hr31, hq22⟩ := bind_ok hq22
                            refine Cl_sA (w_laws_sameDomains hr31) ?_
                            try refine sA ?_
                            cases hq22
                            exact X_cut rfl (weakA [])
            · intro s2 hJ; subst hJ
              try dsimp only at hq16
              try refine sA ?_
              refine Bs_if hq16 (fun hq16 hc32 => ?_) (fun hq16 hc32 => ?_)
              · try refine sA ?_
                cases hq16
                try dsimp only at h
                have he := Option.some.inj h
                subst he
                exact endsA ⟨[(4, (.lf false (.sc (.bool false))))], [], 0, 220⟩ []
              · try refine sA ?_
                cases hq16
                exact X_cut ⟨_, rfl, rfl⟩ (weakA [])
          · try refine sA ?_
            cases hq16
            exact X_cut ⟨_, rfl, rfl⟩ (weakA [])
        · intro s2 hJ; obtain ⟨p151, e, rfl⟩ := hJ; subst e
          try dsimp only at h
          try refine sA ?_
          obtain ⟨c155, hr33, h⟩ := bind_ok h
          refine Cl_sA (w_spec_DrawFailOver hr33) ?_
          try refine sA ?_
          obtain ⟨c167, hr34, h⟩ := bind_ok h
          refine Cl_sA (w_impl_FailOver hr34) ?_
          try refine sA ?_
          obtain ⟨c180, hr35, h⟩ := bind_ok h
          refine Cl_sA (w_spec_FailOver hr35) ?_
          try refine sA ?_
          obtain ⟨p182, hq36, h⟩ := bind_ok h
          refine Sq_cut (fun s2 => s2 = ⟨[(21, (.os 0 3 0 c155.1.length c155.1.length false)), (22, (.lf false (.sc (.string c155.2.1)))), (23, (.lf false (.sc (.int .i64 c155.2.2)))), (24, (.os 1 3 0 c167.1.length c167.1.length false)), (25, (.lf false (.sc (.bool c167.2)))), (177, (.lf false (.sc (.bool p182.t177))))], [(0, some (true, .arr false 3 (c155.1.map eDomain))), (1, some (true, .arr false 3 (c167.1.map eDomain)))], 2, 220⟩) ?_ ?_
          · try refine sA ?_
            refine Sp_if hq36 (fun hq36 hc37 => ?_) (fun hq36 hc37 => ?_)
            · try refine sA ?_
              cases hq36
              exact X_cut rfl (weakA [some 0, some 1])
            · try refine sA ?_
              obtain ⟨c181, hr38, hq36⟩ := bind_ok hq36
              refine Cl_sA (w_laws_sameDomains hr38) ?_
              try refine sA ?_
              cases hq36
              exact X_cut rfl (weakA [some 0, some 1])
          · intro s2 hJ; subst hJ
            try dsimp only at h
            try refine sA ?_
            refine Bs_if h (fun h hc39 => ?_) (fun h hc39 => ?_)
            · try refine sA ?_
              have he := Option.some.inj h
              subst he
              exact endsA ⟨[(4, (.lf false (.sc (.bool false))))], [], 0, 220⟩ []
            · try refine sA ?_
              refine Bs_if h (fun h hc40 => ?_) (fun h hc40 => ?_)
              · try refine sA ?_
                have he := Option.some.inj h
                subst he
                exact endsA ⟨[(4, (.lf false (.sc (.bool (((c167.1.length : Nat) : Int) == 0)))))], [], 0, 220⟩ []
              · try refine sA ?_
                obtain ⟨c188, hr41, h⟩ := bind_ok h
                refine Cl_sA (w_impl_LeaderOf hr41) ?_
                try refine sA ?_
                obtain ⟨c189, hr42, h⟩ := bind_ok h
                refine Cl_sA (w_impl_KnowsAll hr42) ?_
                try refine sA ?_
                obtain ⟨c190, hr43, h⟩ := bind_ok h
                refine Cl_sA (w_impl_KnowsAll hr43) ?_
                try refine sA ?_
                refine Sp_if h (fun h hc44 => ?_) (fun h hc44 => ?_)
                · try refine sA ?_
                  refine Sp_if h (fun h hc45 => ?_) (fun h hc45 => ?_)
                  · try refine sA ?_
                    refine Sp_if h (fun h hc46 => ?_) (fun h hc46 => ?_)
                    · try refine sA ?_
                      refine Sp_if h (fun h hc47 => ?_) (fun h hc47 => ?_)
                      · try refine sA ?_
                        refine Sp_if h (fun h hc48 => ?_) (fun h hc48 => ?_)
                        · try refine sA ?_
                          have he := Option.some.inj h
                          subst he
                          exact endsA ⟨[(4, (.lf false (.sc (.bool (!c190.1)))))], [], 0, 220⟩ []
                        · try refine sA ?_
                          have he := Option.some.inj h
                          subst he
                          exact endsA ⟨[(4, (.lf false (.sc (.bool false))))], [], 0, 220⟩ []
                      · try refine sA ?_
                        have he := Option.some.inj h
                        subst he
                        exact endsA ⟨[(4, (.lf false (.sc (.bool false))))], [], 0, 220⟩ []
                    · try refine sA ?_
                      have he := Option.some.inj h
                      subst he
                      exact endsA ⟨[(4, (.lf false (.sc (.bool false))))], [], 0, 220⟩ []
                  · try refine sA ?_
                    have he := Option.some.inj h
                    subst he
                    exact endsA ⟨[(4, (.lf false (.sc (.bool false))))], [], 0, 220⟩ []
                · try refine sA ?_
                  have he := Option.some.inj h
                  subst he
                  exact endsA ⟨[(4, (.lf false (.sc (.bool false))))], [], 0, 220⟩ []
end Go.TL.YtjhcfmcdllfmpaaDoor

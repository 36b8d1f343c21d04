import Derived.Test.YteonagfnhdlfcaaGreatDoorTlTabr6zD
import Derived.Test.YteonagfnhdlfcaaGreatDoorG30EnR1
import Derived.Test.YteonagfnhdlfcaaGreatDoorTlAuto
import Derived.Test.YteonagfnhdlfcaaGreatDoorG32TlPk
import Derived.Test.YteonagfnhdlfcaaGreatDoorG33TlTrimr6zD
import Derived.Test.YteonagfnhdlfcaaGreatDoorG34TlBelow
import Derived.Test.YteonagfnhdlfcaaGreatDoorTlInsert
import Derived.Test.YteonagfnhdlfcaaGreatDoorG38TlSrLr6zD
import Derived.Test.YteonagfnhdlfcaaGreatDoorTlDelDr6zD
import Derived.Test.YteonagfnhdlfcaaGreatDoorTlSortD
import Derived.Test.YteonagfnhdlfcaaGreatDoorTlStrs
set_option linter.unusedSimpArgs false
set_option linter.unusedVariables false
set_option maxRecDepth 8000
set_option maxHeartbeats 0
namespace Go.TL.YteonagfnhdlfcaaGreatDoor
open Go Go.Proofs Go.TL
theorem zfu {a0 : l1CurT} {r : (Int × l1CurT)} (h : zbr a0 = some r) : Fn Tryz.prog 122 [(.pb 0 0)] [(0,some (false,.box [(.lf true (.sl (a0.code.map eU8))),(I a0.at_),(.lf false (.sc (.int .u64 a0.seed)))]))] 1 (I r.1) [(0,some (false,.box [(.lf true (.sl (r.2.code.map eU8))),(I r.2.at_),(.lf false (.sc (.int .u64 r.2.seed)))]))] 1 := by
 unfold zbr at h
 refine fn_code tab_ok mixed [(1000,[(0,0)]),(1001,[(0,0),(3,0)]),(1002,[(0,0),(3,0),(13,0)]),(1003,[(0,0),(3,0)]),(1004,[(0,0),(3,0)]),(1005,[(0,0),(3,0)]),(1006,[(0,0),(3,0),(53,0)]),(1007,[(2,0)]),(1008,[(2,0)]),(2013,[])] Tryz.func122 rfl rfl (by simp [Tryz.f122]) (by kernel_rfl) ?_
 simp only [Tryz.f122]
 refine sA ?_
 obtain ⟨p2,hq1,h⟩ := bind_ok h
 refine Sq_cut (fun s2 => s2 = ⟨[(0,(.pb 0 0)),(3,(I p2.t3))],[(0,some (false,.box [(.lf true (.sl (a0.code.map eU8))),(I a0.at_),(.lf false (.sc (.int .u64 a0.seed)))]))],1,62⟩) ?_ ?_
 ·try refine sA ?_
  refine Bs_if hq1 (fun hq1 hc2 => ?_) (fun hq1 hc2 => ?_)
  ·try refine sA ?_
   obtain ⟨hp3,hq1⟩ := guard_some hq1
   have hn3 : a0.at_.toNat < a0.code.length := by first | omega | (simp only [List.length_set,List.length_append,List.length_replicate,List.length_map]; omega)
   try refine sA ?_
   try refine andA ?_
   cases hq1
   exact X_cut rfl (weakA [some 0])
  ·try refine sA ?_
   cases hq1
   exact X_cut rfl (weakA [some 0])
 ·intro s2 hJ; subst hJ
  try dsimp only at h
  try refine sA ?_
  refine Bs_if h (fun h hc4 => ?_) (fun h hc4 => ?_)
  ·try refine sA ?_
   obtain rfl:=Option.some.inj h
   exact endsA ⟨[(2,(I p2.t3))],[(0,some (false,.box [(.lf true (.sl (a0.code.map eU8))),(I (wI (a0.at_ + 1))),(.lf false (.sc (.int .u64 (wU ((wU ((wU (a0.seed * 6364136223846793005)) + (wU p2.t3))) + 1442695040888963407)))))]))],1,62⟩ [some 0]
  ·try refine sA ?_
   obtain rfl:=Option.some.inj h
   exact endsA ⟨[(2,(I (wI (wU (bvAnd 64 (shR 64 (wU ((wU ((wU (a0.seed * 6364136223846793005)) + (wU p2.t3))) + 1442695040888963407)) 40) 255)))))],[(0,some (false,.box [(.lf true (.sl (a0.code.map eU8))),(I (wI (a0.at_ + 1))),(.lf false (.sc (.int .u64 (wU ((wU ((wU (a0.seed * 6364136223846793005)) + (wU p2.t3))) + 1442695040888963407)))))]))],1,62⟩ [some 0]
theorem zZ {a0 : l1CurT} {a1 : Int} {r : (Int × l1CurT)} (h : zw a0 a1 = some r) : Fn Tryz.prog 52 [(.pb 0 0),(I a1)] [(0,some (false,.box [(.lf true (.sl (a0.code.map eU8))),(I a0.at_),(.lf false (.sc (.int .u64 a0.seed)))]))] 1 (I r.1) [(0,some (false,.box [(.lf true (.sl (r.2.code.map eU8))),(I r.2.at_),(.lf false (.sc (.int .u64 r.2.seed)))]))] 1 := by
 unfold zw at h
 refine fn_code tab_ok mixed [(1000,[(0,0),(1,0)]),(1001,[(0,0),(1,0),(7,0)]),(1002,[(4,0)]),(1003,[(0,0),(1,0),(5,0)]),(1004,[(0,0),(1,0),(5,0),(11,0)]),(1005,[(1,0),(5,0)]),(1006,[(4,0)])] Tryz.func52 rfl rfl (by simp [Tryz.f52]) (by kernel_rfl) ?_
 simp only [Tryz.f52]
 refine sA ?_
 refine Bs_if h (fun h hc1 => ?_) (fun h hc1 => ?_)
 ·try refine sA ?_
  obtain rfl:=Option.some.inj h
  exact endsA ⟨[(4,(I 0))],[(0,some (false,.box [(.lf true (.sl (a0.code.map eU8))),(I a0.at_),(.lf false (.sc (.int .u64 a0.seed)))]))],1,20⟩ [some 0]
 ·try refine sA ?_
  obtain ⟨c3,hr2,h⟩ := bind_ok h
  refine Cl_hA [0] (zfu hr2) ?_
  try refine sA ?_
  refine Bs_if h (fun h hc3 => ?_) (fun h hc3 => ?_)
  ·try refine sA ?_
   obtain ⟨c4,hr4,h⟩ := bind_ok h
   refine Cl_hA [0] (zfu hr4) ?_
   try refine sA ?_
   obtain ⟨hp5,h⟩ := guard_some h
   try refine sA ?_
   try refine andA ?_
   obtain rfl:=Option.some.inj h
   exact endsA ⟨[(4,(I ((wI ((wI (c3.1 * 256)) + c4.1)).tmod a1)))],[(0,some (false,.box [(.lf true (.sl (c4.2.code.map eU8))),(I c4.2.at_),(.lf false (.sc (.int .u64 c4.2.seed)))]))],1,20⟩ [some 0]
  ·try refine sA ?_
   obtain ⟨hp6,h⟩ := guard_some h
   try refine sA ?_
   try refine andA ?_
   obtain rfl:=Option.some.inj h
   exact endsA ⟨[(4,(I (c3.1.tmod a1)))],[(0,some (false,.box [(.lf true (.sl (c3.2.code.map eU8))),(I c3.2.at_),(.lf false (.sc (.int .u64 c3.2.seed)))]))],1,20⟩ [some 0]
theorem zaW {a0 : Int} {a1 : Int} {a2 : Int} {r : Bool} (h : zar a0 a1 a2 = some r) : Fn Tryz.prog 96 [(I a0),(I a1),(I a2)] [] 0 (B r) [] 0 := by
 unfold zar at h
 refine fn_code tab_ok mixed [] Tryz.func96 rfl rfl (by simp [Tryz.f96]) (by kernel_rfl) ?_
 simp only [Tryz.f96]
 refine sA ?_
 refine Sp_if h (fun h hc1 => ?_) (fun h hc1 => ?_)
 ·try refine sA ?_
  obtain rfl:=Option.some.inj h
  exact endsA ⟨[(6,(B (decide (a0 ≤ a2))))],[],0,15⟩ []
 ·try refine sA ?_
  obtain rfl:=Option.some.inj h
  exact endsA ⟨[(6,(B false))],[],0,15⟩ []
theorem zfY {a0 : Int} {r : (RegionT × Bool)} (h : zcE a0 = some r) : Fn Tryz.prog 116 [(I a0)] [] 0 (.tu [(.ag [(I r.1.Id),(I r.1.Version),.nl]),(B r.2)]) [] 1 := by
 unfold zcE at h
 refine fn_code tab_ok mixed [(1000,[(0,0),(2,0)]),(1001,[(0,0),(2,0),(6,0)]),(1002,[(2,0),(3,0)]),(1003,[(2,0),(3,0)])] Tryz.func116 rfl rfl (by simp [Tryz.f116]) (by kernel_rfl) ?_
 simp only [Tryz.f116]
 refine sA ?_
 obtain ⟨c6,hr1,h⟩ := bind_ok h
 refine Cl_sA (zaW hr1) ?_
 try refine sA ?_
 refine Bs_if h (fun h hc2 => ?_) (fun h hc2 => ?_)
 ·try refine sA ?_
  obtain rfl:=Option.some.inj h
  exact endsA ⟨[(2,(.pb 0 0)),(3,(B false))],[(0,some (true,.box [(I 0),(I 0),.nl]))],1,10⟩ [some 0]
 ·try refine sA ?_
  obtain rfl:=Option.some.inj h
  exact endsA ⟨[(2,(.pb 0 0)),(3,(B true))],[(0,some (true,.box [(I a0),(I 0),.nl]))],1,10⟩ [some 0]
theorem zeH {a0 : l1CurT} {a1 : Int} {r : (Bool × l1CurT)} (h : zas a0 a1 = some r) : Fn Tryz.prog 51 [(.pb 0 0),(I a1)] [(0,some (false,.box [(.lf true (.sl (a0.code.map eU8))),(I a0.at_),(.lf false (.sc (.int .u64 a0.seed)))]))] 1 (B r.1) [(0,some (false,.box [(.lf true (.sl (r.2.code.map eU8))),(I r.2.at_),(.lf false (.sc (.int .u64 r.2.seed)))]))] 1 := by
 unfold zas at h
 refine fn_code tab_ok mixed [] Tryz.func51 rfl rfl (by simp [Tryz.f51]) (by kernel_rfl) ?_
 simp only [Tryz.f51]
 refine sA ?_
 obtain ⟨c11,hr1,h⟩ := bind_ok h
 refine Cl_hA [0] (zZ hr1) ?_
 try refine sA ?_
 obtain rfl:=Option.some.inj h
 exact endsA ⟨[(4,(B (c11.1 == 0)))],[(0,some (false,.box [(.lf true (.sl (c11.2.code.map eU8))),(I c11.2.at_),(.lf false (.sc (.int .u64 c11.2.seed)))]))],1,9⟩ [some 0]
theorem zeZ {a0 : Int} {r : Bool} (h : zbf a0 = some r) : Fn Tryz.prog 129 [(I a0)] [] 0 (B r) [] 0 := by
 unfold zbf at h
 refine fn_code tab_ok mixed [] Tryz.func129 rfl rfl (by simp [Tryz.f129]) (by kernel_rfl) ?_
 simp only [Tryz.f129]
 refine sA ?_
 obtain ⟨c16,hr1,h⟩ := bind_ok h
 refine Cl_sA (zaW hr1) ?_
 try refine sA ?_
 obtain rfl:=Option.some.inj h
 exact endsA ⟨[(2,(B c16))],[],0,5⟩ []
theorem zhD {r : StateT} (h : ze6 = some r) : Fn Tryz.prog 227 [] [] 0 (.ag [(I r.Status),(I r.Next),(B r.Cancel),(I r.Done),.nl,.nl]) [] 1 := by
 unfold ze6 at h
 refine fn_code tab_ok mixed [] Tryz.func227 rfl rfl (by simp [Tryz.f227]) (by kernel_rfl) ?_
 simp only [Tryz.f227]
 refine sA ?_
 obtain rfl:=Option.some.inj h
 exact endsA ⟨[(0,(.pb 0 0))],[(0,some (true,.box [(I 0),(I 1),(B false),(I 0),.nl,.nl]))],1,2⟩ [some 0]
theorem zfF {a0 : ByteArray} {r : Bool} (h : zdw a0 = some r) : Fn Tryz.prog 158 [(.lf false (.sc (.string a0)))] [] 0 (B r) [] 0 := by
 unfold zdw at h
 refine fn_code tab_ok mixed [(1000,[(0,0)]),(1001,[(0,0),(3,0)]),(1002,[(0,0),(3,0),(7,0)]),(1003,[(0,0),(3,0)]),(1004,[(0,0),(3,0),(32,0)]),(1005,[(2,0)]),(1006,[(2,0)]),(4004,[])] Tryz.func158 rfl rfl (by simp [Tryz.f158]) (by kernel_rfl) ?_
 simp only [Tryz.f158]
 refine sA ?_
 obtain ⟨y33,hl1,h⟩ := bind_ok h
 refine W_loopP (fun g30 : zeO => ⟨[(0,(.lf false (.sc (.string a0)))),(3,(I g30.t3))],[],0,36⟩) (zcx a0) _ _ hl1 (weakA []) ?_
 ·intro n1 g30 z1 hs1 hk1
  unfold zcx at hs1
  try dsimp only at hs1
  refine sA ?_
  refine Bs_if hs1 (fun hs1 hc2 => ?_) (fun hs1 hc2 => ?_)
  ·try refine sA ?_
   obtain ⟨p32,hq3,hs1⟩ := bind_ok hs1
   refine Sq_cut (fun s2 => s2 = ⟨[(0,(.lf false (.sc (.string a0)))),(3,(I g30.t3)),(32,(B p32.t32))],[],0,36⟩) ?_ ?_
   ·try refine sA ?_
    obtain ⟨hp4,hq3⟩ := guard_some hq3
    try refine sA ?_
    try refine andA ?_
    refine Sp_if hq3 (fun hq3 hc5 => ?_) (fun hq3 hc5 => ?_)
    ·try refine sA ?_
     obtain ⟨hp6,hq3⟩ := guard_some hq3
     try refine sA ?_
     try refine andA ?_
     refine Sp_if hq3 (fun hq3 hc7 => ?_) (fun hq3 hc7 => ?_)
     ·try refine sA ?_
      cases hq3
      exact X_cut rfl (weakA [])
     ·try refine sA ?_
      obtain ⟨hp8,hq3⟩ := guard_some hq3
      try refine sA ?_
      try refine andA ?_
      refine Sp_if hq3 (fun hq3 hc9 => ?_) (fun hq3 hc9 => ?_)
      ·try refine sA ?_
       obtain ⟨hp10,hq3⟩ := guard_some hq3
       try refine sA ?_
       try refine andA ?_
       cases hq3
       exact X_cut rfl (weakA [])
      ·try refine sA ?_
       cases hq3
       exact X_cut rfl (weakA [])
    ·try refine sA ?_
     obtain ⟨hp11,hq3⟩ := guard_some hq3
     try refine sA ?_
     try refine andA ?_
     refine Sp_if hq3 (fun hq3 hc12 => ?_) (fun hq3 hc12 => ?_)
     ·try refine sA ?_
      obtain ⟨hp13,hq3⟩ := guard_some hq3
      try refine sA ?_
      try refine andA ?_
      cases hq3
      exact X_cut rfl (weakA [])
     ·try refine sA ?_
      cases hq3
      exact X_cut rfl (weakA [])
   ·intro s2 hJ; subst hJ
    try dsimp only at hs1
    try refine sA ?_
    refine Bs_if hs1 (fun hs1 hc14 => ?_) (fun hs1 hc14 => ?_)
    ·try refine sA ?_
     cases hs1
     cases hk1
     try dsimp only at h
     try refine sA ?_
     obtain rfl:=Option.some.inj h
     exact endsA ⟨[(2,(B false))],[],0,36⟩ []
    ·try refine sA ?_
     cases hs1
     exact X_backP hk1 (weakA [])
  ·try refine sA ?_
   cases hs1
   cases hk1
   try dsimp only at h
   try refine sA ?_
   obtain rfl:=Option.some.inj h
   exact endsA ⟨[(2,(B (decide ((a0.size : Int) ≤ 12))))],[],0,36⟩ []
theorem zht {a0 : EventT} {r : Bool} (h : zdJ a0 = some r) : Fn Tryz.prog 85 [(.ag [(I a0.Id),(I a0.Version),(I a0.Kind),(.lf false (.sc (.string a0.Name)))])] [] 0 (B r) [] 0 := by
 unfold zdJ at h
 refine fn_code tab_ok mixed [] Tryz.func85 rfl rfl (by simp [Tryz.f85]) (by kernel_rfl) ?_
 simp only [Tryz.f85]
 refine sA ?_
 obtain ⟨c27,hr1,h⟩ := bind_ok h
 refine Cl_sA (zaW hr1) ?_
 try refine sA ?_
 refine Sp_if h (fun h hc2 => ?_) (fun h hc2 => ?_)
 ·try refine sA ?_
  obtain ⟨c28,hr3,h⟩ := bind_ok h
  refine Cl_sA (zaW hr3) ?_
  try refine sA ?_
  refine Sp_if h (fun h hc4 => ?_) (fun h hc4 => ?_)
  ·try refine sA ?_
   obtain ⟨c29,hr5,h⟩ := bind_ok h
   refine Cl_sA (zaW hr5) ?_
   try refine sA ?_
   refine Sp_if h (fun h hc6 => ?_) (fun h hc6 => ?_)
   ·try refine sA ?_
    obtain ⟨c36,hr7,h⟩ := bind_ok h
    refine Cl_sA (zfF hr7) ?_
    try refine sA ?_
    obtain rfl:=Option.some.inj h
    exact endsA ⟨[(2,(B c36))],[],0,21⟩ []
   ·try refine sA ?_
    obtain rfl:=Option.some.inj h
    exact endsA ⟨[(2,(B false))],[],0,21⟩ []
  ·try refine sA ?_
   obtain rfl:=Option.some.inj h
   exact endsA ⟨[(2,(B false))],[],0,21⟩ []
 ·try refine sA ?_
  obtain rfl:=Option.some.inj h
  exact endsA ⟨[(2,(B false))],[],0,21⟩ []
theorem zh0 {a0 : StateT} {r : StateT} (h : ze1 a0 = some r) : Fn Tryz.prog 228 [(.ag [(I a0.Status),(I a0.Next),(B a0.Cancel),(I a0.Done),(.lf true (.sl (a0.Signals.map eS))),(.lf true (.sl (a0.Timers.map eS)))])] [] 0 (.ag [(I r.Status),(I r.Next),(B r.Cancel),(I r.Done),(.os 0 1 0 r.Signals.length r.Signals.length false),(.os 1 1 0 r.Timers.length r.Timers.length false)]) [(0,some (true,.arr false 1 (r.Signals.map eS))),(1,some (true,.arr false 1 (r.Timers.map eS)))] 3 := by
 unfold ze1 at h
 refine fn_code tab_ok mixed [(1000,[(1,0),(2,0)]),(1001,[(1,0),(2,0)]),(1002,[(1,0),(2,0)]),(1003,[(2,0)])] Tryz.func228 rfl rfl (by simp [Tryz.f228]) (by kernel_rfl) ?_
 simp only [Tryz.f228]
 refine sA ?_
 obtain ⟨hp1,h⟩ := guard_some h
 try refine sA ?_
 try refine andA ?_
 obtain ⟨hp2,h⟩ := guard_some h
 try refine sA ?_
 try refine andA ?_
 obtain rfl:=Option.some.inj h
 exact endsA ⟨[(2,(.pb 2 0))],[(0,some (true,.arr false 1 ((([]) ++ a0.Signals).map eS))),(1,some (true,.arr false 1 ((([]) ++ a0.Timers).map eS))),(2,some (true,.box [(I a0.Status),(I a0.Next),(B a0.Cancel),(I a0.Done),(.os 0 1 0 ((([]) ++ a0.Signals).length) ((([]) ++ a0.Signals).length) false),(.os 1 1 0 ((([]) ++ a0.Timers).length) ((([]) ++ a0.Timers).length) false)]))],3,14⟩ [some 3,some 5,some 1]
theorem zeJ {a0 : (List ByteArray)} {a1 : ByteArray} {r : Int} (h : zbg a0 a1 = some r) : Fn Tryz.prog 186 [(.lf true (.sl (a0.map eS))),(.lf false (.sc (.string a1)))] [] 0 (I r) [] 0 := by
 unfold zbg at h
 refine fn_code tab_ok mixed [(1000,[(0,0),(1,0)]),(1001,[(1,0),(7,0),(8,0),(9,0)]),(1002,[(1,0),(7,0),(8,0),(9,0),(10,0)]),(1003,[(1,0),(5,0),(6,0),(7,0),(8,0),(9,0)]),(1004,[(1,0),(5,0),(7,0),(8,0),(9,0),(16,0)]),(1005,[(4,0)]),(1006,[(1,0),(7,0),(8,0),(9,0)]),(1007,[(4,0)])] Tryz.func186 rfl rfl (by simp [Tryz.f186]) (by kernel_rfl) ?_
 simp only [Tryz.f186]
 refine sA ?_
 obtain ⟨y41,hl1,h⟩ := bind_ok h
 refine W_loopP (fun g40 : ze7 => ⟨[(1,(.lf false (.sc (.string a1)))),(7,(.lf true (.sl (a0.map eS)))),(8,(I ((a0.length : Nat) : Int))),(9,(I g40.t9))],[],0,19⟩) (zc5 a0 a1) _ _ hl1 (weakA []) ?_
 ·intro n1 g40 z1 hs1 hk1
  unfold zc5 at hs1
  try dsimp only at hs1
  refine sA ?_
  refine Bs_if hs1 (fun hs1 hc2 => ?_) (fun hs1 hc2 => ?_)
  ·try refine sA ?_
   obtain ⟨hp3,hs1⟩ := guard_some hs1
   have hn3 : g40.t9.toNat < a0.length := by first | omega | (simp only [List.length_set,List.length_append,List.length_replicate,List.length_map]; omega)
   try refine sA ?_
   try refine andA ?_
   refine Bs_if hs1 (fun hs1 hc4 => ?_) (fun hs1 hc4 => ?_)
   ·try refine sA ?_
    cases hs1
    cases hk1
    try dsimp only at h
    try refine sA ?_
    obtain rfl:=Option.some.inj h
    exact endsA ⟨[(4,(I g40.t9))],[],0,19⟩ []
   ·try refine sA ?_
    cases hs1
    exact X_backP hk1 (weakA [])
  ·try refine sA ?_
   cases hs1
   cases hk1
   try dsimp only at h
   try refine sA ?_
   obtain rfl:=Option.some.inj h
   exact endsA ⟨[(4,(I (-1)))],[],0,19⟩ []
theorem zge {a0 : (List ByteArray)} {a1 : ByteArray} {r : (List ByteArray)} (h : zbv a0 a1 = some r) : Fn Tryz.prog 187 [(.lf true (.sl (a0.map eS))),(.lf false (.sc (.string a1)))] [] 0 (.os 0 1 0 r.length r.length false) [(0,some (true,.arr false 1 (r.map eS)))] 1 := by
 unfold zbv at h
 refine fn_code tab_ok mixed [(1000,[(0,0),(1,0)]),(1001,[(0,0),(1,0),(5,0)]),(1002,[(0,0),(1,0),(5,0),(6,0)]),(1003,[(1,0),(5,0),(6,0),(13,0),(14,0),(15,0)]),(1004,[(1,0),(5,0),(6,0),(13,0),(14,0),(15,0),(16,0)]),(1005,[(1,0),(5,0),(6,0),(8,0),(13,0),(14,0),(15,0)]),(1006,[(1,0),(5,0),(6,0),(8,0),(13,0),(14,0),(15,0),(21,0)]),(1007,[(1,0),(5,0),(6,0),(8,0),(13,0),(14,0),(15,0),(28,0)]),(1008,[(1,0),(5,0),(8,0),(13,0),(14,0),(15,0)]),(1009,[(1,0),(5,0),(6,0),(8,0),(13,0),(14,0),(15,0)]),(1010,[(1,0),(5,0),(6,0),(13,0),(14,0),(15,0)]),(1011,[(1,0),(5,0),(6,0),(13,0),(14,0),(15,0)]),(1012,[(1,0),(5,0),(39,0)]),(1013,[(5,0)]),(1014,[(4,0)]),(4007,[])] Tryz.func187 rfl rfl (by simp [Tryz.f187]) (by kernel_rfl) ?_
 simp only [Tryz.f187]
 refine sA ?_
 obtain ⟨c46,hr1,h⟩ := bind_ok h
 refine Cl_sA (zeJ hr1) ?_
 try refine sA ?_
 obtain ⟨y50,hl2,h⟩ := bind_ok h
 refine W_loopP (fun g47 : zfc => ⟨[(1,(.lf false (.sc (.string a1)))),(5,(.os 0 1 0 g47.c0.length g47.c0.length false)),(6,(B g47.t6)),(13,(.lf true (.sl (a0.map eS)))),(14,(I ((a0.length : Nat) : Int))),(15,(I g47.t15))],[(0,some (true,.arr false 1 (g47.c0.map eS)))],1,45⟩) (zS a0 a1) _ _ hl2 (weakA [none]) ?_
 ·intro n1 g47 z1 hs1 hk1
  unfold zS at hs1
  try dsimp only at hs1
  refine sA ?_
  refine Bs_if hs1 (fun hs1 hc3 => ?_) (fun hs1 hc3 => ?_)
  ·try refine sA ?_
   obtain ⟨hp4,hs1⟩ := guard_some hs1
   have hn4 : g47.t15.toNat < a0.length := by first | omega | (simp only [List.length_set,List.length_append,List.length_replicate,List.length_map]; omega)
   try refine sA ?_
   try refine andA ?_
   refine Bs_if hs1 (fun hs1 hc5 => ?_) (fun hs1 hc5 => ?_)
   ·try refine sA ?_
    cases hs1
    exact X_backP hk1 (weakA [some 0])
   ·try refine sA ?_
    obtain ⟨p49,hq6,hs1⟩ := bind_ok hs1
    refine Sq_cut (fun s2 => s2 = ⟨[(1,(.lf false (.sc (.string a1)))),(5,(.os 0 1 0 g47.c0.length g47.c0.length false)),(6,(B g47.t6)),(8,(.lf false (.sc (.string (nth a0 g47.t15.toNat))))),(13,(.lf true (.sl (a0.map eS)))),(14,(I ((a0.length : Nat) : Int))),(15,(I g47.t15)),(28,(B p49.t28))],[(0,some (true,.arr false 1 (g47.c0.map eS)))],1,45⟩) ?_ ?_
    ·try refine sA ?_
     refine Sp_if hq6 (fun hq6 hc7 => ?_) (fun hq6 hc7 => ?_)
     ·try refine sA ?_
      cases hq6
      exact X_cut rfl (weakA [some 0])
     ·try refine sA ?_
      cases hq6
      exact X_cut rfl (weakA [some 0])
    ·intro s2 hJ; subst hJ
     try dsimp only at hs1
     try refine sA ?_
     refine Bs_if hs1 (fun hs1 hc8 => ?_) (fun hs1 hc8 => ?_)
     ·try refine sA ?_
      obtain ⟨hp9,hs1⟩ := guard_some hs1
      try refine sA ?_
      try refine andA ?_
      obtain ⟨hp10,hs1⟩ := guard_some hs1
      try refine sA ?_
      try refine andA ?_
      cases hs1
      exact X_backP hk1 (weakA [some 4])
     ·try refine sA ?_
      obtain ⟨hp11,hs1⟩ := guard_some hs1
      try refine sA ?_
      try refine andA ?_
      cases hs1
      exact X_backP hk1 (weakA [some 2])
  ·try refine sA ?_
   cases hs1
   cases hk1
   try dsimp only at h
   try refine sA ?_
   refine Bs_if h (fun h hc12 => ?_) (fun h hc12 => ?_)
   ·try refine sA ?_
    obtain ⟨hp13,h⟩ := guard_some h
    try refine sA ?_
    try refine andA ?_
    obtain rfl:=Option.some.inj h
    exact endsA ⟨[(4,(.os 0 1 0 ((g47.c0 ++ ([a1])).length) ((g47.c0 ++ ([a1])).length) false))],[(0,some (true,.arr false 1 ((g47.c0 ++ ([a1])).map eS)))],1,45⟩ [some 2]
   ·try refine sA ?_
    obtain rfl:=Option.some.inj h
    exact endsA ⟨[(4,(.os 0 1 0 g47.c0.length g47.c0.length false))],[(0,some (true,.arr false 1 (g47.c0.map eS)))],1,45⟩ [some 0]
theorem zgf {a0 : (List ByteArray)} {a1 : Bool} {r : Bool} (h : zc6 a0 a1 = some r) : Fn Tryz.prog 260 [(.lf true (.sl (a0.map eS))),(B a1)] [] 0 (B r) [] 0 := by
 unfold zc6 at h
 refine fn_code tab_ok mixed [(1000,[(0,0),(1,0)]),(1001,[(0,0),(1,0),(9,0),(10,0),(11,0)]),(1002,[(0,0),(1,0),(9,0),(10,0),(11,0),(12,0)]),(1003,[(0,0),(1,0),(5,0),(6,0),(9,0),(10,0),(11,0)]),(1004,[(0,0),(1,0),(5,0),(6,0),(9,0),(10,0),(11,0),(18,0)]),(1005,[(4,0)]),(1006,[(0,0),(1,0),(5,0),(6,0),(9,0),(10,0),(11,0),(21,0),(22,0),(23,0)]),(1007,[(0,0),(1,0),(5,0),(6,0),(9,0),(10,0),(11,0),(21,0),(22,0),(23,0),(24,0)]),(1008,[(0,0),(1,0),(5,0),(6,0),(7,0),(8,0),(9,0),(10,0),(11,0),(21,0),(22,0),(23,0)]),(1009,[(0,0),(1,0),(5,0),(6,0),(9,0),(10,0),(11,0),(21,0),(22,0),(23,0),(44,0)]),(1010,[(4,0)]),(1011,[(0,0),(1,0),(5,0),(6,0),(9,0),(10,0),(11,0),(21,0),(22,0),(23,0)]),(1012,[(0,0),(1,0),(9,0),(10,0),(11,0)]),(1013,[(4,0)]),(4009,[])] Tryz.func260 rfl rfl (by simp [Tryz.f260]) (by kernel_rfl) ?_
 simp only [Tryz.f260]
 refine sA ?_
 obtain ⟨y70,hl1,h⟩ := bind_ok h
 refine W_loopP (fun g55 : zbD => ⟨[(0,(.lf true (.sl (a0.map eS)))),(1,(B a1)),(9,(.lf true (.sl (a0.map eS)))),(10,(I ((a0.length : Nat) : Int))),(11,(I g55.t11))],[],0,50⟩) (zbF a0 a1) _ _ hl1 (weakA []) ?_
 ·intro n1 g55 z1 hs1 hk1
  unfold zbF at hs1
  try dsimp only at hs1
  refine sA ?_
  refine Bs_if hs1 (fun hs1 hc2 => ?_) (fun hs1 hc2 => ?_)
  ·try refine sA ?_
   obtain ⟨hp3,hs1⟩ := guard_some hs1
   have hn3 : g55.t11.toNat < a0.length := by first | omega | (simp only [List.length_set,List.length_append,List.length_replicate,List.length_map]; omega)
   try refine sA ?_
   try refine andA ?_
   obtain ⟨c63,hr4,hs1⟩ := bind_ok hs1
   refine Cl_sA (zfF hr4) ?_
   try refine sA ?_
   refine Bs_if hs1 (fun hs1 hc5 => ?_) (fun hs1 hc5 => ?_)
   ·try refine sA ?_
    cases hs1
    cases hk1
    try dsimp only at h
    try refine sA ?_
    obtain rfl:=Option.some.inj h
    exact endsA ⟨[(4,(B false))],[],0,50⟩ []
   ·try refine sA ?_
    obtain ⟨hp6,hs1⟩ := guard_some hs1
    try refine sA ?_
    try refine andA ?_
    obtain ⟨y67,hl7,hs1⟩ := bind_ok hs1
    refine W_loopP (fun g64 : zd2 => ⟨[(0,(.lf true (.sl (a0.map eS)))),(1,(B a1)),(5,(I g55.t11)),(6,(.lf false (.sc (.string (nth a0 g55.t11.toNat))))),(9,(.lf true (.sl (a0.map eS)))),(10,(I ((a0.length : Nat) : Int))),(11,(I g55.t11)),(21,(.lf true (.sl ((a0.take g55.t11.toNat).map eS)))),(22,(I (((a0.take g55.t11.toNat).length : Nat) : Int))),(23,(I g64.t23))],[],0,50⟩) (zbE a0 g55 a1) _ _ hl7 (weakA []) ?_
    ·intro n2 g64 z2 hs2 hk2
     unfold zbE at hs2
     try dsimp only at hs2
     refine sA ?_
     refine Bs_if hs2 (fun hs2 hc8 => ?_) (fun hs2 hc8 => ?_)
     ·try refine sA ?_
      obtain ⟨hp9,hs2⟩ := guard_some hs2
      have hn9 : g64.t23.toNat < (a0.take g55.t11.toNat).length := by first | omega | (simp only [List.length_set,List.length_append,List.length_replicate,List.length_map]; omega)
      try refine sA ?_
      try refine andA ?_
      obtain ⟨p66,hq10,hs2⟩ := bind_ok hs2
      refine Sq_cut (fun s2 => s2 = ⟨[(0,(.lf true (.sl (a0.map eS)))),(1,(B a1)),(5,(I g55.t11)),(6,(.lf false (.sc (.string (nth a0 g55.t11.toNat))))),(9,(.lf true (.sl (a0.map eS)))),(10,(I ((a0.length : Nat) : Int))),(11,(I g55.t11)),(21,(.lf true (.sl ((a0.take g55.t11.toNat).map eS)))),(22,(I (((a0.take g55.t11.toNat).length : Nat) : Int))),(23,(I g64.t23)),(44,(B p66.t44))],[],0,50⟩) ?_ ?_
      ·try refine sA ?_
       refine Sp_if hq10 (fun hq10 hc11 => ?_) (fun hq10 hc11 => ?_)
       ·try refine sA ?_
        cases hq10
        exact X_cut rfl (weakA [])
       ·try refine sA ?_
        refine Sp_if hq10 (fun hq10 hc12 => ?_) (fun hq10 hc12 => ?_)
        ·try refine sA ?_
         refine Sp_if hq10 (fun hq10 hc13 => ?_) (fun hq10 hc13 => ?_)
         ·try refine sA ?_
          cases hq10
          exact X_cut rfl (weakA [])
         ·try refine sA ?_
          cases hq10
          exact X_cut rfl (weakA [])
        ·try refine sA ?_
         cases hq10
         exact X_cut rfl (weakA [])
      ·intro s2 hJ; subst hJ
       try dsimp only at hs2
       try refine sA ?_
       refine Bs_if hs2 (fun hs2 hc14 => ?_) (fun hs2 hc14 => ?_)
       ·try refine sA ?_
        cases hs2
        cases hk2
        try dsimp only at hs1
        try refine sA ?_
        cases hs1
        cases hk1
        try dsimp only at h
        try refine sA ?_
        obtain rfl:=Option.some.inj h
        exact endsA ⟨[(4,(B false))],[],0,50⟩ []
       ·try refine sA ?_
        cases hs2
        exact X_backP hk2 (weakA [])
     ·try refine sA ?_
      cases hs2
      cases hk2
      try dsimp only at hs1
      try refine sA ?_
      cases hs1
      exact X_backP hk1 (weakA [])
  ·try refine sA ?_
   cases hs1
   cases hk1
   try dsimp only at h
   try refine sA ?_
   obtain rfl:=Option.some.inj h
   exact endsA ⟨[(4,(B (decide (((a0.length : Nat) : Int) ≤ 30))))],[],0,50⟩ []
theorem zhu {a0 : StateT} {r : Bool} (h : zcz a0 = some r) : Fn Tryz.prog 229 [(.ag [(I a0.Status),(I a0.Next),(B a0.Cancel),(I a0.Done),(.lf true (.sl (a0.Signals.map eS))),(.lf true (.sl (a0.Timers.map eS)))])] [] 0 (B r) [] 0 := by
 unfold zcz at h
 refine fn_code tab_ok mixed [(1000,[(1,0)]),(1001,[(1,0),(30,0)]),(1002,[(2,0)]),(1003,[(1,0),(33,0)]),(1004,[(2,0)]),(1005,[(2,0)]),(4001,[])] Tryz.func229 rfl rfl (by simp [Tryz.f229]) (by kernel_rfl) ?_
 simp only [Tryz.f229]
 refine sA ?_
 obtain ⟨p76,hq1,h⟩ := bind_ok h
 refine Sq_cut (fun s2 => s2 = ⟨[(1,(.pb 0 0)),(30,(B p76.t30))],[(0,some (true,.box [(I a0.Status),(I a0.Next),(B a0.Cancel),(I a0.Done),(.lf true (.sl (a0.Signals.map eS))),(.lf true (.sl (a0.Timers.map eS)))]))],1,62⟩) ?_ ?_
 ·try refine sA ?_
  obtain ⟨c53,hr2,hq1⟩ := bind_ok hq1
  refine Cl_sA (zaW hr2) ?_
  try refine sA ?_
  refine Sp_if hq1 (fun hq1 hc3 => ?_) (fun hq1 hc3 => ?_)
  ·try refine sA ?_
   cases hq1
   exact X_cut rfl (weakA [some 0])
  ·try refine sA ?_
   obtain ⟨c54,hr4,hq1⟩ := bind_ok hq1
   refine Cl_sA (zaW hr4) ?_
   try refine sA ?_
   refine Sp_if hq1 (fun hq1 hc5 => ?_) (fun hq1 hc5 => ?_)
   ·try refine sA ?_
    cases hq1
    exact X_cut rfl (weakA [some 0])
   ·try refine sA ?_
    obtain ⟨c73,hr6,hq1⟩ := bind_ok hq1
    refine Cl_sA (zgf hr6) ?_
    try refine sA ?_
    refine Sp_if hq1 (fun hq1 hc7 => ?_) (fun hq1 hc7 => ?_)
    ·try refine sA ?_
     cases hq1
     exact X_cut rfl (weakA [some 0])
    ·try refine sA ?_
     obtain ⟨c74,hr8,hq1⟩ := bind_ok hq1
     refine Cl_sA (zgf hr8) ?_
     try refine sA ?_
     refine Sp_if hq1 (fun hq1 hc9 => ?_) (fun hq1 hc9 => ?_)
     ·try refine sA ?_
      cases hq1
      exact X_cut rfl (weakA [some 0])
     ·try refine sA ?_
      obtain ⟨c75,hr10,hq1⟩ := bind_ok hq1
      refine Cl_sA (zaW hr10) ?_
      try refine sA ?_
      cases hq1
      exact X_cut rfl (weakA [some 0])
 ·intro s2 hJ; subst hJ
  try dsimp only at h
  try refine sA ?_
  refine Bs_if h (fun h hc11 => ?_) (fun h hc11 => ?_)
  ·try refine sA ?_
   obtain rfl:=Option.some.inj h
   exact endsA ⟨[(2,(B false))],[],0,62⟩ []
  ·try refine sA ?_
   refine Bs_if h (fun h hc12 => ?_) (fun h hc12 => ?_)
   ·try refine sA ?_
    refine Sp_if h (fun h hc13 => ?_) (fun h hc13 => ?_)
    ·try refine sA ?_
     refine Sp_if h (fun h hc14 => ?_) (fun h hc14 => ?_)
     ·try refine sA ?_
      refine Sp_if h (fun h hc15 => ?_) (fun h hc15 => ?_)
      ·try refine sA ?_
       refine Sp_if h (fun h hc16 => ?_) (fun h hc16 => ?_)
       ·try refine sA ?_
        obtain rfl:=Option.some.inj h
        exact endsA ⟨[(2,(B (((a0.Timers.length : Nat) : Int) == 0)))],[],0,62⟩ []
       ·try refine sA ?_
        obtain rfl:=Option.some.inj h
        exact endsA ⟨[(2,(B false))],[],0,62⟩ []
      ·try refine sA ?_
       obtain rfl:=Option.some.inj h
       exact endsA ⟨[(2,(B false))],[],0,62⟩ []
     ·try refine sA ?_
      obtain rfl:=Option.some.inj h
      exact endsA ⟨[(2,(B false))],[],0,62⟩ []
    ·try refine sA ?_
     obtain rfl:=Option.some.inj h
     exact endsA ⟨[(2,(B false))],[],0,62⟩ []
   ·try refine sA ?_
    obtain rfl:=Option.some.inj h
    exact endsA ⟨[(2,(B (decide (a0.Next > 1))))],[],0,62⟩ []
theorem zgg {a0 : StateT} {a1 : EventT} {r : (StateT × Bool)} (h : zbw a0 a1 = some r) : Fn Tryz.prog 189 [(.ag [(I a0.Status),(I a0.Next),(B a0.Cancel),(I a0.Done),(.lf true (.sl (a0.Signals.map eS))),(.lf true (.sl (a0.Timers.map eS)))]),(.ag [(I a1.Id),(I a1.Version),(I a1.Kind),(.lf false (.sc (.string a1.Name)))])] [] 0 (.tu [(.ag [(I r.1.Status),(I r.1.Next),(B r.1.Cancel),(I r.1.Done),(.lf true (.sl (r.1.Signals.map eS))),(.lf true (.sl (r.1.Timers.map eS)))]),(B r.2)]) [] 1 := by
 unfold zbw at h
 refine fn_code tab_ok mixed [(22,[(0,2)]),(1000,[(2,0),(3,0),(4,0)]),(1001,[(2,0),(3,0),(4,0),(29,0)]),(1002,[(4,0),(5,0)]),(1003,[(2,0),(3,0),(4,0)]),(1004,[(2,0),(3,0),(4,0),(34,0)]),(1005,[(2,0),(4,0)]),(1006,[(2,0),(4,0)]),(1007,[(2,0),(3,0),(4,0),(34,0),(37,0)]),(1008,[(2,0),(4,0)]),(1009,[(2,0),(3,0),(4,0),(34,0),(40,0)]),(1010,[(2,0),(3,0),(4,0),(53,0)]),(1011,[(4,0),(5,0)]),(1012,[(2,0),(4,0)]),(1013,[(2,0),(3,0),(4,0),(34,0),(62,0)]),(1014,[(2,0),(4,0)]),(1015,[(2,0),(3,0),(4,0),(34,0),(68,0)]),(1016,[(2,0),(4,0)]),(1017,[(2,0),(4,0),(76,0)]),(1018,[(2,0),(4,0),(79,0)]),(1019,[(4,0),(5,0)]),(1020,[(2,0),(4,0)]),(1021,[(2,0),(4,0)]),(1022,[(4,0),(5,0)]),(3000,[]),(4001,[]),(4010,[])] Tryz.func189 rfl rfl (by simp [Tryz.f189]) (by kernel_rfl) ?_
 simp only [Tryz.f189]
 refine sA ?_
 obtain ⟨p38,hq1,h⟩ := bind_ok h
 refine Sq_cut (fun s2 => s2 = ⟨[(2,(.pb 0 0)),(3,(.pb 1 0)),(4,(.pb 2 0)),(29,(B p38.t29))],[(0,some (true,.box [(I a0.Status),(I a0.Next),(B a0.Cancel),(I a0.Done),(.lf true (.sl (a0.Signals.map eS))),(.lf true (.sl (a0.Timers.map eS)))])),(1,some (true,.box [(I a1.Id),(I a1.Version),(I a1.Kind),(.lf false (.sc (.string a1.Name)))])),(2,some (true,.box [(I 0),(I 0),(B false),(I 0),.nl,.nl]))],3,89⟩) ?_ ?_
 ·try refine sA ?_
  obtain ⟨c37,hr2,hq1⟩ := bind_ok hq1
  refine Cl_sA (zht hr2) ?_
  try refine sA ?_
  refine Sp_if hq1 (fun hq1 hc3 => ?_) (fun hq1 hc3 => ?_)
  ·try refine sA ?_
   cases hq1
   exact X_cut rfl (weakA [some 0,some 1,some 2])
  ·try refine sA ?_
   refine Sp_if hq1 (fun hq1 hc4 => ?_) (fun hq1 hc4 => ?_)
   ·try refine sA ?_
    cases hq1
    exact X_cut rfl (weakA [some 0,some 1,some 2])
   ·try refine sA ?_
    refine Sp_if hq1 (fun hq1 hc5 => ?_) (fun hq1 hc5 => ?_)
    ·try refine sA ?_
     cases hq1
     exact X_cut rfl (weakA [some 0,some 1,some 2])
    ·try refine sA ?_
     cases hq1
     exact X_cut rfl (weakA [some 0,some 1,some 2])
 ·intro s2 hJ; subst hJ
  try dsimp only at h
  try refine sA ?_
  refine Bs_if h (fun h hc6 => ?_) (fun h hc6 => ?_)
  ·try refine sA ?_
   obtain rfl:=Option.some.inj h
   exact endsA ⟨[(4,(.pb 0 0)),(5,(B false))],[(0,some (true,.box [(I a0.Status),(I a0.Next),(B a0.Cancel),(I a0.Done),(.lf true (.sl (a0.Signals.map eS))),(.lf true (.sl (a0.Timers.map eS)))]))],1,89⟩ [some 2]
  ·try refine sA ?_
   obtain ⟨c39,hr7,h⟩ := bind_ok h
   refine Cl_sA (zh0 hr7) ?_
   try refine sA ?_
   obtain ⟨q8,hq8,h⟩ := bind_ok h
   refine Sq_cut (fun s2 => ∃ p52 : zY,q8 = .inl p52 ∧ s2 = ⟨[(2,(.pb 0 0)),(4,(.pb 1 0))],[(0,some (true,.box [(I p52.b0_0),(I c39.Next),(B p52.b0_2),(I p52.b0_3),(.os 2 1 0 p52.c2.length p52.c2.length false),(.os 3 1 0 p52.c3.length p52.c3.length false)])),(1,some (true,.box [(I 0),(I 0),(B false),(I 0),.nl,.nl])),(2,some (true,.arr false 1 (p52.c2.map eS))),(3,some (true,.arr false 1 (p52.c3.map eS)))],4,89⟩) ?_ ?_
   ·try refine sA ?_
    refine Bs_if hq8 (fun hq8 hc9 => ?_) (fun hq8 hc9 => ?_)
    ·try refine sA ?_
     cases hq8
     exact X_cut ⟨_,rfl,rfl⟩ (weakA [some 0,some 2,some 3,some 4])
    ·try refine sA ?_
     refine Bs_if hq8 (fun hq8 hc10 => ?_) (fun hq8 hc10 => ?_)
     ·try refine sA ?_
      obtain ⟨p45,hq11,hq8⟩ := bind_ok hq8
      refine Sq_cut (fun s2 => s2 = ⟨[(2,(.pb 0 0)),(3,(.pb 1 0)),(4,(.pb 2 0)),(53,(B p45.t53))],[(0,some (true,.box [(I c39.Status),(I c39.Next),(B c39.Cancel),(I c39.Done),(.os 3 1 0 c39.Signals.length c39.Signals.length false),(.os 4 1 0 c39.Timers.length c39.Timers.length false)])),(1,some (true,.box [(I a1.Id),(I a1.Version),(I a1.Kind),(.lf false (.sc (.string a1.Name)))])),(2,some (true,.box [(I 0),(I 0),(B false),(I 0),.nl,.nl])),(3,some (true,.arr false 1 (c39.Signals.map eS))),(4,some (true,.arr false 1 (c39.Timers.map eS)))],5,89⟩) ?_ ?_
      ·try refine sA ?_
       obtain ⟨c44,hr12,hq11⟩ := bind_ok hq11
       refine Cl_sA (zeJ hr12) ?_
       try refine sA ?_
       refine Sp_if hq11 (fun hq11 hc13 => ?_) (fun hq11 hc13 => ?_)
       ·try refine sA ?_
        cases hq11
        exact X_cut rfl (weakA [some 0,some 1,some 2,some 3,some 4])
       ·try refine sA ?_
        cases hq11
        exact X_cut rfl (weakA [some 0,some 1,some 2,some 3,some 4])
      ·intro s2 hJ; subst hJ
       try dsimp only at hq8
       try refine sA ?_
       refine Bs_if hq8 (fun hq8 hc14 => ?_) (fun hq8 hc14 => ?_)
       ·try refine sA ?_
        cases hq8
        try dsimp only at h
        obtain rfl:=Option.some.inj h
        refine ends_frz 3 ?_
        refine ends_frz 4 ?_
        try refine sA ?_
        exact endsA ⟨[(4,(.pb 0 0)),(5,(B false))],[(0,some (true,.box [(I c39.Status),(I c39.Next),(B c39.Cancel),(I c39.Done),(.lf true (.sl (c39.Signals.map eS))),(.lf true (.sl (c39.Timers.map eS)))]))],1,89⟩ [some 2]
       ·try refine sA ?_
        obtain ⟨hp15,hq8⟩ := guard_some hq8
        try refine sA ?_
        try refine andA ?_
        cases hq8
        exact X_cut ⟨_,rfl,rfl⟩ (weakA [some 0,some 2,some 6,some 4])
     ·try refine sA ?_
      refine Bs_if hq8 (fun hq8 hc16 => ?_) (fun hq8 hc16 => ?_)
      ·try refine sA ?_
       cases hq8
       exact X_cut ⟨_,rfl,rfl⟩ (weakA [some 0,some 2,some 3,some 4])
      ·try refine sA ?_
       refine Bs_if hq8 (fun hq8 hc17 => ?_) (fun hq8 hc17 => ?_)
       ·try refine sA ?_
        obtain ⟨c51,hr18,hq8⟩ := bind_ok hq8
        refine Cl_sA (zge hr18) ?_
        try refine sA ?_
        cases hq8
        exact X_cut ⟨_,rfl,rfl⟩ (weakA [some 0,some 2,some 3,some 6])
       ·try refine sA ?_
        refine Bs_if hq8 (fun hq8 hc19 => ?_) (fun hq8 hc19 => ?_)
        ·try refine sA ?_
         refine Bs_if hq8 (fun hq8 hc20 => ?_) (fun hq8 hc20 => ?_)
         ·try refine sA ?_
          cases hq8
          try dsimp only at h
          obtain rfl:=Option.some.inj h
          refine ends_frz 3 ?_
          refine ends_frz 4 ?_
          try refine sA ?_
          exact endsA ⟨[(4,(.pb 0 0)),(5,(B false))],[(0,some (true,.box [(I c39.Status),(I c39.Next),(B c39.Cancel),(I c39.Done),(.lf true (.sl (c39.Signals.map eS))),(.lf true (.sl (c39.Timers.map eS)))]))],1,89⟩ [some 2]
         ·try refine sA ?_
          cases hq8
          exact X_cut ⟨_,rfl,rfl⟩ (weakA [some 0,some 2,some 3,some 4])
        ·try refine sA ?_
         cases hq8
         exact X_cut ⟨_,rfl,rfl⟩ (weakA [some 0,some 2,some 3,none])
   ·intro s2 hJ; obtain ⟨p52,e,rfl⟩ := hJ; subst e
    try dsimp only at h
    try refine sA ?_
    obtain ⟨c77,hr21,h⟩ := bind_ok h
    refine Cl_sA (zhu hr21) ?_
    try refine sA ?_
    obtain rfl:=Option.some.inj h
    refine ends_frz 2 ?_
    refine ends_frz 3 ?_
    try refine sA ?_
    exact endsA ⟨[(4,(.pb 0 0)),(5,(B c77))],[(0,some (true,.box [(I p52.b0_0),(I (wI (c39.Next + 1))),(B p52.b0_2),(I p52.b0_3),(.lf true (.sl (p52.c2.map eS))),(.lf true (.sl (p52.c3.map eS)))]))],1,89⟩ [some 1]
theorem zeT {a0 : (List EventT)} {r : (StateT × Int)} (h : zbX a0 = some r) : Fn Tryz.prog 185 [(.lf true (.sl (a0.map eEvent)))] [] 0 (.tu [(.ag [(I r.1.Status),(I r.1.Next),(B r.1.Cancel),(I r.1.Done),(.lf true (.sl (r.1.Signals.map eS))),(.lf true (.sl (r.1.Timers.map eS)))]),(I r.2)]) [] 1 := by
 unfold zbX at h
 refine fn_code tab_ok mixed [(1000,[(0,0),(2,0)]),(1001,[(0,0),(2,0),(4,0)]),(1002,[(0,0),(2,0),(4,0),(10,0),(11,0),(12,0)]),(1003,[(0,0),(2,0),(4,0),(10,0),(11,0),(12,0),(13,0)]),(1004,[(0,0),(2,0),(4,0),(5,0),(6,0),(10,0),(11,0),(12,0)]),(1005,[(0,0),(2,0),(4,0),(5,0),(7,0),(8,0),(10,0),(11,0),(12,0)]),(1006,[(0,0),(2,0),(4,0),(5,0),(7,0),(10,0),(11,0),(12,0),(24,0)]),(1007,[(2,0),(3,0)]),(1008,[(0,0),(2,0),(4,0),(10,0),(11,0),(12,0)]),(1009,[(0,0),(2,0),(4,0),(10,0),(11,0),(12,0)]),(1010,[(2,0),(3,0)])] Tryz.func185 rfl rfl (by simp [Tryz.f185]) (by kernel_rfl) ?_
 simp only [Tryz.f185]
 refine sA ?_
 obtain ⟨c25,hr1,h⟩ := bind_ok h
 refine Cl_sA (zhD hr1) ?_
 try refine sA ?_
 obtain ⟨y80,hl2,h⟩ := bind_ok h
 refine W_loopP (fun g26 : zfl => ⟨[(0,(.lf true (.sl (a0.map eEvent)))),(2,(.pb 0 0)),(4,(.pb 1 0)),(10,(.lf true (.sl (a0.map eEvent)))),(11,(I ((a0.length : Nat) : Int))),(12,(I g26.t12))],[(0,some (true,.box [(I 0),(I 0),(B false),(I 0),.nl,.nl])),(1,some (true,.box [(I g26.b1_0),(I g26.b1_1),(B g26.b1_2),(I g26.b1_3),(.lf true (.sl (g26.b1_4.map eS))),(.lf true (.sl (g26.b1_5.map eS)))]))],2,32⟩) (zaK a0) _ _ hl2 (weakA [some 0,some 2]) ?_
 ·intro n1 g26 z1 hs1 hk1
  unfold zaK at hs1
  try dsimp only at hs1
  refine sA ?_
  refine Bs_if hs1 (fun hs1 hc3 => ?_) (fun hs1 hc3 => ?_)
  ·try refine sA ?_
   obtain ⟨hp4,hs1⟩ := guard_some hs1
   have hn4 : g26.t12.toNat < a0.length := by first | omega | (simp only [List.length_set,List.length_append,List.length_replicate,List.length_map]; omega)
   try refine sA ?_
   try refine andA ?_
   obtain ⟨c79,hr5,hs1⟩ := bind_ok hs1
   refine Cl_sA (zgg hr5) ?_
   try refine sA ?_
   refine Bs_if hs1 (fun hs1 hc6 => ?_) (fun hs1 hc6 => ?_)
   ·try refine sA ?_
    cases hs1
    cases hk1
    try dsimp only at h
    try refine sA ?_
    obtain rfl:=Option.some.inj h
    exact endsA ⟨[(2,(.pb 0 0)),(3,(I g26.t12))],[(0,some (true,.box [(I g26.b1_0),(I g26.b1_1),(B g26.b1_2),(I g26.b1_3),(.lf true (.sl (g26.b1_4.map eS))),(.lf true (.sl (g26.b1_5.map eS)))]))],1,32⟩ [some 0]
   ·try refine sA ?_
    cases hs1
    exact X_backP hk1 (weakA [some 0,some 1])
  ·try refine sA ?_
   cases hs1
   cases hk1
   try dsimp only at h
   try refine sA ?_
   obtain rfl:=Option.some.inj h
   exact endsA ⟨[(2,(.pb 0 0)),(3,(I ((a0.length : Nat) : Int)))],[(0,some (true,.box [(I g26.b1_0),(I g26.b1_1),(B g26.b1_2),(I g26.b1_3),(.lf true (.sl (g26.b1_4.map eS))),(.lf true (.sl (g26.b1_5.map eS)))]))],1,32⟩ [some 0]
theorem zhv {a0 : (List EventT)} {r : Bool} (h : zdL a0 = some r) : Fn Tryz.prog 221 [(.lf true (.sl (a0.map eEvent)))] [] 0 (B r) [] 0 := by
 unfold zdL at h
 refine fn_code tab_ok mixed [(1000,[(0,0)]),(1001,[(0,0),(7,0),(8,0)]),(1002,[(0,0),(7,0),(8,0),(9,0)]),(1003,[(0,0),(3,0),(7,0),(8,0)]),(1004,[(0,0),(7,0),(8,0),(26,0)]),(1005,[(2,0)]),(1006,[(0,0),(7,0),(8,0)]),(1007,[(0,0),(5,0)]),(1008,[(2,0)]),(4004,[])] Tryz.func221 rfl rfl (by simp [Tryz.f221]) (by kernel_rfl) ?_
 simp only [Tryz.f221]
 refine sA ?_
 obtain ⟨y22,hl1,h⟩ := bind_ok h
 refine W_loopP (fun g19 : zdD => ⟨[(0,(.lf true (.sl (a0.map eEvent)))),(7,(I ((a0.length : Nat) : Int))),(8,(I g19.t8))],[],0,42⟩) (zbs a0) _ _ hl1 (weakA []) ?_
 ·intro n1 g19 z1 hs1 hk1
  unfold zbs at hs1
  try dsimp only at hs1
  refine sA ?_
  refine Bs_if hs1 (fun hs1 hc2 => ?_) (fun hs1 hc2 => ?_)
  ·try refine sA ?_
   obtain ⟨p21,hq3,hs1⟩ := bind_ok hs1
   refine Sq_cut (fun s2 => s2 = ⟨[(0,(.lf true (.sl (a0.map eEvent)))),(7,(I ((a0.length : Nat) : Int))),(8,(I g19.t8)),(26,(B p21.t26))],[],0,42⟩) ?_ ?_
   ·try refine sA ?_
    refine Sp_if hq3 (fun hq3 hc4 => ?_) (fun hq3 hc4 => ?_)
    ·try refine sA ?_
     obtain ⟨hp5,hq3⟩ := guard_some hq3
     have hn5 : (wI (g19.t8 - 1)).toNat < a0.length := by first | omega | (simp only [List.length_set,List.length_append,List.length_replicate,List.length_map]; omega)
     try refine sA ?_
     try refine andA ?_
     obtain ⟨hp6,hq3⟩ := guard_some hq3
     have hn6 : g19.t8.toNat < a0.length := by first | omega | (simp only [List.length_set,List.length_append,List.length_replicate,List.length_map]; omega)
     try refine sA ?_
     try refine andA ?_
     cases hq3
     exact X_cut rfl (weakA [])
    ·try refine sA ?_
     cases hq3
     exact X_cut rfl (weakA [])
   ·intro s2 hJ; subst hJ
    try dsimp only at hs1
    try refine sA ?_
    refine Bs_if hs1 (fun hs1 hc7 => ?_) (fun hs1 hc7 => ?_)
    ·try refine sA ?_
     cases hs1
     cases hk1
     try dsimp only at h
     try refine sA ?_
     obtain rfl:=Option.some.inj h
     exact endsA ⟨[(2,(B false))],[],0,42⟩ []
    ·try refine sA ?_
     cases hs1
     exact X_backP hk1 (weakA [])
  ·try refine sA ?_
   cases hs1
   cases hk1
   try dsimp only at h
   try refine sA ?_
   obtain ⟨c84,hr8,h⟩ := bind_ok h
   refine Cl_sA (zeT hr8) ?_
   try refine sA ?_
   refine Sp_if h (fun h hc9 => ?_) (fun h hc9 => ?_)
   ·try refine sA ?_
    obtain rfl:=Option.some.inj h
    exact endsA ⟨[(2,(B (decide (((a0.length : Nat) : Int) ≤ 60))))],[],0,42⟩ []
   ·try refine sA ?_
    obtain rfl:=Option.some.inj h
    exact endsA ⟨[(2,(B false))],[],0,42⟩ []
theorem zhc {a0 : (List EventT)} {r : Bool} (h : zdc a0 = some r) : Fn Tryz.prog 176 [(.lf true (.sl (a0.map eEvent)))] [] 0 (B r) [] 0 := by
 unfold zdc at h
 refine fn_code tab_ok mixed [] Tryz.func176 rfl rfl (by simp [Tryz.f176]) (by kernel_rfl) ?_
 simp only [Tryz.f176]
 refine sA ?_
 refine Sp_if h (fun h hc1 => ?_) (fun h hc1 => ?_)
 ·try refine sA ?_
  obtain ⟨c85,hr2,h⟩ := bind_ok h
  refine Cl_sA (zhv hr2) ?_
  try refine sA ?_
  obtain rfl:=Option.some.inj h
  exact endsA ⟨[(2,(B c85))],[],0,10⟩ []
 ·try refine sA ?_
  obtain rfl:=Option.some.inj h
  exact endsA ⟨[(2,(B false))],[],0,10⟩ []
theorem zhE {a0 : EventT} {a1 : EventT} {r : Int} (h : zea a0 a1 = some r) : Fn Tryz.prog 222 [(.ag [(I a0.Id),(I a0.Version),(I a0.Kind),(.lf false (.sc (.string a0.Name)))]),(.ag [(I a1.Id),(I a1.Version),(I a1.Kind),(.lf false (.sc (.string a1.Name)))])] [] 0 (I r) [] 0 := by
 unfold zea at h
 refine fn_code tab_ok mixed [(1000,[(2,0),(3,0)]),(1001,[(2,0),(3,0),(5,0)]),(1002,[(15,0)]),(1003,[(4,0)]),(1004,[(4,0)]),(1005,[(2,0),(3,0),(16,0)]),(1006,[(26,0)]),(1007,[(4,0)]),(1008,[(4,0)]),(1009,[(2,0),(3,0),(27,0)]),(1010,[(4,0)]),(1011,[(33,0)]),(1012,[(4,0)]),(1013,[(4,0)])] Tryz.func222 rfl rfl (by simp [Tryz.f222]) (by kernel_rfl) ?_
 simp only [Tryz.f222]
 refine sA ?_
 refine Bs_if h (fun h hc1 => ?_) (fun h hc1 => ?_)
 ·try refine sA ?_
  refine Bs_if h (fun h hc2 => ?_) (fun h hc2 => ?_)
  ·try refine sA ?_
   obtain rfl:=Option.some.inj h
   exact endsA ⟨[(4,(I (-1)))],[],0,39⟩ []
  ·try refine sA ?_
   obtain rfl:=Option.some.inj h
   exact endsA ⟨[(4,(I 1))],[],0,39⟩ []
 ·try refine sA ?_
  refine Bs_if h (fun h hc3 => ?_) (fun h hc3 => ?_)
  ·try refine sA ?_
   refine Bs_if h (fun h hc4 => ?_) (fun h hc4 => ?_)
   ·try refine sA ?_
    obtain rfl:=Option.some.inj h
    exact endsA ⟨[(4,(I (-1)))],[],0,39⟩ []
   ·try refine sA ?_
    obtain rfl:=Option.some.inj h
    exact endsA ⟨[(4,(I 1))],[],0,39⟩ []
  ·try refine sA ?_
   refine Bs_if h (fun h hc5 => ?_) (fun h hc5 => ?_)
   ·try refine sA ?_
    obtain rfl:=Option.some.inj h
    exact endsA ⟨[(4,(I (-1)))],[],0,39⟩ []
   ·try refine sA ?_
    refine Bs_if h (fun h hc6 => ?_) (fun h hc6 => ?_)
    ·try refine sA ?_
     obtain rfl:=Option.some.inj h
     exact endsA ⟨[(4,(I 1))],[],0,39⟩ []
    ·try refine sA ?_
     obtain rfl:=Option.some.inj h
     exact endsA ⟨[(4,(I 0))],[],0,39⟩ []
theorem zdF {a0 : (List EventT)} {a1 : (List EventT)} {r : (Int × Int)} (h : zaL a0 a1 = some r) : Fn Tryz.prog 177 [(.lf true (.sl (a0.map eEvent))),(.lf true (.sl (a1.map eEvent)))] [] 0 (.tu [(I r.1),(I r.2)]) [] 0 := by
 unfold zaL at h
 refine fn_code tab_ok mixed [(1000,[(0,0),(1,0)]),(1001,[(0,0),(1,0),(6,0)]),(1002,[(0,0),(1,0),(6,0),(17,0)]),(1003,[(0,0),(1,0),(6,0)]),(1004,[(0,0),(1,0),(6,0),(7,0)]),(1005,[(0,0),(1,0),(6,0),(7,0),(30,0)]),(1006,[(4,0),(5,0)]),(1007,[(0,0),(1,0),(33,0)]),(1008,[(4,0),(5,0)]),(1009,[(0,0),(1,0),(41,0)]),(1010,[(4,0),(5,0)]),(1011,[(4,0),(5,0)])] Tryz.func177 rfl rfl (by simp [Tryz.f177]) (by kernel_rfl) ?_
 simp only [Tryz.f177]
 refine sA ?_
 obtain ⟨y91,hl1,h⟩ := bind_ok h
 refine W_loopP (fun g88 : zdd => ⟨[(0,(.lf true (.sl (a0.map eEvent)))),(1,(.lf true (.sl (a1.map eEvent)))),(6,(I g88.t6))],[],0,51⟩) (za2 a0 a1) _ _ hl1 (weakA []) ?_
 ·intro n1 g88 z1 hs1 hk1
  unfold za2 at hs1
  try dsimp only at hs1
  refine sA ?_
  refine Sp_if hs1 (fun hs1 hc2 => ?_) (fun hs1 hc2 => ?_)
  ·try refine sA ?_
   refine Bs_if hs1 (fun hs1 hc3 => ?_) (fun hs1 hc3 => ?_)
   ·try refine sA ?_
    obtain ⟨hp4,hs1⟩ := guard_some hs1
    have hn4 : g88.t6.toNat < a0.length := by first | omega | (simp only [List.length_set,List.length_append,List.length_replicate,List.length_map]; omega)
    try refine sA ?_
    try refine andA ?_
    obtain ⟨hp5,hs1⟩ := guard_some hs1
    have hn5 : g88.t6.toNat < a1.length := by first | omega | (simp only [List.length_set,List.length_append,List.length_replicate,List.length_map]; omega)
    try refine sA ?_
    try refine andA ?_
    obtain ⟨c90,hr6,hs1⟩ := bind_ok hs1
    refine Cl_sA (zhE hr6) ?_
    try refine sA ?_
    refine Bs_if hs1 (fun hs1 hc7 => ?_) (fun hs1 hc7 => ?_)
    ·try refine sA ?_
     cases hs1
     cases hk1
     try dsimp only at h
     try refine sA ?_
     obtain rfl:=Option.some.inj h
     exact endsA ⟨[(4,(I c90)),(5,(I g88.t6))],[],0,51⟩ []
    ·try refine sA ?_
     cases hs1
     exact X_backP hk1 (weakA [])
   ·try refine sA ?_
    cases hs1
    cases hk1
    try dsimp only at h
    try refine sA ?_
    refine Bs_if h (fun h hc8 => ?_) (fun h hc8 => ?_)
    ·try refine sA ?_
     obtain rfl:=Option.some.inj h
     exact endsA ⟨[(4,(I (-1))),(5,(I ((a0.length : Nat) : Int)))],[],0,51⟩ []
    ·try refine sA ?_
     refine Bs_if h (fun h hc9 => ?_) (fun h hc9 => ?_)
     ·try refine sA ?_
      obtain rfl:=Option.some.inj h
      exact endsA ⟨[(4,(I 1)),(5,(I ((a1.length : Nat) : Int)))],[],0,51⟩ []
     ·try refine sA ?_
      obtain rfl:=Option.some.inj h
      exact endsA ⟨[(4,(I 0)),(5,(I ((a0.length : Nat) : Int)))],[],0,51⟩ []
  ·try refine sA ?_
   cases hs1
   cases hk1
   try dsimp only at h
   try refine sA ?_
   refine Bs_if h (fun h hc10 => ?_) (fun h hc10 => ?_)
   ·try refine sA ?_
    obtain rfl:=Option.some.inj h
    exact endsA ⟨[(4,(I (-1))),(5,(I ((a0.length : Nat) : Int)))],[],0,51⟩ []
   ·try refine sA ?_
    refine Bs_if h (fun h hc11 => ?_) (fun h hc11 => ?_)
    ·try refine sA ?_
     obtain rfl:=Option.some.inj h
     exact endsA ⟨[(4,(I 1)),(5,(I ((a1.length : Nat) : Int)))],[],0,51⟩ []
    ·try refine sA ?_
     obtain rfl:=Option.some.inj h
     exact endsA ⟨[(4,(I 0)),(5,(I ((a0.length : Nat) : Int)))],[],0,51⟩ []
theorem zcP {a0 : (List EventT)} {a1 : (List EventT)} {r : Bool} (h : zaA a0 a1 = some r) : Fn Tryz.prog 178 [(.lf true (.sl (a0.map eEvent))),(.lf true (.sl (a1.map eEvent)))] [] 0 (B r) [] 0 := by
 unfold zaA at h
 refine fn_code tab_ok mixed [(1000,[(0,0),(1,0)]),(1001,[(1,0),(6,0)]),(1002,[(4,0)])] Tryz.func178 rfl rfl (by simp [Tryz.f178]) (by kernel_rfl) ?_
 simp only [Tryz.f178]
 refine sA ?_
 obtain ⟨c95,hr1,h⟩ := bind_ok h
 refine Cl_sA (zdF hr1) ?_
 try refine sA ?_
 obtain rfl:=Option.some.inj h
 exact endsA ⟨[(4,(B (c95.2 == ((a1.length : Nat) : Int))))],[],0,17⟩ []
theorem zcZ {a0 : TellingsT} {r : Bool} (h : zah a0 = some r) : Fn Tryz.prog 130 [(.ag [(.lf true (.sl (a0.Branches.map eBranch)))])] [] 0 (B r) [] 0 := by
 unfold zah at h
 refine fn_code tab_ok mixed [(1000,[(1,0)]),(1001,[(1,0),(10,0),(11,0),(12,0)]),(1002,[(1,0),(10,0),(11,0),(12,0),(13,0)]),(1003,[(1,0),(3,0),(4,0),(10,0),(11,0),(12,0)]),(1004,[(1,0),(3,0),(4,0),(10,0),(11,0),(12,0),(20,0)]),(1005,[(2,0)]),(1006,[(1,0),(3,0),(4,0),(10,0),(11,0),(12,0),(24,0),(25,0),(26,0)]),(1007,[(1,0),(3,0),(4,0),(10,0),(11,0),(12,0),(24,0),(25,0),(26,0),(27,0)]),(1008,[(1,0),(3,0),(4,0),(5,0),(6,0),(10,0),(11,0),(12,0),(24,0),(25,0),(26,0)]),(1009,[(1,0),(3,0),(4,0),(5,0),(6,0),(7,0),(10,0),(11,0),(12,0),(24,0),(25,0),(26,0)]),(1010,[(1,0),(3,0),(4,0),(10,0),(11,0),(12,0),(24,0),(25,0),(26,0),(52,0)]),(1011,[(2,0)]),(1012,[(1,0),(3,0),(4,0),(10,0),(11,0),(12,0),(24,0),(25,0),(26,0)]),(1013,[(1,0),(10,0),(11,0),(12,0)]),(1014,[(2,0)]),(4010,[])] Tryz.func130 rfl rfl (by simp [Tryz.f130]) (by kernel_rfl) ?_
 simp only [Tryz.f130]
 refine sA ?_
 obtain ⟨y115,hl1,h⟩ := bind_ok h
 refine W_loopP (fun g18 : zaB => ⟨[(1,(.pb 0 0)),(10,(.lf true (.sl (a0.Branches.map eBranch)))),(11,(I ((a0.Branches.length : Nat) : Int))),(12,(I g18.t12))],[(0,some (true,.box [(.lf true (.sl (a0.Branches.map eBranch)))]))],1,59⟩) (zaD a0) _ _ hl1 (weakA [some 0]) ?_
 ·intro n1 g18 z1 hs1 hk1
  unfold zaD at hs1
  try dsimp only at hs1
  refine sA ?_
  refine Bs_if hs1 (fun hs1 hc2 => ?_) (fun hs1 hc2 => ?_)
  ·try refine sA ?_
   obtain ⟨hp3,hs1⟩ := guard_some hs1
   have hn3 : g18.t12.toNat < a0.Branches.length := by first | omega | (simp only [List.length_set,List.length_append,List.length_replicate,List.length_map]; omega)
   try refine sA ?_
   try refine andA ?_
   obtain ⟨c104,hr4,hs1⟩ := bind_ok hs1
   refine Cl_sA (zhc hr4) ?_
   try refine sA ?_
   refine Bs_if hs1 (fun hs1 hc5 => ?_) (fun hs1 hc5 => ?_)
   ·try refine sA ?_
    cases hs1
    cases hk1
    try dsimp only at h
    try refine sA ?_
    obtain rfl:=Option.some.inj h
    exact endsA ⟨[(2,(B false))],[],0,59⟩ []
   ·try refine sA ?_
    obtain ⟨hp6,hs1⟩ := guard_some hs1
    try refine sA ?_
    try refine andA ?_
    obtain ⟨y112,hl7,hs1⟩ := bind_ok hs1
    refine W_loopP (fun g105 : zcn => ⟨[(1,(.pb 0 0)),(3,(I g18.t12)),(4,(.pb 1 0)),(10,(.lf true (.sl (a0.Branches.map eBranch)))),(11,(I ((a0.Branches.length : Nat) : Int))),(12,(I g18.t12)),(24,(.lf true (.sl ((a0.Branches.take g18.t12.toNat).map eBranch)))),(25,(I (((a0.Branches.take g18.t12.toNat).length : Nat) : Int))),(26,(I g105.t26))],[(0,some (true,.box [(.lf true (.sl (a0.Branches.map eBranch)))])),(1,some (true,.box [(.lf true (.sl (((nth a0.Branches g18.t12.toNat).Events).map eEvent)))]))],2,59⟩) (zaC a0 g18) _ _ hl7 (weakA [some 0,some 1]) ?_
    ·intro n2 g105 z2 hs2 hk2
     unfold zaC at hs2
     try dsimp only at hs2
     refine sA ?_
     refine Bs_if hs2 (fun hs2 hc8 => ?_) (fun hs2 hc8 => ?_)
     ·try refine sA ?_
      obtain ⟨hp9,hs2⟩ := guard_some hs2
      have hn9 : g105.t26.toNat < (a0.Branches.take g18.t12.toNat).length := by first | omega | (simp only [List.length_set,List.length_append,List.length_replicate,List.length_map]; omega)
      try refine sA ?_
      try refine andA ?_
      obtain ⟨c109,hr10,hs2⟩ := bind_ok hs2
      refine Cl_sA (zdF hr10) ?_
      try refine sA ?_
      obtain ⟨p111,hq11,hs2⟩ := bind_ok hs2
      refine Sq_cut (fun s2 => s2 = ⟨[(1,(.pb 0 0)),(3,(I g18.t12)),(4,(.pb 1 0)),(10,(.lf true (.sl (a0.Branches.map eBranch)))),(11,(I ((a0.Branches.length : Nat) : Int))),(12,(I g18.t12)),(24,(.lf true (.sl ((a0.Branches.take g18.t12.toNat).map eBranch)))),(25,(I (((a0.Branches.take g18.t12.toNat).length : Nat) : Int))),(26,(I g105.t26)),(52,(B p111.t52))],[(0,some (true,.box [(.lf true (.sl (a0.Branches.map eBranch)))])),(1,some (true,.box [(.lf true (.sl (((nth a0.Branches g18.t12.toNat).Events).map eEvent)))]))],2,59⟩) ?_ ?_
      ·try refine sA ?_
       refine Sp_if hq11 (fun hq11 hc12 => ?_) (fun hq11 hc12 => ?_)
       ·try refine sA ?_
        cases hq11
        exact X_cut rfl (weakA [some 0,some 1])
       ·try refine sA ?_
        obtain ⟨c110,hr13,hq11⟩ := bind_ok hq11
        refine Cl_sA (zcP hr13) ?_
        try refine sA ?_
        refine Sp_if hq11 (fun hq11 hc14 => ?_) (fun hq11 hc14 => ?_)
        ·try refine sA ?_
         cases hq11
         exact X_cut rfl (weakA [some 0,some 1])
        ·try refine sA ?_
         cases hq11
         exact X_cut rfl (weakA [some 0,some 1])
      ·intro s2 hJ; subst hJ
       try dsimp only at hs2
       try refine sA ?_
       refine Bs_if hs2 (fun hs2 hc15 => ?_) (fun hs2 hc15 => ?_)
       ·try refine sA ?_
        cases hs2
        cases hk2
        try dsimp only at hs1
        try refine sA ?_
        cases hs1
        cases hk1
        try dsimp only at h
        try refine sA ?_
        obtain rfl:=Option.some.inj h
        exact endsA ⟨[(2,(B false))],[],0,59⟩ []
       ·try refine sA ?_
        cases hs2
        exact X_backP hk2 (weakA [some 0,some 1])
     ·try refine sA ?_
      cases hs2
      cases hk2
      try dsimp only at hs1
      try refine sA ?_
      cases hs1
      exact X_backP hk1 (weakA [some 0])
  ·try refine sA ?_
   cases hs1
   cases hk1
   try dsimp only at h
   try refine sA ?_
   obtain rfl:=Option.some.inj h
   exact endsA ⟨[(2,(B (decide (((a0.Branches.length : Nat) : Int) ≤ 12))))],[],0,59⟩ []
theorem zaj {a0 : RegionT} {r : Bool} (h : zR a0 = some r) : Fn Tryz.prog 56 [(.ag [(I a0.Id),(I a0.Version),(.lf true (.sl (a0.Tellings.Branches.map eBranch)))])] [] 0 (B r) [] 0 := by
 unfold zR at h
 refine fn_code tab_ok mixed [(1000,[(1,0)]),(1001,[(1,0),(22,0)]),(1002,[(2,0)]),(1003,[(1,0),(25,0),(26,0),(27,0)]),(1004,[(1,0),(25,0),(26,0),(27,0),(28,0)]),(1005,[(1,0),(4,0),(25,0),(26,0),(27,0)]),(1006,[(1,0),(25,0),(26,0),(27,0),(32,0),(33,0),(34,0)]),(1007,[(1,0),(25,0),(26,0),(27,0),(32,0),(33,0),(34,0),(35,0)]),(1008,[(1,0),(6,0),(25,0),(26,0),(27,0),(32,0),(33,0),(34,0)]),(1009,[(1,0),(25,0),(26,0),(27,0),(32,0),(33,0),(34,0),(42,0)]),(1010,[(2,0)]),(1011,[(1,0),(25,0),(26,0),(27,0),(32,0),(33,0),(34,0)]),(1012,[(1,0),(25,0),(26,0),(27,0)]),(1013,[(2,0)]),(4001,[])] Tryz.func56 rfl rfl (by simp [Tryz.f56]) (by kernel_rfl) ?_
 simp only [Tryz.f56]
 refine sA ?_
 obtain ⟨p119,hq1,h⟩ := bind_ok h
 refine Sq_cut (fun s2 => s2 = ⟨[(1,(.pb 0 0)),(22,(B p119.t22))],[(0,some (true,.box [(I a0.Id),(I a0.Version),(.lf true (.sl (a0.Tellings.Branches.map eBranch)))]))],1,45⟩) ?_ ?_
 ·try refine sA ?_
  obtain ⟨c15,hr2,hq1⟩ := bind_ok hq1
  refine Cl_sA (zaW hr2) ?_
  try refine sA ?_
  refine Sp_if hq1 (fun hq1 hc3 => ?_) (fun hq1 hc3 => ?_)
  ·try refine sA ?_
   cases hq1
   exact X_cut rfl (weakA [some 0])
  ·try refine sA ?_
   obtain ⟨c17,hr4,hq1⟩ := bind_ok hq1
   refine Cl_sA (zeZ hr4) ?_
   try refine sA ?_
   refine Sp_if hq1 (fun hq1 hc5 => ?_) (fun hq1 hc5 => ?_)
   ·try refine sA ?_
    cases hq1
    exact X_cut rfl (weakA [some 0])
   ·try refine sA ?_
    obtain ⟨c118,hr6,hq1⟩ := bind_ok hq1
    refine Cl_sA (zcZ hr6) ?_
    try refine sA ?_
    cases hq1
    exact X_cut rfl (weakA [some 0])
 ·intro s2 hJ; subst hJ
  try dsimp only at h
  try refine sA ?_
  refine Bs_if h (fun h hc7 => ?_) (fun h hc7 => ?_)
  ·try refine sA ?_
   obtain rfl:=Option.some.inj h
   exact endsA ⟨[(2,(B false))],[],0,45⟩ []
  ·try refine sA ?_
   obtain ⟨y129,hl8,h⟩ := bind_ok h
   refine W_loopP (fun g120 : za6 => ⟨[(1,(.pb 0 0)),(25,(.lf true (.sl (a0.Tellings.Branches.map eBranch)))),(26,(I ((a0.Tellings.Branches.length : Nat) : Int))),(27,(I g120.t27))],[(0,some (true,.box [(I a0.Id),(I a0.Version),(.lf true (.sl (a0.Tellings.Branches.map eBranch)))]))],1,45⟩) (za8 a0) _ _ hl8 (weakA [some 0]) ?_
   ·intro n1 g120 z1 hs1 hk1
    unfold za8 at hs1
    try dsimp only at hs1
    refine sA ?_
    refine Bs_if hs1 (fun hs1 hc9 => ?_) (fun hs1 hc9 => ?_)
    ·try refine sA ?_
     obtain ⟨hp10,hs1⟩ := guard_some hs1
     have hn10 : g120.t27.toNat < a0.Tellings.Branches.length := by first | omega | (simp only [List.length_set,List.length_append,List.length_replicate,List.length_map]; omega)
     try refine sA ?_
     try refine andA ?_
     obtain ⟨y126,hl11,hs1⟩ := bind_ok hs1
     refine W_loopP (fun g125 : zdh => ⟨[(1,(.pb 0 0)),(25,(.lf true (.sl (a0.Tellings.Branches.map eBranch)))),(26,(I ((a0.Tellings.Branches.length : Nat) : Int))),(27,(I g120.t27)),(32,(.lf true (.sl (((nth a0.Tellings.Branches g120.t27.toNat).Events).map eEvent)))),(33,(I ((((nth a0.Tellings.Branches g120.t27.toNat).Events).length : Nat) : Int))),(34,(I g125.t34))],[(0,some (true,.box [(I a0.Id),(I a0.Version),(.lf true (.sl (a0.Tellings.Branches.map eBranch)))]))],1,45⟩) (za7 a0 g120) _ _ hl11 (weakA [some 0]) ?_
     ·intro n2 g125 z2 hs2 hk2
      unfold za7 at hs2
      try dsimp only at hs2
      refine sA ?_
      refine Bs_if hs2 (fun hs2 hc12 => ?_) (fun hs2 hc12 => ?_)
      ·try refine sA ?_
       obtain ⟨hp13,hs2⟩ := guard_some hs2
       have hn13 : g125.t34.toNat < ((nth a0.Tellings.Branches g120.t27.toNat).Events).length := by first | omega | (simp only [List.length_set,List.length_append,List.length_replicate,List.length_map]; omega)
       try refine sA ?_
       try refine andA ?_
       refine Bs_if hs2 (fun hs2 hc14 => ?_) (fun hs2 hc14 => ?_)
       ·try refine sA ?_
        cases hs2
        cases hk2
        try dsimp only at hs1
        try refine sA ?_
        cases hs1
        cases hk1
        try dsimp only at h
        try refine sA ?_
        obtain rfl:=Option.some.inj h
        exact endsA ⟨[(2,(B false))],[],0,45⟩ []
       ·try refine sA ?_
        cases hs2
        exact X_backP hk2 (weakA [some 0])
      ·try refine sA ?_
       cases hs2
       cases hk2
       try dsimp only at hs1
       try refine sA ?_
       cases hs1
       exact X_backP hk1 (weakA [some 0])
    ·try refine sA ?_
     cases hs1
     cases hk1
     try dsimp only at h
     try refine sA ?_
     obtain rfl:=Option.some.inj h
     exact endsA ⟨[(2,(B true))],[],0,45⟩ []
theorem zhS {a0 : Int} {a1 : Int} {r : Int} (h : zew a0 a1 = some r) : Fn Tryz.prog 215 [(I a0),(I a1)] [] 0 (I r) [] 0 := by
 unfold zew at h
 refine fn_code tab_ok mixed [(1000,[(0,0),(1,0)]),(1001,[(0,0),(5,0)]),(1002,[(5,0),(14,0)]),(1003,[(5,0)]),(1004,[(4,0)])] Tryz.func215 rfl rfl (by simp [Tryz.f215]) (by kernel_rfl) ?_
 simp only [Tryz.f215]
 refine sA ?_
 refine Bs_if h (fun h hc1 => ?_) (fun h hc1 => ?_)
 ·try refine sA ?_
  obtain rfl:=Option.some.inj h
  exact endsA ⟨[(4,(I (wI ((wI ((wI (a0 - (a0.tmod 10))) + a1)) + 10))))],[],0,18⟩ []
 ·try refine sA ?_
  obtain rfl:=Option.some.inj h
  exact endsA ⟨[(4,(I (wI ((wI (a0 - (a0.tmod 10))) + a1))))],[],0,18⟩ []
theorem zgW {a0 : Int} {a1 : Int} {r : (Int × Bool)} (h : zcH a0 a1 = some r) : Fn Tryz.prog 170 [(I a0),(I a1)] [] 0 (.tu [(I r.1),(B r.2)]) [] 0 := by
 unfold zcH at h
 refine fn_code tab_ok mixed [(1000,[(0,0),(1,0)]),(1001,[(0,0),(1,0),(14,0)]),(1002,[(4,0),(5,0)]),(1003,[(6,0)]),(1004,[(6,0),(20,0)]),(1005,[(4,0),(5,0)]),(1006,[(4,0),(5,0)]),(4001,[])] Tryz.func170 rfl rfl (by simp [Tryz.f170]) (by kernel_rfl) ?_
 simp only [Tryz.f170]
 refine sA ?_
 obtain ⟨p135,hq1,h⟩ := bind_ok h
 refine Sq_cut (fun s2 => s2 = ⟨[(0,(I a0)),(1,(I a1)),(14,(B p135.t14))],[],0,22⟩) ?_ ?_
 ·try refine sA ?_
  obtain ⟨c133,hr2,hq1⟩ := bind_ok hq1
  refine Cl_sA (zeZ hr2) ?_
  try refine sA ?_
  refine Sp_if hq1 (fun hq1 hc3 => ?_) (fun hq1 hc3 => ?_)
  ·try refine sA ?_
   cases hq1
   exact X_cut rfl (weakA [])
  ·try refine sA ?_
   obtain ⟨c134,hr4,hq1⟩ := bind_ok hq1
   refine Cl_sA (zaW hr4) ?_
   try refine sA ?_
   cases hq1
   exact X_cut rfl (weakA [])
 ·intro s2 hJ; subst hJ
  try dsimp only at h
  try refine sA ?_
  refine Bs_if h (fun h hc5 => ?_) (fun h hc5 => ?_)
  ·try refine sA ?_
   obtain rfl:=Option.some.inj h
   exact endsA ⟨[(4,(I 0)),(5,(B false))],[],0,22⟩ []
  ·try refine sA ?_
   obtain ⟨c136,hr6,h⟩ := bind_ok h
   refine Cl_sA (zhS hr6) ?_
   try refine sA ?_
   obtain ⟨c137,hr7,h⟩ := bind_ok h
   refine Cl_sA (zeZ hr7) ?_
   try refine sA ?_
   refine Bs_if h (fun h hc8 => ?_) (fun h hc8 => ?_)
   ·try refine sA ?_
    obtain rfl:=Option.some.inj h
    exact endsA ⟨[(4,(I 0)),(5,(B false))],[],0,22⟩ []
   ·try refine sA ?_
    obtain rfl:=Option.some.inj h
    exact endsA ⟨[(4,(I c136)),(5,(B true))],[],0,22⟩ []
theorem zM {a0 : (List EventT)} {r : (List EventT)} (h : zq a0 = some r) : Fn Tryz.prog 172 [(.lf true (.sl (a0.map eEvent)))] [] 0 (.os 0 4 0 r.length r.length false) [(0,some (true,.arr false 4 (r.map eEvent)))] 1 := by
 unfold zq at h
 refine fn_code tab_ok mixed [] Tryz.func172 rfl rfl (by simp [Tryz.f172]) (by kernel_rfl) ?_
 simp only [Tryz.f172]
 refine sA ?_
 obtain ⟨hp1,h⟩ := guard_some h
 try refine sA ?_
 try refine andA ?_
 obtain rfl:=Option.some.inj h
 exact endsA ⟨[(2,(.os 0 4 0 ((([]) ++ a0).length) ((([]) ++ a0).length) false))],[(0,some (true,.arr false 4 ((([]) ++ a0).map eEvent)))],1,6⟩ [some 1]
theorem zfa {a0 : TellingsT} {r : TellingsT} (h : zbU a0 = some r) : Fn Tryz.prog 121 [(.ag [(.lf true (.sl (a0.Branches.map eBranch)))])] [] 0 (.ag [(.os 0 1 0 r.Branches.length r.Branches.length false)]) [(0,some (true,.deep [.sl [.sc,.sc,.sc,.sc]] (r.Branches.map eBranch)))] 2 := by
 unfold zbU at h
 refine fn_code tab_ok mixed [(1000,[(1,0),(2,0)]),(1001,[(1,0),(2,0),(3,0)]),(1002,[(2,0),(3,0),(7,0),(8,0),(9,0)]),(1003,[(2,0),(3,0),(7,0),(8,0),(9,0),(10,0)]),(1004,[(2,0),(3,0),(5,0),(7,0),(8,0),(9,0)]),(1005,[(2,0),(3,0),(7,0),(8,0),(9,0)]),(1006,[(2,0),(3,0),(7,0),(8,0),(9,0)]),(1007,[(2,0)])] Tryz.func121 rfl rfl (by simp [Tryz.f121]) (by kernel_rfl) ?_
 simp only [Tryz.f121]
 refine sA ?_
 obtain ⟨y142,hl1,h⟩ := bind_ok h
 refine W_loopP (fun g139 : zeS => ⟨[(2,(.pb 0 0)),(3,(.os 1 1 0 g139.c1.length g139.c1.length false)),(7,(.lf true (.sl (a0.Branches.map eBranch)))),(8,(I ((a0.Branches.length : Nat) : Int))),(9,(I g139.t9))],[(0,some (true,.box [.nl])),(1,some (true,.deep [.sl [.sc,.sc,.sc,.sc]] (g139.c1.map eBranch)))],2,23⟩) (zcD a0) _ _ hl1 (weakA [some 1,none]) ?_
 ·intro n1 g139 z1 hs1 hk1
  unfold zcD at hs1
  try dsimp only at hs1
  refine sA ?_
  refine Bs_if hs1 (fun hs1 hc2 => ?_) (fun hs1 hc2 => ?_)
  ·try refine sA ?_
   obtain ⟨hp3,hs1⟩ := guard_some hs1
   have hn3 : g139.t9.toNat < a0.Branches.length := by first | omega | (simp only [List.length_set,List.length_append,List.length_replicate,List.length_map]; omega)
   try refine sA ?_
   try refine andA ?_
   obtain ⟨c141,hr4,hs1⟩ := bind_ok hs1
   refine Cl_sA (zM hr4) ?_
   try refine sA ?_
   obtain ⟨hp5,hs1⟩ := guard_some hs1
   try refine sA ?_
   try refine andA ?_
   cases hs1
   exact X_backP hk1 (packW 5 (weakA [some 0,some 5]))
  ·try refine sA ?_
   cases hs1
   cases hk1
   try dsimp only at h
   try refine sA ?_
   obtain rfl:=Option.some.inj h
   exact endsA ⟨[(2,(.pb 1 0))],[(0,some (true,.deep [.sl [.sc,.sc,.sc,.sc]] (g139.c1.map eBranch))),(1,some (true,.box [(.os 0 1 0 g139.c1.length g139.c1.length false)]))],2,23⟩ [some 1,some 0]
theorem zfp {a0 : RegionT} {r : RegionT} (h : zbx a0 = some r) : Fn Tryz.prog 70 [(.ag [(I a0.Id),(I a0.Version),(.lf true (.sl (a0.Tellings.Branches.map eBranch)))])] [] 0 (.ag [(I r.Id),(I r.Version),(.lf false (.sl (r.Tellings.Branches.map eBranch)))]) [] 1 := by
 unfold zbx at h
 refine fn_code tab_ok mixed [(1000,[(1,0),(2,0)]),(1001,[(1,0),(2,0)]),(1002,[(2,0)])] Tryz.func70 rfl rfl (by simp [Tryz.f70]) (by kernel_rfl) ?_
 simp only [Tryz.f70]
 refine sA ?_
 obtain ⟨c143,hr1,h⟩ := bind_ok h
 refine Cl_sA (zfa hr1) ?_
 try refine sA ?_
 obtain rfl:=Option.some.inj h
 refine ends_frz 2 ?_
 try refine sA ?_
 exact endsA ⟨[(2,(.pb 0 0))],[(0,some (true,.box [(I a0.Id),(I a0.Version),(.lf false (.sl (c143.Branches.map eBranch)))]))],1,8⟩ [some 1]
theorem zhF {a0 : RegionT} {r : (RegionT × Bool)} (h : zed a0 = some r) : Fn Tryz.prog 117 [(.ag [(I a0.Id),(I a0.Version),(.lf true (.sl (a0.Tellings.Branches.map eBranch)))])] [] 0 (.tu [(.ag [(I r.1.Id),(I r.1.Version),(.lf false (.sl (r.1.Tellings.Branches.map eBranch)))]),(B r.2)]) [] 1 := by
 unfold zed at h
 refine fn_code tab_ok mixed [(1000,[(1,0),(2,0)]),(1001,[(1,0),(2,0),(8,0)]),(1002,[(2,0),(3,0)]),(1003,[(1,0),(2,0),(4,0),(5,0)]),(1004,[(1,0),(2,0),(4,0),(19,0)]),(1005,[(2,0),(3,0)]),(1006,[(1,0),(2,0),(4,0)]),(1007,[(1,0),(2,0)]),(1008,[(2,0),(3,0)])] Tryz.func117 rfl rfl (by simp [Tryz.f117]) (by kernel_rfl) ?_
 simp only [Tryz.f117]
 refine sA ?_
 obtain ⟨c132,hr1,h⟩ := bind_ok h
 refine Cl_sA (zaj hr1) ?_
 try refine sA ?_
 refine Bs_if h (fun h hc2 => ?_) (fun h hc2 => ?_)
 ·try refine sA ?_
  obtain rfl:=Option.some.inj h
  exact endsA ⟨[(2,(.pb 0 0)),(3,(B false))],[(0,some (true,.box [(I 0),(I 0),(.lf false (.sl (([]).map eBranch)))]))],1,26⟩ [some 1]
 ·try refine sA ?_
  obtain ⟨c138,hr3,h⟩ := bind_ok h
  refine Cl_sA (zgW hr3) ?_
  try refine sA ?_
  refine Bs_if h (fun h hc4 => ?_) (fun h hc4 => ?_)
  ·try refine sA ?_
   obtain rfl:=Option.some.inj h
   exact endsA ⟨[(2,(.pb 0 0)),(3,(B false))],[(0,some (true,.box [(I 0),(I 0),(.lf false (.sl (([]).map eBranch)))]))],1,26⟩ [some 1]
  ·try refine sA ?_
   obtain ⟨c144,hr5,h⟩ := bind_ok h
   refine Cl_sA (zfp hr5) ?_
   try refine sA ?_
   obtain rfl:=Option.some.inj h
   exact endsA ⟨[(2,(.pb 0 0)),(3,(B true))],[(0,some (true,.box [(I c144.Id),(I c138.1),(.lf false (.sl (c144.Tellings.Branches.map eBranch)))]))],1,26⟩ [some 1]
theorem zfG {a0 : RegionT} {r : (WordT × Bool)} (h : zdy a0 = some r) : Fn Tryz.prog 50 [(.ag [(I a0.Id),(I a0.Version),(.lf true (.sl (a0.Tellings.Branches.map eBranch)))])] [] 0 (.tu [(.ag [(I r.1.Version),(.os 0 1 0 r.1.Tellings.Branches.length r.1.Tellings.Branches.length false)]),(B r.2)]) [(0,some (true,.deep [.sl [.sc,.sc,.sc,.sc]] (r.1.Tellings.Branches.map eBranch)))] 2 := by
 unfold zdy at h
 refine fn_code tab_ok mixed [(3,[(1,4)]),(1000,[(1,0),(2,0)]),(1001,[(1,0),(2,0),(6,0)]),(1002,[(2,0),(3,0)]),(1003,[(2,0),(3,0)])] Tryz.func50 rfl rfl (by simp [Tryz.f50]) (by kernel_rfl) ?_
 simp only [Tryz.f50]
 refine sA ?_
 obtain ⟨c146,hr1,h⟩ := bind_ok h
 refine Cl_sA (zaj hr1) ?_
 try refine sA ?_
 refine Bs_if h (fun h hc2 => ?_) (fun h hc2 => ?_)
 ·try refine sA ?_
  obtain rfl:=Option.some.inj h
  exact endsA ⟨[(2,(.pb 1 0)),(3,(B false))],[(0,some (true,.deep [.sl [.sc,.sc,.sc,.sc]] (([] : List BranchT).map eBranch))),(1,some (true,.box [(I 0),(.os 0 1 0 (([] : List BranchT).length) (([] : List BranchT).length) false)]))],2,14⟩ [none,some 1]
 ·try refine sA ?_
  obtain ⟨c147,hr3,h⟩ := bind_ok h
  refine Cl_sA (zfa hr3) ?_
  try refine sA ?_
  obtain rfl:=Option.some.inj h
  exact endsA ⟨[(2,(.pb 1 0)),(3,(B true))],[(0,some (true,.deep [.sl [.sc,.sc,.sc,.sc]] (c147.Branches.map eBranch))),(1,some (true,.box [(I a0.Version),(.os 0 1 0 c147.Branches.length c147.Branches.length false)]))],2,14⟩ [some 2,some 1]
theorem zh1 {a0 : (List BranchT)} {a1 : (List EventT)} {r : (List BranchT)} (h : ze3 a0 a1 = some r) : Fn Tryz.prog 179 [(.lf true (.sl (a0.map eBranch))),(.lf true (.sl (a1.map eEvent)))] [] 0 (.lf true (.sl (r.map eBranch))) [] 0 := by
 unfold ze3 at h
 refine fn_code tab_ok mixed [(1000,[(0,0),(1,0)]),(1001,[(0,0),(1,0),(5,0)]),(1002,[(0,0),(1,0),(5,0),(6,0)]),(1003,[(0,0),(1,0),(5,0),(6,0),(13,0),(14,0),(15,0)]),(1004,[(0,0),(1,0),(5,0),(6,0),(13,0),(14,0),(15,0),(16,0)]),(1005,[(0,0),(1,0),(5,0),(6,0),(8,0),(13,0),(14,0),(15,0)]),(1006,[(0,0),(1,0),(5,0),(6,0),(13,0),(14,0),(15,0),(22,0)]),(1007,[(4,0)]),(1008,[(0,0),(1,0),(5,0),(6,0),(13,0),(14,0),(15,0)]),(1009,[(1,0),(5,0),(6,0),(25,0),(26,0),(27,0)]),(1010,[(1,0),(5,0),(6,0),(25,0),(26,0),(27,0),(28,0)]),(1011,[(1,0),(5,0),(6,0),(10,0),(25,0),(26,0),(27,0)]),(1012,[(1,0),(5,0),(6,0),(10,0),(25,0),(26,0),(27,0),(34,0)]),(1013,[(1,0),(5,0),(6,0),(10,0),(11,0),(25,0),(26,0),(27,0)]),(1014,[(1,0),(5,0),(6,0),(10,0),(25,0),(26,0),(27,0),(47,0)]),(1015,[(1,0),(5,0),(10,0),(25,0),(26,0),(27,0)]),(1016,[(1,0),(5,0),(6,0),(10,0),(25,0),(26,0),(27,0)]),(1017,[(1,0),(5,0),(6,0),(25,0),(26,0),(27,0)]),(1018,[(1,0),(5,0),(6,0),(25,0),(26,0),(27,0)]),(1019,[(1,0),(5,0),(63,0)]),(1020,[(5,0)]),(1021,[(4,0)]),(4014,[]),(5017,[])] Tryz.func179 rfl rfl (by simp [Tryz.f179]) (by kernel_rfl) ?_
 simp only [Tryz.f179]
 refine sA ?_
 obtain ⟨y173,hl1,h⟩ := bind_ok h
 refine W_loopP (fun g170 : zeR => ⟨[(0,(.lf true (.sl (a0.map eBranch)))),(1,(.lf true (.sl (a1.map eEvent)))),(5,.nl),(6,(B false)),(13,(.lf true (.sl (a0.map eBranch)))),(14,(I ((a0.length : Nat) : Int))),(15,(I g170.t15))],[],0,71⟩) (zbM a0 a1) _ _ hl1 (weakA []) ?_
 ·intro n1 g170 z1 hs1 hk1
  unfold zbM at hs1
  try dsimp only at hs1
  refine sA ?_
  refine Bs_if hs1 (fun hs1 hc2 => ?_) (fun hs1 hc2 => ?_)
  ·try refine sA ?_
   obtain ⟨hp3,hs1⟩ := guard_some hs1
   have hn3 : g170.t15.toNat < a0.length := by first | omega | (simp only [List.length_set,List.length_append,List.length_replicate,List.length_map]; omega)
   try refine sA ?_
   try refine andA ?_
   obtain ⟨c172,hr4,hs1⟩ := bind_ok hs1
   refine Cl_sA (zcP hr4) ?_
   try refine sA ?_
   refine Bs_if hs1 (fun hs1 hc5 => ?_) (fun hs1 hc5 => ?_)
   ·try refine sA ?_
    cases hs1
    cases hk1
    try dsimp only at h
    try refine sA ?_
    obtain rfl:=Option.some.inj h
    exact endsA ⟨[(4,(.lf true (.sl (a0.map eBranch))))],[],0,71⟩ []
   ·try refine sA ?_
    cases hs1
    exact X_backP hk1 (weakA [])
  ·try refine sA ?_
   cases hs1
   cases hk1
   try dsimp only at h
   try refine sA ?_
   obtain ⟨y209,hl6,h⟩ := bind_ok h
   refine W_loopP (fun g194 : zfw => ⟨[(1,(.lf true (.sl (a1.map eEvent)))),(5,(.os 0 1 0 g194.c0.length g194.c0.length false)),(6,(B g194.t6)),(25,(.lf true (.sl (a0.map eBranch)))),(26,(I ((a0.length : Nat) : Int))),(27,(I g194.t27))],[(0,some (true,.deep [.sl [.sc,.sc,.sc,.sc]] (g194.c0.map eBranch)))],1,71⟩) (_) _ _ hl6 (weakA [none]) ?_
   ·intro n3 g194 z3 hs3 hk3
    unfold zcC at hs3
    try dsimp only at hs3
    refine sA ?_
    refine Bs_if hs3 (fun hs3 hc7 => ?_) (fun hs3 hc7 => ?_)
    ·try refine sA ?_
     obtain ⟨hp8,hs3⟩ := guard_some hs3
     have hn8 : g194.t27.toNat < a0.length := by first | omega | (simp only [List.length_set,List.length_append,List.length_replicate,List.length_map]; omega)
     try refine sA ?_
     try refine andA ?_
     obtain ⟨c202,hr9,hs3⟩ := bind_ok hs3
     refine Cl_sA (zcP hr9) ?_
     try refine sA ?_
     refine Bs_if hs3 (fun hs3 hc10 => ?_) (fun hs3 hc10 => ?_)
     ·try refine sA ?_
      cases hs3
      exact X_backP hk3 (weakA [some 0])
     ·try refine sA ?_
      obtain ⟨c203,hr11,hs3⟩ := bind_ok hs3
      refine Cl_sA (zdF hr11) ?_
      try refine sA ?_
      obtain ⟨p204,hq12,hs3⟩ := bind_ok hs3
      refine Sq_cut (fun s2 => s2 = ⟨[(1,(.lf true (.sl (a1.map eEvent)))),(5,(.os 0 1 0 g194.c0.length g194.c0.length false)),(6,(B g194.t6)),(10,(.pb 1 0)),(25,(.lf true (.sl (a0.map eBranch)))),(26,(I ((a0.length : Nat) : Int))),(27,(I g194.t27)),(47,(B p204.t47))],[(0,some (true,.deep [.sl [.sc,.sc,.sc,.sc]] (g194.c0.map eBranch))),(1,some (true,.box [(.lf true (.sl (((nth a0 g194.t27.toNat).Events).map eEvent)))]))],2,71⟩) ?_ ?_
      ·try refine sA ?_
       refine Sp_if hq12 (fun hq12 hc13 => ?_) (fun hq12 hc13 => ?_)
       ·try refine sA ?_
        cases hq12
        exact X_cut rfl (weakA [some 0,some 1])
       ·try refine sA ?_
        cases hq12
        exact X_cut rfl (weakA [some 0,some 1])
      ·intro s2 hJ; subst hJ
       try dsimp only at hs3
       try refine sA ?_
       refine Bs_if hs3 (fun hs3 hc14 => ?_) (fun hs3 hc14 => ?_)
       ·try refine sA ?_
        obtain ⟨c205,hr15,hs3⟩ := bind_ok hs3
        refine Cl_sA (zM hr15) ?_
        try refine sA ?_
        obtain ⟨hp16,hs3⟩ := guard_some hs3
        try refine sA ?_
        try refine andA ?_
        refine Gh_pack 4 ?_
        try refine sA ?_
        obtain ⟨c207,hr17,hs3⟩ := bind_ok hs3
        refine Cl_sA (zM hr17) ?_
        try refine sA ?_
        obtain ⟨hp18,hs3⟩ := guard_some hs3
        try refine sA ?_
        try refine andA ?_
        cases hs3
        exact X_backP hk3 (packW 7 (weakA [some 7]))
       ·try refine sA ?_
        refine Gh_id ?_
        try refine sA ?_
        obtain ⟨c208,hr19,hs3⟩ := bind_ok hs3
        refine Cl_sA (zM hr19) ?_
        try refine sA ?_
        obtain ⟨hp20,hs3⟩ := guard_some hs3
        try refine sA ?_
        try refine andA ?_
        cases hs3
        exact X_backP hk3 (packW 4 (weakA [some 4]))
    ·try refine sA ?_
     cases hs3
     cases hk3
     try dsimp only at h
     try refine sA ?_
     refine Bs_if h (fun h hc21 => ?_) (fun h hc21 => ?_)
     ·try refine sA ?_
      obtain ⟨c211,hr22,h⟩ := bind_ok h
      refine Cl_sA (zM hr22) ?_
      try refine sA ?_
      obtain ⟨hp23,h⟩ := guard_some h
      try refine sA ?_
      try refine andA ?_
      obtain rfl:=Option.some.inj h
      refine ends_pack 3 ?_
      try refine sA ?_
      refine ends_frz 3 ?_
      try refine sA ?_
      exact endsA ⟨[(4,(.lf true (.sl ((g194.c0 ++ [(⟨c211⟩ : BranchT)]).map eBranch))))],[],0,71⟩ []
     ·try refine sA ?_
      obtain rfl:=Option.some.inj h
      refine ends_frz 0 ?_
      try refine sA ?_
      exact endsA ⟨[(4,(.lf true (.sl (g194.c0.map eBranch))))],[],0,71⟩ []
theorem zhG {a0 : TellingsT} {a1 : TellingsT} {r : TellingsT} (h : zeb a0 a1 = some r) : Fn Tryz.prog 131 [(.ag [(.lf true (.sl (a0.Branches.map eBranch)))]),(.ag [(.lf true (.sl (a1.Branches.map eBranch)))])] [] 0 (.ag [(.os 0 1 0 r.Branches.length r.Branches.length false)]) [(0,some (true,.deep [.sl [.sc,.sc,.sc,.sc]] (r.Branches.map eBranch)))] 2 := by
 unfold zeb at h
 refine fn_code tab_ok mixed [(1000,[(2,0),(3,0),(4,0)]),(1001,[(3,0),(4,0),(5,0)]),(1002,[(4,0),(5,0),(11,0),(12,0),(13,0)]),(1003,[(4,0),(5,0),(11,0),(12,0),(13,0),(14,0)]),(1004,[(4,0),(5,0),(7,0),(11,0),(12,0),(13,0)]),(1005,[(4,0),(5,0),(11,0),(12,0),(13,0)]),(1006,[(4,0),(5,0),(11,0),(12,0),(13,0)]),(1007,[(4,0)])] Tryz.func131 rfl rfl (by simp [Tryz.f131]) (by kernel_rfl) ?_
 simp only [Tryz.f131]
 refine sA ?_
 obtain ⟨y214,hl1,h⟩ := bind_ok h
 refine W_loopP (fun g157 : zd5 => ⟨[(4,(.pb 0 0)),(5,(.lf true (.sl (g157.t5.map eBranch)))),(11,(.lf true (.sl (a1.Branches.map eBranch)))),(12,(I ((a1.Branches.length : Nat) : Int))),(13,(I g157.t13))],[(0,some (true,.box [.nl]))],1,25⟩) (zbN a1) _ _ hl1 (weakA [some 2]) ?_
 ·intro n1 g157 z1 hs1 hk1
  unfold zbN at hs1
  try dsimp only at hs1
  refine sA ?_
  refine Bs_if hs1 (fun hs1 hc2 => ?_) (fun hs1 hc2 => ?_)
  ·try refine sA ?_
   obtain ⟨hp3,hs1⟩ := guard_some hs1
   have hn3 : g157.t13.toNat < a1.Branches.length := by first | omega | (simp only [List.length_set,List.length_append,List.length_replicate,List.length_map]; omega)
   try refine sA ?_
   try refine andA ?_
   obtain ⟨c213,hr4,hs1⟩ := bind_ok hs1
   refine Cl_sA (zh1 hr4) ?_
   try refine sA ?_
   cases hs1
   exact X_backP hk1 (weakA [some 0])
  ·try refine sA ?_
   cases hs1
   cases hk1
   try dsimp only at h
   try refine sA ?_
   obtain ⟨c216,hr5,h⟩ := bind_ok h
   refine Cl_sA (zfa hr5) ?_
   try refine sA ?_
   obtain rfl:=Option.some.inj h
   exact endsA ⟨[(4,(.pb 1 0))],[(0,some (true,.deep [.sl [.sc,.sc,.sc,.sc]] (c216.Branches.map eBranch))),(1,some (true,.box [(.os 0 1 0 c216.Branches.length c216.Branches.length false)]))],2,25⟩ [some 1,some 0]
theorem zfq {a0 : TellingsT} {a1 : TellingsT} {r : (TellingsT × Bool)} (h : zba a0 a1 = some r) : Fn Tryz.prog 57 [(.ag [(.lf true (.sl (a0.Branches.map eBranch)))]),(.ag [(.lf true (.sl (a1.Branches.map eBranch)))])] [] 0 (.tu [(.ag [(.os 0 1 0 r.1.Branches.length r.1.Branches.length false)]),(B r.2)]) [(0,some (true,.deep [.sl [.sc,.sc,.sc,.sc]] (r.1.Branches.map eBranch)))] 2 := by
 unfold zba at h
 refine fn_code tab_ok mixed [(1000,[(2,0),(3,0),(4,0)]),(1001,[(2,0),(3,0),(4,0),(14,0)]),(1002,[(4,0),(5,0)]),(1003,[(4,0),(6,0)]),(1004,[(4,0),(6,0),(21,0)]),(1005,[(4,0),(5,0)]),(1006,[(4,0),(5,0)]),(4001,[])] Tryz.func57 rfl rfl (by simp [Tryz.f57]) (by kernel_rfl) ?_
 simp only [Tryz.f57]
 refine sA ?_
 obtain ⟨p156,hq1,h⟩ := bind_ok h
 refine Sq_cut (fun s2 => s2 = ⟨[(2,(.pb 0 0)),(3,(.pb 1 0)),(4,(.pb 2 0)),(14,(B p156.t14))],[(0,some (true,.box [(.lf true (.sl (a0.Branches.map eBranch)))])),(1,some (true,.box [(.lf true (.sl (a1.Branches.map eBranch)))])),(2,some (true,.box [.nl]))],3,24⟩) ?_ ?_
 ·try refine sA ?_
  obtain ⟨c154,hr2,hq1⟩ := bind_ok hq1
  refine Cl_sA (zcZ hr2) ?_
  try refine sA ?_
  refine Sp_if hq1 (fun hq1 hc3 => ?_) (fun hq1 hc3 => ?_)
  ·try refine sA ?_
   cases hq1
   exact X_cut rfl (weakA [some 0,some 1,some 2])
  ·try refine sA ?_
   obtain ⟨c155,hr4,hq1⟩ := bind_ok hq1
   refine Cl_sA (zcZ hr4) ?_
   try refine sA ?_
   cases hq1
   exact X_cut rfl (weakA [some 0,some 1,some 2])
 ·intro s2 hJ; subst hJ
  try dsimp only at h
  try refine sA ?_
  refine Bs_if h (fun h hc5 => ?_) (fun h hc5 => ?_)
  ·try refine sA ?_
   obtain rfl:=Option.some.inj h
   exact endsA ⟨[(4,(.pb 1 0)),(5,(B false))],[(0,some (true,.deep [.sl [.sc,.sc,.sc,.sc]] (([] : List BranchT).map eBranch))),(1,some (true,.box [(.os 0 1 0 (([] : List BranchT).length) (([] : List BranchT).length) false)]))],2,24⟩ [none,some 2]
  ·try refine sA ?_
   obtain ⟨c217,hr6,h⟩ := bind_ok h
   refine Cl_sA (zhG hr6) ?_
   try refine sA ?_
   obtain ⟨c218,hr7,h⟩ := bind_ok h
   refine Cl_sA (zcZ hr7) ?_
   try refine sA ?_
   refine Bs_if h (fun h hc8 => ?_) (fun h hc8 => ?_)
   ·try refine sA ?_
    obtain rfl:=Option.some.inj h
    exact endsA ⟨[(4,(.pb 1 0)),(5,(B false))],[(0,some (true,.deep [.sl [.sc,.sc,.sc,.sc]] (([] : List BranchT).map eBranch))),(1,some (true,.box [(.os 0 1 0 (([] : List BranchT).length) (([] : List BranchT).length) false)]))],2,24⟩ [none,some 2]
   ·try refine sA ?_
    obtain rfl:=Option.some.inj h
    exact endsA ⟨[(4,(.pb 1 0)),(5,(B true))],[(0,some (true,.deep [.sl [.sc,.sc,.sc,.sc]] (c217.Branches.map eBranch))),(1,some (true,.box [(.os 0 1 0 c217.Branches.length c217.Branches.length false)]))],2,24⟩ [some 3,some 2]
theorem zhH {a0 : RegionT} {a1 : WordT} {r : (RegionT × Bool)} (h : zec a0 a1 = some r) : Fn Tryz.prog 10 [(.ag [(I a0.Id),(I a0.Version),(.lf true (.sl (a0.Tellings.Branches.map eBranch)))]),(.ag [(I a1.Version),(.lf true (.sl (a1.Tellings.Branches.map eBranch)))])] [] 0 (.tu [(.ag [(I r.1.Id),(I r.1.Version),(.os 0 1 0 r.1.Tellings.Branches.length r.1.Tellings.Branches.length false)]),(B r.2)]) [(0,some (true,.deep [.sl [.sc,.sc,.sc,.sc]] (r.1.Tellings.Branches.map eBranch)))] 2 := by
 unfold zec at h
 refine fn_code tab_ok mixed [(1000,[(2,0),(3,0),(4,0)]),(1001,[(2,0),(3,0),(4,0),(19,0)]),(1002,[(4,0),(5,0)]),(1003,[(2,0),(3,0),(4,0),(6,0),(7,0)]),(1004,[(2,0),(3,0),(4,0),(6,0),(30,0)]),(1005,[(4,0),(5,0)]),(1006,[(2,0),(3,0),(4,0),(6,0),(36,0)]),(1007,[(2,0),(4,0),(6,0)]),(1008,[(2,0),(4,0)]),(1009,[(4,0),(5,0)]),(2036,[]),(4001,[])] Tryz.func10 rfl rfl (by simp [Tryz.f10]) (by kernel_rfl) ?_
 simp only [Tryz.f10]
 refine sA ?_
 obtain ⟨p153,hq1,h⟩ := bind_ok h
 refine Sq_cut (fun s2 => s2 = ⟨[(2,(.pb 0 0)),(3,(.pb 1 0)),(4,(.pb 2 0)),(19,(B p153.t19))],[(0,some (true,.box [(I a0.Id),(I a0.Version),(.lf true (.sl (a0.Tellings.Branches.map eBranch)))])),(1,some (true,.box [(I a1.Version),(.lf true (.sl (a1.Tellings.Branches.map eBranch)))])),(2,some (true,.box [(I 0),(I 0),.nl]))],3,43⟩) ?_ ?_
 ·try refine sA ?_
  obtain ⟨c151,hr2,hq1⟩ := bind_ok hq1
  refine Cl_sA (zaj hr2) ?_
  try refine sA ?_
  refine Sp_if hq1 (fun hq1 hc3 => ?_) (fun hq1 hc3 => ?_)
  ·try refine sA ?_
   cases hq1
   exact X_cut rfl (weakA [some 0,some 1,some 2])
  ·try refine sA ?_
   obtain ⟨c152,hr4,hq1⟩ := bind_ok hq1
   refine Cl_sA (zaj hr4) ?_
   try refine sA ?_
   cases hq1
   exact X_cut rfl (weakA [some 0,some 1,some 2])
 ·intro s2 hJ; subst hJ
  try dsimp only at h
  try refine sA ?_
  refine Bs_if h (fun h hc5 => ?_) (fun h hc5 => ?_)
  ·try refine sA ?_
   obtain rfl:=Option.some.inj h
   exact endsA ⟨[(4,(.pb 1 0)),(5,(B false))],[(0,some (true,.deep [.sl [.sc,.sc,.sc,.sc]] (([] : List BranchT).map eBranch))),(1,some (true,.box [(I 0),(I 0),(.os 0 1 0 (([] : List BranchT).length) (([] : List BranchT).length) false)]))],2,43⟩ [none,some 2]
  ·try refine sA ?_
   obtain ⟨c219,hr6,h⟩ := bind_ok h
   refine Cl_sA (zfq hr6) ?_
   try refine sA ?_
   refine Bs_if h (fun h hc7 => ?_) (fun h hc7 => ?_)
   ·try refine sA ?_
    obtain rfl:=Option.some.inj h
    exact endsA ⟨[(4,(.pb 1 0)),(5,(B false))],[(0,some (true,.deep [.sl [.sc,.sc,.sc,.sc]] (([] : List BranchT).map eBranch))),(1,some (true,.box [(I 0),(I 0),(.os 0 1 0 (([] : List BranchT).length) (([] : List BranchT).length) false)]))],2,43⟩ [none,some 2]
   ·try refine sA ?_
    obtain ⟨p220,hq8,h⟩ := bind_ok h
    refine Sq_cut (fun s2 => s2 = ⟨[(2,(.pb 0 0)),(4,(.pb 1 0)),(6,(.pb 2 0))],[(0,some (true,.box [(I a0.Id),(I p220.b0_1),(.lf true (.sl (a0.Tellings.Branches.map eBranch)))])),(1,some (true,.box [(I 0),(I 0),.nl])),(2,some (true,.box [(.os 3 1 0 c219.1.Branches.length c219.1.Branches.length false)])),(3,some (true,.deep [.sl [.sc,.sc,.sc,.sc]] (c219.1.Branches.map eBranch)))],4,43⟩) ?_ ?_
    ·try refine sA ?_
     refine Bs_if hq8 (fun hq8 hc9 => ?_) (fun hq8 hc9 => ?_)
     ·try refine sA ?_
      cases hq8
      exact X_cut rfl (weakA [some 0,some 2,some 5,some 3])
     ·try refine sA ?_
      cases hq8
      exact X_cut rfl (weakA [some 0,some 2,some 5,some 3])
    ·intro s2 hJ; subst hJ
     try dsimp only at h
     try refine sA ?_
     obtain rfl:=Option.some.inj h
     exact endsA ⟨[(4,(.pb 1 0)),(5,(B true))],[(0,some (true,.deep [.sl [.sc,.sc,.sc,.sc]] (c219.1.Branches.map eBranch))),(1,some (true,.box [(I a0.Id),(I p220.b0_1),(.os 0 1 0 c219.1.Branches.length c219.1.Branches.length false)]))],2,43⟩ [some 3,some 1]
theorem zdX {a0 : l1CurT} {a1 : (List Int)} {m1 : Nat} {x1 : Bool} {r : (Int × l1CurT)} (h : zak a0 a1 = some r) : Fn Tryz.prog 118 [(.pb 0 0),(.os 1 1 0 a1.length m1 x1)] [(0,some (false,.box [(.lf true (.sl (a0.code.map eU8))),(I a0.at_),(.lf false (.sc (.int .u64 a0.seed)))])),(1,some (false,.arr true 1 (a1.map eI)))] 2 (I r.1) [(0,some (false,.box [(.lf true (.sl (r.2.code.map eU8))),(I r.2.at_),(.lf false (.sc (.int .u64 r.2.seed)))])),(1,some (false,.arr false 1 (a1.map eI)))] 2 := by
 unfold zak at h
 refine fn_code tab_ok mixed [] Tryz.func118 rfl rfl (by simp [Tryz.f118]) (by kernel_rfl) ?_
 simp only [Tryz.f118]
 refine sA ?_
 obtain ⟨c222,hr1,h⟩ := bind_ok h
 refine Cl_hA [0] (zZ hr1) ?_
 try refine sA ?_
 obtain ⟨hp2,h⟩ := guard_some h
 have hn2 : c222.1.toNat < a1.length := by first | omega | (simp only [List.length_set,List.length_append,List.length_replicate,List.length_map]; omega)
 try refine sA ?_
 try refine andA ?_
 try refine andB ?_
 try refine sA ?_
 obtain rfl:=Option.some.inj h
 exact endsA ⟨[(4,(I (nth a1 c222.1.toNat)))],[(0,some (false,.box [(.lf true (.sl (c222.2.code.map eU8))),(I c222.2.at_),(.lf false (.sc (.int .u64 c222.2.seed)))])),(1,some (false,.arr false 1 (a1.map eI)))],2,12⟩ [some 0,some 1]
theorem zgX {a0 : l1CurT} {a1 : (List ByteArray)} {m1 : Nat} {x1 : Bool} {r : (ByteArray × l1CurT)} (h : zcG a0 a1 = some r) : Fn Tryz.prog 171 [(.pb 0 0),(.os 1 1 0 a1.length m1 x1)] [(0,some (false,.box [(.lf true (.sl (a0.code.map eU8))),(I a0.at_),(.lf false (.sc (.int .u64 a0.seed)))])),(1,some (false,.arr true 1 (a1.map eS)))] 2 (.lf false (.sc (.string r.1))) [(0,some (false,.box [(.lf true (.sl (r.2.code.map eU8))),(I r.2.at_),(.lf false (.sc (.int .u64 r.2.seed)))])),(1,some (false,.arr false 1 (a1.map eS)))] 2 := by
 unfold zcG at h
 refine fn_code tab_ok mixed [] Tryz.func171 rfl rfl (by simp [Tryz.f171]) (by kernel_rfl) ?_
 simp only [Tryz.f171]
 refine sA ?_
 obtain ⟨c226,hr1,h⟩ := bind_ok h
 refine Cl_hA [0] (zZ hr1) ?_
 try refine sA ?_
 obtain ⟨hp2,h⟩ := guard_some h
 have hn2 : c226.1.toNat < a1.length := by first | omega | (simp only [List.length_set,List.length_append,List.length_replicate,List.length_map]; omega)
 try refine sA ?_
 try refine andA ?_
 try refine andB ?_
 try refine sA ?_
 obtain rfl:=Option.some.inj h
 exact endsA ⟨[(4,(.lf false (.sc (.string (nth a1 c226.1.toNat)))))],[(0,some (false,.box [(.lf true (.sl (c226.2.code.map eU8))),(I c226.2.at_),(.lf false (.sc (.int .u64 c226.2.seed)))])),(1,some (false,.arr false 1 (a1.map eS)))],2,12⟩ [some 0,some 1]
theorem zeK {a0 : l1CurT} {r : (ByteArray × l1CurT)} (h : zag a0 = some r) : Fn Tryz.prog 120 [(.pb 0 0)] [(0,some (false,.box [(.lf true (.sl (a0.code.map eU8))),(I a0.at_),(.lf false (.sc (.int .u64 a0.seed)))]))] 1 (.lf false (.sc (.string r.1))) [(0,some (false,.box [(.lf true (.sl (r.2.code.map eU8))),(I r.2.at_),(.lf false (.sc (.int .u64 r.2.seed)))]))] 1 := by
 unfold zag at h
 refine fn_code tab_ok mixed [] Tryz.func120 rfl rfl (by simp [Tryz.f120]) (by kernel_rfl) ?_
 simp only [Tryz.f120]
 refine sA ?_
 obtain ⟨c227,hr1,h⟩ := bind_ok h
 refine Cl_hA [0,1] (zgX hr1) ?_
 try refine sA ?_
 obtain rfl:=Option.some.inj h
 exact endsA ⟨[(2,(.lf false (.sc (.string c227.1))))],[(0,some (false,.box [(.lf true (.sl (c227.2.code.map eU8))),(I c227.2.at_),(.lf false (.sc (.int .u64 c227.2.seed)))]))],1,6⟩ [some 0]
theorem zfZ {a0 : RegionT} {r : Bool} (h : zcB a0 = some r) : Fn Tryz.prog 68 [(.ag [(I a0.Id),(I a0.Version),(.lf true (.sl (a0.Tellings.Branches.map eBranch)))])] [] 0 (B r) [] 0 := by
 unfold zcB at h
 refine fn_code tab_ok mixed [] Tryz.func68 rfl rfl (by simp [Tryz.f68]) (by kernel_rfl) ?_
 simp only [Tryz.f68]
 refine sA ?_
 obtain rfl:=Option.some.inj h
 exact endsA ⟨[(2,(B ((a0.Version.tmod 10) == a0.Id)))],[],0,9⟩ []
theorem zfN {a0 : (List BranchT)} {r : Int} (h : zb7 a0 = some r) : Fn Tryz.prog 184 [(.lf true (.sl (a0.map eBranch)))] [] 0 (I r) [] 0 := by
 unfold zb7 at h
 refine fn_code tab_ok mixed [(1000,[(0,0)]),(1001,[(0,0),(3,0)]),(1002,[(0,0),(3,0),(9,0),(10,0),(11,0)]),(1003,[(0,0),(3,0),(9,0),(10,0),(11,0),(12,0)]),(1004,[(0,0),(3,0),(4,0),(5,0),(9,0),(10,0),(11,0)]),(1005,[(0,0),(3,0),(4,0),(5,0),(9,0),(10,0),(11,0),(17,0)]),(1006,[(0,0),(3,0),(9,0),(10,0),(11,0)]),(1007,[(0,0),(3,0),(4,0),(5,0),(6,0),(9,0),(10,0),(11,0)]),(1008,[(0,0),(3,0),(4,0),(5,0),(6,0),(7,0),(9,0),(10,0),(11,0)]),(1009,[(0,0),(3,0),(4,0),(5,0),(6,0),(7,0),(8,0),(9,0),(10,0),(11,0)]),(1010,[(0,0),(3,0),(4,0),(9,0),(10,0),(11,0),(55,0)]),(1011,[(0,0),(3,0),(9,0),(10,0),(11,0)]),(1012,[(0,0),(3,0),(9,0),(10,0),(11,0)]),(1013,[(2,0)]),(4010,[])] Tryz.func184 rfl rfl (by simp [Tryz.f184]) (by kernel_rfl) ?_
 simp only [Tryz.f184]
 refine sA ?_
 obtain ⟨y237,hl1,h⟩ := bind_ok h
 refine W_loopP (fun g235 : zez => ⟨[(0,(.lf true (.sl (a0.map eBranch)))),(3,(I g235.t3)),(9,(.lf true (.sl (a0.map eBranch)))),(10,(I ((a0.length : Nat) : Int))),(11,(I g235.t11))],[],0,59⟩) (zH a0) _ _ hl1 (weakA []) ?_
 ·intro n1 g235 z1 hs1 hk1
  unfold zH at hs1
  try dsimp only at hs1
  refine sA ?_
  refine Bs_if hs1 (fun hs1 hc2 => ?_) (fun hs1 hc2 => ?_)
  ·try refine sA ?_
   obtain ⟨hp3,hs1⟩ := guard_some hs1
   have hn3 : g235.t11.toNat < a0.length := by first | omega | (simp only [List.length_set,List.length_append,List.length_replicate,List.length_map]; omega)
   try refine sA ?_
   try refine andA ?_
   refine Bs_if hs1 (fun hs1 hc4 => ?_) (fun hs1 hc4 => ?_)
   ·try refine sA ?_
    cases hs1
    exact X_backP hk1 (weakA [])
   ·try refine sA ?_
    obtain ⟨hp5,hs1⟩ := guard_some hs1
    have hn5 : g235.t3.toNat < a0.length := by first | omega | (simp only [List.length_set,List.length_append,List.length_replicate,List.length_map]; omega)
    try refine sA ?_
    try refine andA ?_
    obtain ⟨hp6,hs1⟩ := guard_some hs1
    have hn6 : (wI (((((nth a0 g235.t11.toNat).Events).length : Nat) : Int) - 1)).toNat < ((nth a0 g235.t11.toNat).Events).length := by first | omega | (simp only [List.length_set,List.length_append,List.length_replicate,List.length_map]; omega)
    try refine sA ?_
    try refine andA ?_
    obtain ⟨hp7,hs1⟩ := guard_some hs1
    have hn7 : (wI (((((nth a0 g235.t3.toNat).Events).length : Nat) : Int) - 1)).toNat < ((nth a0 g235.t3.toNat).Events).length := by first | omega | (simp only [List.length_set,List.length_append,List.length_replicate,List.length_map]; omega)
    try refine sA ?_
    try refine andA ?_
    obtain ⟨p236,hq8,hs1⟩ := bind_ok hs1
    refine Sq_cut (fun s2 => s2 = ⟨[(0,(.lf true (.sl (a0.map eBranch)))),(3,(I g235.t3)),(4,(I g235.t11)),(9,(.lf true (.sl (a0.map eBranch)))),(10,(I ((a0.length : Nat) : Int))),(11,(I g235.t11)),(55,(B p236.t55))],[],0,59⟩) ?_ ?_
    ·try refine sA ?_
     refine Sp_if hq8 (fun hq8 hc9 => ?_) (fun hq8 hc9 => ?_)
     ·try refine sA ?_
      cases hq8
      exact X_cut rfl (weakA [])
     ·try refine sA ?_
      refine Sp_if hq8 (fun hq8 hc10 => ?_) (fun hq8 hc10 => ?_)
      ·try refine sA ?_
       cases hq8
       exact X_cut rfl (weakA [])
      ·try refine sA ?_
       cases hq8
       exact X_cut rfl (weakA [])
    ·intro s2 hJ; subst hJ
     try dsimp only at hs1
     try refine sA ?_
     refine Bs_if hs1 (fun hs1 hc11 => ?_) (fun hs1 hc11 => ?_)
     ·try refine sA ?_
      cases hs1
      exact X_backP hk1 (weakA [])
     ·try refine sA ?_
      cases hs1
      exact X_backP hk1 (weakA [])
  ·try refine sA ?_
   cases hs1
   cases hk1
   try dsimp only at h
   try refine sA ?_
   obtain rfl:=Option.some.inj h
   exact endsA ⟨[(2,(I g235.t3))],[],0,59⟩ []
theorem zhd {a0 : RegionT} {r : (List EventT)} (h : zdk a0 = some r) : Fn Tryz.prog 188 [(.ag [(I a0.Id),(I a0.Version),(.lf true (.sl (a0.Tellings.Branches.map eBranch)))])] [] 0 (.lf true (.sl (r.map eEvent))) [] 0 := by
 unfold zdk at h
 refine fn_code tab_ok mixed [(1000,[(1,0)]),(1001,[(1,0),(3,0)]),(1002,[(1,0),(3,0),(9,0)]),(1003,[(2,0)]),(1004,[(2,0)])] Tryz.func188 rfl rfl (by simp [Tryz.f188]) (by kernel_rfl) ?_
 simp only [Tryz.f188]
 refine sA ?_
 obtain ⟨c238,hr1,h⟩ := bind_ok h
 refine Cl_sA (zfN hr1) ?_
 try refine sA ?_
 refine Bs_if h (fun h hc2 => ?_) (fun h hc2 => ?_)
 ·try refine sA ?_
  obtain rfl:=Option.some.inj h
  exact endsA ⟨[(2,(.lf true (.sl (([]).map eEvent))))],[],0,17⟩ []
 ·try refine sA ?_
  obtain ⟨hp3,h⟩ := guard_some h
  have hn3 : c238.toNat < a0.Tellings.Branches.length := by first | omega | (simp only [List.length_set,List.length_append,List.length_replicate,List.length_map]; omega)
  try refine sA ?_
  try refine andA ?_
  obtain rfl:=Option.some.inj h
  exact endsA ⟨[(2,(.lf true (.sl (((nth a0.Tellings.Branches c238.toNat).Events).map eEvent))))],[],0,17⟩ []
theorem zhJ {a0 : (List BranchT)} {a1 : (List EventT)} {m0 : Nat} {x0 : Bool} {r : (List BranchT)} (h : zda a0 a1 = some r) : Fn Tryz.prog 179 [(.lf true (.sl (a0.map eBranch))),(.os 0 4 0 a1.length m0 x0)] [(0,some (false,.arr true 4 (a1.map eEvent)))] 1 (.lf true (.sl (r.map eBranch))) [(0,some (false,.arr false 4 (a1.map eEvent)))] 1 := by
 unfold zda at h
 refine fn_code tab_ok mixed [(1000,[(0,0),(1,0)]),(1001,[(0,0),(1,0),(5,0)]),(1002,[(0,0),(1,0),(5,0),(6,0)]),(1003,[(0,0),(1,0),(5,0),(6,0),(13,0),(14,0),(15,0)]),(1004,[(0,0),(1,0),(5,0),(6,0),(13,0),(14,0),(15,0),(16,0)]),(1005,[(0,0),(1,0),(5,0),(6,0),(8,0),(13,0),(14,0),(15,0)]),(1006,[(0,0),(1,0),(5,0),(6,0),(13,0),(14,0),(15,0),(22,0)]),(1007,[(4,0)]),(1008,[(0,0),(1,0),(5,0),(6,0),(13,0),(14,0),(15,0)]),(1009,[(1,0),(5,0),(6,0),(25,0),(26,0),(27,0)]),(1010,[(1,0),(5,0),(6,0),(25,0),(26,0),(27,0),(28,0)]),(1011,[(1,0),(5,0),(6,0),(10,0),(25,0),(26,0),(27,0)]),(1012,[(1,0),(5,0),(6,0),(10,0),(25,0),(26,0),(27,0),(34,0)]),(1013,[(1,0),(5,0),(6,0),(10,0),(11,0),(25,0),(26,0),(27,0)]),(1014,[(1,0),(5,0),(6,0),(10,0),(25,0),(26,0),(27,0),(47,0)]),(1015,[(1,0),(5,0),(10,0),(25,0),(26,0),(27,0)]),(1016,[(1,0),(5,0),(6,0),(10,0),(25,0),(26,0),(27,0)]),(1017,[(1,0),(5,0),(6,0),(25,0),(26,0),(27,0)]),(1018,[(1,0),(5,0),(6,0),(25,0),(26,0),(27,0)]),(1019,[(1,0),(5,0),(63,0)]),(1020,[(5,0)]),(1021,[(4,0)]),(4014,[]),(5017,[])] Tryz.func179 rfl rfl (by simp [Tryz.f179]) (by kernel_rfl) ?_
 simp only [Tryz.f179]
 refine sA ?_
 obtain ⟨y248,hl1,h⟩ := bind_ok h
 refine W_loopP (fun g245 : zd6 => ⟨[(0,(.lf true (.sl (a0.map eBranch)))),(1,(.os 0 4 0 a1.length m0 x0)),(5,.nl),(6,(B false)),(13,(.lf true (.sl (a0.map eBranch)))),(14,(I ((a0.length : Nat) : Int))),(15,(I g245.t15))],[(0,some (false,.arr true 4 (a1.map eEvent)))],1,71⟩) (za0 a0 a1) _ _ hl1 (weakA [some 0]) ?_
 ·intro n1 g245 z1 hs1 hk1
  unfold za0 at hs1
  try dsimp only at hs1
  refine sA ?_
  refine Bs_if hs1 (fun hs1 hc2 => ?_) (fun hs1 hc2 => ?_)
  ·try refine sA ?_
   obtain ⟨hp3,hs1⟩ := guard_some hs1
   have hn3 : g245.t15.toNat < a0.length := by first | omega | (simp only [List.length_set,List.length_append,List.length_replicate,List.length_map]; omega)
   try refine sA ?_
   try refine andA ?_
   obtain ⟨c247,hr4,hs1⟩ := bind_ok hs1
   refine Cl_sA (zcP hr4) ?_
   try refine sA ?_
   refine Bs_if hs1 (fun hs1 hc5 => ?_) (fun hs1 hc5 => ?_)
   ·try refine sA ?_
    cases hs1
    cases hk1
    try dsimp only at h
    try refine sA ?_
    obtain rfl:=Option.some.inj h
    exact endsA ⟨[(4,(.lf true (.sl (a0.map eBranch))))],[(0,some (false,.arr false 4 (a1.map eEvent)))],1,71⟩ [some 0]
   ·try refine sA ?_
    cases hs1
    exact X_backP hk1 (weakA [some 0])
  ·try refine sA ?_
   cases hs1
   cases hk1
   try dsimp only at h
   try refine sA ?_
   obtain ⟨y284,hl6,h⟩ := bind_ok h
   refine W_loopP (fun g269 : zfd => ⟨[(1,(.os 0 4 0 a1.length m0 x0)),(5,(.os 1 1 0 g269.c1.length g269.c1.length false)),(6,(B g269.t6)),(25,(.lf true (.sl (a0.map eBranch)))),(26,(I ((a0.length : Nat) : Int))),(27,(I g269.t27))],[(0,some (false,.arr true 4 (a1.map eEvent))),(1,some (true,.deep [.sl [.sc,.sc,.sc,.sc]] (g269.c1.map eBranch)))],2,71⟩) (_) _ _ hl6 (weakA [some 0,none]) ?_
   ·intro n3 g269 z3 hs3 hk3
    unfold zbO at hs3
    try dsimp only at hs3
    refine sA ?_
    refine Bs_if hs3 (fun hs3 hc7 => ?_) (fun hs3 hc7 => ?_)
    ·try refine sA ?_
     obtain ⟨hp8,hs3⟩ := guard_some hs3
     have hn8 : g269.t27.toNat < a0.length := by first | omega | (simp only [List.length_set,List.length_append,List.length_replicate,List.length_map]; omega)
     try refine sA ?_
     try refine andA ?_
     obtain ⟨c277,hr9,hs3⟩ := bind_ok hs3
     refine Cl_sA (zcP hr9) ?_
     try refine sA ?_
     refine Bs_if hs3 (fun hs3 hc10 => ?_) (fun hs3 hc10 => ?_)
     ·try refine sA ?_
      cases hs3
      exact X_backP hk3 (weakA [some 0,some 1])
     ·try refine sA ?_
      obtain ⟨c278,hr11,hs3⟩ := bind_ok hs3
      refine Cl_sA (zdF hr11) ?_
      try refine sA ?_
      obtain ⟨p279,hq12,hs3⟩ := bind_ok hs3
      refine Sq_cut (fun s2 => s2 = ⟨[(1,(.os 0 4 0 a1.length m0 x0)),(5,(.os 1 1 0 g269.c1.length g269.c1.length false)),(6,(B g269.t6)),(10,(.pb 2 0)),(25,(.lf true (.sl (a0.map eBranch)))),(26,(I ((a0.length : Nat) : Int))),(27,(I g269.t27)),(47,(B p279.t47))],[(0,some (false,.arr true 4 (a1.map eEvent))),(1,some (true,.deep [.sl [.sc,.sc,.sc,.sc]] (g269.c1.map eBranch))),(2,some (true,.box [(.lf true (.sl (((nth a0 g269.t27.toNat).Events).map eEvent)))]))],3,71⟩) ?_ ?_
      ·try refine sA ?_
       refine Sp_if hq12 (fun hq12 hc13 => ?_) (fun hq12 hc13 => ?_)
       ·try refine sA ?_
        cases hq12
        exact X_cut rfl (weakA [some 0,some 1,some 2])
       ·try refine sA ?_
        cases hq12
        exact X_cut rfl (weakA [some 0,some 1,some 2])
      ·intro s2 hJ; subst hJ
       try dsimp only at hs3
       try refine sA ?_
       refine Bs_if hs3 (fun hs3 hc14 => ?_) (fun hs3 hc14 => ?_)
       ·try refine sA ?_
        obtain ⟨c280,hr15,hs3⟩ := bind_ok hs3
        refine Cl_sA (zM hr15) ?_
        try refine sA ?_
        obtain ⟨hp16,hs3⟩ := guard_some hs3
        try refine sA ?_
        try refine andA ?_
        refine Gh_pack 5 ?_
        try refine sA ?_
        obtain ⟨c282,hr17,hs3⟩ := bind_ok hs3
        refine Cl_sA (zM hr17) ?_
        try refine sA ?_
        obtain ⟨hp18,hs3⟩ := guard_some hs3
        try refine sA ?_
        try refine andA ?_
        cases hs3
        exact X_backP hk3 (packW 8 (weakA [some 0,some 8]))
       ·try refine sA ?_
        refine Gh_id ?_
        try refine sA ?_
        obtain ⟨c283,hr19,hs3⟩ := bind_ok hs3
        refine Cl_sA (zM hr19) ?_
        try refine sA ?_
        obtain ⟨hp20,hs3⟩ := guard_some hs3
        try refine sA ?_
        try refine andA ?_
        cases hs3
        exact X_backP hk3 (packW 5 (weakA [some 0,some 5]))
    ·try refine sA ?_
     cases hs3
     cases hk3
     try dsimp only at h
     try refine sA ?_
     refine Bs_if h (fun h hc21 => ?_) (fun h hc21 => ?_)
     ·try refine sA ?_
      obtain ⟨c286,hr22,h⟩ := bind_ok h
      refine Cl_sA (zM hr22) ?_
      try refine sA ?_
      obtain ⟨hp23,h⟩ := guard_some h
      try refine sA ?_
      try refine andA ?_
      obtain rfl:=Option.some.inj h
      refine ends_pack 4 ?_
      try refine sA ?_
      refine ends_frz 4 ?_
      try refine sA ?_
      exact endsA ⟨[(4,(.lf true (.sl ((g269.c1 ++ [(⟨c286⟩ : BranchT)]).map eBranch))))],[(0,some (false,.arr false 4 (a1.map eEvent)))],1,71⟩ [some 0]
     ·try refine sA ?_
      obtain rfl:=Option.some.inj h
      refine ends_frz 1 ?_
      try refine sA ?_
      exact endsA ⟨[(4,(.lf true (.sl (g269.c1.map eBranch))))],[(0,some (false,.arr false 4 (a1.map eEvent)))],1,71⟩ [some 0]
theorem zgr {a0 : RegionT} {a1 : Int} {a2 : ByteArray} {r : (RegionT × Int)} (h : zcN a0 a1 a2 = some r) : Fn Tryz.prog 139 [(.ag [(I a0.Id),(I a0.Version),(.lf true (.sl (a0.Tellings.Branches.map eBranch)))]),(I a1),(.lf false (.sc (.string a2)))] [] 0 (.tu [(.ag [(I r.1.Id),(I r.1.Version),(.lf true (.sl (r.1.Tellings.Branches.map eBranch)))]),(I r.2)]) [] 1 := by
 unfold zcN at h
 refine fn_code tab_ok mixed [(15,[(2,4),(5,4),(2,6),(2,7),(6,6)]),(1000,[(1,0),(2,0),(3,0),(6,0)]),(1001,[(1,0),(2,0),(3,0),(6,0),(21,0)]),(1002,[(6,0),(7,0)]),(1003,[(1,0),(2,0),(3,0),(6,0),(25,0)]),(1004,[(6,0),(7,0)]),(1005,[(1,0),(2,0),(3,0),(6,0),(8,0)]),(1006,[(1,0),(2,0),(3,0),(6,0),(8,0),(9,0)]),(1007,[(1,0),(2,0),(3,0),(6,0),(8,0),(9,0),(42,0)]),(1008,[(6,0),(7,0)]),(1009,[(3,0),(6,0),(8,0),(9,0),(11,0)]),(1010,[(3,0),(6,0),(8,0),(11,0),(13,0)]),(1011,[(3,0),(6,0),(8,0),(11,0),(58,0)]),(1012,[(6,0),(7,0)]),(1013,[(3,0),(6,0),(8,0),(11,0),(62,0)]),(1014,[(6,0),(7,0)]),(1015,[(3,0),(6,0)]),(1016,[(6,0),(7,0)]),(4001,[]),(4007,[])] Tryz.func139 rfl rfl (by simp [Tryz.f139]) (by kernel_rfl) ?_
 simp only [Tryz.f139]
 refine sA ?_
 obtain ⟨p233,hq1,h⟩ := bind_ok h
 refine Sq_cut (fun s2 => s2 = ⟨[(1,(I a1)),(2,(.lf false (.sc (.string a2)))),(3,(.pb 0 0)),(6,(.pb 1 0)),(21,(B p233.t21))],[(0,some (true,.box [(I a0.Id),(I a0.Version),(.lf true (.sl (a0.Tellings.Branches.map eBranch)))])),(1,some (true,.box [(I 0),(I 0),.nl]))],2,77⟩) ?_ ?_
 ·try refine sA ?_
  obtain ⟨c231,hr2,hq1⟩ := bind_ok hq1
  refine Cl_sA (zaW hr2) ?_
  try refine sA ?_
  refine Sp_if hq1 (fun hq1 hc3 => ?_) (fun hq1 hc3 => ?_)
  ·try refine sA ?_
   cases hq1
   exact X_cut rfl (weakA [some 0,some 1])
  ·try refine sA ?_
   obtain ⟨c232,hr4,hq1⟩ := bind_ok hq1
   refine Cl_sA (zfF hr4) ?_
   try refine sA ?_
   cases hq1
   exact X_cut rfl (weakA [some 0,some 1])
 ·intro s2 hJ; subst hJ
  try dsimp only at h
  try refine sA ?_
  refine Bs_if h (fun h hc5 => ?_) (fun h hc5 => ?_)
  ·try refine sA ?_
   obtain rfl:=Option.some.inj h
   exact endsA ⟨[(6,(.pb 0 0)),(7,(I 1))],[(0,some (true,.box [(I a0.Id),(I a0.Version),(.lf true (.sl (a0.Tellings.Branches.map eBranch)))]))],1,77⟩ [some 1]
  ·try refine sA ?_
   obtain ⟨c234,hr6,h⟩ := bind_ok h
   refine Cl_sA (zfZ hr6) ?_
   try refine sA ?_
   refine Bs_if h (fun h hc7 => ?_) (fun h hc7 => ?_)
   ·try refine sA ?_
    obtain rfl:=Option.some.inj h
    exact endsA ⟨[(6,(.pb 0 0)),(7,(I 2))],[(0,some (true,.box [(I a0.Id),(I a0.Version),(.lf true (.sl (a0.Tellings.Branches.map eBranch)))]))],1,77⟩ [some 1]
   ·try refine sA ?_
    obtain ⟨c239,hr8,h⟩ := bind_ok h
    refine Cl_sA (zhd hr8) ?_
    try refine sA ?_
    obtain ⟨c240,hr9,h⟩ := bind_ok h
    refine Cl_sA (zeT hr9) ?_
    try refine sA ?_
    obtain ⟨p242,hq10,h⟩ := bind_ok h
    refine Sq_cut (fun s2 => s2 = ⟨[(1,(I a1)),(2,(.lf false (.sc (.string a2)))),(3,(.pb 0 0)),(6,(.pb 1 0)),(8,(.lf true (.sl (c239.map eEvent)))),(9,(.pb 2 0)),(42,(B p242.t42))],[(0,some (true,.box [(I a0.Id),(I a0.Version),(.lf true (.sl (a0.Tellings.Branches.map eBranch)))])),(1,some (true,.box [(I 0),(I 0),.nl])),(2,some (true,.box [(I c240.1.Status),(I c240.1.Next),(B c240.1.Cancel),(I c240.1.Done),(.lf true (.sl (c240.1.Signals.map eS))),(.lf true (.sl (c240.1.Timers.map eS)))]))],3,77⟩) ?_ ?_
    ·try refine sA ?_
     refine Sp_if hq10 (fun hq10 hc11 => ?_) (fun hq10 hc11 => ?_)
     ·try refine sA ?_
      obtain ⟨c241,hr12,hq10⟩ := bind_ok hq10
      refine Cl_sA (zeJ hr12) ?_
      try refine sA ?_
      cases hq10
      exact X_cut rfl (weakA [some 0,some 1,some 3])
     ·try refine sA ?_
      cases hq10
      exact X_cut rfl (weakA [some 0,some 1,some 3])
    ·intro s2 hJ; subst hJ
     try dsimp only at h
     try refine sA ?_
     refine Bs_if h (fun h hc13 => ?_) (fun h hc13 => ?_)
     ·try refine sA ?_
      obtain rfl:=Option.some.inj h
      exact endsA ⟨[(6,(.pb 0 0)),(7,(I 5))],[(0,some (true,.box [(I a0.Id),(I a0.Version),(.lf true (.sl (a0.Tellings.Branches.map eBranch)))]))],1,77⟩ [some 1]
     ·try refine sA ?_
      obtain ⟨c243,hr14,h⟩ := bind_ok h
      refine Cl_sA (zgg hr14) ?_
      try refine sA ?_
      refine Bs_if h (fun h hc15 => ?_) (fun h hc15 => ?_)
      ·try refine sA ?_
       obtain rfl:=Option.some.inj h
       exact endsA ⟨[(6,(.pb 0 0)),(7,(I 3))],[(0,some (true,.box [(I a0.Id),(I a0.Version),(.lf true (.sl (a0.Tellings.Branches.map eBranch)))]))],1,77⟩ [some 1]
      ·try refine sA ?_
       refine Bs_if h (fun h hc16 => ?_) (fun h hc16 => ?_)
       ·try refine sA ?_
        obtain rfl:=Option.some.inj h
        exact endsA ⟨[(6,(.pb 0 0)),(7,(I 4))],[(0,some (true,.box [(I a0.Id),(I a0.Version),(.lf true (.sl (a0.Tellings.Branches.map eBranch)))]))],1,77⟩ [some 1]
       ·try refine sA ?_
        obtain ⟨c244,hr17,h⟩ := bind_ok h
        refine Cl_sA (zM hr17) ?_
        try refine sA ?_
        obtain ⟨hp18,h⟩ := guard_some h
        try refine sA ?_
        try refine andA ?_
        obtain ⟨c287,hr19,h⟩ := bind_ok h
        refine Cl_hA [8] (zhJ hr19) ?_
        try refine sA ?_
        obtain ⟨c288,hr20,h⟩ := bind_ok h
        refine Cl_sA (zfa hr20) ?_
        try refine sA ?_
        obtain rfl:=Option.some.inj h
        refine ends_frz 9 ?_
        try refine sA ?_
        exact endsA ⟨[(6,(.pb 0 0)),(7,(I 0))],[(0,some (true,.box [(I a0.Id),(I a0.Version),(.lf true (.sl (c288.Branches.map eBranch)))]))],1,77⟩ [some 1]
theorem zgh {a0 : RegionT} {a1 : Int} {a2 : ByteArray} {r : (RegionT × Int)} (h : zdb a0 a1 a2 = some r) : Fn Tryz.prog 119 [(.ag [(I a0.Id),(I a0.Version),(.lf true (.sl (a0.Tellings.Branches.map eBranch)))]),(I a1),(.lf false (.sc (.string a2)))] [] 0 (.tu [(.ag [(I r.1.Id),(I r.1.Version),(.lf true (.sl (r.1.Tellings.Branches.map eBranch)))]),(I r.2)]) [] 1 := by
 unfold zdb at h
 refine fn_code tab_ok mixed [(1000,[(1,0),(2,0),(3,0),(6,0)]),(1001,[(1,0),(2,0),(3,0),(6,0),(10,0)]),(1002,[(6,0),(7,0)]),(1003,[(6,0),(7,0)])] Tryz.func119 rfl rfl (by simp [Tryz.f119]) (by kernel_rfl) ?_
 simp only [Tryz.f119]
 refine sA ?_
 obtain ⟨c229,hr1,h⟩ := bind_ok h
 refine Cl_sA (zaj hr1) ?_
 try refine sA ?_
 refine Bs_if h (fun h hc2 => ?_) (fun h hc2 => ?_)
 ·try refine sA ?_
  obtain rfl:=Option.some.inj h
  exact endsA ⟨[(6,(.pb 0 0)),(7,(I 1))],[(0,some (true,.box [(I 0),(I 0),(.lf true (.sl (([]).map eBranch)))]))],1,19⟩ [some 1]
 ·try refine sA ?_
  obtain ⟨c230,hr3,h⟩ := bind_ok h
  refine Cl_sA (zfp hr3) ?_
  try refine sA ?_
  obtain ⟨c289,hr4,h⟩ := bind_ok h
  refine Cl_sA (zgr hr4) ?_
  try refine sA ?_
  obtain rfl:=Option.some.inj h
  exact endsA ⟨[(6,(.pb 0 0)),(7,(I c289.2))],[(0,some (true,.box [(I c289.1.Id),(I c289.1.Version),(.lf true (.sl (c289.1.Tellings.Branches.map eBranch)))]))],1,19⟩ [some 1]
theorem zhe {a0 : RegionT} {a1 : WordT} {r : (RegionT × Bool)} (h : zds a0 a1 = some r) : Fn Tryz.prog 10 [(.ag [(I a0.Id),(I a0.Version),(.lf true (.sl (a0.Tellings.Branches.map eBranch)))]),(.ag [(I a1.Version),(.lf true (.sl (a1.Tellings.Branches.map eBranch)))])] [] 0 (.tu [(.ag [(I r.1.Id),(I r.1.Version),(.lf false (.sl (r.1.Tellings.Branches.map eBranch)))]),(B r.2)]) [] 1 := by
 unfold zds at h
 refine fn_code tab_ok mixed [(1000,[(2,0),(3,0),(4,0)]),(1001,[(2,0),(3,0),(4,0),(19,0)]),(1002,[(4,0),(5,0)]),(1003,[(2,0),(3,0),(4,0),(6,0),(7,0)]),(1004,[(2,0),(3,0),(4,0),(6,0),(30,0)]),(1005,[(4,0),(5,0)]),(1006,[(2,0),(3,0),(4,0),(6,0),(36,0)]),(1007,[(2,0),(4,0),(6,0)]),(1008,[(2,0),(4,0)]),(1009,[(4,0),(5,0)]),(2036,[]),(4001,[])] Tryz.func10 rfl rfl (by simp [Tryz.f10]) (by kernel_rfl) ?_
 simp only [Tryz.f10]
 refine sA ?_
 obtain ⟨p308,hq1,h⟩ := bind_ok h
 refine Sq_cut (fun s2 => s2 = ⟨[(2,(.pb 0 0)),(3,(.pb 1 0)),(4,(.pb 2 0)),(19,(B p308.t19))],[(0,some (true,.box [(I a0.Id),(I a0.Version),(.lf true (.sl (a0.Tellings.Branches.map eBranch)))])),(1,some (true,.box [(I a1.Version),(.lf true (.sl (a1.Tellings.Branches.map eBranch)))])),(2,some (true,.box [(I 0),(I 0),.nl]))],3,43⟩) ?_ ?_
 ·try refine sA ?_
  obtain ⟨c306,hr2,hq1⟩ := bind_ok hq1
  refine Cl_sA (zaj hr2) ?_
  try refine sA ?_
  refine Sp_if hq1 (fun hq1 hc3 => ?_) (fun hq1 hc3 => ?_)
  ·try refine sA ?_
   cases hq1
   exact X_cut rfl (weakA [some 0,some 1,some 2])
  ·try refine sA ?_
   obtain ⟨c307,hr4,hq1⟩ := bind_ok hq1
   refine Cl_sA (zaj hr4) ?_
   try refine sA ?_
   cases hq1
   exact X_cut rfl (weakA [some 0,some 1,some 2])
 ·intro s2 hJ; subst hJ
  try dsimp only at h
  try refine sA ?_
  refine Bs_if h (fun h hc5 => ?_) (fun h hc5 => ?_)
  ·try refine sA ?_
   obtain rfl:=Option.some.inj h
   exact endsA ⟨[(4,(.pb 0 0)),(5,(B false))],[(0,some (true,.box [(I 0),(I 0),(.lf false (.sl (([]).map eBranch)))]))],1,43⟩ [some 2]
  ·try refine sA ?_
   obtain ⟨c309,hr6,h⟩ := bind_ok h
   refine Cl_sA (zfq hr6) ?_
   try refine sA ?_
   refine Bs_if h (fun h hc7 => ?_) (fun h hc7 => ?_)
   ·try refine sA ?_
    obtain rfl:=Option.some.inj h
    exact endsA ⟨[(4,(.pb 0 0)),(5,(B false))],[(0,some (true,.box [(I 0),(I 0),(.lf false (.sl (([]).map eBranch)))]))],1,43⟩ [some 2]
   ·try refine sA ?_
    obtain ⟨p310,hq8,h⟩ := bind_ok h
    refine Sq_cut (fun s2 => s2 = ⟨[(2,(.pb 0 0)),(4,(.pb 1 0)),(6,(.pb 2 0))],[(0,some (true,.box [(I a0.Id),(I p310.b0_1),(.lf true (.sl (a0.Tellings.Branches.map eBranch)))])),(1,some (true,.box [(I 0),(I 0),.nl])),(2,some (true,.box [(.os 3 1 0 c309.1.Branches.length c309.1.Branches.length false)])),(3,some (true,.deep [.sl [.sc,.sc,.sc,.sc]] (c309.1.Branches.map eBranch)))],4,43⟩) ?_ ?_
    ·try refine sA ?_
     refine Bs_if hq8 (fun hq8 hc9 => ?_) (fun hq8 hc9 => ?_)
     ·try refine sA ?_
      cases hq8
      exact X_cut rfl (weakA [some 0,some 2,some 5,some 3])
     ·try refine sA ?_
      cases hq8
      exact X_cut rfl (weakA [some 0,some 2,some 5,some 3])
    ·intro s2 hJ; subst hJ
     try dsimp only at h
     try refine sA ?_
     obtain rfl:=Option.some.inj h
     refine ends_frz 3 ?_
     try refine sA ?_
     exact endsA ⟨[(4,(.pb 0 0)),(5,(B true))],[(0,some (true,.box [(I a0.Id),(I p310.b0_1),(.lf false (.sl (c309.1.Branches.map eBranch)))]))],1,43⟩ [some 1]
theorem zdY {a0 : l1CurT} {r : (RegionT × l1CurT)} (h : zam a0 = some r) : Fn Tryz.prog 49 [(.pb 0 0)] [(0,some (false,.box [(.lf true (.sl (a0.code.map eU8))),(I a0.at_),(.lf false (.sc (.int .u64 a0.seed)))]))] 1 (.ag [(I r.1.Id),(I r.1.Version),(.lf true (.sl (r.1.Tellings.Branches.map eBranch)))]) [(0,some (false,.box [(.lf true (.sl (r.2.code.map eU8))),(I r.2.at_),(.lf false (.sc (.int .u64 r.2.seed)))]))] 2 := by
 unfold zam at h
 refine fn_code tab_ok mixed [(13,[(0,3)]),(1000,[(0,0),(2,0)]),(1001,[(0,0),(2,0),(3,0)]),(1002,[(0,0),(2,0),(3,0),(5,0)]),(1003,[(0,0),(2,0),(3,0),(5,0),(7,0)]),(1004,[(0,0),(2,0),(3,0),(5,0),(7,0),(30,0)]),(1005,[(0,0),(2,0),(3,0),(5,0),(7,0)]),(1006,[(0,0),(2,0),(3,0),(5,0),(7,0),(8,0)]),(1007,[(0,0),(2,0),(3,0),(5,0),(7,0),(8,0),(35,0)]),(1008,[(0,0),(2,0),(3,0),(5,0),(7,0),(8,0)]),(1009,[(0,0),(2,0),(3,0),(5,0),(7,0),(8,0),(38,0)]),(1010,[(0,0),(2,0),(3,0),(5,0),(7,0),(8,0),(13,0)]),(1011,[(0,0),(2,0),(3,0),(5,0),(7,0),(8,0),(13,0),(48,0)]),(1012,[(0,0),(2,0),(3,0),(5,0),(7,0),(8,0),(13,0)]),(1013,[(0,0),(2,0),(3,0),(5,0),(7,0),(8,0)]),(1014,[(0,0),(2,0),(3,0),(5,0),(7,0),(8,0),(38,0),(57,0)]),(1015,[(0,0),(2,0),(3,0),(5,0),(7,0),(8,0)]),(1016,[(0,0),(2,0),(3,0),(5,0),(7,0),(8,0),(64,0)]),(1017,[(0,0),(2,0),(3,0),(5,0),(7,0),(8,0),(9,0)]),(1018,[(0,0),(2,0),(3,0),(5,0),(7,0),(8,0),(9,0),(75,0)]),(1019,[(0,0),(2,0),(3,0),(5,0),(7,0),(8,0),(9,0)]),(1020,[(0,0),(2,0),(3,0),(5,0),(7,0),(8,0),(11,0),(12,0)]),(1021,[(0,0),(2,0),(3,0),(5,0),(7,0),(8,0),(11,0),(87,0)]),(1022,[(0,0),(2,0),(3,0),(5,0),(7,0),(8,0)]),(1023,[(0,0),(2,0),(3,0),(5,0),(7,0),(8,0),(93,0)]),(1024,[(0,0),(2,0),(3,0),(5,0),(7,0)]),(1025,[(0,0),(2,0),(3,0),(5,0),(7,0)]),(1026,[(0,0),(2,0),(3,0),(97,0)]),(1027,[(0,0),(2,0),(3,0),(97,0),(98,0)]),(1028,[(2,0),(3,0)]),(1029,[(0,0),(2,0),(3,0),(104,0)]),(1030,[(2,0),(3,0)]),(1031,[(2,0)]),(2035,[]),(2075,[]),(3002,[]),(4011,[])] Tryz.func49 rfl rfl (by simp [Tryz.f49]) (by kernel_rfl) ?_
 simp only [Tryz.f49]
 refine sA ?_
 obtain ⟨c294,hr1,h⟩ := bind_ok h
 refine Cl_hA [0] (zZ hr1) ?_
 try refine sA ?_
 obtain ⟨c295,hr2,h⟩ := bind_ok h
 refine Cl_sA (zfY hr2) ?_
 try refine sA ?_
 obtain ⟨c296,hr3,h⟩ := bind_ok h
 refine Cl_sA (zfY hr3) ?_
 try refine sA ?_
 obtain ⟨c297,hr4,h⟩ := bind_ok h
 refine Cl_hA [0] (zZ hr4) ?_
 try refine sA ?_
 obtain ⟨y336,hl5,h⟩ := bind_ok h
 refine W_loopP (fun g298 : zdz => ⟨[(0,(.pb 0 0)),(2,(.pb 1 0)),(3,(.pb 2 0)),(5,(.pb 3 0)),(7,(I g298.t7))],[(0,some (false,.box [(.lf true (.sl (g298.b0_0.map eU8))),(I g298.b0_1),(.lf false (.sc (.int .u64 g298.b0_2)))])),(1,some (true,.box [(I 0),(I 0),.nl])),(2,some (true,.box [(I g298.b2_0),(I g298.b2_1),(.lf true (.sl (g298.b2_2.map eBranch)))])),(3,some (true,.box [(I g298.b3_0),(I g298.b3_1),(.lf true (.sl (g298.b3_2.map eBranch)))]))],4,111⟩) (zbV) _ _ hl5 (weakA [some 0,some 1,some 3,some 5]) ?_
 ·intro n1 g298 z1 hs1 hk1
  unfold zbV at hs1
  try dsimp only at hs1
  refine sA ?_
  refine Bs_if hs1 (fun hs1 hc6 => ?_) (fun hs1 hc6 => ?_)
  ·try refine sA ?_
   obtain ⟨p321,hq7,hs1⟩ := bind_ok hs1
   refine Sq_cut (fun s2 => s2 = ⟨[(0,(.pb 0 0)),(2,(.pb 1 0)),(3,(.pb 2 0)),(5,(.pb 3 0)),(7,(I g298.t7)),(8,(.pb 4 0))],[(0,some (false,.box [(.lf true (.sl (p321.b0_0.map eU8))),(I p321.b0_1),(.lf false (.sc (.int .u64 p321.b0_2)))])),(1,some (true,.box [(I 0),(I 0),.nl])),(2,some (true,.box [(I g298.b2_0),(I g298.b2_1),(.lf true (.sl (g298.b2_2.map eBranch)))])),(3,some (true,.box [(I g298.b3_0),(I g298.b3_1),(.lf true (.sl (g298.b3_2.map eBranch)))])),(4,some (true,.box [(I p321.b4_0),(I p321.b4_1),(.lf true (.sl (p321.b4_2.map eBranch)))]))],5,111⟩) ?_ ?_
   ·try refine sA ?_
    obtain ⟨c320,hr8,hq7⟩ := bind_ok hq7
    refine Cl_hA [0] (zeH hr8) ?_
    try refine sA ?_
    refine Bs_if hq7 (fun hq7 hc9 => ?_) (fun hq7 hc9 => ?_)
    ·try refine sA ?_
     cases hq7
     exact X_cut rfl (weakA [some 0,some 1,some 2,some 3,some 4])
    ·try refine sA ?_
     cases hq7
     exact X_cut rfl (weakA [some 0,some 1,some 2,some 3,some 4])
   ·intro s2 hJ; subst hJ
    try dsimp only at hs1
    try refine sA ?_
    obtain ⟨p335,hq10,hs1⟩ := bind_ok hs1
    refine Sq_cut (fun s2 => s2 = ⟨[(0,(.pb 0 0)),(2,(.pb 1 0)),(3,(.pb 2 0)),(5,(.pb 3 0)),(7,(I g298.t7)),(8,(.pb 4 0))],[(0,some (false,.box [(.lf true (.sl (p335.b0_0.map eU8))),(I p335.b0_1),(.lf false (.sc (.int .u64 p335.b0_2)))])),(1,some (true,.box [(I 0),(I 0),.nl])),(2,some (true,.box [(I g298.b2_0),(I g298.b2_1),(.lf true (.sl (g298.b2_2.map eBranch)))])),(3,some (true,.box [(I g298.b3_0),(I g298.b3_1),(.lf true (.sl (g298.b3_2.map eBranch)))])),(4,some (true,.box [(I p335.b4_0),(I p335.b4_1),(.lf true (.sl (p335.b4_2.map eBranch)))]))],5,111⟩) ?_ ?_
    ·try refine sA ?_
     obtain ⟨c322,hr11,hq10⟩ := bind_ok hq10
     refine Cl_hA [0] (zZ hr11) ?_
     try refine sA ?_
     refine Bs_if hq10 (fun hq10 hc12 => ?_) (fun hq10 hc12 => ?_)
     ·try refine sA ?_
      obtain ⟨c323,hr13,hq10⟩ := bind_ok hq10
      refine Cl_sA (zhF hr13) ?_
      try refine sA ?_
      cases hq10
      exact X_cut rfl (weakA [some 0,some 1,some 2,some 3,some 4])
     ·try refine sA ?_
      refine Bs_if hq10 (fun hq10 hc14 => ?_) (fun hq10 hc14 => ?_)
      ·try refine sA ?_
       obtain ⟨c324,hr15,hq10⟩ := bind_ok hq10
       refine Cl_sA (zfG hr15) ?_
       try refine sA ?_
       obtain ⟨p326,hq16,hq10⟩ := bind_ok hq10
       refine Sq_cut (fun s2 => s2 = ⟨[(0,(.pb 0 0)),(2,(.pb 1 0)),(3,(.pb 2 0)),(5,(.pb 3 0)),(7,(I g298.t7)),(8,(.pb 4 0)),(9,(.pb 5 0))],[(0,some (false,.box [(.lf true (.sl (c322.2.code.map eU8))),(I c322.2.at_),(.lf false (.sc (.int .u64 c322.2.seed)))])),(1,some (true,.box [(I 0),(I 0),.nl])),(2,some (true,.box [(I g298.b2_0),(I g298.b2_1),(.lf true (.sl (g298.b2_2.map eBranch)))])),(3,some (true,.box [(I g298.b3_0),(I g298.b3_1),(.lf true (.sl (g298.b3_2.map eBranch)))])),(4,some (true,.box [(I p321.b4_0),(I p321.b4_1),(.lf true (.sl (p321.b4_2.map eBranch)))])),(5,some (true,.box [(I p326.b5_0),(.os 6 1 0 p326.c6.length p326.c6.length false)])),(6,some (true,.deep [.sl [.sc,.sc,.sc,.sc]] (p326.c6.map eBranch)))],7,111⟩) ?_ ?_
       ·try refine sA ?_
        refine Bs_if hq16 (fun hq16 hc17 => ?_) (fun hq16 hc17 => ?_)
        ·try refine sA ?_
         obtain ⟨c325,hr18,hq16⟩ := bind_ok hq16
         refine Cl_sA (zfG hr18) ?_
         try refine sA ?_
         cases hq16
         exact X_cut rfl (weakA [some 0,some 1,some 2,some 3,some 4,some 7,some 8])
        ·try refine sA ?_
         cases hq16
         exact X_cut rfl (weakA [some 0,some 1,some 2,some 3,some 4,some 7,some 5])
       ·intro s2 hJ; subst hJ
        try dsimp only at hq10
        try refine sA ?_
        obtain ⟨c327,hr19,hq10⟩ := bind_ok hq10
        refine Cl_sA (zhe hr19) ?_
        try refine sA ?_
        refine Bs_if hq10 (fun hq10 hc20 => ?_) (fun hq10 hc20 => ?_)
        ·try refine sA ?_
         cases hq10
         exact X_cut rfl (weakA [some 0,some 1,some 2,some 3,some 4])
        ·try refine sA ?_
         cases hq10
         exact X_cut rfl (weakA [some 0,some 1,some 2,some 3,some 4])
      ·try refine sA ?_
       obtain ⟨c328,hr21,hq10⟩ := bind_ok hq10
       refine Cl_hA [0,5] (zdX hr21) ?_
       try refine sA ?_
       obtain ⟨p330,hq22,hq10⟩ := bind_ok hq10
       refine Sq_cut (fun s2 => s2 = ⟨[(0,(.pb 0 0)),(2,(.pb 1 0)),(3,(.pb 2 0)),(5,(.pb 3 0)),(7,(I g298.t7)),(8,(.pb 4 0)),(13,(I c328.1)),(48,(B p330.t48))],[(0,some (false,.box [(.lf true (.sl (p330.b0_0.map eU8))),(I p330.b0_1),(.lf false (.sc (.int .u64 p330.b0_2)))])),(1,some (true,.box [(I 0),(I 0),.nl])),(2,some (true,.box [(I g298.b2_0),(I g298.b2_1),(.lf true (.sl (g298.b2_2.map eBranch)))])),(3,some (true,.box [(I g298.b3_0),(I g298.b3_1),(.lf true (.sl (g298.b3_2.map eBranch)))])),(4,some (true,.box [(I p321.b4_0),(I p321.b4_1),(.lf true (.sl (p321.b4_2.map eBranch)))]))],5,111⟩) ?_ ?_
       ·try refine sA ?_
        refine Sp_if hq22 (fun hq22 hc23 => ?_) (fun hq22 hc23 => ?_)
        ·try refine sA ?_
         obtain ⟨c329,hr24,hq22⟩ := bind_ok hq22
         refine Cl_hA [0] (zeH hr24) ?_
         try refine sA ?_
         cases hq22
         exact X_cut rfl (weakA [some 0,some 1,some 2,some 3,some 4])
        ·try refine sA ?_
         cases hq22
         exact X_cut rfl (weakA [some 0,some 1,some 2,some 3,some 4])
       ·intro s2 hJ; subst hJ
        try dsimp only at hq10
        try refine sA ?_
        refine Bs_if hq10 (fun hq10 hc25 => ?_) (fun hq10 hc25 => ?_)
        ·try refine sA ?_
         obtain ⟨c331,hr26,hq10⟩ := bind_ok hq10
         refine Cl_hA [0] (zeK hr26) ?_
         try refine sA ?_
         obtain ⟨c332,hr27,hq10⟩ := bind_ok hq10
         refine Cl_sA (zgh hr27) ?_
         try refine sA ?_
         cases hq10
         exact X_cut rfl (weakA [some 0,some 1,some 2,some 3,some 4])
        ·try refine sA ?_
         obtain ⟨c333,hr28,hq10⟩ := bind_ok hq10
         refine Cl_hA [0] (zeK hr28) ?_
         try refine sA ?_
         obtain ⟨c334,hr29,hq10⟩ := bind_ok hq10
         refine Cl_sA (zgh hr29) ?_
         try refine sA ?_
         cases hq10
         exact X_cut rfl (weakA [some 0,some 1,some 2,some 3,some 4])
    ·intro s2 hJ; subst hJ
     try dsimp only at hs1
     try refine sA ?_
     refine Bs_if hs1 (fun hs1 hc30 => ?_) (fun hs1 hc30 => ?_)
     ·try refine sA ?_
      cases hs1
      exact X_backP hk1 (weakA [some 0,some 1,some 2,some 3])
     ·try refine sA ?_
      cases hs1
      exact X_backP hk1 (weakA [some 0,some 1,some 2,some 3])
  ·try refine sA ?_
   cases hs1
   cases hk1
   try dsimp only at h
   try refine sA ?_
   obtain ⟨c340,hr31,h⟩ := bind_ok h
   refine Cl_hA [0] (zZ hr31) ?_
   try refine sA ?_
   refine Bs_if h (fun h hc32 => ?_) (fun h hc32 => ?_)
   ·try refine sA ?_
    obtain ⟨c341,hr33,h⟩ := bind_ok h
    refine Cl_hA [0,4] (zdX hr33) ?_
    try refine sA ?_
    obtain rfl:=Option.some.inj h
    exact endsA ⟨[(2,(.pb 1 0))],[(0,some (false,.box [(.lf true (.sl (c341.2.code.map eU8))),(I c341.2.at_),(.lf false (.sc (.int .u64 c341.2.seed)))])),(1,some (true,.box [(I g298.b2_0),(I c341.1),(.lf true (.sl (g298.b2_2.map eBranch)))]))],2,111⟩ [some 0,some 1]
   ·try refine sA ?_
    refine Bs_if h (fun h hc34 => ?_) (fun h hc34 => ?_)
    ·try refine sA ?_
     obtain ⟨c342,hr35,h⟩ := bind_ok h
     refine Cl_hA [0,4] (zdX hr35) ?_
     try refine sA ?_
     obtain rfl:=Option.some.inj h
     exact endsA ⟨[(2,(.pb 1 0))],[(0,some (false,.box [(.lf true (.sl (c342.2.code.map eU8))),(I c342.2.at_),(.lf false (.sc (.int .u64 c342.2.seed)))])),(1,some (true,.box [(I c342.1),(I g298.b2_1),(.lf true (.sl (g298.b2_2.map eBranch)))]))],2,111⟩ [some 0,some 1]
    ·try refine sA ?_
     obtain rfl:=Option.some.inj h
     exact endsA ⟨[(2,(.pb 1 0))],[(0,some (false,.box [(.lf true (.sl (c340.2.code.map eU8))),(I c340.2.at_),(.lf false (.sc (.int .u64 c340.2.seed)))])),(1,some (true,.box [(I g298.b2_0),(I g298.b2_1),(.lf true (.sl (g298.b2_2.map eBranch)))]))],2,111⟩ [some 0,some 1]
theorem zgO {a0 : (List Int)} {r : (RegionT × WordT)} (h : zbu a0 = some r) : Fn Tryz.prog 8 [(.lf true (.sl (a0.map eU8)))] [] 0 (.tu [(.ag [(I r.1.Id),(I r.1.Version),(.lf true (.sl (r.1.Tellings.Branches.map eBranch)))]),(.ag [(I r.2.Version),(.os 0 1 0 r.2.Tellings.Branches.length r.2.Tellings.Branches.length false)])]) [(0,some (true,.deep [.sl [.sc,.sc,.sc,.sc]] (r.2.Tellings.Branches.map eBranch)))] 3 := by
 unfold zbu at h
 refine fn_code tab_ok mixed [(7,[(1,2)]),(1000,[(0,0),(2,0),(3,0)]),(1001,[(2,0),(3,0),(4,0)]),(1002,[(2,0),(3,0),(4,0),(5,0)]),(1003,[(2,0),(3,0),(4,0),(5,0),(6,0)]),(1004,[(2,0),(3,0),(4,0),(5,0),(7,0)]),(1005,[(2,0),(3,0),(4,0),(5,0),(7,0),(22,0)]),(1006,[(2,0),(3,0),(5,0),(7,0)]),(1007,[(2,0),(3,0)])] Tryz.func8 rfl rfl (by simp [Tryz.f8]) (by kernel_rfl) ?_
 simp only [Tryz.f8]
 refine sA ?_
 obtain ⟨c343,hr1,h⟩ := bind_ok h
 refine Cl_hA [2] (zdY hr1) ?_
 try refine sA ?_
 obtain ⟨c344,hr2,h⟩ := bind_ok h
 refine Cl_hA [2] (zdY hr2) ?_
 try refine sA ?_
 obtain ⟨c345,hr3,h⟩ := bind_ok h
 refine Cl_sA (zfG hr3) ?_
 try refine sA ?_
 obtain ⟨c346,hr4,h⟩ := bind_ok h
 refine Cl_hA [2] (zeH hr4) ?_
 try refine sA ?_
 refine Bs_if h (fun h hc5 => ?_) (fun h hc5 => ?_)
 ·try refine sA ?_
  obtain ⟨c347,hr6,h⟩ := bind_ok h
  refine Cl_hA [2] (zZ hr6) ?_
  try refine sA ?_
  obtain rfl:=Option.some.inj h
  exact endsA ⟨[(2,(.pb 1 0)),(3,(.pb 2 0))],[(0,some (true,.deep [.sl [.sc,.sc,.sc,.sc]] (c345.1.Tellings.Branches.map eBranch))),(1,some (true,.box [(I c343.1.Id),(I c343.1.Version),(.lf true (.sl (c343.1.Tellings.Branches.map eBranch)))])),(2,some (true,.box [(I c347.1),(.os 0 1 0 c345.1.Tellings.Branches.length c345.1.Tellings.Branches.length false)]))],3,28⟩ [some 7,some 0,some 1]
 ·try refine sA ?_
  obtain rfl:=Option.some.inj h
  exact endsA ⟨[(2,(.pb 1 0)),(3,(.pb 2 0))],[(0,some (true,.deep [.sl [.sc,.sc,.sc,.sc]] (c345.1.Tellings.Branches.map eBranch))),(1,some (true,.box [(I c343.1.Id),(I c343.1.Version),(.lf true (.sl (c343.1.Tellings.Branches.map eBranch)))])),(2,some (true,.box [(I c345.1.Version),(.os 0 1 0 c345.1.Tellings.Branches.length c345.1.Tellings.Branches.length false)]))],3,28⟩ [some 7,some 0,some 1]
theorem zeL {a0 : Int} {a1 : Int} {a2 : Int} {r : Bool} (h : zee a0 a1 a2 = some r) : Fn Tryz.prog 133 [(I a0),(I a1),(I a2)] [] 0 (B r) [] 0 := by
 unfold zee at h
 refine fn_code tab_ok mixed [] Tryz.func133 rfl rfl (by simp [Tryz.f133]) (by kernel_rfl) ?_
 simp only [Tryz.f133]
 refine sA ?_
 refine Sp_if h (fun h hc1 => ?_) (fun h hc1 => ?_)
 ·try refine sA ?_
  obtain rfl:=Option.some.inj h
  exact endsA ⟨[(6,(B (decide (a0 ≤ a2))))],[],0,15⟩ []
 ·try refine sA ?_
  obtain rfl:=Option.some.inj h
  exact endsA ⟨[(6,(B false))],[],0,15⟩ []
theorem zhK {a0 : Int} {r : Bool} (h : ze5 a0 = some r) : Fn Tryz.prog 59 [(I a0)] [] 0 (B r) [] 0 := by
 unfold ze5 at h
 refine fn_code tab_ok mixed [] Tryz.func59 rfl rfl (by simp [Tryz.f59]) (by kernel_rfl) ?_
 simp only [Tryz.f59]
 refine sA ?_
 obtain ⟨c349,hr1,h⟩ := bind_ok h
 refine Cl_sA (zeL hr1) ?_
 try refine sA ?_
 obtain rfl:=Option.some.inj h
 exact endsA ⟨[(2,(B c349))],[],0,5⟩ []
theorem zf0 {a0 : Int} {r : Bool} (h : zcy a0 = some r) : Fn Tryz.prog 123 [(I a0)] [] 0 (B r) [] 0 := by
 unfold zcy at h
 refine fn_code tab_ok mixed [] Tryz.func123 rfl rfl (by simp [Tryz.f123]) (by kernel_rfl) ?_
 simp only [Tryz.f123]
 refine sA ?_
 obtain ⟨c351,hr1,h⟩ := bind_ok h
 refine Cl_sA (zeL hr1) ?_
 try refine sA ?_
 obtain rfl:=Option.some.inj h
 exact endsA ⟨[(2,(B c351))],[],0,5⟩ []
theorem zhL {r : StateT} (h : ze8 = some r) : Fn Tryz.prog 208 [] [] 0 (.ag [(I r.Status),(I r.Next),(B r.Cancel),(I r.Done),.nl,.nl]) [] 1 := by
 unfold ze8 at h
 refine fn_code tab_ok mixed [] Tryz.func208 rfl rfl (by simp [Tryz.f208]) (by kernel_rfl) ?_
 simp only [Tryz.f208]
 refine sA ?_
 obtain rfl:=Option.some.inj h
 exact endsA ⟨[(0,(.pb 0 0))],[(0,some (true,.box [(I 0),(I 1),(B false),(I 0),.nl,.nl]))],1,2⟩ [some 0]
theorem zhT {a0 a1 : ByteArray} {r : ByteArray} (h : zdH a0 a1 = some r) : Fn Tryz.prog 207 [.lf false (.sc (.string a0)),.lf false (.sc (.string a1))] [] 0 (.lf false (.sc (.string r))) [] 0 := by
 unfold zdH at h
 obtain ⟨⟨hp1,hp2,hp3⟩,h⟩ := guard_some h
 have he := Option.some.inj h; subst he
 exact fn_str2 (Ent.of Tryz.func207 rfl (by simp [Tryz.f207])) fun w => trim_dr Go.Proofs.Tryz.lays160 (by kernel_rfl) a0 a1 w hp1 hp2 (ascii_of_all hp3)
theorem zdt {a0 : ByteArray} {r : Bool} (h : zaX a0 = some r) : Fn Tryz.prog 157 [(.lf false (.sc (.string a0)))] [] 0 (B r) [] 0 := by
 unfold zaX at h
 refine fn_code tab_ok mixed [] Tryz.func157 rfl rfl (by simp [Tryz.f157]) (by kernel_rfl) ?_
 simp only [Tryz.f157]
 refine sA ?_
 refine Sp_if h (fun h hc1 => ?_) (fun h hc1 => ?_)
 ·try refine sA ?_
  obtain ⟨c367,hr2,h⟩ := bind_ok h
  refine Cl_sA (zhT hr2) ?_
  try refine sA ?_
  obtain rfl:=Option.some.inj h
  exact endsA ⟨[(2,(B (c367.toList == ByteArray.empty.toList)))],[],0,11⟩ []
 ·try refine sA ?_
  obtain rfl:=Option.some.inj h
  exact endsA ⟨[(2,(B false))],[],0,11⟩ []
theorem zhf {a0 : ByteArray} {r : Bool} (h : zem a0 = some r) : Fn Tryz.prog 282 [(.lf false (.sc (.string a0)))] [] 0 (B r) [] 0 := by
 unfold zem at h
 refine fn_code tab_ok mixed [] Tryz.func282 rfl rfl (by simp [Tryz.f282]) (by kernel_rfl) ?_
 simp only [Tryz.f282]
 refine sA ?_
 obtain ⟨c368,hr1,h⟩ := bind_ok h
 refine Cl_sA (zdt hr1) ?_
 try refine sA ?_
 obtain rfl:=Option.some.inj h
 exact endsA ⟨[(2,(B (!c368)))],[],0,6⟩ []
theorem zdZ {a0 : (List ByteArray)} {r : Int} (h : zQ a0 = some r) : Fn Tryz.prog 293 [(.lf true (.sl (a0.map eS))),(.fn 282 [])] [] 0 (I r) [] 0 := by
 unfold zQ at h
 refine fn_code tab_ok mixed [(1000,[(0,0),(1,0)]),(1001,[(0,0),(1,0),(7,0),(8,0)]),(1002,[(0,0),(1,0),(7,0),(8,0),(9,0)]),(1003,[(0,0),(1,0),(5,0),(7,0),(8,0)]),(1004,[(0,0),(1,0),(5,0),(7,0),(8,0),(16,0)]),(1005,[(4,0)]),(1006,[(0,0),(1,0),(7,0),(8,0)]),(1007,[(4,0)])] Tryz.func293 rfl rfl (by simp [Tryz.f293]) (by kernel_rfl) ?_
 simp only [Tryz.f293]
 refine sA ?_
 obtain ⟨y371,hl1,h⟩ := bind_ok h
 refine W_loopP (fun g366 : zK => ⟨[(0,(.lf true (.sl (a0.map eS)))),(1,(.fn 282 [])),(7,(I ((a0.length : Nat) : Int))),(8,(I g366.t8))],[],0,19⟩) (zh a0) _ _ hl1 (weakA []) ?_
 ·intro n1 g366 z1 hs1 hk1
  unfold zh at hs1
  try dsimp only at hs1
  refine sA ?_
  refine Bs_if hs1 (fun hs1 hc2 => ?_) (fun hs1 hc2 => ?_)
  ·try refine sA ?_
   obtain ⟨hp3,hs1⟩ := guard_some hs1
   have hn3 : g366.t8.toNat < a0.length := by first | omega | (simp only [List.length_set,List.length_append,List.length_replicate,List.length_map]; omega)
   try refine sA ?_
   try refine andA ?_
   obtain ⟨c370,hr4,hs1⟩ := bind_ok hs1
   refine Cl_sA (zhf hr4) ?_
   try refine sA ?_
   refine Bs_if hs1 (fun hs1 hc5 => ?_) (fun hs1 hc5 => ?_)
   ·try refine sA ?_
    cases hs1
    cases hk1
    try dsimp only at h
    try refine sA ?_
    obtain rfl:=Option.some.inj h
    exact endsA ⟨[(4,(I g366.t8))],[],0,19⟩ []
   ·try refine sA ?_
    cases hs1
    exact X_backP hk1 (weakA [])
  ·try refine sA ?_
   cases hs1
   cases hk1
   try dsimp only at h
   try refine sA ?_
   obtain rfl:=Option.some.inj h
   exact endsA ⟨[(4,(I (-1)))],[],0,19⟩ []
theorem zdA {a0 : (List ByteArray)} {r : Bool} (h : zL a0 = some r) : Fn Tryz.prog 281 [(.lf true (.sl (a0.map eS))),(.fn 282 [])] [] 0 (B r) [] 0 := by
 unfold zL at h
 refine fn_code tab_ok mixed [] Tryz.func281 rfl rfl (by simp [Tryz.f281]) (by kernel_rfl) ?_
 simp only [Tryz.f281]
 refine sA ?_
 obtain ⟨c374,hr1,h⟩ := bind_ok h
 refine Cl_sA (zdZ hr1) ?_
 try refine sA ?_
 obtain rfl:=Option.some.inj h
 exact endsA ⟨[(4,(B (decide (c374 ≥ 0))))],[],0,9⟩ []
theorem zgs {a0 : (List ByteArray)} {a1 : Int} {r : Bool} (h : zdM a0 a1 = some r) : Fn Tryz.prog 255 [(.lf true (.sl (a0.map eS))),(I a1)] [] 0 (B r) [] 0 := by
 unfold zdM at h
 refine fn_code tab_ok mixed [] Tryz.func255 rfl rfl (by simp [Tryz.f255]) (by kernel_rfl) ?_
 simp only [Tryz.f255]
 refine sA ?_
 refine Sp_if h (fun h hc1 => ?_) (fun h hc1 => ?_)
 ·try refine sA ?_
  obtain ⟨c375,hr2,h⟩ := bind_ok h
  refine Cl_sA (zdA hr2) ?_
  try refine sA ?_
  obtain rfl:=Option.some.inj h
  exact endsA ⟨[(4,(B (!c375)))],[],0,14⟩ []
 ·try refine sA ?_
  obtain rfl:=Option.some.inj h
  exact endsA ⟨[(4,(B false))],[],0,14⟩ []
theorem zgt {a0 : (List ByteArray)} {a1 : ByteArray} {r : Int} (h : zcT a0 a1 = some r) : Fn Tryz.prog 195 [(.lf true (.sl (a0.map eS))),(.lf false (.sc (.string a1)))] [] 0 (I r) [] 0 := by
 unfold zcT at h
 refine fn_code tab_ok mixed [(1000,[(0,0),(1,0)]),(1001,[(0,0),(1,0),(7,0),(8,0)]),(1002,[(0,0),(1,0),(7,0),(8,0),(9,0)]),(1003,[(0,0),(1,0),(5,0),(7,0),(8,0)]),(1004,[(0,0),(1,0),(5,0),(7,0),(8,0),(16,0)]),(1005,[(4,0)]),(1006,[(0,0),(1,0),(7,0),(8,0)]),(1007,[(4,0)])] Tryz.func195 rfl rfl (by simp [Tryz.f195]) (by kernel_rfl) ?_
 simp only [Tryz.f195]
 refine sA ?_
 obtain ⟨y379,hl1,h⟩ := bind_ok h
 refine W_loopP (fun g378 : zbR => ⟨[(0,(.lf true (.sl (a0.map eS)))),(1,(.lf false (.sc (.string a1)))),(7,(I ((a0.length : Nat) : Int))),(8,(I g378.t8))],[],0,19⟩) (zaf a0 a1) _ _ hl1 (weakA []) ?_
 ·intro n1 g378 z1 hs1 hk1
  unfold zaf at hs1
  try dsimp only at hs1
  refine sA ?_
  refine Bs_if hs1 (fun hs1 hc2 => ?_) (fun hs1 hc2 => ?_)
  ·try refine sA ?_
   obtain ⟨hp3,hs1⟩ := guard_some hs1
   have hn3 : g378.t8.toNat < a0.length := by first | omega | (simp only [List.length_set,List.length_append,List.length_replicate,List.length_map]; omega)
   try refine sA ?_
   try refine andA ?_
   refine Bs_if hs1 (fun hs1 hc4 => ?_) (fun hs1 hc4 => ?_)
   ·try refine sA ?_
    cases hs1
    cases hk1
    try dsimp only at h
    try refine sA ?_
    obtain rfl:=Option.some.inj h
    exact endsA ⟨[(4,(I g378.t8))],[],0,19⟩ []
   ·try refine sA ?_
    cases hs1
    exact X_backP hk1 (weakA [])
  ·try refine sA ?_
   cases hs1
   cases hk1
   try dsimp only at h
   try refine sA ?_
   obtain rfl:=Option.some.inj h
   exact endsA ⟨[(4,(I (-1)))],[],0,19⟩ []
theorem zax {a0 : (List ByteArray)} {a1 : ByteArray} {r : Bool} (h : zF a0 a1 = some r) : Fn Tryz.prog 142 [(.lf true (.sl (a0.map eS))),(.lf false (.sc (.string a1)))] [] 0 (B r) [] 0 := by
 unfold zF at h
 refine fn_code tab_ok mixed [] Tryz.func142 rfl rfl (by simp [Tryz.f142]) (by kernel_rfl) ?_
 simp only [Tryz.f142]
 refine sA ?_
 obtain ⟨c382,hr1,h⟩ := bind_ok h
 refine Cl_sA (zgt hr1) ?_
 try refine sA ?_
 obtain rfl:=Option.some.inj h
 exact endsA ⟨[(4,(B (decide (c382 ≥ 0))))],[],0,9⟩ []
theorem zgi {a0 : (List ByteArray)} {r : Bool} (h : zc7 a0 = some r) : Fn Tryz.prog 256 [(.lf true (.sl (a0.map eS)))] [] 0 (B r) [] 0 := by
 unfold zc7 at h
 refine fn_code tab_ok mixed [(1000,[(0,0)]),(1001,[(0,0),(5,0),(6,0),(7,0)]),(1002,[(0,0),(5,0),(6,0),(7,0),(8,0)]),(1003,[(0,0),(3,0),(4,0),(5,0),(6,0),(7,0)]),(1004,[(0,0),(5,0),(6,0),(7,0),(16,0)]),(1005,[(2,0)]),(1006,[(0,0),(5,0),(6,0),(7,0)]),(1007,[(2,0)])] Tryz.func256 rfl rfl (by simp [Tryz.f256]) (by kernel_rfl) ?_
 simp only [Tryz.f256]
 refine sA ?_
 obtain ⟨y385,hl1,h⟩ := bind_ok h
 refine W_loopP (fun g377 : zd3 => ⟨[(0,(.lf true (.sl (a0.map eS)))),(5,(.lf true (.sl (a0.map eS)))),(6,(I ((a0.length : Nat) : Int))),(7,(I g377.t7))],[],0,18⟩) (zbG a0) _ _ hl1 (weakA []) ?_
 ·intro n1 g377 z1 hs1 hk1
  unfold zbG at hs1
  try dsimp only at hs1
  refine sA ?_
  refine Bs_if hs1 (fun hs1 hc2 => ?_) (fun hs1 hc2 => ?_)
  ·try refine sA ?_
   obtain ⟨hp3,hs1⟩ := guard_some hs1
   have hn3 : g377.t7.toNat < a0.length := by first | omega | (simp only [List.length_set,List.length_append,List.length_replicate,List.length_map]; omega)
   try refine sA ?_
   try refine andA ?_
   obtain ⟨hp4,hs1⟩ := guard_some hs1
   try refine sA ?_
   try refine andA ?_
   obtain ⟨c384,hr5,hs1⟩ := bind_ok hs1
   refine Cl_sA (zax hr5) ?_
   try refine sA ?_
   refine Bs_if hs1 (fun hs1 hc6 => ?_) (fun hs1 hc6 => ?_)
   ·try refine sA ?_
    cases hs1
    cases hk1
    try dsimp only at h
    try refine sA ?_
    obtain rfl:=Option.some.inj h
    exact endsA ⟨[(2,(B false))],[],0,18⟩ []
   ·try refine sA ?_
    cases hs1
    exact X_backP hk1 (weakA [])
  ·try refine sA ?_
   cases hs1
   cases hk1
   try dsimp only at h
   try refine sA ?_
   obtain rfl:=Option.some.inj h
   exact endsA ⟨[(2,(B true))],[],0,18⟩ []
theorem zdu {a0 : ByteArray} {r : Bool} (h : zat a0 = some r) : Fn Tryz.prog 254 [(.lf false (.sc (.string a0)))] [] 0 (B r) [] 0 := by
 unfold zat at h
 refine fn_code tab_ok mixed [] Tryz.func254 rfl rfl (by simp [Tryz.f254]) (by kernel_rfl) ?_
 simp only [Tryz.f254]
 refine sA ?_
 obtain rfl:=Option.some.inj h
 exact endsA ⟨[(2,(B (!(a0.toList == a0.toList))))],[],0,6⟩ []
theorem zfO {a0 : ByteArray} {a1 : ByteArray} {r : Bool} (h : zb3 a0 a1 = some r) : Fn Tryz.prog 237 [(.lf false (.sc (.string a0))),(.lf false (.sc (.string a1)))] [] 0 (B r) [] 0 := by
 unfold zb3 at h
 refine fn_code tab_ok mixed [] Tryz.func237 rfl rfl (by simp [Tryz.f237]) (by kernel_rfl) ?_
 simp only [Tryz.f237]
 refine sA ?_
 obtain ⟨c391,hr1,h⟩ := bind_ok h
 refine Cl_sA (zdu hr1) ?_
 try refine sA ?_
 refine Sp_if h (fun h hc2 => ?_) (fun h hc2 => ?_)
 ·try refine sA ?_
  obtain ⟨c392,hr3,h⟩ := bind_ok h
  refine Cl_sA (zdu hr3) ?_
  try refine sA ?_
  refine Sp_if h (fun h hc4 => ?_) (fun h hc4 => ?_)
  ·try refine sA ?_
   obtain rfl:=Option.some.inj h
   exact endsA ⟨[(4,(B true))],[],0,17⟩ []
  ·try refine sA ?_
   obtain rfl:=Option.some.inj h
   exact endsA ⟨[(4,(B (sLt a0 a1)))],[],0,17⟩ []
 ·try refine sA ?_
  obtain rfl:=Option.some.inj h
  exact endsA ⟨[(4,(B (sLt a0 a1)))],[],0,17⟩ []
theorem zf1 {a0 : (List ByteArray)} {r : Bool} (h : zaT a0 = some r) : Fn Tryz.prog 257 [(.lf true (.sl (a0.map eS)))] [] 0 (B r) [] 0 := by
 unfold zaT at h
 refine fn_code tab_ok mixed [(1000,[(0,0)]),(1001,[(0,0),(3,0)]),(1002,[(0,0),(3,0),(8,0)]),(1003,[(0,0),(3,0)]),(1004,[(0,0),(3,0),(20,0)]),(1005,[(2,0)]),(1006,[(2,0)])] Tryz.func257 rfl rfl (by simp [Tryz.f257]) (by kernel_rfl) ?_
 simp only [Tryz.f257]
 refine sA ?_
 obtain ⟨y395,hl1,h⟩ := bind_ok h
 refine W_loopP (fun g390 : zcl => ⟨[(0,(.lf true (.sl (a0.map eS)))),(3,(I g390.t3))],[],0,21⟩) (zC a0) _ _ hl1 (weakA []) ?_
 ·intro n1 g390 z1 hs1 hk1
  unfold zC at hs1
  try dsimp only at hs1
  refine sA ?_
  refine Bs_if hs1 (fun hs1 hc2 => ?_) (fun hs1 hc2 => ?_)
  ·try refine sA ?_
   obtain ⟨hp3,hs1⟩ := guard_some hs1
   have hn3 : g390.t3.toNat < a0.length := by first | omega | (simp only [List.length_set,List.length_append,List.length_replicate,List.length_map]; omega)
   try refine sA ?_
   try refine andA ?_
   obtain ⟨hp4,hs1⟩ := guard_some hs1
   have hn4 : (wI (g390.t3 - 1)).toNat < a0.length := by first | omega | (simp only [List.length_set,List.length_append,List.length_replicate,List.length_map]; omega)
   try refine sA ?_
   try refine andA ?_
   obtain ⟨c394,hr5,hs1⟩ := bind_ok hs1
   refine Cl_sA (zfO hr5) ?_
   try refine sA ?_
   refine Bs_if hs1 (fun hs1 hc6 => ?_) (fun hs1 hc6 => ?_)
   ·try refine sA ?_
    cases hs1
    cases hk1
    try dsimp only at h
    try refine sA ?_
    obtain rfl:=Option.some.inj h
    exact endsA ⟨[(2,(B false))],[],0,21⟩ []
   ·try refine sA ?_
    cases hs1
    exact X_backP hk1 (weakA [])
  ·try refine sA ?_
   cases hs1
   cases hk1
   try dsimp only at h
   try refine sA ?_
   obtain rfl:=Option.some.inj h
   exact endsA ⟨[(2,(B true))],[],0,21⟩ []
theorem zd8 {a0 : StateT} {r : Bool} (h : za3 a0 = some r) : Fn Tryz.prog 224 [(.ag [(I a0.Status),(I a0.Next),(B a0.Cancel),(I a0.Done),(.lf true (.sl (a0.Signals.map eS))),(.lf true (.sl (a0.Timers.map eS)))])] [] 0 (B r) [] 0 := by
 unfold za3 at h
 refine fn_code tab_ok mixed [(1000,[(1,0)]),(1001,[(1,0),(18,0)]),(1002,[(2,0)]),(1003,[(1,0),(46,0)]),(1004,[(2,0)]),(1005,[(1,0),(49,0)]),(1006,[(2,0)]),(1007,[(2,0)]),(4001,[]),(4003,[])] Tryz.func224 rfl rfl (by simp [Tryz.f224]) (by kernel_rfl) ?_
 simp only [Tryz.f224]
 refine sA ?_
 obtain ⟨p365,hq1,h⟩ := bind_ok h
 refine Sq_cut (fun s2 => s2 = ⟨[(1,(.pb 0 0)),(18,(B p365.t18))],[(0,some (true,.box [(I a0.Status),(I a0.Next),(B a0.Cancel),(I a0.Done),(.lf true (.sl (a0.Signals.map eS))),(.lf true (.sl (a0.Timers.map eS)))]))],1,78⟩) ?_ ?_
 ·try refine sA ?_
  obtain ⟨c362,hr2,hq1⟩ := bind_ok hq1
  refine Cl_sA (zeL hr2) ?_
  try refine sA ?_
  refine Sp_if hq1 (fun hq1 hc3 => ?_) (fun hq1 hc3 => ?_)
  ·try refine sA ?_
   cases hq1
   exact X_cut rfl (weakA [some 0])
  ·try refine sA ?_
   obtain ⟨c363,hr4,hq1⟩ := bind_ok hq1
   refine Cl_sA (zeL hr4) ?_
   try refine sA ?_
   refine Sp_if hq1 (fun hq1 hc5 => ?_) (fun hq1 hc5 => ?_)
   ·try refine sA ?_
    cases hq1
    exact X_cut rfl (weakA [some 0])
   ·try refine sA ?_
    obtain ⟨c364,hr6,hq1⟩ := bind_ok hq1
    refine Cl_sA (zeL hr6) ?_
    try refine sA ?_
    cases hq1
    exact X_cut rfl (weakA [some 0])
 ·intro s2 hJ; subst hJ
  try dsimp only at h
  try refine sA ?_
  refine Bs_if h (fun h hc7 => ?_) (fun h hc7 => ?_)
  ·try refine sA ?_
   obtain rfl:=Option.some.inj h
   exact endsA ⟨[(2,(B false))],[],0,78⟩ []
  ·try refine sA ?_
   obtain ⟨p400,hq8,h⟩ := bind_ok h
   refine Sq_cut (fun s2 => s2 = ⟨[(1,(.pb 0 0)),(46,(B p400.t46))],[(0,some (true,.box [(I a0.Status),(I a0.Next),(B a0.Cancel),(I a0.Done),(.lf true (.sl (a0.Signals.map eS))),(.lf true (.sl (a0.Timers.map eS)))]))],1,78⟩) ?_ ?_
   ·try refine sA ?_
    obtain ⟨c376,hr9,hq8⟩ := bind_ok hq8
    refine Cl_sA (zgs hr9) ?_
    try refine sA ?_
    refine Sp_if hq8 (fun hq8 hc10 => ?_) (fun hq8 hc10 => ?_)
    ·try refine sA ?_
     cases hq8
     exact X_cut rfl (weakA [some 0])
    ·try refine sA ?_
     obtain ⟨c388,hr11,hq8⟩ := bind_ok hq8
     refine Cl_sA (zgi hr11) ?_
     try refine sA ?_
     refine Sp_if hq8 (fun hq8 hc12 => ?_) (fun hq8 hc12 => ?_)
     ·try refine sA ?_
      cases hq8
      exact X_cut rfl (weakA [some 0])
     ·try refine sA ?_
      obtain ⟨c389,hr13,hq8⟩ := bind_ok hq8
      refine Cl_sA (zgs hr13) ?_
      try refine sA ?_
      refine Sp_if hq8 (fun hq8 hc14 => ?_) (fun hq8 hc14 => ?_)
      ·try refine sA ?_
       cases hq8
       exact X_cut rfl (weakA [some 0])
      ·try refine sA ?_
       obtain ⟨c398,hr15,hq8⟩ := bind_ok hq8
       refine Cl_sA (zf1 hr15) ?_
       try refine sA ?_
       refine Sp_if hq8 (fun hq8 hc16 => ?_) (fun hq8 hc16 => ?_)
       ·try refine sA ?_
        cases hq8
        exact X_cut rfl (weakA [some 0])
       ·try refine sA ?_
        obtain ⟨c399,hr17,hq8⟩ := bind_ok hq8
        refine Cl_sA (zgi hr17) ?_
        try refine sA ?_
        cases hq8
        exact X_cut rfl (weakA [some 0])
   ·intro s2 hJ; subst hJ
    try dsimp only at h
    try refine sA ?_
    refine Bs_if h (fun h hc18 => ?_) (fun h hc18 => ?_)
    ·try refine sA ?_
     obtain rfl:=Option.some.inj h
     exact endsA ⟨[(2,(B false))],[],0,78⟩ []
    ·try refine sA ?_
     refine Bs_if h (fun h hc19 => ?_) (fun h hc19 => ?_)
     ·try refine sA ?_
      obtain rfl:=Option.some.inj h
      exact endsA ⟨[(2,(B (decide (a0.Next > 1))))],[],0,78⟩ []
     ·try refine sA ?_
      refine Sp_if h (fun h hc20 => ?_) (fun h hc20 => ?_)
      ·try refine sA ?_
       refine Sp_if h (fun h hc21 => ?_) (fun h hc21 => ?_)
       ·try refine sA ?_
        refine Sp_if h (fun h hc22 => ?_) (fun h hc22 => ?_)
        ·try refine sA ?_
         refine Sp_if h (fun h hc23 => ?_) (fun h hc23 => ?_)
         ·try refine sA ?_
          obtain rfl:=Option.some.inj h
          exact endsA ⟨[(2,(B (((a0.Timers.length : Nat) : Int) == 0)))],[],0,78⟩ []
         ·try refine sA ?_
          obtain rfl:=Option.some.inj h
          exact endsA ⟨[(2,(B false))],[],0,78⟩ []
        ·try refine sA ?_
         obtain rfl:=Option.some.inj h
         exact endsA ⟨[(2,(B false))],[],0,78⟩ []
       ·try refine sA ?_
        obtain rfl:=Option.some.inj h
        exact endsA ⟨[(2,(B false))],[],0,78⟩ []
      ·try refine sA ?_
       obtain rfl:=Option.some.inj h
       exact endsA ⟨[(2,(B false))],[],0,78⟩ []
theorem zev {a0 : Int} {r : Bool} (h : zad a0 = some r) : Fn Tryz.prog 156 [(I a0)] [] 0 (B r) [] 0 := by
 unfold zad at h
 refine fn_code tab_ok mixed [] Tryz.func156 rfl rfl (by simp [Tryz.f156]) (by kernel_rfl) ?_
 simp only [Tryz.f156]
 refine sA ?_
 obtain ⟨c404,hr1,h⟩ := bind_ok h
 refine Cl_sA (zeL hr1) ?_
 try refine sA ?_
 obtain rfl:=Option.some.inj h
 exact endsA ⟨[(2,(B c404))],[],0,5⟩ []
theorem zhw {a0 : EventT} {r : Bool} (h : zdN a0 = some r) : Fn Tryz.prog 84 [(.ag [(I a0.Id),(I a0.Version),(I a0.Kind),(.lf false (.sc (.string a0.Name)))])] [] 0 (B r) [] 0 := by
 unfold zdN at h
 refine fn_code tab_ok mixed [] Tryz.func84 rfl rfl (by simp [Tryz.f84]) (by kernel_rfl) ?_
 simp only [Tryz.f84]
 refine sA ?_
 obtain ⟨c402,hr1,h⟩ := bind_ok h
 refine Cl_sA (zeL hr1) ?_
 try refine sA ?_
 refine Sp_if h (fun h hc2 => ?_) (fun h hc2 => ?_)
 ·try refine sA ?_
  obtain ⟨c403,hr3,h⟩ := bind_ok h
  refine Cl_sA (zf0 hr3) ?_
  try refine sA ?_
  refine Sp_if h (fun h hc4 => ?_) (fun h hc4 => ?_)
  ·try refine sA ?_
   obtain ⟨c405,hr5,h⟩ := bind_ok h
   refine Cl_sA (zev hr5) ?_
   try refine sA ?_
   refine Sp_if h (fun h hc6 => ?_) (fun h hc6 => ?_)
   ·try refine sA ?_
    obtain ⟨c406,hr7,h⟩ := bind_ok h
    refine Cl_sA (zdt hr7) ?_
    try refine sA ?_
    obtain rfl:=Option.some.inj h
    exact endsA ⟨[(2,(B c406))],[],0,21⟩ []
   ·try refine sA ?_
    obtain rfl:=Option.some.inj h
    exact endsA ⟨[(2,(B false))],[],0,21⟩ []
  ·try refine sA ?_
   obtain rfl:=Option.some.inj h
   exact endsA ⟨[(2,(B false))],[],0,21⟩ []
 ·try refine sA ?_
  obtain rfl:=Option.some.inj h
  exact endsA ⟨[(2,(B false))],[],0,21⟩ []
theorem zfg {a0 : (List ByteArray)} {r : (List ByteArray)} (h : zaO a0 = some r) : Fn Tryz.prog 258 [(.lf true (.sl (a0.map eS)))] [] 0 (.os 0 1 0 r.length r.length false) [(0,some (true,.arr false 1 (r.map eS)))] 1 := by
 unfold zaO at h
 obtain ⟨hp,h⟩ := guard_some h
 have he := Option.some.inj h; subst he
 refine fn_code tab_ok mixed [] Tryz.func258 rfl rfl (by simp [Tryz.f258]) (by kernel_rfl) ?_
 simp only [Tryz.f258]
 simp (disch := assumption) only [go_sem,Nat.reduceAdd,Nat.reduceMul,Nat.reduceSub,Nat.reduceEqDiff,↓reduceIte,Nat.reduceLT,reduceCtorEq,Nat.reduceLeDiff,Int.reduceToNat,Int.reduceEq,Int.reduceLE,Int.reduceLT,Nat.reduceBEq]
 intro b hb
 refine Bs_splitC (b = true) (by simp) (fun hc => ?_) (fun hc => ?_)
 ·have h0 : a0 = [] := by simpa using hb (by simpa using hc)
  subst h0
  try simp (disch := assumption) only [go_sem,Nat.reduceAdd,Nat.reduceMul,Nat.reduceSub,Nat.reduceEqDiff,↓reduceIte,Nat.reduceLT,reduceCtorEq,Nat.reduceLeDiff,Int.reduceToNat,Int.reduceEq,Int.reduceLE,Int.reduceLT,Nat.reduceBEq]
  refine ends_weak ⟨[(2,(.os 0 1 0 0 0 false))],[(0,some (true,.arr false 1 (([] : List ByteArray).map eS)))],1,8⟩ (weak_of (m := 0) [none] rfl rfl rfl (by rfl) ?_ ?_) ?_
  all_goals ((try simp (disch := assumption) only [go_sem,Nat.reduceAdd,Nat.reduceMul,Nat.reduceSub,Nat.reduceEqDiff,↓reduceIte,Nat.reduceLT,reduceCtorEq,Nat.reduceLeDiff,Int.reduceToNat,Int.reduceEq,Int.reduceLE,Int.reduceLT,Nat.reduceBEq]); (repeat' first | done | rfl | omega | refine And.intro ?_ ?_ | (simp; done) | (simp; omega)))
 ·try simp (disch := assumption) only [go_sem,Nat.reduceAdd,Nat.reduceMul,Nat.reduceSub,Nat.reduceEqDiff,↓reduceIte,Nat.reduceLT,reduceCtorEq,Nat.reduceLeDiff,Int.reduceToNat,Int.reduceEq,Int.reduceLE,Int.reduceLT,Nat.reduceBEq]
  first | refine And.intro (by first | omega | exact ⟨by omega,fun _ => mapLen fun _ => rfl⟩ | (refine ⟨?_,by omega⟩; first | exact mapLen fun _ => rfl | simp)) ?_ | skip
  try simp (disch := assumption) only [go_sem,Nat.reduceAdd,Nat.reduceMul,Nat.reduceSub,Nat.reduceEqDiff,↓reduceIte,Nat.reduceLT,reduceCtorEq,Nat.reduceLeDiff,Int.reduceToNat,Int.reduceEq,Int.reduceLE,Int.reduceLT,Nat.reduceBEq]
  refine ends_weak ⟨[(2,(.os 0 1 0 a0.length a0.length false))],[(0,some (true,.arr false 1 (a0.map eS)))],1,8⟩ (weak_of (m := 0) [some 1] rfl rfl rfl (by rfl) ?_ ?_) ?_
  all_goals ((try simp (disch := assumption) only [go_sem,Nat.reduceAdd,Nat.reduceMul,Nat.reduceSub,Nat.reduceEqDiff,↓reduceIte,Nat.reduceLT,reduceCtorEq,Nat.reduceLeDiff,Int.reduceToNat,Int.reduceEq,Int.reduceLE,Int.reduceLT,Nat.reduceBEq]); (repeat' first | done | rfl | omega | refine And.intro ?_ ?_ | (simp; done) | (simp; omega)))
theorem zfP {a0 : StateT} {r : StateT} (h : zaM a0 = some r) : Fn Tryz.prog 225 [(.ag [(I a0.Status),(I a0.Next),(B a0.Cancel),(I a0.Done),(.lf true (.sl (a0.Signals.map eS))),(.lf true (.sl (a0.Timers.map eS)))])] [] 0 (.ag [(I r.Status),(I r.Next),(B r.Cancel),(I r.Done),(.os 0 1 0 r.Signals.length r.Signals.length false),(.os 1 1 0 r.Timers.length r.Timers.length false)]) [(0,some (true,.arr false 1 (r.Signals.map eS))),(1,some (true,.arr false 1 (r.Timers.map eS)))] 3 := by
 unfold zaM at h
 refine fn_code tab_ok mixed [(1,[(4,2)]),(1000,[(1,0),(2,0)]),(1001,[(1,0),(2,0)]),(1002,[(2,0)])] Tryz.func225 rfl rfl (by simp [Tryz.f225]) (by kernel_rfl) ?_
 simp only [Tryz.f225]
 refine sA ?_
 obtain ⟨c409,hr1,h⟩ := bind_ok h
 refine Cl_sA (zfg hr1) ?_
 try refine sA ?_
 obtain ⟨c410,hr2,h⟩ := bind_ok h
 refine Cl_sA (zfg hr2) ?_
 try refine sA ?_
 obtain rfl:=Option.some.inj h
 exact endsA ⟨[(2,(.pb 2 0))],[(0,some (true,.arr false 1 (c409.map eS))),(1,some (true,.arr false 1 (c410.map eS))),(2,some (true,.box [(I a0.Status),(I a0.Next),(B a0.Cancel),(I a0.Done),(.os 0 1 0 c409.length c409.length false),(.os 1 1 0 c410.length c410.length false)]))],3,12⟩ [some 2,some 3,some 1]
theorem zfh {a0 : ByteArray} {r : Bool} (h : zbB a0 = some r) : Fn Tryz.prog 294 [(.lf false (.sc (.string a0)))] [] 0 (B r) [] 0 := by
 unfold zbB at h
 refine fn_code tab_ok mixed [] Tryz.func294 rfl rfl (by simp [Tryz.f294]) (by kernel_rfl) ?_
 simp only [Tryz.f294]
 refine sA ?_
 obtain rfl:=Option.some.inj h
 exact endsA ⟨[(2,(B (!(a0.toList == a0.toList))))],[],0,6⟩ []
theorem zfx {a0 : (List ByteArray)} {a1 : ByteArray} {r : (Int × Bool)} (h : zae a0 a1 = some r) : Fn Tryz.prog 283 [(.lf true (.sl (a0.map eS))),(.lf false (.sc (.string a1)))] [] 0 (.tu [(I r.1),(B r.2)]) [] 0 := by
 unfold zae at h
 refine fn_code tab_ok mixed [(1000,[(0,0),(1,0)]),(1001,[(0,0),(1,0),(6,0)]),(1002,[(0,0),(1,0),(6,0),(7,0),(8,0)]),(1003,[(0,0),(1,0),(6,0),(7,0),(8,0),(15,0)]),(1004,[(0,0),(1,0),(6,0),(7,0),(8,0),(9,0)]),(1005,[(0,0),(1,0),(6,0),(7,0),(8,0),(9,0),(27,0)]),(1006,[(0,0),(1,0),(6,0),(7,0),(8,0)]),(1007,[(0,0),(1,0),(6,0),(7,0),(8,0)]),(1008,[(4,0),(5,0)])] Tryz.func283 rfl rfl (by simp [Tryz.f283]) (by kernel_rfl) ?_
 simp only [Tryz.f283]
 refine sA ?_
 obtain ⟨y419,hl1,h⟩ := bind_ok h
 refine W_loopP (fun g416 : zby => ⟨[(0,(.lf true (.sl (a0.map eS)))),(1,(.lf false (.sc (.string a1)))),(6,(I ((a0.length : Nat) : Int))),(7,(I g416.t7)),(8,(I g416.t8))],[],0,54⟩) (zy a0 a1) _ _ hl1 (weakA []) ?_
 ·intro n1 g416 z1 hs1 hk1
  unfold zy at hs1
  try dsimp only at hs1
  refine sA ?_
  refine Bs_if hs1 (fun hs1 hc2 => ?_) (fun hs1 hc2 => ?_)
  ·try refine sA ?_
   obtain ⟨hp3,hs1⟩ := guard_some hs1
   have hn3 : (wI (shR 64 (wU (wI (g416.t7 + g416.t8))) 1)).toNat < a0.length := by first | omega | (simp only [List.length_set,List.length_append,List.length_replicate,List.length_map]; omega)
   try refine sA ?_
   try refine andA ?_
   obtain ⟨c418,hr4,hs1⟩ := bind_ok hs1
   refine Cl_sA (zfO hr4) ?_
   try refine sA ?_
   refine Bs_if hs1 (fun hs1 hc5 => ?_) (fun hs1 hc5 => ?_)
   ·try refine sA ?_
    cases hs1
    exact X_backP hk1 (weakA [])
   ·try refine sA ?_
    cases hs1
    exact X_backP hk1 (weakA [])
  ·try refine sA ?_
   cases hs1
   cases hk1
   try dsimp only at h
   try refine sA ?_
   refine Sp_if h (fun h hc6 => ?_) (fun h hc6 => ?_)
   ·try refine sA ?_
    obtain ⟨hp7,h⟩ := guard_some h
    have hn7 : g416.t7.toNat < a0.length := by first | omega | (simp only [List.length_set,List.length_append,List.length_replicate,List.length_map]; omega)
    try refine sA ?_
    try refine andA ?_
    refine Sp_if h (fun h hc8 => ?_) (fun h hc8 => ?_)
    ·try refine sA ?_
     obtain rfl:=Option.some.inj h
     exact endsA ⟨[(4,(I g416.t7)),(5,(B true))],[],0,54⟩ []
    ·try refine sA ?_
     obtain ⟨hp9,h⟩ := guard_some h
     have hn9 : g416.t7.toNat < a0.length := by first | omega | (simp only [List.length_set,List.length_append,List.length_replicate,List.length_map]; omega)
     try refine sA ?_
     try refine andA ?_
     obtain ⟨c422,hr10,h⟩ := bind_ok h
     refine Cl_sA (zfh hr10) ?_
     try refine sA ?_
     refine Sp_if h (fun h hc11 => ?_) (fun h hc11 => ?_)
     ·try refine sA ?_
      obtain ⟨c423,hr12,h⟩ := bind_ok h
      refine Cl_sA (zfh hr12) ?_
      try refine sA ?_
      obtain rfl:=Option.some.inj h
      exact endsA ⟨[(4,(I g416.t7)),(5,(B c423))],[],0,54⟩ []
     ·try refine sA ?_
      obtain rfl:=Option.some.inj h
      exact endsA ⟨[(4,(I g416.t7)),(5,(B false))],[],0,54⟩ []
   ·try refine sA ?_
    obtain rfl:=Option.some.inj h
    exact endsA ⟨[(4,(I g416.t7)),(5,(B false))],[],0,54⟩ []
theorem zf2 {a0 : List ByteArray} {a1 a2 : Int} {m0 : Nat} {x0 : Bool} {r : List ByteArray} (h : zbS a0 a1 a2 = some r) : Fn Tryz.prog 284 [(.os 0 1 0 a0.length m0 x0),(I a1),(I a2)] [(0,some (false,.arr true 1 (a0.map eS)))] 1 (.os 1 1 0 r.length r.length false) [(0,none),(1,some (false,.arr false 1 (r.map eS)))] 2 := by
 unfold zbS at h
 obtain ⟨⟨hp1,hp2,hp3,hp4⟩,h⟩ := guard_some h
 have he := Option.some.inj h; subst he
 refine fn_code tab_ok mixed [] Tryz.func284 rfl rfl (by simp [Tryz.f284]) (by kernel_rfl) ?_
 simp only [Tryz.f284]
 simp (disch := assumption) only [go_sem,Nat.reduceAdd,Nat.reduceMul,Nat.reduceSub,Nat.reduceEqDiff,↓reduceIte,Nat.reduceLT,reduceCtorEq,Nat.reduceLeDiff,Int.reduceToNat,Int.reduceEq,Int.reduceLE,Int.reduceLT,Nat.reduceBEq]
 refine And.intro (by omega) ?_
 try simp (disch := assumption) only [go_sem,Nat.reduceAdd,Nat.reduceMul,Nat.reduceSub,Nat.reduceEqDiff,↓reduceIte,Nat.reduceLT,reduceCtorEq,Nat.reduceLeDiff,Int.reduceToNat,Int.reduceEq,Int.reduceLE,Int.reduceLT,Nat.reduceBEq]
 refine Bs_splitC (a1 == a2) (by first | rfl | simp) (fun hc => ?_) (fun hc => ?_)
 ·try simp (disch := assumption) only [go_sem,Nat.reduceAdd,Nat.reduceMul,Nat.reduceSub,Nat.reduceEqDiff,↓reduceIte,Nat.reduceLT,reduceCtorEq,Nat.reduceLeDiff,Int.reduceToNat,Int.reduceEq,Int.reduceLE,Int.reduceLT,Nat.reduceBEq]
  have he : a1 = a2 := by simpa using hc
  have hr : a0.take a1.toNat ++ a0.drop a2.toNat = a0 := by rw [he]; exact List.take_append_drop _ _
  rw [hr]
  refine ends_weak ⟨[(6,(.os 1 1 0 a0.length a0.length false))],[(0,none),(1,some (false,.arr false 1 (a0.map eS)))],2,33⟩ (weak_of (m := 1) [some 0,some 0] rfl rfl rfl (by rfl) ?_ ?_) ?_
  all_goals ((try simp (disch := assumption) only [go_sem,Nat.reduceAdd,Nat.reduceMul,Nat.reduceSub,Nat.reduceEqDiff,↓reduceIte,Nat.reduceLT,reduceCtorEq,Nat.reduceLeDiff,Int.reduceToNat,Int.reduceEq,Int.reduceLE,Int.reduceLT,Nat.reduceBEq]); (repeat' first | done | rfl | omega | refine And.intro ?_ ?_ | (simp; done) | (simp; omega)))
 ·try simp (disch := assumption) only [go_sem,Nat.reduceAdd,Nat.reduceMul,Nat.reduceSub,Nat.reduceEqDiff,↓reduceIte,Nat.reduceLT,reduceCtorEq,Nat.reduceLeDiff,Int.reduceToNat,Int.reduceEq,Int.reduceLE,Int.reduceLT,Nat.reduceBEq]
  refine And.intro (by omega) (And.intro (by omega) ?_)
  have hs : a2.toNat + (a0.length - a2.toNat) ≤ a0.length := by omega
  simp (disch := assumption) only [go_sem,Nat.reduceAdd,Nat.reduceMul,Nat.reduceSub,Nat.reduceEqDiff,↓reduceIte,Nat.reduceLT,reduceCtorEq,Nat.reduceLeDiff,Int.reduceToNat,Int.reduceEq,Int.reduceLE,Int.reduceLT,Nat.reduceBEq,hs]
  have hd : (a0.drop a2.toNat).length = a0.length - a2.toNat := List.length_drop
  have ht : (a0.take a1.toNat).length = a1.toNat := by rw [List.length_take]; omega
  have hR : (a0.take a1.toNat ++ a0.drop a2.toNat).length = a1.toNat + (a0.drop a2.toNat).length := by rw [List.length_append,ht]
  refine And.intro ⟨by omega,(by first | exact mapLen fun _ => rfl | simp),by omega⟩ (And.intro ⟨by omega,by omega,by omega⟩ (And.intro (by omega) ?_))
  refine ends_weak ⟨[(6,(.os 1 1 0 (a0.take a1.toNat ++ a0.drop a2.toNat).length (a0.take a1.toNat ++ a0.drop a2.toNat).length false))],[(0,none),(1,some (false,.arr false 1 ((a0.take a1.toNat ++ a0.drop a2.toNat).map eS)))],2,33⟩ (weak_of (m := 1) [some 0,some 1] rfl rfl rfl (by rfl) ?_ ?_) ?_
  all_goals ((try simp (disch := assumption) only [go_sem,Nat.reduceAdd,Nat.reduceMul,Nat.reduceSub,Nat.reduceEqDiff,↓reduceIte,Nat.reduceLT,reduceCtorEq,Nat.reduceLeDiff,Int.reduceToNat,Int.reduceEq,Int.reduceLE,Int.reduceLT,Nat.reduceBEq]); (repeat' first | done | rfl | omega | refine And.intro ?_ ?_ | (simp; done) | (simp; omega)))
theorem zf3 {a0 : List ByteArray} {a1 : Int} {a2 : List ByteArray} {m0 m2 : Nat} {x0 x2 : Bool} {r : List ByteArray} (h : zbT a0 a1 a2 = some r) : Fn Tryz.prog 285 [(.os 0 1 0 a0.length m0 x0),(I a1),(.os 1 1 0 a2.length m2 x2)] [(0,some (false,.arr true 1 (a0.map eS))),(1,some (false,.arr true 1 (a2.map eS)))] 2 (.os 2 1 0 r.length r.length false) [(0,none),(1,none),(2,some (false,.arr false 1 (r.map eS)))] 3 := by
 unfold zbT at h
 obtain ⟨⟨hp1,hp2,hp3,hp4⟩,h⟩ := guard_some h
 have he := Option.some.inj h; subst he
 obtain ⟨x,rfl⟩ := List.length_eq_one_iff.1 hp1
 rw [List.append_assoc,List.singleton_append]
 exact fn_insert Go.Proofs.Tryz.lays22 (Ent.of Tryz.func285 rfl (by simp [Tryz.f285])) (fun _ => rfl) hp2 hp3 hp4
theorem zf4 {a0 : StateT} {a1 : ByteArray} {m1 : Nat} {x1 : Bool} {m2 : Nat} {x2 : Bool} {r : (Bool × StateT)} (h : zaU a0 a1 = some r) : Fn Tryz.prog 259 [(.pb 0 0),(.lf false (.sc (.string a1)))] [(0,some (false,.box [(I a0.Status),(I a0.Next),(B a0.Cancel),(I a0.Done),(.os 1 1 0 a0.Signals.length m1 x1),(.os 2 1 0 a0.Timers.length m2 x2)])),(1,some (false,.arr true 1 (a0.Signals.map eS))),(2,some (false,.arr true 1 (a0.Timers.map eS)))] 3 (B r.1) [(0,some (false,.box [(I r.2.Status),(I r.2.Next),(B r.2.Cancel),(I r.2.Done),(.os 1 1 0 a0.Signals.length a0.Signals.length false),(.os 3 1 0 r.2.Timers.length r.2.Timers.length false)])),(1,some (false,.arr false 1 (a0.Signals.map eS))),(2,none),(3,some (false,.arr false 1 (r.2.Timers.map eS)))] 4 := by
 unfold zaU at h
 refine fn_code tab_ok mixed [(1000,[(0,0),(1,0)]),(1001,[(0,0),(1,0),(5,0),(6,0)]),(1002,[]),(1003,[(0,0),(1,0),(5,0),(27,0)]),(1004,[]),(1005,[(0,0),(1,0),(5,0),(40,0)]),(1006,[(4,0)]),(1007,[(4,0)])] Tryz.func259 rfl rfl (by simp [Tryz.f259]) (by kernel_rfl) ?_
 simp only [Tryz.f259]
 refine sA ?_
 obtain ⟨c425,hr1,h⟩ := bind_ok h
 refine Cl_sA (zfx hr1) ?_
 try refine sA ?_
 refine Bs_if h (fun h hc2 => ?_) (fun h hc2 => ?_)
 ·try refine sA ?_
  obtain ⟨c426,hr3,h⟩ := bind_ok h
  refine Cl_hA [2] (zf2 hr3) ?_
  try refine sA ?_
  obtain rfl:=Option.some.inj h
  exact endsA ⟨[(4,(B true))],[(0,some (false,.box [(I a0.Status),(I a0.Next),(B a0.Cancel),(I a0.Done),(.os 1 1 0 a0.Signals.length a0.Signals.length false),(.os 3 1 0 c426.length c426.length false)])),(1,some (false,.arr false 1 (a0.Signals.map eS))),(2,none),(3,some (false,.arr false 1 (c426.map eS)))],4,47⟩ [some 0,some 1,some 2,some 3]
 ·try refine sA ?_
  refine Bs_if h (fun h hc4 => ?_) (fun h hc4 => ?_)
  ·try refine sA ?_
   obtain rfl:=Option.some.inj h
   exact endsA ⟨[(4,(B false))],[(0,some (false,.box [(I a0.Status),(I a0.Next),(B a0.Cancel),(I a0.Done),(.os 1 1 0 a0.Signals.length a0.Signals.length false),(.os 3 1 0 a0.Timers.length a0.Timers.length false)])),(1,some (false,.arr false 1 (a0.Signals.map eS))),(2,none),(3,some (false,.arr false 1 (a0.Timers.map eS)))],4,47⟩ [some 0,some 1,some 2,some 2]
  ·try refine sA ?_
   obtain ⟨c427,hr5,h⟩ := bind_ok h
   refine Cl_hA [2,3] (zf3 hr5) ?_
   try refine sA ?_
   obtain rfl:=Option.some.inj h
   exact endsA ⟨[(4,(B true))],[(0,some (false,.box [(I a0.Status),(I a0.Next),(B a0.Cancel),(I a0.Done),(.os 1 1 0 a0.Signals.length a0.Signals.length false),(.os 3 1 0 c427.length c427.length false)])),(1,some (false,.arr false 1 (a0.Signals.map eS))),(2,none),(3,some (false,.arr false 1 (c427.map eS)))],4,47⟩ [some 0,some 1,some 2,some 4]
theorem zfr {a0 : StateT} {a1 : Int} {a2 : ByteArray} {m1 : Nat} {x1 : Bool} {m2 : Nat} {x2 : Bool} {r : (Bool × StateT)} (h : za4 a0 a1 a2 = some r) : Fn Tryz.prog 226 [(.pb 0 0),(I a1),(.lf false (.sc (.string a2)))] [(0,some (false,.box [(I a0.Status),(I a0.Next),(B a0.Cancel),(I a0.Done),(.os 1 1 0 a0.Signals.length m1 x1),(.os 2 1 0 a0.Timers.length m2 x2)])),(1,some (false,.arr true 1 (a0.Signals.map eS))),(2,some (false,.arr true 1 (a0.Timers.map eS)))] 3 (B r.1) [(0,some (false,.box [(I r.2.Status),(I r.2.Next),(B r.2.Cancel),(I r.2.Done),(.os 3 1 0 r.2.Signals.length r.2.Signals.length false),(.os 4 1 0 r.2.Timers.length r.2.Timers.length false)])),(1,none),(2,none),(3,some (false,.arr false 1 (r.2.Signals.map eS))),(4,some (false,.arr false 1 (r.2.Timers.map eS)))] 5 := by
 unfold za4 at h
 refine fn_code tab_ok mixed [(1000,[(0,0),(1,0),(2,0)]),(1001,[(0,0),(1,0),(2,0),(32,0)]),(1002,[(6,0)]),(1003,[(0,0),(2,0),(33,0)]),(1004,[(0,0),(2,0),(33,0),(34,0)]),(1005,[(0,0)]),(1006,[(0,0),(2,0),(33,0),(39,0)]),(1007,[(0,0),(2,0),(54,0)]),(1008,[(6,0)]),(1009,[(0,0)]),(1010,[(0,0),(2,0),(33,0),(65,0)]),(1011,[(0,0)]),(1012,[(0,0),(2,0),(33,0),(74,0)]),(1013,[(0,0),(79,0)]),(1014,[(6,0)]),(1015,[(0,0),(33,0),(80,0)]),(1016,[(0,0),(85,0)]),(1017,[(6,0)]),(1018,[(0,0)]),(1019,[(0,0),(89,0)]),(1020,[(0,0)]),(1021,[]),(1022,[(6,0)]),(4001,[]),(4007,[])] Tryz.func226 rfl rfl (by simp [Tryz.f226]) (by kernel_rfl) ?_
 simp only [Tryz.f226]
 refine sA ?_
 obtain ⟨p413,hq1,h⟩ := bind_ok h
 refine Sq_cut (fun s2 => s2 = ⟨[(0,(.pb 0 0)),(1,(I a1)),(2,(.lf false (.sc (.string a2)))),(32,(B p413.t32))],[(0,some (false,.box [(I a0.Status),(I a0.Next),(B a0.Cancel),(I a0.Done),(.os 1 1 0 a0.Signals.length m1 x1),(.os 2 1 0 a0.Timers.length m2 x2)])),(1,some (false,.arr true 1 (a0.Signals.map eS))),(2,some (false,.arr true 1 (a0.Timers.map eS)))],3,104⟩) ?_ ?_
 ·try refine sA ?_
  refine Sp_if hq1 (fun hq1 hc2 => ?_) (fun hq1 hc2 => ?_)
  ·try refine sA ?_
   cases hq1
   exact X_cut rfl (weakA [some 0,some 1,some 2])
  ·try refine sA ?_
   refine Sp_if hq1 (fun hq1 hc3 => ?_) (fun hq1 hc3 => ?_)
   ·try refine sA ?_
    cases hq1
    exact X_cut rfl (weakA [some 0,some 1,some 2])
   ·try refine sA ?_
    refine Sp_if hq1 (fun hq1 hc4 => ?_) (fun hq1 hc4 => ?_)
    ·try refine sA ?_
     cases hq1
     exact X_cut rfl (weakA [some 0,some 1,some 2])
    ·try refine sA ?_
     cases hq1
     exact X_cut rfl (weakA [some 0,some 1,some 2])
 ·intro s2 hJ; subst hJ
  try dsimp only at h
  try refine sA ?_
  refine Bs_if h (fun h hc5 => ?_) (fun h hc5 => ?_)
  ·try refine sA ?_
   obtain rfl:=Option.some.inj h
   exact endsA ⟨[(6,(B false))],[(0,some (false,.box [(I a0.Status),(I a0.Next),(B a0.Cancel),(I a0.Done),(.os 3 1 0 a0.Signals.length a0.Signals.length false),(.os 4 1 0 a0.Timers.length a0.Timers.length false)])),(1,none),(2,none),(3,some (false,.arr false 1 (a0.Signals.map eS))),(4,some (false,.arr false 1 (a0.Timers.map eS)))],5,104⟩ [some 0,some 1,some 2,some 1,some 2]
  ·try refine sA ?_
   refine Bs_if h (fun h hc6 => ?_) (fun h hc6 => ?_)
   ·try refine sA ?_
    obtain rfl:=Option.some.inj h
    exact endsA ⟨[(6,(B true))],[(0,some (false,.box [(I 1),(I (wI (a0.Next + 1))),(B a0.Cancel),(I a0.Done),(.os 3 1 0 a0.Signals.length a0.Signals.length false),(.os 4 1 0 a0.Timers.length a0.Timers.length false)])),(1,none),(2,none),(3,some (false,.arr false 1 (a0.Signals.map eS))),(4,some (false,.arr false 1 (a0.Timers.map eS)))],5,104⟩ [some 0,some 1,some 2,some 1,some 2]
   ·try refine sA ?_
    refine Bs_if h (fun h hc7 => ?_) (fun h hc7 => ?_)
    ·try refine sA ?_
     obtain ⟨p415,hq8,h⟩ := bind_ok h
     refine Sq_cut (fun s2 => s2 = ⟨[(0,(.pb 0 0)),(2,(.lf false (.sc (.string a2)))),(54,(B p415.t54))],[(0,some (false,.box [(I a0.Status),(I a0.Next),(B a0.Cancel),(I a0.Done),(.os 1 1 0 a0.Signals.length m1 x1),(.os 2 1 0 a0.Timers.length m2 x2)])),(1,some (false,.arr true 1 (a0.Signals.map eS))),(2,some (false,.arr true 1 (a0.Timers.map eS)))],3,104⟩) ?_ ?_
     ·try refine sA ?_
      obtain ⟨c414,hr9,hq8⟩ := bind_ok hq8
      refine Cl_sA (zax hr9) ?_
      try refine sA ?_
      refine Sp_if hq8 (fun hq8 hc10 => ?_) (fun hq8 hc10 => ?_)
      ·try refine sA ?_
       cases hq8
       exact X_cut rfl (weakA [some 0,some 1,some 2])
      ·try refine sA ?_
       cases hq8
       exact X_cut rfl (weakA [some 0,some 1,some 2])
     ·intro s2 hJ; subst hJ
      try dsimp only at h
      try refine sA ?_
      refine Bs_if h (fun h hc11 => ?_) (fun h hc11 => ?_)
      ·try refine sA ?_
       obtain rfl:=Option.some.inj h
       exact endsA ⟨[(6,(B false))],[(0,some (false,.box [(I a0.Status),(I a0.Next),(B a0.Cancel),(I a0.Done),(.os 3 1 0 a0.Signals.length a0.Signals.length false),(.os 4 1 0 a0.Timers.length a0.Timers.length false)])),(1,none),(2,none),(3,some (false,.arr false 1 (a0.Signals.map eS))),(4,some (false,.arr false 1 (a0.Timers.map eS)))],5,104⟩ [some 0,some 1,some 2,some 1,some 2]
      ·try refine sA ?_
       obtain ⟨hp12,h⟩ := guard_some h
       try refine sA ?_
       try refine andA ?_
       obtain rfl:=Option.some.inj h
       exact endsA ⟨[(6,(B true))],[(0,some (false,.box [(I a0.Status),(I (wI (a0.Next + 1))),(B a0.Cancel),(I a0.Done),(.os 3 1 0 ((a0.Signals ++ ([a2])).length) ((a0.Signals ++ ([a2])).length) false),(.os 4 1 0 a0.Timers.length a0.Timers.length false)])),(1,none),(2,none),(3,some (false,.arr false 1 ((a0.Signals ++ ([a2])).map eS))),(4,some (false,.arr false 1 (a0.Timers.map eS)))],5,104⟩ [some 0,some 1,some 2,some 4,some 2]
    ·try refine sA ?_
     refine Bs_if h (fun h hc13 => ?_) (fun h hc13 => ?_)
     ·try refine sA ?_
      obtain rfl:=Option.some.inj h
      exact endsA ⟨[(6,(B true))],[(0,some (false,.box [(I a0.Status),(I (wI (a0.Next + 1))),(B a0.Cancel),(I (wI (a0.Done + 1))),(.os 3 1 0 a0.Signals.length a0.Signals.length false),(.os 4 1 0 a0.Timers.length a0.Timers.length false)])),(1,none),(2,none),(3,some (false,.arr false 1 (a0.Signals.map eS))),(4,some (false,.arr false 1 (a0.Timers.map eS)))],5,104⟩ [some 0,some 1,some 2,some 1,some 2]
     ·try refine sA ?_
      refine Bs_if h (fun h hc14 => ?_) (fun h hc14 => ?_)
      ·try refine sA ?_
       obtain ⟨c428,hr15,h⟩ := bind_ok h
       refine Cl_hA [0,1,2] (zf4 hr15) ?_
       try refine sA ?_
       refine Bs_if h (fun h hc16 => ?_) (fun h hc16 => ?_)
       ·try refine sA ?_
        obtain rfl:=Option.some.inj h
        exact endsA ⟨[(6,(B false))],[(0,some (false,.box [(I c428.2.Status),(I c428.2.Next),(B c428.2.Cancel),(I c428.2.Done),(.os 3 1 0 a0.Signals.length a0.Signals.length false),(.os 4 1 0 c428.2.Timers.length c428.2.Timers.length false)])),(1,none),(2,none),(3,some (false,.arr false 1 (a0.Signals.map eS))),(4,some (false,.arr false 1 (c428.2.Timers.map eS)))],5,104⟩ [some 0,some 1,some 2,some 1,some 3]
       ·try refine sA ?_
        obtain rfl:=Option.some.inj h
        exact endsA ⟨[(6,(B true))],[(0,some (false,.box [(I c428.2.Status),(I (wI (c428.2.Next + 1))),(B c428.2.Cancel),(I c428.2.Done),(.os 3 1 0 a0.Signals.length a0.Signals.length false),(.os 4 1 0 c428.2.Timers.length c428.2.Timers.length false)])),(1,none),(2,none),(3,some (false,.arr false 1 (a0.Signals.map eS))),(4,some (false,.arr false 1 (c428.2.Timers.map eS)))],5,104⟩ [some 0,some 1,some 2,some 1,some 3]
      ·try refine sA ?_
       refine Bs_if h (fun h hc17 => ?_) (fun h hc17 => ?_)
       ·try refine sA ?_
        refine Bs_if h (fun h hc18 => ?_) (fun h hc18 => ?_)
        ·try refine sA ?_
         obtain rfl:=Option.some.inj h
         exact endsA ⟨[(6,(B false))],[(0,some (false,.box [(I a0.Status),(I a0.Next),(B a0.Cancel),(I a0.Done),(.os 3 1 0 a0.Signals.length a0.Signals.length false),(.os 4 1 0 a0.Timers.length a0.Timers.length false)])),(1,none),(2,none),(3,some (false,.arr false 1 (a0.Signals.map eS))),(4,some (false,.arr false 1 (a0.Timers.map eS)))],5,104⟩ [some 0,some 1,some 2,some 1,some 2]
        ·try refine sA ?_
         obtain rfl:=Option.some.inj h
         exact endsA ⟨[(6,(B true))],[(0,some (false,.box [(I a0.Status),(I (wI (a0.Next + 1))),(B true),(I a0.Done),(.os 3 1 0 a0.Signals.length a0.Signals.length false),(.os 4 1 0 a0.Timers.length a0.Timers.length false)])),(1,none),(2,none),(3,some (false,.arr false 1 (a0.Signals.map eS))),(4,some (false,.arr false 1 (a0.Timers.map eS)))],5,104⟩ [some 0,some 1,some 2,some 1,some 2]
       ·try refine sA ?_
        refine Bs_if h (fun h hc19 => ?_) (fun h hc19 => ?_)
        ·try refine sA ?_
         obtain rfl:=Option.some.inj h
         exact endsA ⟨[(6,(B true))],[(0,some (false,.box [(I 2),(I (wI (a0.Next + 1))),(B a0.Cancel),(I a0.Done),(.os 3 1 0 a0.Signals.length a0.Signals.length false),(.os 4 1 0 (([] : List ByteArray).length) (([] : List ByteArray).length) false)])),(1,none),(2,none),(3,some (false,.arr false 1 (a0.Signals.map eS))),(4,some (false,.arr false 1 (([] : List ByteArray).map eS)))],5,104⟩ [some 0,some 1,some 2,some 1,none]
        ·try refine sA ?_
         obtain rfl:=Option.some.inj h
         exact endsA ⟨[(6,(B true))],[(0,some (false,.box [(I a0.Status),(I (wI (a0.Next + 1))),(B a0.Cancel),(I a0.Done),(.os 3 1 0 a0.Signals.length a0.Signals.length false),(.os 4 1 0 a0.Timers.length a0.Timers.length false)])),(1,none),(2,none),(3,some (false,.arr false 1 (a0.Signals.map eS))),(4,some (false,.arr false 1 (a0.Timers.map eS)))],5,104⟩ [some 0,some 1,some 2,some 1,some 2]
theorem zhg {a0 : StateT} {a1 : EventT} {r : (StateT × Bool)} (h : zde a0 a1 = some r) : Fn Tryz.prog 209 [(.ag [(I a0.Status),(I a0.Next),(B a0.Cancel),(I a0.Done),(.lf true (.sl (a0.Signals.map eS))),(.lf true (.sl (a0.Timers.map eS)))]),(.ag [(I a1.Id),(I a1.Version),(I a1.Kind),(.lf false (.sc (.string a1.Name)))])] [] 0 (.tu [(.ag [(I r.1.Status),(I r.1.Next),(B r.1.Cancel),(I r.1.Done),(.os 0 1 0 r.1.Signals.length r.1.Signals.length false),(.os 1 1 0 r.1.Timers.length r.1.Timers.length false)]),(B r.2)]) [(0,some (false,.arr false 1 (r.1.Signals.map eS))),(1,some (false,.arr false 1 (r.1.Timers.map eS)))] 3 := by
 unfold zde at h
 refine fn_code tab_ok mixed [(1000,[(2,0),(3,0),(4,0)]),(1001,[(2,0),(3,0),(4,0),(21,0)]),(1002,[(4,0),(5,0)]),(1003,[(3,0),(4,0),(6,0)]),(1004,[(4,0),(6,0),(35,0)]),(1005,[(4,0),(5,0)]),(1006,[(4,0),(5,0)]),(4001,[]),(4004,[])] Tryz.func209 rfl rfl (by simp [Tryz.f209]) (by kernel_rfl) ?_
 simp only [Tryz.f209]
 refine sA ?_
 obtain ⟨p408,hq1,h⟩ := bind_ok h
 refine Sq_cut (fun s2 => s2 = ⟨[(2,(.pb 0 0)),(3,(.pb 1 0)),(4,(.pb 2 0)),(21,(B p408.t21))],[(0,some (true,.box [(I a0.Status),(I a0.Next),(B a0.Cancel),(I a0.Done),(.lf true (.sl (a0.Signals.map eS))),(.lf true (.sl (a0.Timers.map eS)))])),(1,some (true,.box [(I a1.Id),(I a1.Version),(I a1.Kind),(.lf false (.sc (.string a1.Name)))])),(2,some (true,.box [(I 0),(I 0),(B false),(I 0),.nl,.nl]))],3,38⟩) ?_ ?_
 ·try refine sA ?_
  obtain ⟨c401,hr2,hq1⟩ := bind_ok hq1
  refine Cl_sA (zd8 hr2) ?_
  try refine sA ?_
  refine Sp_if hq1 (fun hq1 hc3 => ?_) (fun hq1 hc3 => ?_)
  ·try refine sA ?_
   cases hq1
   exact X_cut rfl (weakA [some 0,some 1,some 2])
  ·try refine sA ?_
   obtain ⟨c407,hr4,hq1⟩ := bind_ok hq1
   refine Cl_sA (zhw hr4) ?_
   try refine sA ?_
   refine Sp_if hq1 (fun hq1 hc5 => ?_) (fun hq1 hc5 => ?_)
   ·try refine sA ?_
    cases hq1
    exact X_cut rfl (weakA [some 0,some 1,some 2])
   ·try refine sA ?_
    cases hq1
    exact X_cut rfl (weakA [some 0,some 1,some 2])
 ·intro s2 hJ; subst hJ
  try dsimp only at h
  try refine sA ?_
  refine Bs_if h (fun h hc6 => ?_) (fun h hc6 => ?_)
  ·try refine sA ?_
   obtain rfl:=Option.some.inj h
   exact endsA ⟨[(4,(.pb 2 0)),(5,(B false))],[(0,some (false,.arr false 1 (([] : List ByteArray).map eS))),(1,some (false,.arr false 1 (([] : List ByteArray).map eS))),(2,some (true,.box [(I 0),(I 0),(B false),(I 0),(.os 0 1 0 (([] : List ByteArray).length) (([] : List ByteArray).length) false),(.os 1 1 0 (([] : List ByteArray).length) (([] : List ByteArray).length) false)]))],3,38⟩ [none,none,some 2]
  ·try refine sA ?_
   obtain ⟨c411,hr7,h⟩ := bind_ok h
   refine Cl_sA (zfP hr7) ?_
   try refine sA ?_
   obtain ⟨p431,hq8,h⟩ := bind_ok h
   refine Sq_cut (fun s2 => s2 = ⟨[(4,(.pb 0 0)),(6,(.pb 1 0)),(35,(B p431.t35))],[(0,some (true,.box [(I 0),(I 0),(B false),(I 0),.nl,.nl])),(1,some (true,.box [(I p431.b1_0),(I p431.b1_1),(B p431.b1_2),(I p431.b1_3),(.os 2 1 0 p431.c2.length p431.c2.length false),(.os 3 1 0 p431.c3.length p431.c3.length false)])),(2,some (false,.arr false 1 (p431.c2.map eS))),(3,some (false,.arr false 1 (p431.c3.map eS)))],4,38⟩) ?_ ?_
   ·try refine sA ?_
    obtain ⟨c429,hr9,hq8⟩ := bind_ok hq8
    refine Cl_hA [6,3,4] (zfr hr9) ?_
    try refine sA ?_
    refine Sp_if hq8 (fun hq8 hc10 => ?_) (fun hq8 hc10 => ?_)
    ·try refine sA ?_
     cases hq8
     exact X_cut rfl (weakA [some 2,some 6,some 7,some 8])
    ·try refine sA ?_
     obtain ⟨c430,hr11,hq8⟩ := bind_ok hq8
     refine Cl_sA (zd8 hr11) ?_
     try refine sA ?_
     cases hq8
     exact X_cut rfl (weakA [some 2,some 6,some 7,some 8])
   ·intro s2 hJ; subst hJ
    try dsimp only at h
    try refine sA ?_
    refine Bs_if h (fun h hc12 => ?_) (fun h hc12 => ?_)
    ·try refine sA ?_
     obtain rfl:=Option.some.inj h
     exact endsA ⟨[(4,(.pb 2 0)),(5,(B false))],[(0,some (false,.arr false 1 (([] : List ByteArray).map eS))),(1,some (false,.arr false 1 (([] : List ByteArray).map eS))),(2,some (true,.box [(I 0),(I 0),(B false),(I 0),(.os 0 1 0 (([] : List ByteArray).length) (([] : List ByteArray).length) false),(.os 1 1 0 (([] : List ByteArray).length) (([] : List ByteArray).length) false)]))],3,38⟩ [none,none,some 0]
    ·try refine sA ?_
     obtain rfl:=Option.some.inj h
     exact endsA ⟨[(4,(.pb 2 0)),(5,(B true))],[(0,some (false,.arr false 1 (p431.c2.map eS))),(1,some (false,.arr false 1 (p431.c3.map eS))),(2,some (true,.box [(I p431.b1_0),(I p431.b1_1),(B p431.b1_2),(I p431.b1_3),(.os 0 1 0 p431.c2.length p431.c2.length false),(.os 1 1 0 p431.c3.length p431.c3.length false)]))],3,38⟩ [some 2,some 3,some 0]
theorem zfQ {a0 : (List EventT)} {r : (StateT × Int)} (h : zb4 a0 = some r) : Fn Tryz.prog 161 [(.lf true (.sl (a0.map eEvent)))] [] 0 (.tu [(.ag [(I r.1.Status),(I r.1.Next),(B r.1.Cancel),(I r.1.Done),(.os 0 1 0 r.1.Signals.length r.1.Signals.length false),(.os 1 1 0 r.1.Timers.length r.1.Timers.length false)]),(I r.2)]) [(0,some (false,.arr false 1 (r.1.Signals.map eS))),(1,some (false,.arr false 1 (r.1.Timers.map eS)))] 3 := by
 unfold zb4 at h
 refine fn_code tab_ok mixed [(1000,[(0,0),(2,0)]),(1001,[(0,0),(2,0),(4,0)]),(1002,[(0,0),(2,0),(4,0),(10,0),(11,0),(12,0)]),(1003,[(0,0),(2,0),(4,0),(10,0),(11,0),(12,0),(13,0)]),(1004,[(0,0),(2,0),(4,0),(5,0),(6,0),(10,0),(11,0),(12,0)]),(1005,[(0,0),(2,0),(4,0),(5,0),(7,0),(8,0),(10,0),(11,0),(12,0)]),(1006,[(0,0),(2,0),(4,0),(5,0),(7,0),(10,0),(11,0),(12,0),(24,0)]),(1007,[(2,0),(3,0)]),(1008,[(0,0),(2,0),(4,0),(10,0),(11,0),(12,0)]),(1009,[(0,0),(2,0),(4,0),(10,0),(11,0),(12,0)]),(1010,[(2,0),(3,0)])] Tryz.func161 rfl rfl (by simp [Tryz.f161]) (by kernel_rfl) ?_
 simp only [Tryz.f161]
 refine sA ?_
 obtain ⟨c360,hr1,h⟩ := bind_ok h
 refine Cl_sA (zhL hr1) ?_
 try refine sA ?_
 obtain ⟨y434,hl2,h⟩ := bind_ok h
 refine W_loopP (fun g361 : zey => ⟨[(0,(.lf true (.sl (a0.map eEvent)))),(2,(.pb 0 0)),(4,(.pb 1 0)),(10,(.lf true (.sl (a0.map eEvent)))),(11,(I ((a0.length : Nat) : Int))),(12,(I g361.t12))],[(0,some (true,.box [(I 0),(I 0),(B false),(I 0),.nl,.nl])),(1,some (true,.box [(I g361.b1_0),(I g361.b1_1),(B g361.b1_2),(I g361.b1_3),(.os 2 1 0 g361.c2.length g361.c2.length false),(.os 3 1 0 g361.c3.length g361.c3.length false)])),(2,some (false,.arr false 1 (g361.c2.map eS))),(3,some (false,.arr false 1 (g361.c3.map eS)))],4,32⟩) (zaa a0) _ _ hl2 (weakA [some 0,some 2,none,none]) ?_
 ·intro n1 g361 z1 hs1 hk1
  unfold zaa at hs1
  try dsimp only at hs1
  refine sA ?_
  refine Bs_if hs1 (fun hs1 hc3 => ?_) (fun hs1 hc3 => ?_)
  ·try refine sA ?_
   obtain ⟨hp4,hs1⟩ := guard_some hs1
   have hn4 : g361.t12.toNat < a0.length := by first | omega | (simp only [List.length_set,List.length_append,List.length_replicate,List.length_map]; omega)
   try refine sA ?_
   try refine andA ?_
   obtain ⟨c433,hr5,hs1⟩ := bind_ok hs1
   refine Cl_sA (zhg hr5) ?_
   try refine sA ?_
   refine Bs_if hs1 (fun hs1 hc6 => ?_) (fun hs1 hc6 => ?_)
   ·try refine sA ?_
    cases hs1
    cases hk1
    try dsimp only at h
    try refine sA ?_
    obtain rfl:=Option.some.inj h
    exact endsA ⟨[(2,(.pb 2 0)),(3,(I g361.t12))],[(0,some (false,.arr false 1 (g361.c2.map eS))),(1,some (false,.arr false 1 (g361.c3.map eS))),(2,some (true,.box [(I g361.b1_0),(I g361.b1_1),(B g361.b1_2),(I g361.b1_3),(.os 0 1 0 g361.c2.length g361.c2.length false),(.os 1 1 0 g361.c3.length g361.c3.length false)]))],3,32⟩ [some 2,some 3,some 0]
   ·try refine sA ?_
    cases hs1
    exact X_backP hk1 (weakA [some 0,some 1,some 5,some 6])
  ·try refine sA ?_
   cases hs1
   cases hk1
   try dsimp only at h
   try refine sA ?_
   obtain rfl:=Option.some.inj h
   exact endsA ⟨[(2,(.pb 2 0)),(3,(I ((a0.length : Nat) : Int)))],[(0,some (false,.arr false 1 (g361.c2.map eS))),(1,some (false,.arr false 1 (g361.c3.map eS))),(2,some (true,.box [(I g361.b1_0),(I g361.b1_1),(B g361.b1_2),(I g361.b1_3),(.os 0 1 0 g361.c2.length g361.c2.length false),(.os 1 1 0 g361.c3.length g361.c3.length false)]))],3,32⟩ [some 2,some 3,some 0]
theorem zhx {a0 : (List EventT)} {r : Bool} (h : zdQ a0 = some r) : Fn Tryz.prog 91 [(.lf true (.sl (a0.map eEvent)))] [] 0 (B r) [] 0 := by
 unfold zdQ at h
 refine fn_code tab_ok mixed [(1000,[(0,0)]),(1001,[(0,0),(9,0)]),(1002,[(2,0)]),(1003,[(0,0),(10,0),(11,0),(12,0)]),(1004,[(0,0),(10,0),(11,0),(12,0),(13,0)]),(1005,[(0,0),(3,0),(4,0),(10,0),(11,0),(12,0)]),(1006,[(0,0),(10,0),(11,0),(12,0),(29,0)]),(1007,[(2,0)]),(1008,[(0,0),(10,0),(11,0),(12,0)]),(1009,[(0,0),(6,0)]),(1010,[(2,0)]),(4006,[])] Tryz.func91 rfl rfl (by simp [Tryz.f91]) (by kernel_rfl) ?_
 simp only [Tryz.f91]
 refine sA ?_
 refine Bs_if h (fun h hc1 => ?_) (fun h hc1 => ?_)
 ·try refine sA ?_
  obtain rfl:=Option.some.inj h
  exact endsA ⟨[(2,(B false))],[],0,40⟩ []
 ·try refine sA ?_
  obtain ⟨y357,hl2,h⟩ := bind_ok h
  refine W_loopP (fun g354 : zdE => ⟨[(0,(.lf true (.sl (a0.map eEvent)))),(10,(.lf true (.sl (a0.map eEvent)))),(11,(I ((a0.length : Nat) : Int))),(12,(I g354.t12))],[],0,40⟩) (zbt a0) _ _ hl2 (weakA []) ?_
  ·intro n1 g354 z1 hs1 hk1
   unfold zbt at hs1
   try dsimp only at hs1
   refine sA ?_
   refine Bs_if hs1 (fun hs1 hc3 => ?_) (fun hs1 hc3 => ?_)
   ·try refine sA ?_
    obtain ⟨hp4,hs1⟩ := guard_some hs1
    have hn4 : g354.t12.toNat < a0.length := by first | omega | (simp only [List.length_set,List.length_append,List.length_replicate,List.length_map]; omega)
    try refine sA ?_
    try refine andA ?_
    obtain ⟨p356,hq5,hs1⟩ := bind_ok hs1
    refine Sq_cut (fun s2 => s2 = ⟨[(0,(.lf true (.sl (a0.map eEvent)))),(10,(.lf true (.sl (a0.map eEvent)))),(11,(I ((a0.length : Nat) : Int))),(12,(I g354.t12)),(29,(B p356.t29))],[],0,40⟩) ?_ ?_
    ·try refine sA ?_
     refine Sp_if hq5 (fun hq5 hc6 => ?_) (fun hq5 hc6 => ?_)
     ·try refine sA ?_
      obtain ⟨hp7,hq5⟩ := guard_some hq5
      have hn7 : (wI (g354.t12 - 1)).toNat < a0.length := by first | omega | (simp only [List.length_set,List.length_append,List.length_replicate,List.length_map]; omega)
      try refine sA ?_
      try refine andA ?_
      cases hq5
      exact X_cut rfl (weakA [])
     ·try refine sA ?_
      cases hq5
      exact X_cut rfl (weakA [])
    ·intro s2 hJ; subst hJ
     try dsimp only at hs1
     try refine sA ?_
     refine Bs_if hs1 (fun hs1 hc8 => ?_) (fun hs1 hc8 => ?_)
     ·try refine sA ?_
      cases hs1
      cases hk1
      try dsimp only at h
      try refine sA ?_
      obtain rfl:=Option.some.inj h
      exact endsA ⟨[(2,(B false))],[],0,40⟩ []
     ·try refine sA ?_
      cases hs1
      exact X_backP hk1 (weakA [])
   ·try refine sA ?_
    cases hs1
    cases hk1
    try dsimp only at h
    try refine sA ?_
    obtain ⟨c438,hr9,h⟩ := bind_ok h
    refine Cl_sA (zfQ hr9) ?_
    try refine sA ?_
    obtain rfl:=Option.some.inj h
    exact endsA ⟨[(2,(B (c438.2 == ((a0.length : Nat) : Int))))],[],0,40⟩ []
theorem zf5 {a0 : (List EventT)} {r : Bool} (h : zcA a0 = some r) : Fn Tryz.prog 61 [(.lf true (.sl (a0.map eEvent)))] [] 0 (B r) [] 0 := by
 unfold zcA at h
 refine fn_code tab_ok mixed [] Tryz.func61 rfl rfl (by simp [Tryz.f61]) (by kernel_rfl) ?_
 simp only [Tryz.f61]
 refine sA ?_
 refine Sp_if h (fun h hc1 => ?_) (fun h hc1 => ?_)
 ·try refine sA ?_
  obtain ⟨c439,hr2,h⟩ := bind_ok h
  refine Cl_sA (zhx hr2) ?_
  try refine sA ?_
  obtain rfl:=Option.some.inj h
  exact endsA ⟨[(2,(B c439))],[],0,10⟩ []
 ·try refine sA ?_
  obtain rfl:=Option.some.inj h
  exact endsA ⟨[(2,(B false))],[],0,10⟩ []
theorem zgj {a0 : Int} {r : Bool} (h : zd9 a0 = some r) : Fn Tryz.prog 230 [(I a0)] [] 0 (B r) [] 0 := by
 unfold zd9 at h
 refine fn_code tab_ok mixed [] Tryz.func230 rfl rfl (by simp [Tryz.f230]) (by kernel_rfl) ?_
 simp only [Tryz.f230]
 refine sA ?_
 obtain rfl:=Option.some.inj h
 exact endsA ⟨[(2,(B (a0 != a0)))],[],0,6⟩ []
theorem zdG {a0 : Int} {a1 : Int} {r : Int} (h : zaJ a0 a1 = some r) : Fn Tryz.prog 193 [(I a0),(I a1)] [] 0 (I r) [] 0 := by
 unfold zaJ at h
 refine fn_code tab_ok mixed [(1000,[(0,0),(1,0)]),(1001,[(0,0),(1,0),(5,0)]),(1002,[(0,0),(1,0),(5,0),(6,0)]),(1003,[(0,0),(1,0),(6,0),(11,0)]),(1004,[(12,0)]),(1005,[(4,0)]),(1006,[(4,0)]),(1007,[(0,0),(1,0),(13,0)]),(1008,[(4,0)]),(1009,[(0,0),(1,0),(16,0)]),(1010,[(4,0)]),(1011,[(19,0)]),(1012,[(4,0)]),(1013,[(4,0)])] Tryz.func193 rfl rfl (by simp [Tryz.f193]) (by kernel_rfl) ?_
 simp only [Tryz.f193]
 refine sA ?_
 obtain ⟨c443,hr1,h⟩ := bind_ok h
 refine Cl_sA (zgj hr1) ?_
 try refine sA ?_
 obtain ⟨c444,hr2,h⟩ := bind_ok h
 refine Cl_sA (zgj hr2) ?_
 try refine sA ?_
 refine Bs_if h (fun h hc3 => ?_) (fun h hc3 => ?_)
 ·try refine sA ?_
  refine Bs_if h (fun h hc4 => ?_) (fun h hc4 => ?_)
  ·try refine sA ?_
   obtain rfl:=Option.some.inj h
   exact endsA ⟨[(4,(I 0))],[],0,20⟩ []
  ·try refine sA ?_
   obtain rfl:=Option.some.inj h
   exact endsA ⟨[(4,(I (-1)))],[],0,20⟩ []
 ·try refine sA ?_
  refine Bs_if h (fun h hc5 => ?_) (fun h hc5 => ?_)
  ·try refine sA ?_
   obtain rfl:=Option.some.inj h
   exact endsA ⟨[(4,(I 1))],[],0,20⟩ []
  ·try refine sA ?_
   refine Bs_if h (fun h hc6 => ?_) (fun h hc6 => ?_)
   ·try refine sA ?_
    obtain rfl:=Option.some.inj h
    exact endsA ⟨[(4,(I (-1)))],[],0,20⟩ []
   ·try refine sA ?_
    refine Bs_if h (fun h hc7 => ?_) (fun h hc7 => ?_)
    ·try refine sA ?_
     obtain rfl:=Option.some.inj h
     exact endsA ⟨[(4,(I 1))],[],0,20⟩ []
    ·try refine sA ?_
     obtain rfl:=Option.some.inj h
     exact endsA ⟨[(4,(I 0))],[],0,20⟩ []
theorem zgF {a0 : ByteArray} {a1 : ByteArray} {r : Int} (h : zbW a0 a1 = some r) : Fn Tryz.prog 223 [(.lf false (.sc (.string a0))),(.lf false (.sc (.string a1)))] [] 0 (I r) [] 0 := by
 unfold zbW at h
 refine fn_code tab_ok mixed [(1000,[(0,0),(1,0)]),(1001,[(0,0),(1,0),(5,0)]),(1002,[(0,0),(1,0),(5,0),(6,0)]),(1003,[(0,0),(1,0),(6,0),(11,0)]),(1004,[(12,0)]),(1005,[(4,0)]),(1006,[(4,0)]),(1007,[(0,0),(1,0),(13,0)]),(1008,[(4,0)]),(1009,[(0,0),(1,0),(16,0)]),(1010,[(4,0)]),(1011,[(19,0)]),(1012,[(4,0)]),(1013,[(4,0)])] Tryz.func223 rfl rfl (by simp [Tryz.f223]) (by kernel_rfl) ?_
 simp only [Tryz.f223]
 refine sA ?_
 obtain ⟨c447,hr1,h⟩ := bind_ok h
 refine Cl_sA (zdu hr1) ?_
 try refine sA ?_
 obtain ⟨c448,hr2,h⟩ := bind_ok h
 refine Cl_sA (zdu hr2) ?_
 try refine sA ?_
 refine Bs_if h (fun h hc3 => ?_) (fun h hc3 => ?_)
 ·try refine sA ?_
  refine Bs_if h (fun h hc4 => ?_) (fun h hc4 => ?_)
  ·try refine sA ?_
   obtain rfl:=Option.some.inj h
   exact endsA ⟨[(4,(I 0))],[],0,20⟩ []
  ·try refine sA ?_
   obtain rfl:=Option.some.inj h
   exact endsA ⟨[(4,(I (-1)))],[],0,20⟩ []
 ·try refine sA ?_
  refine Bs_if h (fun h hc5 => ?_) (fun h hc5 => ?_)
  ·try refine sA ?_
   obtain rfl:=Option.some.inj h
   exact endsA ⟨[(4,(I 1))],[],0,20⟩ []
  ·try refine sA ?_
   refine Bs_if h (fun h hc6 => ?_) (fun h hc6 => ?_)
   ·try refine sA ?_
    obtain rfl:=Option.some.inj h
    exact endsA ⟨[(4,(I (-1)))],[],0,20⟩ []
   ·try refine sA ?_
    refine Bs_if h (fun h hc7 => ?_) (fun h hc7 => ?_)
    ·try refine sA ?_
     obtain rfl:=Option.some.inj h
     exact endsA ⟨[(4,(I 1))],[],0,20⟩ []
    ·try refine sA ?_
     obtain rfl:=Option.some.inj h
     exact endsA ⟨[(4,(I 0))],[],0,20⟩ []
theorem zgY {a0 : (List Int)} {r : Int} (h : zeP a0 = some r) : Fn Tryz.prog 192 [(.lf true (.sl (a0.map eI)))] [] 0 (I r) [] 0 := by
 unfold zeP at h
 refine fn_code tab_ok mixed [(1000,[(0,0)]),(1001,[(0,0),(3,0)]),(1002,[(3,0),(6,0),(7,0),(8,0)]),(1003,[(3,0),(6,0),(7,0),(8,0),(9,0)]),(1004,[(3,0),(5,0),(6,0),(7,0),(8,0)]),(1005,[(3,0),(5,0),(6,0),(7,0),(8,0),(14,0)]),(1006,[(2,0)]),(1007,[(3,0),(6,0),(7,0),(8,0)]),(1008,[(2,0)])] Tryz.func192 rfl rfl (by simp [Tryz.f192]) (by kernel_rfl) ?_
 simp only [Tryz.f192]
 refine sA ?_
 obtain ⟨y451,hl1,h⟩ := bind_ok h
 refine W_loopP (fun g450 : ze4 => ⟨[(3,(I 0)),(6,(.lf true (.sl (a0.map eI)))),(7,(I ((a0.length : Nat) : Int))),(8,(I g450.t8))],[],0,18⟩) (zc4 a0) _ _ hl1 (weakA []) ?_
 ·intro n1 g450 z1 hs1 hk1
  unfold zc4 at hs1
  try dsimp only at hs1
  refine sA ?_
  refine Bs_if hs1 (fun hs1 hc2 => ?_) (fun hs1 hc2 => ?_)
  ·try refine sA ?_
   obtain ⟨hp3,hs1⟩ := guard_some hs1
   have hn3 : g450.t8.toNat < a0.length := by first | omega | (simp only [List.length_set,List.length_append,List.length_replicate,List.length_map]; omega)
   try refine sA ?_
   try refine andA ?_
   refine Bs_if hs1 (fun hs1 hc4 => ?_) (fun hs1 hc4 => ?_)
   ·try refine sA ?_
    cases hs1
    cases hk1
    try dsimp only at h
    try refine sA ?_
    obtain rfl:=Option.some.inj h
    exact endsA ⟨[(2,(I (nth a0 g450.t8.toNat)))],[],0,18⟩ []
   ·try refine sA ?_
    cases hs1
    exact X_backP hk1 (weakA [])
  ·try refine sA ?_
   cases hs1
   cases hk1
   try dsimp only at h
   try refine sA ?_
   obtain rfl:=Option.some.inj h
   exact endsA ⟨[(2,(I 0))],[],0,18⟩ []
theorem zhh {a0 : EventT} {a1 : EventT} {r : Int} (h : zdf a0 a1 = some r) : Fn Tryz.prog 181 [(.ag [(I a0.Id),(I a0.Version),(I a0.Kind),(.lf false (.sc (.string a0.Name)))]),(.ag [(I a1.Id),(I a1.Version),(I a1.Kind),(.lf false (.sc (.string a1.Name)))])] [] 0 (I r) [] 0 := by
 unfold zdf at h
 refine fn_code tab_ok mixed [(1,[(6,4),(8,4),(11,4),(11,9),(13,4),(13,9)])] Tryz.func181 rfl rfl (by simp [Tryz.f181]) (by kernel_rfl) ?_
 simp only [Tryz.f181]
 refine sA ?_
 obtain ⟨c445,hr1,h⟩ := bind_ok h
 refine Cl_sA (zdG hr1) ?_
 try refine sA ?_
 obtain ⟨c446,hr2,h⟩ := bind_ok h
 refine Cl_sA (zdG hr2) ?_
 try refine sA ?_
 obtain ⟨c449,hr3,h⟩ := bind_ok h
 refine Cl_sA (zgF hr3) ?_
 try refine sA ?_
 obtain ⟨c454,hr4,h⟩ := bind_ok h
 refine Cl_sA (zgY hr4) ?_
 try refine sA ?_
 obtain rfl:=Option.some.inj h
 exact endsA ⟨[(4,(I c454))],[],0,22⟩ []
theorem zc1 {a0 : (List EventT)} {a1 : (List EventT)} {r : Int} (h : zD a0 a1 = some r) : Fn Tryz.prog 180 [(.lf true (.sl (a0.map eEvent))),(.lf true (.sl (a1.map eEvent))),(.fn 181 [])] [] 0 (I r) [] 0 := by
 unfold zD at h
 refine fn_code tab_ok mixed [(1000,[(0,0),(1,0),(2,0)]),(1001,[(0,0),(1,0),(2,0),(11,0),(12,0),(13,0)]),(1002,[(0,0),(1,0),(2,0),(11,0),(12,0),(13,0),(14,0)]),(1003,[(0,0),(1,0),(2,0),(7,0),(8,0),(11,0),(12,0),(13,0)]),(1004,[(0,0),(1,0),(2,0),(7,0),(8,0),(11,0),(12,0),(13,0),(21,0)]),(1005,[(6,0)]),(1006,[(0,0),(1,0),(2,0),(8,0),(9,0),(11,0),(12,0),(13,0)]),(1007,[(0,0),(1,0),(2,0),(10,0),(11,0),(12,0),(13,0)]),(1008,[(0,0),(1,0),(2,0),(10,0),(11,0),(12,0),(13,0),(31,0)]),(1009,[(6,0)]),(1010,[(0,0),(1,0),(2,0),(11,0),(12,0),(13,0)]),(1011,[(38,0)]),(1012,[(6,0)]),(1013,[(6,0)])] Tryz.func180 rfl rfl (by simp [Tryz.f180]) (by kernel_rfl) ?_
 simp only [Tryz.f180]
 refine sA ?_
 obtain ⟨y457,hl1,h⟩ := bind_ok h
 refine W_loopP (fun g442 : zu => ⟨[(0,(.lf true (.sl (a0.map eEvent)))),(1,(.lf true (.sl (a1.map eEvent)))),(2,(.fn 181 [])),(11,(.lf true (.sl (a0.map eEvent)))),(12,(I ((a0.length : Nat) : Int))),(13,(I g442.t13))],[],0,39⟩) (zd a0 a1) _ _ hl1 (weakA []) ?_
 ·intro n1 g442 z1 hs1 hk1
  unfold zd at hs1
  try dsimp only at hs1
  refine sA ?_
  refine Bs_if hs1 (fun hs1 hc2 => ?_) (fun hs1 hc2 => ?_)
  ·try refine sA ?_
   obtain ⟨hp3,hs1⟩ := guard_some hs1
   have hn3 : g442.t13.toNat < a0.length := by first | omega | (simp only [List.length_set,List.length_append,List.length_replicate,List.length_map]; omega)
   try refine sA ?_
   try refine andA ?_
   refine Bs_if hs1 (fun hs1 hc4 => ?_) (fun hs1 hc4 => ?_)
   ·try refine sA ?_
    cases hs1
    cases hk1
    try dsimp only at h
    try refine sA ?_
    obtain rfl:=Option.some.inj h
    exact endsA ⟨[(6,(I 1))],[],0,39⟩ []
   ·try refine sA ?_
    obtain ⟨hp5,hs1⟩ := guard_some hs1
    have hn5 : g442.t13.toNat < a1.length := by first | omega | (simp only [List.length_set,List.length_append,List.length_replicate,List.length_map]; omega)
    try refine sA ?_
    try refine andA ?_
    obtain ⟨c456,hr6,hs1⟩ := bind_ok hs1
    refine Cl_sA (zhh hr6) ?_
    try refine sA ?_
    refine Bs_if hs1 (fun hs1 hc7 => ?_) (fun hs1 hc7 => ?_)
    ·try refine sA ?_
     cases hs1
     cases hk1
     try dsimp only at h
     try refine sA ?_
     obtain rfl:=Option.some.inj h
     exact endsA ⟨[(6,(I c456))],[],0,39⟩ []
    ·try refine sA ?_
     cases hs1
     exact X_backP hk1 (weakA [])
  ·try refine sA ?_
   cases hs1
   cases hk1
   try dsimp only at h
   try refine sA ?_
   refine Bs_if h (fun h hc8 => ?_) (fun h hc8 => ?_)
   ·try refine sA ?_
    obtain rfl:=Option.some.inj h
    exact endsA ⟨[(6,(I (-1)))],[],0,39⟩ []
   ·try refine sA ?_
    obtain rfl:=Option.some.inj h
    exact endsA ⟨[(6,(I 0))],[],0,39⟩ []
theorem zeM {a0 : (List EventT)} {a1 : (List EventT)} {r : Int} (h : zaZ a0 a1 = some r) : Fn Tryz.prog 134 [(.lf true (.sl (a0.map eEvent))),(.lf true (.sl (a1.map eEvent)))] [] 0 (I r) [] 0 := by
 unfold zaZ at h
 refine fn_code tab_ok mixed [] Tryz.func134 rfl rfl (by simp [Tryz.f134]) (by kernel_rfl) ?_
 simp only [Tryz.f134]
 refine sA ?_
 obtain ⟨c460,hr1,h⟩ := bind_ok h
 refine Cl_sA (zc1 hr1) ?_
 try refine sA ?_
 obtain rfl:=Option.some.inj h
 exact endsA ⟨[(4,(I c460))],[],0,8⟩ []
theorem zfR {a0 : (List EventT)} {a1 : (List EventT)} {r : Bool} (h : zbz a0 a1 = some r) : Fn Tryz.prog 136 [(.lf true (.sl (a0.map eEvent))),(.lf true (.sl (a1.map eEvent)))] [] 0 (B r) [] 0 := by
 unfold zbz at h
 refine fn_code tab_ok mixed [(1000,[(0,0),(1,0)]),(1001,[(0,0),(1,0),(10,0)]),(1002,[(4,0)]),(1003,[(0,0),(1,0),(12,0),(13,0)]),(1004,[(0,0),(1,0),(12,0),(13,0),(14,0)]),(1005,[(0,0),(1,0),(5,0),(12,0),(13,0)]),(1006,[(0,0),(1,0),(12,0),(13,0),(24,0)]),(1007,[(4,0)]),(1008,[(0,0),(1,0),(12,0),(13,0)]),(1009,[(4,0)])] Tryz.func136 rfl rfl (by simp [Tryz.f136]) (by kernel_rfl) ?_
 simp only [Tryz.f136]
 refine sA ?_
 refine Bs_if h (fun h hc1 => ?_) (fun h hc1 => ?_)
 ·try refine sA ?_
  obtain rfl:=Option.some.inj h
  exact endsA ⟨[(4,(B false))],[],0,26⟩ []
 ·try refine sA ?_
  obtain ⟨y463,hl2,h⟩ := bind_ok h
  refine W_loopP (fun g462 : zaY => ⟨[(0,(.lf true (.sl (a0.map eEvent)))),(1,(.lf true (.sl (a1.map eEvent)))),(12,(I ((a0.length : Nat) : Int))),(13,(I g462.t13))],[],0,26⟩) (zU a0 a1) _ _ hl2 (weakA []) ?_
  ·intro n1 g462 z1 hs1 hk1
   unfold zU at hs1
   try dsimp only at hs1
   refine sA ?_
   refine Bs_if hs1 (fun hs1 hc3 => ?_) (fun hs1 hc3 => ?_)
   ·try refine sA ?_
    obtain ⟨hp4,hs1⟩ := guard_some hs1
    have hn4 : g462.t13.toNat < a0.length := by first | omega | (simp only [List.length_set,List.length_append,List.length_replicate,List.length_map]; omega)
    try refine sA ?_
    try refine andA ?_
    obtain ⟨hp5,hs1⟩ := guard_some hs1
    have hn5 : g462.t13.toNat < a1.length := by first | omega | (simp only [List.length_set,List.length_append,List.length_replicate,List.length_map]; omega)
    try refine sA ?_
    try refine andA ?_
    first | refine And.intro ⟨by kernel_rfl,by kernel_rfl,by kernel_rfl⟩ ?_ | skip
    try refine sA ?_
    refine Bs_if hs1 (fun hs1 hc7 => ?_) (fun hs1 hc7 => ?_)
    ·try refine sA ?_
     cases hs1
     cases hk1
     try dsimp only at h
     try refine sA ?_
     obtain rfl:=Option.some.inj h
     exact endsA ⟨[(4,(B false))],[],0,26⟩ []
    ·try refine sA ?_
     cases hs1
     exact X_backP hk1 (weakA [])
   ·try refine sA ?_
    cases hs1
    cases hk1
    try dsimp only at h
    try refine sA ?_
    obtain rfl:=Option.some.inj h
    exact endsA ⟨[(4,(B true))],[],0,26⟩ []
theorem zfb {a0 : (List EventT)} {a1 : (List EventT)} {r : Bool} (h : zcw a0 a1 = some r) : Fn Tryz.prog 64 [(.lf true (.sl (a0.map eEvent))),(.lf true (.sl (a1.map eEvent)))] [] 0 (B r) [] 0 := by
 unfold zcw at h
 refine fn_code tab_ok mixed [] Tryz.func64 rfl rfl (by simp [Tryz.f64]) (by kernel_rfl) ?_
 simp only [Tryz.f64]
 refine sA ?_
 refine Sp_if h (fun h hc1 => ?_) (fun h hc1 => ?_)
 ·try refine sA ?_
  obtain ⟨hp2,h⟩ := guard_some h
  try refine sA ?_
  try refine andA ?_
  obtain ⟨c466,hr3,h⟩ := bind_ok h
  refine Cl_sA (zfR hr3) ?_
  try refine sA ?_
  obtain rfl:=Option.some.inj h
  exact endsA ⟨[(4,(B c466))],[],0,18⟩ []
 ·try refine sA ?_
  obtain rfl:=Option.some.inj h
  exact endsA ⟨[(4,(B false))],[],0,18⟩ []
theorem zbC {a0 : TellingsT} {r : Bool} (h : z7 a0 = some r) : Fn Tryz.prog 60 [(.ag [(.lf true (.sl (a0.Branches.map eBranch)))])] [] 0 (B r) [] 0 := by
 unfold z7 at h
 refine fn_code tab_ok mixed [(1000,[(1,0)]),(1001,[(1,0),(10,0)]),(1002,[(2,0)]),(1003,[(1,0),(12,0),(13,0),(14,0)]),(1004,[(1,0),(12,0),(13,0),(14,0),(15,0)]),(1005,[(1,0),(3,0),(4,0),(12,0),(13,0),(14,0)]),(1006,[(1,0),(3,0),(4,0),(12,0),(13,0),(14,0),(22,0)]),(1007,[(2,0)]),(1008,[(1,0),(4,0),(12,0),(13,0),(14,0),(26,0),(27,0),(28,0)]),(1009,[(1,0),(4,0),(12,0),(13,0),(14,0),(26,0),(27,0),(28,0),(29,0)]),(1010,[(1,0),(4,0),(6,0),(12,0),(13,0),(14,0),(26,0),(27,0),(28,0)]),(1011,[(1,0),(4,0),(12,0),(13,0),(14,0),(26,0),(27,0),(28,0),(44,0)]),(1012,[(2,0)]),(1013,[(1,0),(4,0),(12,0),(13,0),(14,0),(26,0),(27,0),(28,0)]),(1014,[(1,0),(12,0),(13,0),(14,0)]),(1015,[(2,0)]),(4011,[])] Tryz.func60 rfl rfl (by simp [Tryz.f60]) (by kernel_rfl) ?_
 simp only [Tryz.f60]
 refine sA ?_
 refine Bs_if h (fun h hc1 => ?_) (fun h hc1 => ?_)
 ·try refine sA ?_
  obtain rfl:=Option.some.inj h
  exact endsA ⟨[(2,(B false))],[],0,47⟩ []
 ·try refine sA ?_
  obtain ⟨y486,hl2,h⟩ := bind_ok h
  refine W_loopP (fun g353 : zaE => ⟨[(1,(.pb 0 0)),(12,(.lf true (.sl (a0.Branches.map eBranch)))),(13,(I ((a0.Branches.length : Nat) : Int))),(14,(I g353.t14))],[(0,some (true,.box [(.lf true (.sl (a0.Branches.map eBranch)))]))],1,47⟩) (zaG a0) _ _ hl2 (weakA [some 0]) ?_
  ·intro n1 g353 z1 hs1 hk1
   unfold zaG at hs1
   try dsimp only at hs1
   refine sA ?_
   refine Bs_if hs1 (fun hs1 hc3 => ?_) (fun hs1 hc3 => ?_)
   ·try refine sA ?_
    obtain ⟨hp4,hs1⟩ := guard_some hs1
    have hn4 : g353.t14.toNat < a0.Branches.length := by first | omega | (simp only [List.length_set,List.length_append,List.length_replicate,List.length_map]; omega)
    try refine sA ?_
    try refine andA ?_
    obtain ⟨c475,hr5,hs1⟩ := bind_ok hs1
    refine Cl_sA (zf5 hr5) ?_
    try refine sA ?_
    refine Bs_if hs1 (fun hs1 hc6 => ?_) (fun hs1 hc6 => ?_)
    ·try refine sA ?_
     cases hs1
     cases hk1
     try dsimp only at h
     try refine sA ?_
     obtain rfl:=Option.some.inj h
     exact endsA ⟨[(2,(B false))],[],0,47⟩ []
    ·try refine sA ?_
     obtain ⟨hp7,hs1⟩ := guard_some hs1
     try refine sA ?_
     try refine andA ?_
     obtain ⟨y483,hl8,hs1⟩ := bind_ok hs1
     refine W_loopP (fun g476 : zco => ⟨[(1,(.pb 0 0)),(4,(.pb 1 0)),(12,(.lf true (.sl (a0.Branches.map eBranch)))),(13,(I ((a0.Branches.length : Nat) : Int))),(14,(I g353.t14)),(26,(.lf true (.sl ((a0.Branches.take g353.t14.toNat).map eBranch)))),(27,(I (((a0.Branches.take g353.t14.toNat).length : Nat) : Int))),(28,(I g476.t28))],[(0,some (true,.box [(.lf true (.sl (a0.Branches.map eBranch)))])),(1,some (true,.box [(.lf true (.sl (((nth a0.Branches g353.t14.toNat).Events).map eEvent)))]))],2,47⟩) (zaF a0 g353) _ _ hl8 (weakA [some 0,some 1]) ?_
     ·intro n2 g476 z2 hs2 hk2
      unfold zaF at hs2
      try dsimp only at hs2
      refine sA ?_
      refine Bs_if hs2 (fun hs2 hc9 => ?_) (fun hs2 hc9 => ?_)
      ·try refine sA ?_
       obtain ⟨hp10,hs2⟩ := guard_some hs2
       have hn10 : g476.t28.toNat < (a0.Branches.take g353.t14.toNat).length := by first | omega | (simp only [List.length_set,List.length_append,List.length_replicate,List.length_map]; omega)
       try refine sA ?_
       try refine andA ?_
       obtain ⟨p482,hq11,hs2⟩ := bind_ok hs2
       refine Sq_cut (fun s2 => s2 = ⟨[(1,(.pb 0 0)),(4,(.pb 1 0)),(12,(.lf true (.sl (a0.Branches.map eBranch)))),(13,(I ((a0.Branches.length : Nat) : Int))),(14,(I g353.t14)),(26,(.lf true (.sl ((a0.Branches.take g353.t14.toNat).map eBranch)))),(27,(I (((a0.Branches.take g353.t14.toNat).length : Nat) : Int))),(28,(I g476.t28)),(44,(B p482.t44))],[(0,some (true,.box [(.lf true (.sl (a0.Branches.map eBranch)))])),(1,some (true,.box [(.lf true (.sl (((nth a0.Branches g353.t14.toNat).Events).map eEvent)))]))],2,47⟩) ?_ ?_
       ·try refine sA ?_
        obtain ⟨c480,hr12,hq11⟩ := bind_ok hq11
        refine Cl_sA (zeM hr12) ?_
        try refine sA ?_
        refine Sp_if hq11 (fun hq11 hc13 => ?_) (fun hq11 hc13 => ?_)
        ·try refine sA ?_
         cases hq11
         exact X_cut rfl (weakA [some 0,some 1])
        ·try refine sA ?_
         obtain ⟨c481,hr14,hq11⟩ := bind_ok hq11
         refine Cl_sA (zfb hr14) ?_
         try refine sA ?_
         cases hq11
         exact X_cut rfl (weakA [some 0,some 1])
       ·intro s2 hJ; subst hJ
        try dsimp only at hs2
        try refine sA ?_
        refine Bs_if hs2 (fun hs2 hc15 => ?_) (fun hs2 hc15 => ?_)
        ·try refine sA ?_
         cases hs2
         cases hk2
         try dsimp only at hs1
         try refine sA ?_
         cases hs1
         cases hk1
         try dsimp only at h
         try refine sA ?_
         obtain rfl:=Option.some.inj h
         exact endsA ⟨[(2,(B false))],[],0,47⟩ []
        ·try refine sA ?_
         cases hs2
         exact X_backP hk2 (weakA [some 0,some 1])
      ·try refine sA ?_
       cases hs2
       cases hk2
       try dsimp only at hs1
       try refine sA ?_
       cases hs1
       exact X_backP hk1 (weakA [some 0])
   ·try refine sA ?_
    cases hs1
    cases hk1
    try dsimp only at h
    try refine sA ?_
    obtain rfl:=Option.some.inj h
    exact endsA ⟨[(2,(B true))],[],0,47⟩ []
theorem zgu {a0 : EventT} {a1 : Int} {r : Bool} (h : zcU a0 a1 = some r) : Fn Tryz.prog 126 [(.ag [(I a0.Id),(I a0.Version),(I a0.Kind),(.lf false (.sc (.string a0.Name)))]),(.ra true [.sc (.int .i64 a1)])] [] 0 (B r) [] 0 := by
 unfold zcU at h
 refine fn_code tab_ok mixed [] Tryz.func126 rfl rfl (by simp [Tryz.f126]) (by kernel_rfl) ?_
 simp only [Tryz.f126]
 refine sA ?_
 obtain rfl:=Option.some.inj h
 exact endsA ⟨[(3,(B (decide (a0.Version > a1))))],[],0,8⟩ []
end Go.TL.YteonagfnhdlfcaaGreatDoor

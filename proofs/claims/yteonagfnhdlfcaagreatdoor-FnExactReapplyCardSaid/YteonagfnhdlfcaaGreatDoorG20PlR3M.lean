import Derived.Test.YteonagfnhdlfcaaGreatDoorG19PlR1
import Derived.Test.YteonagfnhdlfcaaGreatDoorG18PlTrim
set_option linter.unusedSimpArgs false
set_option linter.unusedVariables false
namespace Go.TL
end Go.TL
namespace Go.TL
structure RegionT where
 Id : Int
 Version : Int
 Tellings : TellingsT
 deriving DecidableEq,Inhabited
noncomputable def zdF (a0 : RegionT) (a1 : Int) : Option Int :=
 ((zcy a0.Tellings a1).bind fun c15 =>
 (if (decide (c15 < 0)) = true then
  some (-1)
 else
  some c15))
noncomputable def zbP (a0 : RegionT) : Option RegionT :=
 ((zbF a0.Tellings).bind fun c30 =>
 some (⟨a0.Id,a0.Version,c30⟩ : RegionT))
structure zbG where
 t22 : Bool
structure zaL where
 t27 : Int
structure zcB where
 t34 : Int
noncomputable def zaM (a0 : RegionT) (g137 : zaL) (g142 : zcB) : Option (zcB ⊕ (Unit ⊕ Unit)) :=
 (if (decide (g142.t34 < ((((nth a0.Tellings.Branches g137.t27.toNat).Events).length : Nat) : Int))) = true then
  (guardO (0 ≤ g142.t34 ∧ g142.t34 < (((nth a0.Tellings.Branches g137.t27.toNat).Events).length : Int)) <|
  (if (decide (((nth ((nth a0.Tellings.Branches g137.t27.toNat).Events) g142.t34.toNat).Version) > a0.Version)) = true then
   some (.inr (.inl ()))
  else
   some (.inl ⟨(wI (g142.t34 + 1))⟩)))
 else
  some (.inr (.inr ())))
noncomputable def zaN (a0 : RegionT) (g137 : zaL) : Option (zaL ⊕ (Unit ⊕ Unit)) :=
 (if (decide (g137.t27 < ((a0.Tellings.Branches.length : Nat) : Int))) = true then
  (guardO (0 ≤ g137.t27 ∧ g137.t27 < (a0.Tellings.Branches.length : Int)) <|
  ((loopF (zaM a0 g137) ⟨0⟩).bind fun y143 =>
  match y143 with
  | .inl p144 =>
   some (.inr (.inl ()))
  | .inr p145 =>
   some (.inl ⟨(wI (g137.t27 + 1))⟩)))
 else
  some (.inr (.inr ())))
noncomputable def zcC (a0 : RegionT) : Option Bool :=
 ((((zaE a0.Id 0 9).bind fun c32 =>
  (if (!c32) = true then
   some (⟨true⟩ : zbG)
  else
   ((zdL a0.Version).bind fun c34 =>
   (if (!c34) = true then
    some (⟨true⟩ : zbG)
   else
    ((zbR a0.Tellings).bind fun c135 =>
    some (⟨(!c135)⟩ : zbG)))))) : Option zbG).bind fun p136 =>
 (if p136.t22 = true then
  some false
 else
  ((loopF (zaN a0) ⟨0⟩).bind fun y146 =>
  match y146 with
  | .inl p147 =>
   some false
  | .inr p148 =>
   some true)))
noncomputable def zcg (a0 : EventT) (a1 : Int) : Option Bool :=
 some (decide (a0.Version > a1))
structure zm where
 t8 : Int
structure zT where
 t4 : Int
noncomputable def zb (a0 : (List EventT)) (a1 : Int) (g297 : zm) : Option (zm ⊕ (zT ⊕ Unit)) :=
 (if (decide (g297.t8 < ((a0.length : Nat) : Int))) = true then
  (guardO (0 ≤ g297.t8 ∧ g297.t8 < (a0.length : Int)) <|
  ((zcg (nth a0 g297.t8.toNat) a1).bind fun c299 =>
  (if c299 = true then
   some (.inr (.inl (⟨g297.t8⟩)))
  else
   some (.inl ⟨(wI (g297.t8 + 1))⟩))))
 else
  some (.inr (.inr ())))
noncomputable def zq (a0 : (List EventT)) (a1 : Int) : Option Int :=
 ((loopF (zb a0 a1) ⟨0⟩).bind fun y300 =>
 match y300 with
 | .inl p301 =>
  some p301.t4
 | .inr p302 =>
  some (-1))
noncomputable def zg (a0 : (List EventT)) (a1 : Int) : Option Bool :=
 ((zq a0 a1).bind fun c303 =>
 some (decide (c303 ≥ 0)))
noncomputable def zdt (a0 : BranchT) (a1 : Int) : Option Bool :=
 ((zg a0.Events a1).bind fun c304 =>
 some c304)
structure zo where
 t8 : Int
structure zX where
 t4 : Int
noncomputable def zd (a0 : (List BranchT)) (a1 : Int) (g296 : zo) : Option (zo ⊕ (zX ⊕ Unit)) :=
 (if (decide (g296.t8 < ((a0.length : Nat) : Int))) = true then
  (guardO (0 ≤ g296.t8 ∧ g296.t8 < (a0.length : Int)) <|
  ((zdt (nth a0 g296.t8.toNat) a1).bind fun c306 =>
  (if c306 = true then
   some (.inr (.inl (⟨g296.t8⟩)))
  else
   some (.inl ⟨(wI (g296.t8 + 1))⟩))))
 else
  some (.inr (.inr ())))
noncomputable def zw (a0 : (List BranchT)) (a1 : Int) : Option Int :=
 ((loopF (zd a0 a1) ⟨0⟩).bind fun y307 =>
 match y307 with
 | .inl p308 =>
  some p308.t4
 | .inr p309 =>
  some (-1))
noncomputable def zh (a0 : (List BranchT)) (a1 : Int) : Option Bool :=
 ((zw a0 a1).bind fun c310 =>
 some (decide (c310 ≥ 0)))
structure zei where
 t12 : Bool
noncomputable def zeo (a0 : Int) (a1 : TellingsT) : Option Bool :=
 ((((zb3 a0).bind fun c154 =>
  (if (!c154) = true then
   some (⟨true⟩ : zei)
  else
   ((zbS a1).bind fun c294 =>
   some (⟨(!c294)⟩ : zei)))) : Option zei).bind fun p295 =>
 (if p295.t12 = true then
  some false
 else
  ((zh a1.Branches a0).bind fun c311 =>
  some (!c311))))
noncomputable def zcD (a0 : RegionT) : Option Bool :=
 ((zeq a0.Id).bind fun c152 =>
 (if c152 = true then
  ((zeo a0.Version a0.Tellings).bind fun c312 =>
  some c312)
 else
  some false))
noncomputable def zbe (a0 : RegionT) (a1 : RegionT) : Option Bool :=
 (if (a0.Id != a1.Id) = true then
  some false
 else
  (if (a0.Version != a1.Version) = true then
   some false
  else
   ((zcA a0.Tellings a1.Tellings).bind fun c329 =>
   (if (!c329) = true then
    some false
   else
    some true))))
noncomputable def zb5 (a0 : RegionT) : Option Bool :=
 some ((a0.Version.tmod 10) == a0.Id)
noncomputable def zK (a0 : RegionT) : Option Bool :=
 some ((a0.Version.tmod 10) == a0.Id)
structure WordT where
 Version : Int
 Tellings : TellingsT
 deriving DecidableEq,Inhabited
structure SaidT where
 To : Int
 Word : WordT
 deriving DecidableEq,Inhabited
noncomputable def zcE (a0 : RegionT) : Option RegionT :=
 ((zbF a0.Tellings).bind fun c363 =>
 some (⟨a0.Id,a0.Version,c363⟩ : RegionT))
end Go.TL
namespace Go.TL
end Go.TL
namespace Go.TL
end Go.TL
namespace Go.TL
structure zcF where
 t21 : Bool
noncomputable def za1 (a0 : StateT) (a1 : Int) (a2 : ByteArray) : Option (Bool × Bool) :=
 ((((zaH a0).bind fun c207 =>
  (if (!c207) = true then
   some (⟨true⟩ : zcF)
  else
   ((zP a1).bind fun c208 =>
   (if (!c208) = true then
    some (⟨true⟩ : zcF)
   else
    ((zaA a2).bind fun c209 =>
    some (⟨(!c209)⟩ : zcF)))))) : Option zcF).bind fun p210 =>
 (if p210.t21 = true then
  some (false,false)
 else
  ((zan a0).bind fun c211 =>
  ((zaJ c211 a1 a2).bind fun c212 =>
  (if c212.1 = true then
   ((zaH c212.2).bind fun c213 =>
   some (c213,true))
  else
   some (false,true))))))
end Go.TL
namespace Go.TL
structure MoveT where
 From : Int
 To : Int
 Many : Int
 deriving DecidableEq,Inhabited
end Go.TL
namespace Go.TL
structure zd0 where
 t3 : Int
 t11 : Int
structure zfQ where
 t3 : Int
structure zbH where
 t55 : Bool
noncomputable def zx (a0 : (List BranchT)) (g128 : zd0) : Option (zd0 ⊕ zfQ) :=
 (if (decide (g128.t11 < ((a0.length : Nat) : Int))) = true then
  (guardO (0 ≤ g128.t11 ∧ g128.t11 < (a0.length : Int)) <|
  (if (decide (g128.t3 < 0)) = true then
   some (.inl ⟨g128.t11,(wI (g128.t11 + 1))⟩)
  else
   (guardO (0 ≤ g128.t3 ∧ g128.t3 < (a0.length : Int)) <|
   (guardO (0 ≤ (wI (((((nth a0 g128.t11.toNat).Events).length : Nat) : Int) - 1)) ∧ (wI (((((nth a0 g128.t11.toNat).Events).length : Nat) : Int) - 1)) < (((nth a0 g128.t11.toNat).Events).length : Int)) <|
   (guardO (0 ≤ (wI (((((nth a0 g128.t3.toNat).Events).length : Nat) : Int) - 1)) ∧ (wI (((((nth a0 g128.t3.toNat).Events).length : Nat) : Int) - 1)) < (((nth a0 g128.t3.toNat).Events).length : Int)) <|
   (((if (decide (((nth ((nth a0 g128.t11.toNat).Events) ((wI (((((nth a0 g128.t11.toNat).Events).length : Nat) : Int) - 1)).toNat)).Version) > ((nth ((nth a0 g128.t3.toNat).Events) ((wI (((((nth a0 g128.t3.toNat).Events).length : Nat) : Int) - 1)).toNat)).Version))) = true then
     some (⟨true⟩ : zbH)
    else
     (if (((nth ((nth a0 g128.t11.toNat).Events) ((wI (((((nth a0 g128.t11.toNat).Events).length : Nat) : Int) - 1)).toNat)).Version) == ((nth ((nth a0 g128.t3.toNat).Events) ((wI (((((nth a0 g128.t3.toNat).Events).length : Nat) : Int) - 1)).toNat)).Version)) = true then
      some (⟨(decide (((((nth a0 g128.t11.toNat).Events).length : Nat) : Int) ≥ ((((nth a0 g128.t3.toNat).Events).length : Nat) : Int)))⟩ : zbH)
     else
      some (⟨false⟩ : zbH))) : Option zbH).bind fun p129 =>
   (if p129.t55 = true then
    some (.inl ⟨g128.t11,(wI (g128.t11 + 1))⟩)
   else
    some (.inl ⟨g128.t3,(wI (g128.t11 + 1))⟩))))))))
 else
  some (.inr (⟨g128.t3⟩)))
noncomputable def zbJ (a0 : (List BranchT)) : Option Int :=
 ((loopF (zx a0) ⟨(-1),0⟩).bind fun y130 =>
 some y130.t3)
noncomputable def zH (a0 : (List EventT)) : Option (List EventT) :=
 (guardO (a0.length * 40 ≤ 140737488355328) <|
 some (([]) ++ a0))
noncomputable def zdg (a0 : (List EventT)) : Option Int :=
 (guardO (0 ≤ (wI (((a0.length : Nat) : Int) - 1)) ∧ (wI (((a0.length : Nat) : Int) - 1)) < (a0.length : Int)) <|
 some ((nth a0 ((wI (((a0.length : Nat) : Int) - 1)).toNat)).Version))
noncomputable def zbK (a0 : BranchT) (a1 : BranchT) : Option Int :=
 ((zdg a0.Events).bind fun c275 =>
 ((zdg a1.Events).bind fun c276 =>
 ((zal c275 c276).bind fun c277 =>
 ((zal ((a0.Events.length : Nat) : Int) ((a1.Events.length : Nat) : Int)).bind fun c278 =>
 ((zaC a0.Events a1.Events).bind fun c279 =>
 ((zed ([c277,c278,c279])).bind fun c280 =>
 some c280))))))
structure zL where
 t6 : Int
 b1_0 : (List EventT)
structure zcl where
 b1_0 : (List EventT)
noncomputable def za (a0 : (List BranchT)) (g274 : zL) : Option (zL ⊕ zcl) :=
 (if (decide (g274.t6 < ((a0.length : Nat) : Int))) = true then
  (guardO (0 ≤ g274.t6 ∧ g274.t6 < (a0.length : Int)) <|
  ((zbK (nth a0 g274.t6.toNat) (⟨g274.b1_0⟩ : BranchT)).bind fun c282 =>
  (if (decide (c282 > 0)) = true then
   (guardO (0 ≤ g274.t6 ∧ g274.t6 < (a0.length : Int)) <|
   some (.inl ⟨(wI (g274.t6 + 1)),(nth a0 g274.t6.toNat).Events⟩))
  else
   some (.inl ⟨(wI (g274.t6 + 1)),g274.b1_0⟩))))
 else
  some (.inr (⟨g274.b1_0⟩)))
noncomputable def zk (a0 : (List BranchT)) : Option BranchT :=
 (((if (decide (((a0.length : Nat) : Int) < 1)) = true then
   none
  else
   some (() : Unit)) : Option Unit).bind fun p273 =>
 (guardO (0 < (a0.length : Int)) <|
 ((loopF (za a0) ⟨1,(nth a0 0).Events⟩).bind fun y283 =>
 some (⟨y283.b1_0⟩ : BranchT))))
noncomputable def zbB (a0 : TellingsT) : Option (List EventT) :=
 (if (((a0.Branches.length : Nat) : Int) == 0) = true then
  some ([])
 else
  ((zk a0.Branches).bind fun c284 =>
  some c284.Events))
noncomputable def zj (a0 : (List EventT)) : Option (List EventT) :=
 guardO (a0.length * 40 ≤ 140737488355328) (some a0)
structure zbx where
 t1 : Int
 t5 : Int
 c0 : (List BranchT)
structure zd1 where
 t1 : Int
 c0 : (List BranchT)
noncomputable def zS (g309 : zbx) : Option (zbx ⊕ zd1) :=
 (if (decide (g309.t5 < ((g309.c0.length : Nat) : Int))) = true then
  (guardO (g309.t5.toNat < g309.c0.length) <|
  (guardO (0 ≤ g309.t5 ∧ g309.t5 < ((g309.c0.length : Nat) : Int)) <|
  ((zbQ ((nth g309.c0 g309.t5.toNat).Events) g309.t1).bind fun c317 =>
  (guardO (c317.2.length = ((nth g309.c0 g309.t5.toNat).Events).length) <|
  some (.inl ⟨c317.1,(wI (g309.t5 + 1)),(g309.c0.set g309.t5.toNat (⟨c317.2⟩ : BranchT))⟩)))))
 else
  some (.inr (⟨g309.t1,g309.c0⟩)))
noncomputable def zbj (a0 : (List BranchT)) (a1 : Int) : Option (Int × (List BranchT)) :=
 ((loopF (zS) ⟨a1,0,a0⟩).bind fun y318 =>
 some (y318.t1,y318.c0))
noncomputable def za2 (a0 : TellingsT) (a1 : Int) : Option (Int × (List BranchT)) :=
 ((zbj a0.Branches a1).bind fun c319 =>
 (guardO (c319.2.length = a0.Branches.length) <|
 some (c319.1,c319.2)))
structure zcG where
 t1 : Int
 t5 : Int
structure zeL where
 t1 : Int
noncomputable def zaO (a0 : (List EventT)) (g324 : zcG) : Option (zcG ⊕ (Unit ⊕ zeL)) :=
 (if (decide (g324.t5 < ((a0.length : Nat) : Int))) = true then
  (guardO (0 ≤ g324.t5 ∧ g324.t5 < (a0.length : Int)) <|
  (if (((nth a0 g324.t5.toNat).Id) != g324.t1) = true then
   some (.inr (.inl ()))
  else
   (guardO (0 ≤ g324.t5 ∧ g324.t5 < (a0.length : Int)) <|
   (if (((nth a0 g324.t5.toNat).Version) != (wI (g324.t1 + 1))) = true then
    some (.inr (.inl ()))
   else
    (guardO (0 ≤ g324.t5 ∧ g324.t5 < (a0.length : Int)) <|
    (if (((nth a0 g324.t5.toNat).Kind) != (wI ((wI (g324.t1 + 1)) + 1))) = true then
     some (.inr (.inl ()))
    else
     (guardO (0 ≤ g324.t5 ∧ g324.t5 < (a0.length : Int)) <|
     ((zaz (wI ((wI ((wI (g324.t1 + 1)) + 1)) + 1))).bind fun c326 =>
     (if (!(((nth a0 g324.t5.toNat).Name).toList == c326.toList)) = true then
      some (.inr (.inl ()))
     else
      some (.inl ⟨(wI ((wI ((wI ((wI (g324.t1 + 1)) + 1)) + 1)) + 1)),(wI (g324.t5 + 1))⟩))))))))))
 else
  some (.inr (.inr (⟨g324.t1⟩))))
noncomputable def zcH (a0 : (List EventT)) (a1 : Int) : Option Int :=
 ((loopF (zaO a0) ⟨a1,0⟩).bind fun y327 =>
 match y327 with
 | .inl p328 =>
  some (-1)
 | .inr p329 =>
  some p329.t1)
structure zbL where
 t10 : Int
 c2 : (List BranchT)
structure zeh where
 c2 : (List BranchT)
noncomputable def zY (a0 : TellingsT) (g397 : zbL) : Option (zbL ⊕ zeh) :=
 (if (decide (g397.t10 < ((a0.Branches.length : Nat) : Int))) = true then
  (guardO (0 ≤ g397.t10 ∧ g397.t10 < (a0.Branches.length : Int)) <|
  ((zj ((nth a0.Branches g397.t10.toNat).Events)).bind fun c399 =>
  (guardO ((g397.c2.length + 1) * 24 ≤ 140737488355328) <|
  some (.inl ⟨(wI (g397.t10 + 1)),(g397.c2 ++ [(⟨c399⟩ : BranchT)])⟩))))
 else
  some (.inr (⟨g397.c2⟩)))
noncomputable def zaP (a0 : TellingsT) : Option TellingsT :=
 ((loopF (zY a0) ⟨0,[]⟩).bind fun y400 =>
 some (⟨y400.c2⟩ : TellingsT))
noncomputable def zaQ (a0 : RegionT) (a1 : Int) : Option (Int × (List BranchT)) :=
 ((za2 a0.Tellings a1).bind fun c410 =>
 (guardO (c410.2.length = a0.Tellings.Branches.length) <|
 some (c410.1,c410.2)))
structure zch where
 t1 : Int
 t5 : Int
structure zeB where
 t1 : Int
noncomputable def zar (a0 : (List BranchT)) (g416 : zch) : Option (zch ⊕ (Unit ⊕ zeB)) :=
 (if (decide (g416.t5 < ((a0.length : Nat) : Int))) = true then
  (guardO (0 ≤ g416.t5 ∧ g416.t5 < (a0.length : Int)) <|
  ((zcH ((nth a0 g416.t5.toNat).Events) g416.t1).bind fun c418 =>
  (if (decide (c418 < 0)) = true then
   some (.inr (.inl ()))
  else
   some (.inl ⟨c418,(wI (g416.t5 + 1))⟩))))
 else
  some (.inr (.inr (⟨g416.t1⟩))))
noncomputable def zb9 (a0 : (List BranchT)) (a1 : Int) : Option Int :=
 ((loopF (zar a0) ⟨a1,0⟩).bind fun y419 =>
 match y419 with
 | .inl p420 =>
  some (-1)
 | .inr p421 =>
  some p421.t1)
noncomputable def zbT (a0 : TellingsT) (a1 : Int) : Option Int :=
 ((zb9 a0.Branches a1).bind fun c422 =>
 (if (decide (c422 < 0)) = true then
  some (-1)
 else
  some c422))
noncomputable def zcJ (a0 : RegionT) : Option (List EventT) :=
 ((zbJ a0.Tellings.Branches).bind fun c433 =>
 (if (decide (c433 < 0)) = true then
  some ([])
 else
  (guardO (0 ≤ c433 ∧ c433 < (a0.Tellings.Branches.length : Int)) <|
  some ((nth a0.Tellings.Branches c433.toNat).Events))))
noncomputable def zas (a0 : RegionT) : Option StateT :=
 ((zbB a0.Tellings).bind fun c440 =>
 ((zbE c440).bind fun c441 =>
 some c441.1))
noncomputable def zdu (a0 : RegionT) : Option RegionT :=
 ((zaP a0.Tellings).bind fun c498 =>
 some (⟨a0.Id,a0.Version,c498⟩ : RegionT))
noncomputable def zbM (a0 : RegionT) (a1 : Int) : Option Int :=
 ((zbT a0.Tellings a1).bind fun c516 =>
 (if (decide (c516 < 0)) = true then
  some (-1)
 else
  some c516))
end Go.TL
namespace Go.TL
structure zdN where
 t28 : Int
 c1 : (List ByteArray)
structure ze3 where
 c0 : (List ByteArray)
structure zdO where
 t41 : Int
 c1 : (List ByteArray)
structure ze4 where
 c1 : (List ByteArray)
structure zdJ where
 t55 : Bool
noncomputable def za3 (c145 : (StateT × Int)) (c132 : (StateT × Int)) (g146 : zdO) : Option (zdO ⊕ ze4) :=
 (if (decide (g146.t41 < ((c145.1.Signals.length : Nat) : Int))) = true then
  (guardO (0 ≤ g146.t41 ∧ g146.t41 < (c145.1.Signals.length : Int)) <|
  ((((zaW c132.1.Signals (nth c145.1.Signals g146.t41.toNat)).bind fun c151 =>
   (if (decide (c151 < 0)) = true then
    ((zaW g146.c1 (nth c145.1.Signals g146.t41.toNat)).bind fun c152 =>
    some (⟨(decide (c152 < 0))⟩ : zdJ))
   else
    some (⟨false⟩ : zdJ))) : Option zdJ).bind fun p153 =>
  (if p153.t55 = true then
   ((zbc g146.c1 (nth c145.1.Signals g146.t41.toNat)).bind fun c154 =>
   some (.inl ⟨(wI (g146.t41 + 1)),c154⟩))
  else
   some (.inl ⟨(wI (g146.t41 + 1)),g146.c1⟩))))
 else
  some (.inr (⟨g146.c1⟩)))
noncomputable def zbN (a0 : (List BranchT)) (c132 : (StateT × Int)) (g133 : zdN) : Option (zdN ⊕ ze3) :=
 (if (decide (g133.t28 < ((a0.length : Nat) : Int))) = true then
  (guardO (0 ≤ g133.t28 ∧ g133.t28 < (a0.length : Int)) <|
  ((zbA ((nth a0 g133.t28.toNat).Events)).bind fun c145 =>
  ((loopF (za3 c145 c132) ⟨0,g133.c1⟩).bind fun y155 =>
  some (.inl ⟨(wI (g133.t28 + 1)),y155.c1⟩))))
 else
  some (.inr (⟨g133.c1⟩)))
noncomputable def zd2 (a0 : (List BranchT)) : Option (List ByteArray) :=
 ((zbJ a0).bind fun c131 =>
 (if (decide (c131 < 0)) = true then
  some ([])
 else
  (guardO (0 ≤ c131 ∧ c131 < (a0.length : Int)) <|
  ((zbA ((nth a0 c131.toNat).Events)).bind fun c132 =>
  ((loopF (zbN a0 c132) ⟨0,[]⟩).bind fun y156 =>
  some y156.c0)))))
structure zdP where
 t9 : Int
 c0 : (List ByteArray)
structure ze5 where
 c0 : (List ByteArray)
noncomputable def zbO (a0 : (List EventT)) (g309 : zdP) : Option (zdP ⊕ ze5) :=
 (if (decide (g309.t9 < ((a0.length : Nat) : Int))) = true then
  (guardO (0 ≤ g309.t9 ∧ g309.t9 < (a0.length : Int)) <|
  (if (((nth a0 g309.t9.toNat).Kind) == 2) = true then
   (guardO ((g309.c0.length + 1) * 16 ≤ 140737488355328) <|
   some (.inl ⟨(wI (g309.t9 + 1)),(g309.c0 ++ ([(nth a0 g309.t9.toNat).Name]))⟩))
  else
   some (.inl ⟨(wI (g309.t9 + 1)),g309.c0⟩)))
 else
  some (.inr (⟨g309.c0⟩)))
noncomputable def zdh (a0 : (List EventT)) : Option (List ByteArray) :=
 ((loopF (zbO a0) ⟨0,[]⟩).bind fun y310 =>
 some y310.c0)
noncomputable def zb1 (a0 : (List ByteArray)) : Option (List ByteArray) :=
 guardO (a0.length < 4611686018427387904) (some (sortS a0))
noncomputable def zbh (a0 : (List ByteArray)) : Option (List ByteArray) :=
 guardO (a0.length ≤ 9223372036854775807) (some (compS a0))
structure zci where
 t16 : Int
 c1 : (List ByteArray)
structure zeC where
 c0 : (List ByteArray)
structure zcj where
 t24 : Int
 c1 : (List ByteArray)
structure zeD where
 c1 : (List ByteArray)
noncomputable def zU (c318 : (List ByteArray)) (c311 : (List ByteArray)) (g319 : zcj) : Option (zcj ⊕ zeD) :=
 (if (decide (g319.t24 < ((c318.length : Nat) : Int))) = true then
  (guardO (0 ≤ g319.t24 ∧ g319.t24 < ((c318.length : Nat) : Int)) <|
  ((zv c311 (nth c318 g319.t24.toNat)).bind fun c321 =>
  (if (!c321) = true then
   (guardO ((g319.c1.length + 1) * 16 ≤ 140737488355328) <|
   some (.inl ⟨(wI (g319.t24 + 1)),(g319.c1 ++ ([(nth c318 g319.t24.toNat)]))⟩))
  else
   some (.inl ⟨(wI (g319.t24 + 1)),g319.c1⟩))))
 else
  some (.inr (⟨g319.c1⟩)))
noncomputable def zat (a0 : TellingsT) (c311 : (List ByteArray)) (g312 : zci) : Option (zci ⊕ zeC) :=
 (if (decide (g312.t16 < ((a0.Branches.length : Nat) : Int))) = true then
  (guardO (0 ≤ g312.t16 ∧ g312.t16 < (a0.Branches.length : Int)) <|
  ((zdh ((nth a0.Branches g312.t16.toNat).Events)).bind fun c318 =>
  ((loopF (zU c318 c311) ⟨0,g312.c1⟩).bind fun y322 =>
  some (.inl ⟨(wI (g312.t16 + 1)),y322.c1⟩))))
 else
  some (.inr (⟨g312.c1⟩)))
noncomputable def zca (a0 : TellingsT) : Option (List ByteArray) :=
 ((zbB a0).bind fun c308 =>
 ((zdh c308).bind fun c311 =>
 ((loopF (zat a0 c311) ⟨0,[]⟩).bind fun y323 =>
 ((zb1 y323.c0).bind fun c324 =>
 (guardO (c324.length = y323.c0.length) <|
 ((zbh c324).bind fun c325 =>
 some c325))))))
end Go.TL

import Derived.Test.YteonagfnhdlfcaaGreatDoorG19PlR1
import Derived.Test.YteonagfnhdlfcaaGreatDoorG18PlTrim
set_option linter.unusedSimpArgs false
set_option linter.unusedVariables false
namespace Go.TL
end Go.TL
namespace Go.TL
structure RegionT where
 Id : Int
 Version : Int
 Tellings : TellingsT
 deriving DecidableEq,Inhabited
structure zb5 where
 t22 : Bool
structure za6 where
 t27 : Int
structure zdh where
 t34 : Int
noncomputable def za7 (a0 : RegionT) (g137 : za6) (g142 : zdh) : Option (zdh ⊕ (Unit ⊕ Unit)) :=
 (if (decide (g142.t34 < ((((nth a0.Tellings.Branches g137.t27.toNat).Events).length : Nat) : Int))) = true then
  (guardO (0 ≤ g142.t34 ∧ g142.t34 < (((nth a0.Tellings.Branches g137.t27.toNat).Events).length : Int)) <|
  (if (decide (((nth ((nth a0.Tellings.Branches g137.t27.toNat).Events) g142.t34.toNat).Version) > a0.Version)) = true then
   some (.inr (.inl ()))
  else
   some (.inl ⟨(wI (g142.t34 + 1))⟩)))
 else
  some (.inr (.inr ())))
noncomputable def za8 (a0 : RegionT) (g137 : za6) : Option (za6 ⊕ (Unit ⊕ Unit)) :=
 (if (decide (g137.t27 < ((a0.Tellings.Branches.length : Nat) : Int))) = true then
  (guardO (0 ≤ g137.t27 ∧ g137.t27 < (a0.Tellings.Branches.length : Int)) <|
  ((loopF (za7 a0 g137) ⟨0⟩).bind fun y143 =>
  match y143 with
  | .inl p144 =>
   some (.inr (.inl ()))
  | .inr p145 =>
   some (.inl ⟨(wI (g137.t27 + 1))⟩)))
 else
  some (.inr (.inr ())))
noncomputable def zR (a0 : RegionT) : Option Bool :=
 ((((zar a0.Id 0 9).bind fun c32 =>
  (if (!c32) = true then
   some (⟨true⟩ : zb5)
  else
   ((zbf a0.Version).bind fun c34 =>
   (if (!c34) = true then
    some (⟨true⟩ : zb5)
   else
    ((zah a0.Tellings).bind fun c135 =>
    some (⟨(!c135)⟩ : zb5)))))) : Option zb5).bind fun p136 =>
 (if p136.t22 = true then
  some false
 else
  ((loopF (za8 a0) ⟨0⟩).bind fun y146 =>
  match y146 with
  | .inl p147 =>
   some false
  | .inr p148 =>
   some true)))
noncomputable def zcU (a0 : EventT) (a1 : Int) : Option Bool :=
 some (decide (a0.Version > a1))
structure zt where
 t8 : Int
structure zai where
 t4 : Int
noncomputable def zc (a0 : (List EventT)) (a1 : Int) (g297 : zt) : Option (zt ⊕ (zai ⊕ Unit)) :=
 (if (decide (g297.t8 < ((a0.length : Nat) : Int))) = true then
  (guardO (0 ≤ g297.t8 ∧ g297.t8 < (a0.length : Int)) <|
  ((zcU (nth a0 g297.t8.toNat) a1).bind fun c299 =>
  (if c299 = true then
   some (.inr (.inl (⟨g297.t8⟩)))
  else
   some (.inl ⟨(wI (g297.t8 + 1))⟩))))
 else
  some (.inr (.inr ())))
noncomputable def zA (a0 : (List EventT)) (a1 : Int) : Option Int :=
 ((loopF (zc a0 a1) ⟨0⟩).bind fun y300 =>
 match y300 with
 | .inl p301 =>
  some p301.t4
 | .inr p302 =>
  some (-1))
noncomputable def zi (a0 : (List EventT)) (a1 : Int) : Option Bool :=
 ((zA a0 a1).bind fun c303 =>
 some (decide (c303 ≥ 0)))
noncomputable def zd4 (a0 : BranchT) (a1 : Int) : Option Bool :=
 ((zi a0.Events a1).bind fun c304 =>
 some c304)
structure zx where
 t8 : Int
structure zap where
 t4 : Int
noncomputable def ze (a0 : (List BranchT)) (a1 : Int) (g296 : zx) : Option (zx ⊕ (zap ⊕ Unit)) :=
 (if (decide (g296.t8 < ((a0.length : Nat) : Int))) = true then
  (guardO (0 ≤ g296.t8 ∧ g296.t8 < (a0.length : Int)) <|
  ((zd4 (nth a0 g296.t8.toNat) a1).bind fun c306 =>
  (if c306 = true then
   some (.inr (.inl (⟨g296.t8⟩)))
  else
   some (.inl ⟨(wI (g296.t8 + 1))⟩))))
 else
  some (.inr (.inr ())))
noncomputable def zG (a0 : (List BranchT)) (a1 : Int) : Option Int :=
 ((loopF (ze a0 a1) ⟨0⟩).bind fun y307 =>
 match y307 with
 | .inl p308 =>
  some p308.t4
 | .inr p309 =>
  some (-1))
noncomputable def zj (a0 : (List BranchT)) (a1 : Int) : Option Bool :=
 ((zG a0 a1).bind fun c310 =>
 some (decide (c310 ≥ 0)))
structure zeY where
 t12 : Bool
noncomputable def zef (a0 : Int) (a1 : TellingsT) : Option Bool :=
 ((((zcy a0).bind fun c154 =>
  (if (!c154) = true then
   some (⟨true⟩ : zeY)
  else
   ((z7 a1).bind fun c294 =>
   some (⟨(!c294)⟩ : zeY)))) : Option zeY).bind fun p295 =>
 (if p295.t12 = true then
  some false
 else
  ((zj a1.Branches a0).bind fun c311 =>
  some (!c311))))
noncomputable def zao (a0 : RegionT) : Option Bool :=
 ((ze5 a0.Id).bind fun c152 =>
 (if c152 = true then
  ((zef a0.Version a0.Tellings).bind fun c312 =>
  some c312)
 else
  some false))
noncomputable def zcB (a0 : RegionT) : Option Bool :=
 some ((a0.Version.tmod 10) == a0.Id)
noncomputable def zW (a0 : RegionT) : Option Bool :=
 some ((a0.Version.tmod 10) == a0.Id)
structure WordT where
 Version : Int
 Tellings : TellingsT
 deriving DecidableEq,Inhabited
structure SaidT where
 To : Int
 Word : WordT
 deriving DecidableEq,Inhabited
end Go.TL
namespace Go.TL
end Go.TL
namespace Go.TL
end Go.TL
namespace Go.TL
noncomputable def zag (a0 : l1CurT) : Option (ByteArray × l1CurT) :=
 ((zcG a0 ([(⟨#[97]⟩ : ByteArray),(⟨#[98]⟩ : ByteArray),(⟨#[99]⟩ : ByteArray),(⟨#[112,97,121]⟩ : ByteArray),(⟨#[115,104,105,112]⟩ : ByteArray),(⟨#[115,49]⟩ : ByteArray),(⟨#[115,50]⟩ : ByteArray)])).bind fun c15 =>
 some (c15.1,c15.2))
structure zdi where
 t21 : Bool
noncomputable def zbk (a0 : StateT) (a1 : Int) (a2 : ByteArray) : Option (Bool × Bool) :=
 ((((za3 a0).bind fun c207 =>
  (if (!c207) = true then
   some (⟨true⟩ : zdi)
  else
   ((zad a1).bind fun c208 =>
   (if (!c208) = true then
    some (⟨true⟩ : zdi)
   else
    ((zaX a2).bind fun c209 =>
    some (⟨(!c209)⟩ : zdi)))))) : Option zdi).bind fun p210 =>
 (if p210.t21 = true then
  some (false,false)
 else
  ((zaM a0).bind fun c211 =>
  ((za4 c211 a1 a2).bind fun c212 =>
  (if c212.1 = true then
   ((za3 c212.2).bind fun c213 =>
   some (c213,true))
  else
   some (false,true))))))
end Go.TL
namespace Go.TL
structure MoveT where
 From : Int
 To : Int
 Many : Int
 deriving DecidableEq,Inhabited
end Go.TL
namespace Go.TL
structure zez where
 t3 : Int
 t11 : Int
structure zgE where
 t3 : Int
structure zb6 where
 t55 : Bool
noncomputable def zH (a0 : (List BranchT)) (g128 : zez) : Option (zez ⊕ zgE) :=
 (if (decide (g128.t11 < ((a0.length : Nat) : Int))) = true then
  (guardO (0 ≤ g128.t11 ∧ g128.t11 < (a0.length : Int)) <|
  (if (decide (g128.t3 < 0)) = true then
   some (.inl ⟨g128.t11,(wI (g128.t11 + 1))⟩)
  else
   (guardO (0 ≤ g128.t3 ∧ g128.t3 < (a0.length : Int)) <|
   (guardO (0 ≤ (wI (((((nth a0 g128.t11.toNat).Events).length : Nat) : Int) - 1)) ∧ (wI (((((nth a0 g128.t11.toNat).Events).length : Nat) : Int) - 1)) < (((nth a0 g128.t11.toNat).Events).length : Int)) <|
   (guardO (0 ≤ (wI (((((nth a0 g128.t3.toNat).Events).length : Nat) : Int) - 1)) ∧ (wI (((((nth a0 g128.t3.toNat).Events).length : Nat) : Int) - 1)) < (((nth a0 g128.t3.toNat).Events).length : Int)) <|
   (((if (decide (((nth ((nth a0 g128.t11.toNat).Events) ((wI (((((nth a0 g128.t11.toNat).Events).length : Nat) : Int) - 1)).toNat)).Version) > ((nth ((nth a0 g128.t3.toNat).Events) ((wI (((((nth a0 g128.t3.toNat).Events).length : Nat) : Int) - 1)).toNat)).Version))) = true then
     some (⟨true⟩ : zb6)
    else
     (if (((nth ((nth a0 g128.t11.toNat).Events) ((wI (((((nth a0 g128.t11.toNat).Events).length : Nat) : Int) - 1)).toNat)).Version) == ((nth ((nth a0 g128.t3.toNat).Events) ((wI (((((nth a0 g128.t3.toNat).Events).length : Nat) : Int) - 1)).toNat)).Version)) = true then
      some (⟨(decide (((((nth a0 g128.t11.toNat).Events).length : Nat) : Int) ≥ ((((nth a0 g128.t3.toNat).Events).length : Nat) : Int)))⟩ : zb6)
     else
      some (⟨false⟩ : zb6))) : Option zb6).bind fun p129 =>
   (if p129.t55 = true then
    some (.inl ⟨g128.t11,(wI (g128.t11 + 1))⟩)
   else
    some (.inl ⟨g128.t3,(wI (g128.t11 + 1))⟩))))))))
 else
  some (.inr (⟨g128.t3⟩)))
noncomputable def zb7 (a0 : (List BranchT)) : Option Int :=
 ((loopF (zH a0) ⟨(-1),0⟩).bind fun y130 =>
 some y130.t3)
noncomputable def zq (a0 : (List EventT)) : Option (List EventT) :=
 (guardO (a0.length * 40 ≤ 140737488355328) <|
 some (([]) ++ a0))
noncomputable def zdS (a0 : (List EventT)) : Option Int :=
 (guardO (0 ≤ (wI (((a0.length : Nat) : Int) - 1)) ∧ (wI (((a0.length : Nat) : Int) - 1)) < (a0.length : Int)) <|
 some ((nth a0 ((wI (((a0.length : Nat) : Int) - 1)).toNat)).Version))
noncomputable def zb8 (a0 : BranchT) (a1 : BranchT) : Option Int :=
 ((zdS a0.Events).bind fun c275 =>
 ((zdS a1.Events).bind fun c276 =>
 ((zaJ c275 c276).bind fun c277 =>
 ((zaJ ((a0.Events.length : Nat) : Int) ((a1.Events.length : Nat) : Int)).bind fun c278 =>
 ((zaZ a0.Events a1.Events).bind fun c279 =>
 ((zeP ([c277,c278,c279])).bind fun c280 =>
 some c280))))))
structure zX where
 t6 : Int
 b1_0 : (List EventT)
structure zc0 where
 b1_0 : (List EventT)
noncomputable def za (a0 : (List BranchT)) (g274 : zX) : Option (zX ⊕ zc0) :=
 (if (decide (g274.t6 < ((a0.length : Nat) : Int))) = true then
  (guardO (0 ≤ g274.t6 ∧ g274.t6 < (a0.length : Int)) <|
  ((zb8 (nth a0 g274.t6.toNat) (⟨g274.b1_0⟩ : BranchT)).bind fun c282 =>
  (if (decide (c282 > 0)) = true then
   (guardO (0 ≤ g274.t6 ∧ g274.t6 < (a0.length : Int)) <|
   some (.inl ⟨(wI (g274.t6 + 1)),(nth a0 g274.t6.toNat).Events⟩))
  else
   some (.inl ⟨(wI (g274.t6 + 1)),g274.b1_0⟩))))
 else
  some (.inr (⟨g274.b1_0⟩)))
noncomputable def zr (a0 : (List BranchT)) : Option BranchT :=
 (((if (decide (((a0.length : Nat) : Int) < 1)) = true then
   none
  else
   some (() : Unit)) : Option Unit).bind fun p273 =>
 (guardO (0 < (a0.length : Int)) <|
 ((loopF (za a0) ⟨1,(nth a0 0).Events⟩).bind fun y283 =>
 some (⟨y283.b1_0⟩ : BranchT))))
noncomputable def zbY (a0 : TellingsT) : Option (List EventT) :=
 (if (((a0.Branches.length : Nat) : Int) == 0) = true then
  some ([])
 else
  ((zr a0.Branches).bind fun c284 =>
  some c284.Events))
noncomputable def zk (a0 : (List EventT)) : Option (List EventT) :=
 guardO (a0.length * 40 ≤ 140737488355328) (some a0)
structure zb9 where
 t10 : Int
 c2 : (List BranchT)
structure zeW where
 c2 : (List BranchT)
noncomputable def zz (a0 : TellingsT) (g397 : zb9) : Option (zb9 ⊕ zeW) :=
 (if (decide (g397.t10 < ((a0.Branches.length : Nat) : Int))) = true then
  (guardO (0 ≤ g397.t10 ∧ g397.t10 < (a0.Branches.length : Int)) <|
  ((zk ((nth a0.Branches g397.t10.toNat).Events)).bind fun c399 =>
  (guardO ((g397.c2.length + 1) * 24 ≤ 140737488355328) <|
  some (.inl ⟨(wI (g397.t10 + 1)),(g397.c2 ++ [(⟨c399⟩ : BranchT)])⟩))))
 else
  some (.inr (⟨g397.c2⟩)))
noncomputable def zP (a0 : TellingsT) : Option TellingsT :=
 ((loopF (zz a0) ⟨0,[]⟩).bind fun y400 =>
 some (⟨y400.c2⟩ : TellingsT))
noncomputable def zdj (a0 : RegionT) : Option WordT :=
 ((zP a0.Tellings).bind fun c401 =>
 some (⟨a0.Version,c401⟩ : WordT))
noncomputable def ze2 (a0 : RegionT) : Option (WordT × Bool) :=
 ((zao a0).bind fun c396 =>
 (if (!c396) = true then
  some ((⟨0,(⟨[]⟩ : TellingsT)⟩ : WordT),false)
 else
  ((zdj a0).bind fun c402 =>
  some (c402,true))))
noncomputable def zdk (a0 : RegionT) : Option (List EventT) :=
 ((zb7 a0.Tellings.Branches).bind fun c433 =>
 (if (decide (c433 < 0)) = true then
  some ([])
 else
  (guardO (0 ≤ c433 ∧ c433 < (a0.Tellings.Branches.length : Int)) <|
  some ((nth a0.Tellings.Branches c433.toNat).Events))))
noncomputable def zaQ (a0 : RegionT) : Option StateT :=
 ((zbY a0.Tellings).bind fun c440 =>
 ((zb4 c440).bind fun c441 =>
 some c441.1))
noncomputable def zbH (a0 : RegionT) : Option RegionT :=
 ((zP a0.Tellings).bind fun c498 =>
 some (⟨a0.Id,a0.Version,c498⟩ : RegionT))
end Go.TL
namespace Go.TL
structure zen where
 t28 : Int
 c1 : (List ByteArray)
structure zfJ where
 c0 : (List ByteArray)
structure zeo where
 t41 : Int
 c1 : (List ByteArray)
structure zfK where
 c1 : (List ByteArray)
structure zeg where
 t55 : Bool
noncomputable def zbl (c145 : (StateT × Int)) (c132 : (StateT × Int)) (g146 : zeo) : Option (zeo ⊕ zfK) :=
 (if (decide (g146.t41 < ((c145.1.Signals.length : Nat) : Int))) = true then
  (guardO (0 ≤ g146.t41 ∧ g146.t41 < (c145.1.Signals.length : Int)) <|
  ((((zbg c132.1.Signals (nth c145.1.Signals g146.t41.toNat)).bind fun c151 =>
   (if (decide (c151 < 0)) = true then
    ((zbg g146.c1 (nth c145.1.Signals g146.t41.toNat)).bind fun c152 =>
    some (⟨(decide (c152 < 0))⟩ : zeg))
   else
    some (⟨false⟩ : zeg))) : Option zeg).bind fun p153 =>
  (if p153.t55 = true then
   ((zbv g146.c1 (nth c145.1.Signals g146.t41.toNat)).bind fun c154 =>
   some (.inl ⟨(wI (g146.t41 + 1)),c154⟩))
  else
   some (.inl ⟨(wI (g146.t41 + 1)),g146.c1⟩))))
 else
  some (.inr (⟨g146.c1⟩)))
noncomputable def zca (a0 : (List BranchT)) (c132 : (StateT × Int)) (g133 : zen) : Option (zen ⊕ zfJ) :=
 (if (decide (g133.t28 < ((a0.length : Nat) : Int))) = true then
  (guardO (0 ≤ g133.t28 ∧ g133.t28 < (a0.length : Int)) <|
  ((zbX ((nth a0 g133.t28.toNat).Events)).bind fun c145 =>
  ((loopF (zbl c145 c132) ⟨0,g133.c1⟩).bind fun y155 =>
  some (.inl ⟨(wI (g133.t28 + 1)),y155.c1⟩))))
 else
  some (.inr (⟨g133.c1⟩)))
noncomputable def zeA (a0 : (List BranchT)) : Option (List ByteArray) :=
 ((zb7 a0).bind fun c131 =>
 (if (decide (c131 < 0)) = true then
  some ([])
 else
  (guardO (0 ≤ c131 ∧ c131 < (a0.length : Int)) <|
  ((zbX ((nth a0 c131.toNat).Events)).bind fun c132 =>
  ((loopF (zca a0 c132) ⟨0,[]⟩).bind fun y156 =>
  some y156.c0)))))
structure zep where
 t9 : Int
 c0 : (List ByteArray)
structure zfL where
 c0 : (List ByteArray)
noncomputable def zcb (a0 : (List EventT)) (g309 : zep) : Option (zep ⊕ zfL) :=
 (if (decide (g309.t9 < ((a0.length : Nat) : Int))) = true then
  (guardO (0 ≤ g309.t9 ∧ g309.t9 < (a0.length : Int)) <|
  (if (((nth a0 g309.t9.toNat).Kind) == 2) = true then
   (guardO ((g309.c0.length + 1) * 16 ≤ 140737488355328) <|
   some (.inl ⟨(wI (g309.t9 + 1)),(g309.c0 ++ ([(nth a0 g309.t9.toNat).Name]))⟩))
  else
   some (.inl ⟨(wI (g309.t9 + 1)),g309.c0⟩)))
 else
  some (.inr (⟨g309.c0⟩)))
noncomputable def zdT (a0 : (List EventT)) : Option (List ByteArray) :=
 ((loopF (zcb a0) ⟨0,[]⟩).bind fun y310 =>
 some y310.c0)
noncomputable def zcq (a0 : (List ByteArray)) : Option (List ByteArray) :=
 guardO (a0.length < 4611686018427387904) (some (sortS a0))
noncomputable def zbA (a0 : (List ByteArray)) : Option (List ByteArray) :=
 guardO (a0.length ≤ 9223372036854775807) (some (compS a0))
structure zcV where
 t16 : Int
 c1 : (List ByteArray)
structure zfe where
 c0 : (List ByteArray)
structure zcW where
 t24 : Int
 c1 : (List ByteArray)
structure zff where
 c1 : (List ByteArray)
noncomputable def zal (c318 : (List ByteArray)) (c311 : (List ByteArray)) (g319 : zcW) : Option (zcW ⊕ zff) :=
 (if (decide (g319.t24 < ((c318.length : Nat) : Int))) = true then
  (guardO (0 ≤ g319.t24 ∧ g319.t24 < ((c318.length : Nat) : Int)) <|
  ((zF c311 (nth c318 g319.t24.toNat)).bind fun c321 =>
  (if (!c321) = true then
   (guardO ((g319.c1.length + 1) * 16 ≤ 140737488355328) <|
   some (.inl ⟨(wI (g319.t24 + 1)),(g319.c1 ++ ([(nth c318 g319.t24.toNat)]))⟩))
  else
   some (.inl ⟨(wI (g319.t24 + 1)),g319.c1⟩))))
 else
  some (.inr (⟨g319.c1⟩)))
noncomputable def zaR (a0 : TellingsT) (c311 : (List ByteArray)) (g312 : zcV) : Option (zcV ⊕ zfe) :=
 (if (decide (g312.t16 < ((a0.Branches.length : Nat) : Int))) = true then
  (guardO (0 ≤ g312.t16 ∧ g312.t16 < (a0.Branches.length : Int)) <|
  ((zdT ((nth a0.Branches g312.t16.toNat).Events)).bind fun c318 =>
  ((loopF (zal c318 c311) ⟨0,g312.c1⟩).bind fun y322 =>
  some (.inl ⟨(wI (g312.t16 + 1)),y322.c1⟩))))
 else
  some (.inr (⟨g312.c1⟩)))
noncomputable def zbJ (a0 : TellingsT) : Option (List ByteArray) :=
 ((zbY a0).bind fun c308 =>
 ((zdT c308).bind fun c311 =>
 ((loopF (zaR a0 c311) ⟨0,[]⟩).bind fun y323 =>
 ((zcq y323.c0).bind fun c324 =>
 (guardO (c324.length = y323.c0.length) <|
 ((zbA c324).bind fun c325 =>
 some c325))))))
noncomputable def zbK (a0 : TellingsT) : Option ((List ByteArray) × Bool) :=
 ((z7 a0).bind fun c295 =>
 (if (!c295) = true then
  some ([],false)
 else
  ((zbJ a0).bind fun c328 =>
  some (c328,true))))
end Go.TL

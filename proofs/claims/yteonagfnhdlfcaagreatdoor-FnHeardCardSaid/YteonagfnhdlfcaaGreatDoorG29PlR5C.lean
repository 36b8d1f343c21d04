import Derived.Test.YteonagfnhdlfcaaGreatDoorG20PlR3M
import Derived.Test.YteonagfnhdlfcaaGreatDoorG18PlTrim
import Derived.Test.YteonagfnhdlfcaaGreatDoorG28PpOrd
set_option linter.unusedSimpArgs false
set_option linter.unusedVariables false
namespace Go.TL
structure zeR where
 t15 : Int
noncomputable def zbM (a0 : (List BranchT)) (a1 : (List EventT)) (g169 : zeR) : Option (zeR ⊕ (Unit ⊕ Unit)) :=
 (if (decide (g169.t15 < ((a0.length : Nat) : Int))) = true then
  (guardO (0 ≤ g169.t15 ∧ g169.t15 < (a0.length : Int)) <|
  ((zaA ((nth a0 g169.t15.toNat).Events) a1).bind fun c171 =>
  (if c171 = true then
   some (.inr (.inl ()))
  else
   some (.inl ⟨(wI (g169.t15 + 1))⟩))))
 else
  some (.inr (.inr ())))
structure zfw where
 t6 : Bool
 t27 : Int
 c0 : (List BranchT)
structure zhs where
 t6 : Bool
 c0 : (List BranchT)
structure zeB where
 t47 : Bool
noncomputable def zcC (a0 : (List BranchT)) (a1 : (List EventT)) (g175 : zfw) : Option (zfw ⊕ zhs) :=
 (if (decide (g175.t27 < ((a0.length : Nat) : Int))) = true then
  (guardO (0 ≤ g175.t27 ∧ g175.t27 < (a0.length : Int)) <|
  ((zaA a1 ((nth a0 g175.t27.toNat).Events)).bind fun c183 =>
  (if c183 = true then
   some (.inl ⟨g175.t6,(wI (g175.t27 + 1)),g175.c0⟩)
  else
   ((zaL ((nth a0 g175.t27.toNat).Events) a1).bind fun c184 =>
   (((if (decide (c184.1 > 0)) = true then
     some (⟨(!g175.t6)⟩ : zeB)
    else
     some (⟨false⟩ : zeB)) : Option zeB).bind fun p185 =>
   (if p185.t47 = true then
    ((zq a1).bind fun c186 =>
    (guardO ((g175.c0.length + 1) * 24 ≤ 140737488355328) <|
    ((zq ((nth a0 g175.t27.toNat).Events)).bind fun c188 =>
    (guardO (((g175.c0.length + 1) + 1) * 24 ≤ 140737488355328) <|
    some (.inl ⟨true,(wI (g175.t27 + 1)),((g175.c0 ++ [(⟨c186⟩ : BranchT)]) ++ [(⟨c188⟩ : BranchT)])⟩)))))
   else
    ((zq ((nth a0 g175.t27.toNat).Events)).bind fun c189 =>
    (guardO ((g175.c0.length + 1) * 24 ≤ 140737488355328) <|
    some (.inl ⟨g175.t6,(wI (g175.t27 + 1)),(g175.c0 ++ [(⟨c189⟩ : BranchT)])⟩)))))))))
 else
  some (.inr (⟨g175.t6,g175.c0⟩)))
noncomputable def ze3 (a0 : (List BranchT)) (a1 : (List EventT)) : Option (List BranchT) :=
 ((loopF (zbM a0 a1) ⟨0⟩).bind fun y172 =>
 match y172 with
 | .inl p173 =>
  some a0
 | .inr p174 =>
  ((loopF (zcC a0 a1) ⟨false,0,[]⟩).bind fun y190 =>
  (if (!y190.t6) = true then
   ((zq a1).bind fun c191 =>
   (guardO ((y190.c0.length + 1) * 24 ≤ 140737488355328) <|
   some (y190.c0 ++ [(⟨c191⟩ : BranchT)])))
  else
   some y190.c0)))
structure zeS where
 t9 : Int
 c1 : (List BranchT)
structure zfW where
 c1 : (List BranchT)
noncomputable def zcD (a0 : TellingsT) (g212 : zeS) : Option (zeS ⊕ zfW) :=
 (if (decide (g212.t9 < ((a0.Branches.length : Nat) : Int))) = true then
  (guardO (0 ≤ g212.t9 ∧ g212.t9 < (a0.Branches.length : Int)) <|
  ((zq ((nth a0.Branches g212.t9.toNat).Events)).bind fun c214 =>
  (guardO ((g212.c1.length + 1) * 24 ≤ 140737488355328) <|
  some (.inl ⟨(wI (g212.t9 + 1)),(g212.c1 ++ [(⟨c214⟩ : BranchT)])⟩))))
 else
  some (.inr (⟨g212.c1⟩)))
noncomputable def zbU (a0 : TellingsT) : Option TellingsT :=
 ((loopF (zcD a0) ⟨0,[]⟩).bind fun y215 =>
 some (⟨y215.c1⟩ : TellingsT))
structure zdn where
 t13 : Int
noncomputable def za9 (a0 : (List EventT)) (a1 : (List EventT)) (g482 : zdn) : Option (zdn ⊕ (Unit ⊕ Unit)) :=
 (if (decide (g482.t13 < ((a0.length : Nat) : Int))) = true then
  (guardO (0 ≤ g482.t13 ∧ g482.t13 < (a0.length : Int)) <|
  (guardO (0 ≤ g482.t13 ∧ g482.t13 < (a1.length : Int)) <|
  (if (!((((nth a0 g482.t13.toNat).Id) == ((nth a1 g482.t13.toNat).Id)) && ((((nth a0 g482.t13.toNat).Version) == ((nth a1 g482.t13.toNat).Version)) && ((((nth a0 g482.t13.toNat).Kind) == ((nth a1 g482.t13.toNat).Kind)) && (((nth a0 g482.t13.toNat).Name).toList == ((nth a1 g482.t13.toNat).Name).toList))))) = true then
   some (.inr (.inl ()))
  else
   some (.inl ⟨(wI (g482.t13 + 1))⟩))))
 else
  some (.inr (.inr ())))
noncomputable def zdo (a0 : (List EventT)) (a1 : (List EventT)) : Option Bool :=
 (if (((a0.length : Nat) : Int) != ((a1.length : Nat) : Int)) = true then
  some false
 else
  ((loopF (za9 a0 a1) ⟨0⟩).bind fun y483 =>
  match y483 with
  | .inl p484 =>
   some false
  | .inr p485 =>
   some true))
end Go.TL
namespace Go.TL
noncomputable def zet (a0 : BranchT) (a1 : (List EventT)) : Option Bool :=
 ((zcw a1 a0.Events).bind fun c340 =>
 some c340)
structure zB where
 t8 : Int
structure zau where
 t4 : Int
noncomputable def zf (a0 : (List BranchT)) (a1 : (List EventT)) (g339 : zB) : Option (zB ⊕ (zau ⊕ Unit)) :=
 (if (decide (g339.t8 < ((a0.length : Nat) : Int))) = true then
  (guardO (0 ≤ g339.t8 ∧ g339.t8 < (a0.length : Int)) <|
  ((zet (nth a0 g339.t8.toNat) a1).bind fun c342 =>
  (if c342 = true then
   some (.inr (.inl (⟨g339.t8⟩)))
  else
   some (.inl ⟨(wI (g339.t8 + 1))⟩))))
 else
  some (.inr (.inr ())))
noncomputable def zJ (a0 : (List BranchT)) (a1 : (List EventT)) : Option Int :=
 ((loopF (zf a0 a1) ⟨0⟩).bind fun y343 =>
 match y343 with
 | .inl p344 =>
  some p344.t4
 | .inr p345 =>
  some (-1))
noncomputable def zm (a0 : (List BranchT)) (a1 : (List EventT)) : Option Bool :=
 ((zJ a0 a1).bind fun c346 =>
 some (decide (c346 ≥ 0)))
noncomputable def zaN (a0 : BranchT) (a1 : (List EventT)) : Option Bool :=
 ((zcw a0.Events a1).bind fun c348 =>
 some c348)
noncomputable def zN (a0 : (List BranchT)) (a1 : (List EventT)) : Option (List BranchT) :=
 guardO (a0.length ≤ 9223372036854775807 ∧ (a0.all fun b => (zaN b a1).isSome) = true) (some (a0.filter fun b => !((zaN b a1).getD false)))
noncomputable def ze9 (a0 : BranchT) (a1 : BranchT) : Option Int :=
 ((zaZ a0.Events a1.Events).bind fun c355 =>
 some c355)
noncomputable def zT (a0 : (List BranchT)) : Option (List BranchT) :=
 guardO (a0.length < 4611686018427387904 ∧ (a0.all fun b => decide (b.Events.length ≤ 1000)) = true ∧ aptO brL a0 = true) (some (sortO brL a0))
noncomputable def zcs (a0 : TellingsT) (a1 : (List EventT)) : Option TellingsT :=
 ((zP a0).bind fun c351 =>
 ((zm c351.Branches a1).bind fun c352 =>
 (if c352 = true then
  some c351
 else
  ((zN c351.Branches a1).bind fun c353 =>
  ((zk a1).bind fun c354 =>
  (guardO ((c353.length + 1) * 24 ≤ 140737488355328) <|
  ((zT (c353 ++ [(⟨c354⟩ : BranchT)])).bind fun c356 =>
  (guardO (c356.length = (c353.length + 1)) <|
  some (⟨c356⟩ : TellingsT)))))))))
structure zd5 where
 t5 : (List BranchT)
 t13 : Int
structure zfA where
 t5 : (List BranchT)
noncomputable def zbN (a1 : TellingsT) (g425 : zd5) : Option (zd5 ⊕ zfA) :=
 (if (decide (g425.t13 < ((a1.Branches.length : Nat) : Int))) = true then
  (guardO (0 ≤ g425.t13 ∧ g425.t13 < (a1.Branches.length : Int)) <|
  ((ze3 g425.t5 ((nth a1.Branches g425.t13.toNat).Events)).bind fun c427 =>
  some (.inl ⟨c427,(wI (g425.t13 + 1))⟩)))
 else
  some (.inr (⟨g425.t5⟩)))
noncomputable def zeb (a0 : TellingsT) (a1 : TellingsT) : Option TellingsT :=
 ((loopF (zbN a1) ⟨a0.Branches,0⟩).bind fun y428 =>
 ((zbU (⟨y428.t5⟩ : TellingsT)).bind fun c429 =>
 some c429))
structure zcL where
 t14 : Bool
noncomputable def zba (a0 : TellingsT) (a1 : TellingsT) : Option (TellingsT × Bool) :=
 ((((zah a0).bind fun c422 =>
  (if (!c422) = true then
   some (⟨true⟩ : zcL)
  else
   ((zah a1).bind fun c423 =>
   some (⟨(!c423)⟩ : zcL)))) : Option zcL).bind fun p424 =>
 (if p424.t14 = true then
  some ((⟨[]⟩ : TellingsT),false)
 else
  ((zeb a0 a1).bind fun c431 =>
  ((zah c431).bind fun c432 =>
  (if (!c432) = true then
   some ((⟨[]⟩ : TellingsT),false)
  else
   some (c431,true))))))
structure zcM where
 t16 : Bool
structure zcc where
 t23 : Int
 c2 : (List BranchT)
structure zeX where
 c2 : (List BranchT)
noncomputable def zaq (a1 : TellingsT) (g440 : zcc) : Option (zcc ⊕ zeX) :=
 (if (decide (g440.t23 < ((a1.Branches.length : Nat) : Int))) = true then
  (guardO (0 ≤ g440.t23 ∧ g440.t23 < (a1.Branches.length : Int)) <|
  ((zcs (⟨g440.c2⟩ : TellingsT) ((nth a1.Branches g440.t23.toNat).Events)).bind fun c442 =>
  some (.inl ⟨(wI (g440.t23 + 1)),c442.Branches⟩)))
 else
  some (.inr (⟨g440.c2⟩)))
noncomputable def zb0 (a0 : TellingsT) (a1 : TellingsT) : Option (TellingsT × Bool) :=
 ((((z7 a0).bind fun c436 =>
  (if (!c436) = true then
   some (⟨true⟩ : zcM)
  else
   ((z7 a1).bind fun c437 =>
   some (⟨(!c437)⟩ : zcM)))) : Option zcM).bind fun p438 =>
 (if p438.t16 = true then
  some ((⟨[]⟩ : TellingsT),false)
 else
  ((zP a0).bind fun c439 =>
  ((loopF (zaq a1) ⟨0,c439.Branches⟩).bind fun y443 =>
  (if (decide (((y443.c2.length : Nat) : Int) > 12)) = true then
   some ((⟨[]⟩ : TellingsT),false)
  else
   some ((⟨y443.c2⟩ : TellingsT),true))))))
structure zei where
 t19 : Bool
structure zej where
 b0_1 : Int
noncomputable def zec (a0 : RegionT) (a1 : WordT) : Option (RegionT × Bool) :=
 ((((zR a0).bind fun c488 =>
  (if (!c488) = true then
   some (⟨true⟩ : zei)
  else
   ((zR (⟨0,a1.Version,a1.Tellings⟩ : RegionT)).bind fun c489 =>
   some (⟨(!c489)⟩ : zei)))) : Option zei).bind fun p490 =>
 (if p490.t19 = true then
  some ((⟨0,0,(⟨[]⟩ : TellingsT)⟩ : RegionT),false)
 else
  ((zba a0.Tellings a1.Tellings).bind fun c491 =>
  (if (!c491.2) = true then
   some ((⟨0,0,(⟨[]⟩ : TellingsT)⟩ : RegionT),false)
  else
   (((if (decide (a1.Version > a0.Version)) = true then
     some (⟨a1.Version⟩ : zej)
    else
     some (⟨a0.Version⟩ : zej)) : Option zej).bind fun p492 =>
   some ((⟨a0.Id,p492.b0_1,c491.1⟩ : RegionT),true))))))
noncomputable def zcX (a0 : RegionT) (a1 : WordT) : Option (Bool × RegionT) :=
 ((zb0 a0.Tellings a1.Tellings).bind fun c523 =>
 (if c523.2 = true then
  some (c523.2,(⟨a0.Id,(max a0.Version a1.Version),c523.1⟩ : RegionT))
 else
  some (c523.2,a0)))
structure zek where
 t17 : Bool
noncomputable def zc9 (a0 : RegionT) (a1 : WordT) : Option (RegionT × Bool) :=
 ((((zao a0).bind fun c518 =>
  (if (!c518) = true then
   some (⟨true⟩ : zek)
  else
   ((zef a1.Version a1.Tellings).bind fun c519 =>
   some (⟨(!c519)⟩ : zek)))) : Option zek).bind fun p520 =>
 (if p520.t17 = true then
  some ((⟨0,0,(⟨[]⟩ : TellingsT)⟩ : RegionT),false)
 else
  ((zbH a0).bind fun c522 =>
  ((zcX c522 a1).bind fun c524 =>
  (if (!c524.1) = true then
   some ((⟨0,0,(⟨[]⟩ : TellingsT)⟩ : RegionT),false)
  else
   some (c524.2,true))))))
end Go.TL
namespace Go.TL
structure zct where
 t16 : Int
noncomputable def zaH (a0 : TellingsT) (a1 : TellingsT) (g450 : zct) : Option (zct ⊕ (Unit ⊕ Unit)) :=
 (if (decide (g450.t16 < ((a0.Branches.length : Nat) : Int))) = true then
  (guardO (0 ≤ g450.t16 ∧ g450.t16 < (a0.Branches.length : Int)) <|
  (guardO (0 ≤ g450.t16 ∧ g450.t16 < (a1.Branches.length : Int)) <|
  ((zdo ((nth a0.Branches g450.t16.toNat).Events) ((nth a1.Branches g450.t16.toNat).Events)).bind fun c456 =>
  (if (!c456) = true then
   some (.inr (.inl ()))
  else
   some (.inl ⟨(wI (g450.t16 + 1))⟩)))))
 else
  some (.inr (.inr ())))
noncomputable def zci (a0 : TellingsT) (a1 : TellingsT) : Option Bool :=
 (if (((a0.Branches.length : Nat) : Int) != ((a1.Branches.length : Nat) : Int)) = true then
  some false
 else
  ((loopF (zaH a0 a1) ⟨0⟩).bind fun y457 =>
  match y457 with
  | .inl p458 =>
   some false
  | .inr p459 =>
   some true))
end Go.TL
namespace Go.TL
noncomputable def zbx (a0 : RegionT) : Option RegionT :=
 ((zbU a0.Tellings).bind fun c153 =>
 some (⟨a0.Id,a0.Version,c153⟩ : RegionT))
structure zd6 where
 t15 : Int
noncomputable def za0 (a0 : (List BranchT)) (a1 : (List EventT)) (g251 : zd6) : Option (zd6 ⊕ (Unit ⊕ Unit)) :=
 (if (decide (g251.t15 < ((a0.length : Nat) : Int))) = true then
  (guardO (0 ≤ g251.t15 ∧ g251.t15 < (a0.length : Int)) <|
  ((zaA ((nth a0 g251.t15.toNat).Events) a1).bind fun c253 =>
  (if c253 = true then
   some (.inr (.inl ()))
  else
   some (.inl ⟨(wI (g251.t15 + 1))⟩))))
 else
  some (.inr (.inr ())))
structure zfd where
 t6 : Bool
 t27 : Int
 c1 : (List BranchT)
structure zgV where
 t6 : Bool
 c1 : (List BranchT)
structure zd7 where
 t47 : Bool
noncomputable def zbO (a0 : (List BranchT)) (a1 : (List EventT)) (g257 : zfd) : Option (zfd ⊕ zgV) :=
 (if (decide (g257.t27 < ((a0.length : Nat) : Int))) = true then
  (guardO (0 ≤ g257.t27 ∧ g257.t27 < (a0.length : Int)) <|
  ((zaA a1 ((nth a0 g257.t27.toNat).Events)).bind fun c265 =>
  (if c265 = true then
   some (.inl ⟨g257.t6,(wI (g257.t27 + 1)),g257.c1⟩)
  else
   ((zaL ((nth a0 g257.t27.toNat).Events) a1).bind fun c266 =>
   (((if (decide (c266.1 > 0)) = true then
     some (⟨(!g257.t6)⟩ : zd7)
    else
     some (⟨false⟩ : zd7)) : Option zd7).bind fun p267 =>
   (if p267.t47 = true then
    ((zq a1).bind fun c268 =>
    (guardO ((g257.c1.length + 1) * 24 ≤ 140737488355328) <|
    ((zq ((nth a0 g257.t27.toNat).Events)).bind fun c270 =>
    (guardO (((g257.c1.length + 1) + 1) * 24 ≤ 140737488355328) <|
    some (.inl ⟨true,(wI (g257.t27 + 1)),((g257.c1 ++ [(⟨c268⟩ : BranchT)]) ++ [(⟨c270⟩ : BranchT)])⟩)))))
   else
    ((zq ((nth a0 g257.t27.toNat).Events)).bind fun c271 =>
    (guardO ((g257.c1.length + 1) * 24 ≤ 140737488355328) <|
    some (.inl ⟨g257.t6,(wI (g257.t27 + 1)),(g257.c1 ++ [(⟨c271⟩ : BranchT)])⟩)))))))))
 else
  some (.inr (⟨g257.t6,g257.c1⟩)))
noncomputable def zda (a0 : (List BranchT)) (a1 : (List EventT)) : Option (List BranchT) :=
 ((loopF (za0 a0 a1) ⟨0⟩).bind fun y254 =>
 match y254 with
 | .inl p255 =>
  some a0
 | .inr p256 =>
  ((loopF (zbO a0 a1) ⟨false,0,[]⟩).bind fun y272 =>
  (if (!y272.t6) = true then
   ((zq a1).bind fun c273 =>
   (guardO ((y272.c1.length + 1) * 24 ≤ 140737488355328) <|
   some (y272.c1 ++ [(⟨c273⟩ : BranchT)])))
  else
   some y272.c1)))
structure zdp where
 t21 : Bool
structure zb1 where
 t42 : Bool
noncomputable def zcN (a0 : RegionT) (a1 : Int) (a2 : ByteArray) : Option (RegionT × Int) :=
 ((((zar a1 1 6).bind fun c186 =>
  (if (!c186) = true then
   some (⟨true⟩ : zdp)
  else
   ((zdw a2).bind fun c187 =>
   some (⟨(!c187)⟩ : zdp)))) : Option zdp).bind fun p188 =>
 (if p188.t21 = true then
  some (a0,1)
 else
  ((zcB a0).bind fun c189 =>
  (if (!c189) = true then
   some (a0,2)
  else
   ((zdk a0).bind fun c191 =>
   ((zbX c191).bind fun c192 =>
   (((if (a1 == 2) = true then
     ((zbg c192.1.Signals a2).bind fun c193 =>
     some (⟨(decide (c193 ≥ 0))⟩ : zb1))
    else
     some (⟨false⟩ : zb1)) : Option zb1).bind fun p194 =>
   (if p194.t42 = true then
    some (a0,5)
   else
    ((zbw c192.1 (⟨c192.1.Next,a0.Version,a1,a2⟩ : EventT)).bind fun c195 =>
    (if (!c195.2) = true then
     some (a0,3)
    else
     (if (((c191.length : Nat) : Int) == 60) = true then
      some (a0,4)
     else
      ((zq c191).bind fun c196 =>
      (guardO ((c196.length + 1) * 40 ≤ 140737488355328) <|
      ((zda a0.Tellings.Branches (c196 ++ ([(⟨c192.1.Next,a0.Version,a1,a2⟩ : EventT)]))).bind fun c293 =>
      ((zbU (⟨c293⟩ : TellingsT)).bind fun c294 =>
      some ((⟨a0.Id,a0.Version,c294⟩ : RegionT),0))))))))))))))))
structure zdq where
 t4 : Int
 t14 : Int
 b0_0 : Int
 b0_1 : Int
 b0_2 : (List BranchT)
structure zfn where
 t4 : Int
 b0_0 : Int
 b0_1 : Int
 b0_2 : (List BranchT)
noncomputable def zav (c184 : (List ByteArray)) (g185 : zdq) : Option (zdq ⊕ zfn) :=
 (if (decide (g185.t14 < ((c184.length : Nat) : Int))) = true then
  (guardO (0 ≤ g185.t14 ∧ g185.t14 < ((c184.length : Nat) : Int)) <|
  ((zcN (⟨g185.b0_0,g185.b0_1,(⟨g185.b0_2⟩ : TellingsT)⟩ : RegionT) 2 (nth c184 g185.t14.toNat)).bind fun c296 =>
  (if (c296.2 == 0) = true then
   some (.inl ⟨(wI (g185.t4 + 1)),(wI (g185.t14 + 1)),c296.1.Id,c296.1.Version,c296.1.Tellings.Branches⟩)
  else
   some (.inl ⟨g185.t4,(wI (g185.t14 + 1)),g185.b0_0,g185.b0_1,g185.b0_2⟩))))
 else
  some (.inr (⟨g185.t4,g185.b0_0,g185.b0_1,g185.b0_2⟩)))
noncomputable def zdr (a0 : RegionT) : Option (RegionT × Int) :=
 ((zeA a0.Tellings.Branches).bind fun c184 =>
 ((loopF (zav c184) ⟨0,0,a0.Id,a0.Version,a0.Tellings.Branches⟩).bind fun y297 =>
 some ((⟨y297.b0_0,y297.b0_1,(⟨y297.b0_2⟩ : TellingsT)⟩ : RegionT),y297.t4)))
structure zeC where
 t14 : Bool
noncomputable def zeD (a0 : RegionT) : Option (RegionT × Int × Bool) :=
 ((((zR a0).bind fun c146 =>
  (if (!c146) = true then
   some (⟨true⟩ : zeC)
  else
   ((zcB a0).bind fun c147 =>
   some (⟨(!c147)⟩ : zeC)))) : Option zeC).bind fun p148 =>
 (if p148.t14 = true then
  some ((⟨0,0,(⟨[]⟩ : TellingsT)⟩ : RegionT),0,false)
 else
  ((zbx a0).bind fun c154 =>
  ((zdr c154).bind fun c298 =>
  some (c298.1,c298.2,true)))))
structure zbn where
 t25 : Bool
structure zbo where
 t38 : Bool
noncomputable def zaw (a0 : RegionT) (a1 : Int) (a2 : ByteArray) : Option Int :=
 ((zbY a0.Tellings).bind fun c506 =>
 ((zaQ a0).bind fun c509 =>
 ((zbk c509 a1 a2).bind fun c517 =>
 ((((zad a1).bind fun c518 =>
  (if (!c518) = true then
   some (⟨true⟩ : zbn)
  else
   ((zaX a2).bind fun c519 =>
   some (⟨(!c519)⟩ : zbn)))) : Option zbn).bind fun p520 =>
 (if p520.t25 = true then
  some 1
 else
  ((zW a0).bind fun c521 =>
  (if (!c521) = true then
   some 2
  else
   (((if (a1 == 2) = true then
     ((zF c509.Signals a2).bind fun c522 =>
     some (⟨c522⟩ : zbo))
    else
     some (⟨false⟩ : zbo)) : Option zbo).bind fun p523 =>
   (if p523.t38 = true then
    some 5
   else
    (if (!c517.1) = true then
     some 3
    else
     (if (((c506.length : Nat) : Int) == 60) = true then
      some 4
     else
      ((zk c506).bind fun c524 =>
      (guardO ((c524.length + 1) * 40 ≤ 140737488355328) <|
      ((zcs a0.Tellings (c524 ++ ([(⟨c509.Next,a0.Version,a1,a2⟩ : EventT)]))).bind fun c544 =>
      none))))))))))))))
structure zcO where
 t25 : Bool
structure zbp where
 t38 : Bool
noncomputable def zbb (a0 : RegionT) (a1 : Int) (a2 : ByteArray) : Option (Int × RegionT) :=
 ((zbY a0.Tellings).bind fun c547 =>
 ((zaQ a0).bind fun c548 =>
 ((zbk c548 a1 a2).bind fun c549 =>
 ((((zad a1).bind fun c550 =>
  (if (!c550) = true then
   some (⟨true⟩ : zcO)
  else
   ((zaX a2).bind fun c551 =>
   some (⟨(!c551)⟩ : zcO)))) : Option zcO).bind fun p552 =>
 (if p552.t25 = true then
  none
 else
  ((zW a0).bind fun c553 =>
  (if (!c553) = true then
   none
  else
   (((if (a1 == 2) = true then
     ((zF c548.Signals a2).bind fun c554 =>
     some (⟨c554⟩ : zbp))
    else
     some (⟨false⟩ : zbp)) : Option zbp).bind fun p555 =>
   (if p555.t38 = true then
    none
   else
    (if (!c549.1) = true then
     none
    else
     (if (((c547.length : Nat) : Int) == 60) = true then
      none
     else
      ((zk c547).bind fun c556 =>
      (guardO ((c556.length + 1) * 40 ≤ 140737488355328) <|
      ((zcs a0.Tellings (c556 ++ ([(⟨c548.Next,a0.Version,a1,a2⟩ : EventT)]))).bind fun c557 =>
      some (0,(⟨a0.Id,a0.Version,c557⟩ : RegionT))))))))))))))))
structure zbd where
 t3 : Int
 t12 : Int
 b0_0 : Int
 b0_1 : Int
 c3 : (List BranchT)
structure zd0 where
 t3 : Int
 b0_0 : Int
 b0_1 : Int
 c2 : (List BranchT)
noncomputable def zO (c545 : (List ByteArray)) (g546 : zbd) : Option (zbd ⊕ zd0) :=
 (if (decide (g546.t12 < ((c545.length : Nat) : Int))) = true then
  (guardO (0 ≤ g546.t12 ∧ g546.t12 < ((c545.length : Nat) : Int)) <|
  (match zaw (⟨g546.b0_0,g546.b0_1,(⟨g546.c3⟩ : TellingsT)⟩ : RegionT) 2 (nth c545 g546.t12.toNat) with
  | some c560 =>
   (if (c560 == 0) = true then
    some (.inl ⟨(wI (g546.t3 + 1)),(wI (g546.t12 + 1)),g546.b0_0,g546.b0_1,g546.c3⟩)
   else
    some (.inl ⟨g546.t3,(wI (g546.t12 + 1)),g546.b0_0,g546.b0_1,g546.c3⟩))
  | none =>
   ((zbb (⟨g546.b0_0,g546.b0_1,(⟨g546.c3⟩ : TellingsT)⟩ : RegionT) 2 (nth c545 g546.t12.toNat)).bind fun c561 =>
   (if (c561.1 == 0) = true then
    some (.inl ⟨(wI (g546.t3 + 1)),(wI (g546.t12 + 1)),c561.2.Id,c561.2.Version,c561.2.Tellings.Branches⟩)
   else
    some (.inl ⟨g546.t3,(wI (g546.t12 + 1)),c561.2.Id,c561.2.Version,c561.2.Tellings.Branches⟩)))))
 else
  some (.inr (⟨g546.t3,g546.b0_0,g546.b0_1,g546.c3⟩)))
noncomputable def zaV (a0 : RegionT) : Option (Int × RegionT) :=
 ((zbJ a0.Tellings).bind fun c545 =>
 ((loopF (zO c545) ⟨0,0,a0.Id,a0.Version,a0.Tellings.Branches⟩).bind fun y562 =>
 some (y562.t3,(⟨y562.b0_0,y562.b0_1,(⟨y562.c2⟩ : TellingsT)⟩ : RegionT))))
structure zeE where
 t13 : Bool
noncomputable def zdU (a0 : RegionT) : Option (RegionT × Int × Bool) :=
 ((((zao a0).bind fun c463 =>
  (if (!c463) = true then
   some (⟨true⟩ : zeE)
  else
   ((zW a0).bind fun c464 =>
   some (⟨(!c464)⟩ : zeE)))) : Option zeE).bind fun p465 =>
 (if p465.t13 = true then
  some ((⟨0,0,(⟨[]⟩ : TellingsT)⟩ : RegionT),0,false)
 else
  ((zbH a0).bind fun c471 =>
  ((zaV c471).bind fun c563 =>
  some (c563.2,c563.1,true)))))
end Go.TL
namespace Go.TL
noncomputable def zcE (a0 : Int) : Option (RegionT × Bool) :=
 ((zar a0 0 9).bind fun c6 =>
 (if (!c6) = true then
  some ((⟨0,0,(⟨[]⟩ : TellingsT)⟩ : RegionT),false)
 else
  some ((⟨a0,0,(⟨[]⟩ : TellingsT)⟩ : RegionT),true)))
noncomputable def zed (a0 : RegionT) : Option (RegionT × Bool) :=
 ((zR a0).bind fun c132 =>
 (if (!c132) = true then
  some ((⟨0,0,(⟨[]⟩ : TellingsT)⟩ : RegionT),false)
 else
  ((zcH a0.Version a0.Id).bind fun c138 =>
  (if (!c138.2) = true then
   some ((⟨0,0,(⟨[]⟩ : TellingsT)⟩ : RegionT),false)
  else
   ((zbx a0).bind fun c144 =>
   some ((⟨c144.Id,c138.1,c144.Tellings⟩ : RegionT),true))))))
noncomputable def zdy (a0 : RegionT) : Option (WordT × Bool) :=
 ((zR a0).bind fun c146 =>
 (if (!c146) = true then
  some ((⟨0,(⟨[]⟩ : TellingsT)⟩ : WordT),false)
 else
  ((zbU a0.Tellings).bind fun c147 =>
  some ((⟨a0.Version,c147⟩ : WordT),true))))
noncomputable def zdb (a0 : RegionT) (a1 : Int) (a2 : ByteArray) : Option (RegionT × Int) :=
 ((zR a0).bind fun c229 =>
 (if (!c229) = true then
  some ((⟨0,0,(⟨[]⟩ : TellingsT)⟩ : RegionT),1)
 else
  ((zbx a0).bind fun c230 =>
  ((zcN c230 a1 a2).bind fun c289 =>
  some (c289.1,c289.2)))))
structure zdV where
 t19 : Bool
structure zdW where
 b0_1 : Int
noncomputable def zds (a0 : RegionT) (a1 : WordT) : Option (RegionT × Bool) :=
 ((((zR a0).bind fun c306 =>
  (if (!c306) = true then
   some (⟨true⟩ : zdV)
  else
   ((zR (⟨0,a1.Version,a1.Tellings⟩ : RegionT)).bind fun c307 =>
   some (⟨(!c307)⟩ : zdV)))) : Option zdV).bind fun p308 =>
 (if p308.t19 = true then
  some ((⟨0,0,(⟨[]⟩ : TellingsT)⟩ : RegionT),false)
 else
  ((zba a0.Tellings a1.Tellings).bind fun c309 =>
  (if (!c309.2) = true then
   some ((⟨0,0,(⟨[]⟩ : TellingsT)⟩ : RegionT),false)
  else
   (((if (decide (a1.Version > a0.Version)) = true then
     some (⟨a1.Version⟩ : zdW)
    else
     some (⟨a0.Version⟩ : zdW)) : Option zdW).bind fun p310 =>
   some ((⟨a0.Id,p310.b0_1,c309.1⟩ : RegionT),true))))))
structure zdz where
 t7 : Int
 b0_0 : (List Int)
 b0_1 : Int
 b0_2 : Int
 b2_0 : Int
 b2_1 : Int
 b2_2 : (List BranchT)
 b3_0 : Int
 b3_1 : Int
 b3_2 : (List BranchT)
structure zfX where
 b0_0 : (List Int)
 b0_1 : Int
 b0_2 : Int
 b2_0 : Int
 b2_1 : Int
 b2_2 : (List BranchT)
structure zcd where
 b0_0 : (List Int)
 b0_1 : Int
 b0_2 : Int
 b4_0 : Int
 b4_1 : Int
 b4_2 : (List BranchT)
structure zV where
 b0_0 : (List Int)
 b0_1 : Int
 b0_2 : Int
 b4_0 : Int
 b4_1 : Int
 b4_2 : (List BranchT)
structure zce where
 b5_0 : Int
 c6 : (List BranchT)
structure zcf where
 t48 : Bool
 b0_0 : (List Int)
 b0_1 : Int
 b0_2 : Int
noncomputable def zbV (g298 : zdz) : Option (zdz ⊕ zfX) :=
 (if (decide (g298.t7 > 0)) = true then
  ((((zas (⟨g298.b0_0,g298.b0_1,g298.b0_2⟩ : l1CurT) 3).bind fun c320 =>
   (if c320.1 = true then
    some (⟨c320.2.code,c320.2.at_,c320.2.seed,g298.b3_0,g298.b3_1,g298.b3_2⟩ : zcd)
   else
    some (⟨c320.2.code,c320.2.at_,c320.2.seed,g298.b2_0,g298.b2_1,g298.b2_2⟩ : zcd))) : Option zcd).bind fun p321 =>
  ((((zw (⟨p321.b0_0,p321.b0_1,p321.b0_2⟩ : l1CurT) 6).bind fun c322 =>
   (if (c322.1 == 0) = true then
    ((zed (⟨p321.b4_0,p321.b4_1,(⟨p321.b4_2⟩ : TellingsT)⟩ : RegionT)).bind fun c323 =>
    some (⟨c322.2.code,c322.2.at_,c322.2.seed,c323.1.Id,c323.1.Version,c323.1.Tellings.Branches⟩ : zV))
   else
    (if (c322.1 == 1) = true then
     ((zdy (⟨g298.b3_0,g298.b3_1,(⟨g298.b3_2⟩ : TellingsT)⟩ : RegionT)).bind fun c324 =>
     (((if (p321.b4_0 == g298.b3_0) = true then
       ((zdy (⟨g298.b2_0,g298.b2_1,(⟨g298.b2_2⟩ : TellingsT)⟩ : RegionT)).bind fun c325 =>
       some (⟨c325.1.Version,c325.1.Tellings.Branches⟩ : zce))
      else
       some (⟨c324.1.Version,c324.1.Tellings.Branches⟩ : zce)) : Option zce).bind fun p326 =>
     ((zds (⟨p321.b4_0,p321.b4_1,(⟨p321.b4_2⟩ : TellingsT)⟩ : RegionT) (⟨p326.b5_0,(⟨p326.c6⟩ : TellingsT)⟩ : WordT)).bind fun c327 =>
     (if c327.2 = true then
      some (⟨c322.2.code,c322.2.at_,c322.2.seed,c327.1.Id,c327.1.Version,c327.1.Tellings.Branches⟩ : zV)
     else
      some (⟨c322.2.code,c322.2.at_,c322.2.seed,p321.b4_0,p321.b4_1,p321.b4_2⟩ : zV)))))
    else
     ((zak c322.2 ([1,2,2,3,4,5,6])).bind fun c328 =>
     (((if (c328.1 == 6) = true then
       ((zas c328.2 4).bind fun c329 =>
       some (⟨(!c329.1),c329.2.code,c329.2.at_,c329.2.seed⟩ : zcf))
      else
       some (⟨false,c328.2.code,c328.2.at_,c328.2.seed⟩ : zcf)) : Option zcf).bind fun p330 =>
     (if p330.t48 = true then
      ((zag (⟨p330.b0_0,p330.b0_1,p330.b0_2⟩ : l1CurT)).bind fun c331 =>
      ((zdb (⟨p321.b4_0,p321.b4_1,(⟨p321.b4_2⟩ : TellingsT)⟩ : RegionT) 2 c331.1).bind fun c332 =>
      some (⟨c331.2.code,c331.2.at_,c331.2.seed,c332.1.Id,c332.1.Version,c332.1.Tellings.Branches⟩ : zV)))
     else
      ((zag (⟨p330.b0_0,p330.b0_1,p330.b0_2⟩ : l1CurT)).bind fun c333 =>
      ((zdb (⟨p321.b4_0,p321.b4_1,(⟨p321.b4_2⟩ : TellingsT)⟩ : RegionT) c328.1 c333.1).bind fun c334 =>
      some (⟨c333.2.code,c333.2.at_,c333.2.seed,c334.1.Id,c334.1.Version,c334.1.Tellings.Branches⟩ : zV))))))))) : Option zV).bind fun p335 =>
  (if (p335.b4_0 == g298.b2_0) = true then
   some (.inl ⟨(wI (g298.t7 - 1)),p335.b0_0,p335.b0_1,p335.b0_2,p335.b4_0,p335.b4_1,p335.b4_2,g298.b3_0,g298.b3_1,g298.b3_2⟩)
  else
   some (.inl ⟨(wI (g298.t7 - 1)),p335.b0_0,p335.b0_1,p335.b0_2,g298.b2_0,g298.b2_1,g298.b2_2,p335.b4_0,p335.b4_1,p335.b4_2⟩))))
 else
  some (.inr (⟨g298.b0_0,g298.b0_1,g298.b0_2,g298.b2_0,g298.b2_1,g298.b2_2⟩)))
noncomputable def zam (a0 : l1CurT) : Option (RegionT × l1CurT) :=
 ((zw a0 2).bind fun c294 =>
 ((zcE c294.1).bind fun c295 =>
 ((zcE (wI (1 - c295.1.Id))).bind fun c296 =>
 ((zw c294.2 14).bind fun c297 =>
 ((loopF (zbV) ⟨c297.1,c297.2.code,c297.2.at_,c297.2.seed,c295.1.Id,c295.1.Version,[],c296.1.Id,c296.1.Version,[]⟩).bind fun y336 =>
 ((zw (⟨y336.b0_0,y336.b0_1,y336.b0_2⟩ : l1CurT) 40).bind fun c337 =>
 (if (c337.1 == 0) = true then
  ((zak c337.2 ([(-1),0,1000000,999995])).bind fun c338 =>
  some ((⟨y336.b2_0,c338.1,(⟨y336.b2_2⟩ : TellingsT)⟩ : RegionT),c338.2))
 else
  (if (c337.1 == 1) = true then
   ((zak c337.2 ([(-1),9,10])).bind fun c339 =>
   some ((⟨c339.1,y336.b2_1,(⟨y336.b2_2⟩ : TellingsT)⟩ : RegionT),c339.2))
  else
   some ((⟨y336.b2_0,y336.b2_1,(⟨y336.b2_2⟩ : TellingsT)⟩ : RegionT),c337.2)))))))))
noncomputable def zbu (a0 : (List Int)) : Option (RegionT × WordT) :=
 ((zam (⟨a0,0,0⟩ : l1CurT)).bind fun c343 =>
 ((zam c343.2).bind fun c344 =>
 ((zdy c344.1).bind fun c345 =>
 ((zas c344.2 20).bind fun c346 =>
 (if c346.1 = true then
  ((zw c346.2 5).bind fun c347 =>
  some (c343.1,(⟨c347.1,c345.1.Tellings⟩ : WordT)))
 else
  some (c343.1,c345.1))))))
noncomputable def zbP (a0 : RegionT) (a1 : RegionT) : Option Bool :=
 (if (a0.Id == a1.Id) = true then
  (if (a0.Version == a1.Version) = true then
   ((zci a0.Tellings a1.Tellings).bind fun c559 =>
   some c559)
  else
   some false)
 else
  some false)
noncomputable def zcY (a0 : (List Int)) : Option RegionT :=
 ((zam (⟨a0,0,0⟩ : l1CurT)).bind fun c587 =>
 some c587.1)
noncomputable def zbQ (a0 : (List Int)) : Option RegionT :=
 ((zcY a0).bind fun c588 =>
 some c588)
structure zeF where
 t64 : Bool
structure zbc where
 t98 : Bool
structure zeu where
 t103 : Int
structure zel where
 t120 : Bool
noncomputable def zbq (c348 : (RegionT × WordT)) (c547 : (RegionT × Bool)) (g566 : zeu) : Option (zeu ⊕ (Unit ⊕ Unit)) :=
 (if (decide (g566.t103 < ((c348.1.Tellings.Branches.length : Nat) : Int))) = true then
  (guardO (0 ≤ g566.t103 ∧ g566.t103 < (c348.1.Tellings.Branches.length : Int)) <|
  ((zdg c547.1.Tellings ((nth c348.1.Tellings.Branches g566.t103.toNat).Events)).bind fun c581 =>
  (((if (!c581.2) = true then
    some (⟨true⟩ : zel)
   else
    some (⟨(!c581.1)⟩ : zel)) : Option zel).bind fun p582 =>
  (if p582.t120 = true then
   some (.inr (.inl ()))
  else
   some (.inl ⟨(wI (g566.t103 + 1))⟩)))))
 else
  some (.inr (.inr ())))
structure zeG where
 t143 : Bool
noncomputable def zfo (a0 : (List Int)) (a1 : (List Int)) : Option Bool :=
 (if (decide ((wI (((a0.length : Nat) : Int) + ((a1.length : Nat) : Int))) > 1048576)) = true then
  some true
 else
  ((zbu a0).bind fun c348 =>
  ((zc9 c348.1 c348.2).bind fun c547 =>
  ((zec c348.1 c348.2).bind fun c548 =>
  (((if (!(c547.2 == c548.2)) = true then
    some (⟨true⟩ : zeF)
   else
    ((zbP c547.1 c548.1).bind fun c560 =>
    some (⟨(!c560)⟩ : zeF))) : Option zeF).bind fun p561 =>
  (if p561.t64 = true then
   some false
  else
   (((if c547.2 = true then
     ((zc9 c547.1 c348.2).bind fun c562 =>
     (((if (!c562.2) = true then
       some (⟨true⟩ : zbc)
      else
       ((zbP c562.1 c547.1).bind fun c563 =>
       (if (!c563) = true then
        some (⟨true⟩ : zbc)
       else
        (if (decide (c547.1.Version < c348.1.Version)) = true then
         some (⟨true⟩ : zbc)
        else
         (if (decide (c547.1.Version < c348.2.Version)) = true then
          some (⟨true⟩ : zbc)
         else
          ((zao c547.1).bind fun c564 =>
          some (⟨(!c564)⟩ : zbc))))))) : Option zbc).bind fun p565 =>
     (if p565.t98 = true then
      some (.inr false)
     else
      ((loopF (zbq c348 c547) ⟨0⟩).bind fun y583 =>
      match y583 with
      | .inl p584 =>
       some (.inr false)
      | .inr p585 =>
       some (.inl (() : Unit))))))
    else
     some (.inl (() : Unit))) : Option (Unit ⊕ Bool)).bind fun q => match q with
   | .inl p586 =>
    ((zbQ a1).bind fun c589 =>
    ((zdU c589).bind fun c667 =>
    ((zeD c589).bind fun c704 =>
    (((if (!(c667.2.2 == c704.2.2)) = true then
      some (⟨true⟩ : zeG)
     else
      some (⟨(c667.2.1 != c704.2.1)⟩ : zeG)) : Option zeG).bind fun p705 =>
    (if p705.t143 = true then
     some false
    else
     (if (!c667.2.2) = true then
      some (c667.2.1 == 0)
     else
      ((zbK c589.Tellings).bind fun c708 =>
      ((zbK c667.1.Tellings).bind fun c709 =>
      ((ze2 c667.1).bind fun c713 =>
      ((zdU c667.1).bind fun c714 =>
      (if c708.2 = true then
       (if c709.2 = true then
        (if c713.2 = true then
         (if c714.2.2 = true then
          (if (c714.2.1 == 0) = true then
           (if (c713.1.Version == c667.1.Version) = true then
            (if (((c709.1.length : Nat) : Int) == (wI (((c708.1.length : Nat) : Int) - c667.2.1))) = true then
             ((zao c667.1).bind fun c715 =>
             some c715)
            else
             some false)
           else
            some false)
          else
           some false)
         else
          some false)
        else
         some false)
       else
        some false)
      else
       some false)))))))))))
   | .inr v => some v)))))))
end Go.TL
namespace Go.TL
end Go.TL

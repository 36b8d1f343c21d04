import Derived.Test.YteonagfnhdlfcaaGreatDoorG20PlR3M
import Derived.Test.YteonagfnhdlfcaaGreatDoorG18PlTrim
import Derived.Test.YteonagfnhdlfcaaGreatDoorG28PpOrd
set_option linter.unusedSimpArgs false
set_option linter.unusedVariables false
namespace Go.TL
structure zee where
 t9 : Int
 c1 : (List BranchT)
structure zfi where
 c1 : (List BranchT)
noncomputable def zb6 (a0 : TellingsT) (g212 : zee) : Option (zee ⊕ zfi) :=
 (if (decide (g212.t9 < ((a0.Branches.length : Nat) : Int))) = true then
  (guardO (0 ≤ g212.t9 ∧ g212.t9 < (a0.Branches.length : Int)) <|
  ((zH ((nth a0.Branches g212.t9.toNat).Events)).bind fun c214 =>
  (guardO ((g212.c1.length + 1) * 24 ≤ 140737488355328) <|
  some (.inl ⟨(wI (g212.t9 + 1)),(g212.c1 ++ [(⟨c214⟩ : BranchT)])⟩))))
 else
  some (.inr (⟨g212.c1⟩)))
noncomputable def zdH (a0 : TellingsT) : Option TellingsT :=
 ((loopF (zb6 a0) ⟨0,[]⟩).bind fun y215 =>
 some (⟨y215.c1⟩ : TellingsT))
end Go.TL
namespace Go.TL
noncomputable def zdS (a0 : BranchT) (a1 : (List EventT)) : Option Bool :=
 ((zcT a1 a0.Events).bind fun c340 =>
 some c340)
structure zr where
 t8 : Int
structure z7 where
 t4 : Int
noncomputable def ze (a0 : (List BranchT)) (a1 : (List EventT)) (g339 : zr) : Option (zr ⊕ (z7 ⊕ Unit)) :=
 (if (decide (g339.t8 < ((a0.length : Nat) : Int))) = true then
  (guardO (0 ≤ g339.t8 ∧ g339.t8 < (a0.length : Int)) <|
  ((zdS (nth a0 g339.t8.toNat) a1).bind fun c342 =>
  (if c342 = true then
   some (.inr (.inl (⟨g339.t8⟩)))
  else
   some (.inl ⟨(wI (g339.t8 + 1))⟩))))
 else
  some (.inr (.inr ())))
noncomputable def zy (a0 : (List BranchT)) (a1 : (List EventT)) : Option Int :=
 ((loopF (ze a0 a1) ⟨0⟩).bind fun y343 =>
 match y343 with
 | .inl p344 =>
  some p344.t4
 | .inr p345 =>
  some (-1))
noncomputable def zi (a0 : (List BranchT)) (a1 : (List EventT)) : Option Bool :=
 ((zy a0 a1).bind fun c346 =>
 some (decide (c346 ≥ 0)))
noncomputable def zao (a0 : BranchT) (a1 : (List EventT)) : Option Bool :=
 ((zcT a0.Events a1).bind fun c348 =>
 some c348)
noncomputable def zB (a0 : (List BranchT)) (a1 : (List EventT)) : Option (List BranchT) :=
 guardO (a0.length ≤ 9223372036854775807 ∧ (a0.all fun b => (zao b a1).isSome) = true) (some (a0.filter fun b => !((zao b a1).getD false)))
noncomputable def zev (a0 : BranchT) (a1 : BranchT) : Option Int :=
 ((zaC a0.Events a1.Events).bind fun c355 =>
 some c355)
noncomputable def zG (a0 : (List BranchT)) : Option (List BranchT) :=
 guardO (a0.length < 4611686018427387904 ∧ (a0.all fun b => decide (b.Events.length ≤ 1000)) = true ∧ aptO brL a0 = true) (some (sortO brL a0))
noncomputable def zcL (a0 : TellingsT) (a1 : (List EventT)) : Option TellingsT :=
 ((zaP a0).bind fun c351 =>
 ((zi c351.Branches a1).bind fun c352 =>
 (if c352 = true then
  some c351
 else
  ((zB c351.Branches a1).bind fun c353 =>
  ((zj a1).bind fun c354 =>
  (guardO ((c353.length + 1) * 24 ≤ 140737488355328) <|
  ((zG (c353 ++ [(⟨c354⟩ : BranchT)])).bind fun c356 =>
  (guardO (c356.length = (c353.length + 1)) <|
  some (⟨c356⟩ : TellingsT)))))))))
end Go.TL
namespace Go.TL
end Go.TL
namespace Go.TL
noncomputable def zew (a0 : RegionT) : Option RegionT :=
 ((zdH a0.Tellings).bind fun c153 =>
 some (⟨a0.Id,a0.Version,c153⟩ : RegionT))
structure zdv where
 t15 : Int
noncomputable def zaD (a0 : (List BranchT)) (a1 : (List EventT)) (g251 : zdv) : Option (zdv ⊕ (Unit ⊕ Unit)) :=
 (if (decide (g251.t15 < ((a0.length : Nat) : Int))) = true then
  (guardO (0 ≤ g251.t15 ∧ g251.t15 < (a0.length : Int)) <|
  ((zbr ((nth a0 g251.t15.toNat).Events) a1).bind fun c253 =>
  (if c253 = true then
   some (.inr (.inl ()))
  else
   some (.inl ⟨(wI (g251.t15 + 1))⟩))))
 else
  some (.inr (.inr ())))
structure zez where
 t6 : Bool
 t27 : Int
 c1 : (List BranchT)
structure zgg where
 t6 : Bool
 c1 : (List BranchT)
structure zdw where
 t47 : Bool
noncomputable def zbt (a0 : (List BranchT)) (a1 : (List EventT)) (g257 : zez) : Option (zez ⊕ zgg) :=
 (if (decide (g257.t27 < ((a0.length : Nat) : Int))) = true then
  (guardO (0 ≤ g257.t27 ∧ g257.t27 < (a0.length : Int)) <|
  ((zbr a1 ((nth a0 g257.t27.toNat).Events)).bind fun c265 =>
  (if c265 = true then
   some (.inl ⟨g257.t6,(wI (g257.t27 + 1)),g257.c1⟩)
  else
   ((zaY ((nth a0 g257.t27.toNat).Events) a1).bind fun c266 =>
   (((if (decide (c266.1 > 0)) = true then
     some (⟨(!g257.t6)⟩ : zdw)
    else
     some (⟨false⟩ : zdw)) : Option zdw).bind fun p267 =>
   (if p267.t47 = true then
    ((zH a1).bind fun c268 =>
    (guardO ((g257.c1.length + 1) * 24 ≤ 140737488355328) <|
    ((zH ((nth a0 g257.t27.toNat).Events)).bind fun c270 =>
    (guardO (((g257.c1.length + 1) + 1) * 24 ≤ 140737488355328) <|
    some (.inl ⟨true,(wI (g257.t27 + 1)),((g257.c1 ++ [(⟨c268⟩ : BranchT)]) ++ [(⟨c270⟩ : BranchT)])⟩)))))
   else
    ((zH ((nth a0 g257.t27.toNat).Events)).bind fun c271 =>
    (guardO ((g257.c1.length + 1) * 24 ≤ 140737488355328) <|
    some (.inl ⟨g257.t6,(wI (g257.t27 + 1)),(g257.c1 ++ [(⟨c271⟩ : BranchT)])⟩)))))))))
 else
  some (.inr (⟨g257.t6,g257.c1⟩)))
noncomputable def zct (a0 : (List BranchT)) (a1 : (List EventT)) : Option (List BranchT) :=
 ((loopF (zaD a0 a1) ⟨0⟩).bind fun y254 =>
 match y254 with
 | .inl p255 =>
  some a0
 | .inr p256 =>
  ((loopF (zbt a0 a1) ⟨false,0,[]⟩).bind fun y272 =>
  (if (!y272.t6) = true then
   ((zH a1).bind fun c273 =>
   (guardO ((y272.c1.length + 1) * 24 ≤ 140737488355328) <|
   some (y272.c1 ++ [(⟨c273⟩ : BranchT)])))
  else
   some y272.c1)))
structure zcM where
 t21 : Bool
structure zbC where
 t42 : Bool
noncomputable def zdi (a0 : RegionT) (a1 : Int) (a2 : ByteArray) : Option (RegionT × Int) :=
 ((((zaE a1 1 6).bind fun c186 =>
  (if (!c186) = true then
   some (⟨true⟩ : zcM)
  else
   ((zcS a2).bind fun c187 =>
   some (⟨(!c187)⟩ : zcM)))) : Option zcM).bind fun p188 =>
 (if p188.t21 = true then
  some (a0,1)
 else
  ((zb5 a0).bind fun c189 =>
  (if (!c189) = true then
   some (a0,2)
  else
   ((zcJ a0).bind fun c191 =>
   ((zbA c191).bind fun c192 =>
   (((if (a1 == 2) = true then
     ((zaW c192.1.Signals a2).bind fun c193 =>
     some (⟨(decide (c193 ≥ 0))⟩ : zbC))
    else
     some (⟨false⟩ : zbC)) : Option zbC).bind fun p194 =>
   (if p194.t42 = true then
    some (a0,5)
   else
    ((zbd c192.1 (⟨c192.1.Next,a0.Version,a1,a2⟩ : EventT)).bind fun c195 =>
    (if (!c195.2) = true then
     some (a0,3)
    else
     (if (((c191.length : Nat) : Int) == 60) = true then
      some (a0,4)
     else
      ((zH c191).bind fun c196 =>
      (guardO ((c196.length + 1) * 40 ≤ 140737488355328) <|
      ((zct a0.Tellings.Branches (c196 ++ ([(⟨c192.1.Next,a0.Version,a1,a2⟩ : EventT)]))).bind fun c293 =>
      ((zdH (⟨c293⟩ : TellingsT)).bind fun c294 =>
      some ((⟨a0.Id,a0.Version,c294⟩ : RegionT),0))))))))))))))))
structure zcN where
 t4 : Int
 t14 : Int
 b0_0 : Int
 b0_1 : Int
 b0_2 : (List BranchT)
structure zeM where
 t4 : Int
 b0_0 : Int
 b0_1 : Int
 b0_2 : (List BranchT)
noncomputable def z8 (c184 : (List ByteArray)) (g185 : zcN) : Option (zcN ⊕ zeM) :=
 (if (decide (g185.t14 < ((c184.length : Nat) : Int))) = true then
  (guardO (0 ≤ g185.t14 ∧ g185.t14 < ((c184.length : Nat) : Int)) <|
  ((zdi (⟨g185.b0_0,g185.b0_1,(⟨g185.b0_2⟩ : TellingsT)⟩ : RegionT) 2 (nth c184 g185.t14.toNat)).bind fun c296 =>
  (if (c296.2 == 0) = true then
   some (.inl ⟨(wI (g185.t4 + 1)),(wI (g185.t14 + 1)),c296.1.Id,c296.1.Version,c296.1.Tellings.Branches⟩)
  else
   some (.inl ⟨g185.t4,(wI (g185.t14 + 1)),g185.b0_0,g185.b0_1,g185.b0_2⟩))))
 else
  some (.inr (⟨g185.t4,g185.b0_0,g185.b0_1,g185.b0_2⟩)))
noncomputable def zcO (a0 : RegionT) : Option (RegionT × Int) :=
 ((zd2 a0.Tellings.Branches).bind fun c184 =>
 ((loopF (z8 c184) ⟨0,0,a0.Id,a0.Version,a0.Tellings.Branches⟩).bind fun y297 =>
 some ((⟨y297.b0_0,y297.b0_1,(⟨y297.b0_2⟩ : TellingsT)⟩ : RegionT),y297.t4)))
structure zd5 where
 t14 : Bool
noncomputable def zd6 (a0 : RegionT) : Option (RegionT × Int × Bool) :=
 ((((zcC a0).bind fun c146 =>
  (if (!c146) = true then
   some (⟨true⟩ : zd5)
  else
   ((zb5 a0).bind fun c147 =>
   some (⟨(!c147)⟩ : zd5)))) : Option zd5).bind fun p148 =>
 (if p148.t14 = true then
  some ((⟨0,0,(⟨[]⟩ : TellingsT)⟩ : RegionT),0,false)
 else
  ((zew a0).bind fun c154 =>
  ((zcO c154).bind fun c298 =>
  some (c298.1,c298.2,true)))))
structure za4 where
 t25 : Bool
structure za5 where
 t38 : Bool
noncomputable def zaa (a0 : RegionT) (a1 : Int) (a2 : ByteArray) : Option Int :=
 ((zbB a0.Tellings).bind fun c506 =>
 ((zas a0).bind fun c509 =>
 ((za1 c509 a1 a2).bind fun c517 =>
 ((((zP a1).bind fun c518 =>
  (if (!c518) = true then
   some (⟨true⟩ : za4)
  else
   ((zaA a2).bind fun c519 =>
   some (⟨(!c519)⟩ : za4)))) : Option za4).bind fun p520 =>
 (if p520.t25 = true then
  some 1
 else
  ((zK a0).bind fun c521 =>
  (if (!c521) = true then
   some 2
  else
   (((if (a1 == 2) = true then
     ((zv c509.Signals a2).bind fun c522 =>
     some (⟨c522⟩ : za5))
    else
     some (⟨false⟩ : za5)) : Option za5).bind fun p523 =>
   (if p523.t38 = true then
    some 5
   else
    (if (!c517.1) = true then
     some 3
    else
     (if (((c506.length : Nat) : Int) == 60) = true then
      some 4
     else
      ((zj c506).bind fun c524 =>
      (guardO ((c524.length + 1) * 40 ≤ 140737488355328) <|
      ((zcL a0.Tellings (c524 ++ ([(⟨c509.Next,a0.Version,a1,a2⟩ : EventT)]))).bind fun c544 =>
      none))))))))))))))
structure zcb where
 t25 : Bool
structure za6 where
 t38 : Bool
noncomputable def zaR (a0 : RegionT) (a1 : Int) (a2 : ByteArray) : Option (Int × RegionT) :=
 ((zbB a0.Tellings).bind fun c547 =>
 ((zas a0).bind fun c548 =>
 ((za1 c548 a1 a2).bind fun c549 =>
 ((((zP a1).bind fun c550 =>
  (if (!c550) = true then
   some (⟨true⟩ : zcb)
  else
   ((zaA a2).bind fun c551 =>
   some (⟨(!c551)⟩ : zcb)))) : Option zcb).bind fun p552 =>
 (if p552.t25 = true then
  none
 else
  ((zK a0).bind fun c553 =>
  (if (!c553) = true then
   none
  else
   (((if (a1 == 2) = true then
     ((zv c548.Signals a2).bind fun c554 =>
     some (⟨c554⟩ : za6))
    else
     some (⟨false⟩ : za6)) : Option za6).bind fun p555 =>
   (if p555.t38 = true then
    none
   else
    (if (!c549.1) = true then
     none
    else
     (if (((c547.length : Nat) : Int) == 60) = true then
      none
     else
      ((zj c547).bind fun c556 =>
      (guardO ((c556.length + 1) * 40 ≤ 140737488355328) <|
      ((zcL a0.Tellings (c556 ++ ([(⟨c548.Next,a0.Version,a1,a2⟩ : EventT)]))).bind fun c557 =>
      some (0,(⟨a0.Id,a0.Version,c557⟩ : RegionT))))))))))))))))
structure zaS where
 t3 : Int
 t12 : Int
 b0_0 : Int
 b0_1 : Int
 c3 : (List BranchT)
structure zdl where
 t3 : Int
 b0_0 : Int
 b0_1 : Int
 c2 : (List BranchT)
noncomputable def zC (c545 : (List ByteArray)) (g546 : zaS) : Option (zaS ⊕ zdl) :=
 (if (decide (g546.t12 < ((c545.length : Nat) : Int))) = true then
  (guardO (0 ≤ g546.t12 ∧ g546.t12 < ((c545.length : Nat) : Int)) <|
  (match zaa (⟨g546.b0_0,g546.b0_1,(⟨g546.c3⟩ : TellingsT)⟩ : RegionT) 2 (nth c545 g546.t12.toNat) with
  | some c560 =>
   (if (c560 == 0) = true then
    some (.inl ⟨(wI (g546.t3 + 1)),(wI (g546.t12 + 1)),g546.b0_0,g546.b0_1,g546.c3⟩)
   else
    some (.inl ⟨g546.t3,(wI (g546.t12 + 1)),g546.b0_0,g546.b0_1,g546.c3⟩))
  | none =>
   ((zaR (⟨g546.b0_0,g546.b0_1,(⟨g546.c3⟩ : TellingsT)⟩ : RegionT) 2 (nth c545 g546.t12.toNat)).bind fun c561 =>
   (if (c561.1 == 0) = true then
    some (.inl ⟨(wI (g546.t3 + 1)),(wI (g546.t12 + 1)),c561.2.Id,c561.2.Version,c561.2.Tellings.Branches⟩)
   else
    some (.inl ⟨g546.t3,(wI (g546.t12 + 1)),c561.2.Id,c561.2.Version,c561.2.Tellings.Branches⟩)))))
 else
  some (.inr (⟨g546.t3,g546.b0_0,g546.b0_1,g546.c3⟩)))
noncomputable def zay (a0 : RegionT) : Option (Int × RegionT) :=
 ((zca a0.Tellings).bind fun c545 =>
 ((loopF (zC c545) ⟨0,0,a0.Id,a0.Version,a0.Tellings.Branches⟩).bind fun y562 =>
 some (y562.t3,(⟨y562.b0_0,y562.b0_1,(⟨y562.c2⟩ : TellingsT)⟩ : RegionT))))
structure zd7 where
 t13 : Bool
noncomputable def zdj (a0 : RegionT) : Option (RegionT × Int × Bool) :=
 ((((zcD a0).bind fun c463 =>
  (if (!c463) = true then
   some (⟨true⟩ : zd7)
  else
   ((zK a0).bind fun c464 =>
   some (⟨(!c464)⟩ : zd7)))) : Option zd7).bind fun p465 =>
 (if p465.t13 = true then
  some ((⟨0,0,(⟨[]⟩ : TellingsT)⟩ : RegionT),0,false)
 else
  ((zdu a0).bind fun c471 =>
  ((zay c471).bind fun c563 =>
  some (c563.2,c563.1,true)))))
structure zaT where
 t50 : Bool
structure zW where
 t76 : Bool
structure zaU where
 t108 : Bool
noncomputable def zck (a0 : RegionT) : Option Bool :=
 ((zdF a0 1048576).bind fun c299 =>
 (if (decide (c299 < 0)) = true then
  some true
 else
  ((zcE a0).bind fun c301 =>
  ((zd6 c301).bind fun c302 =>
  ((zbP a0).bind fun c303 =>
  ((zdj c303).bind fun c564 =>
  ((((zbe c564.1 c302.1).bind fun c580 =>
   (if (!c580) = true then
    some (⟨true⟩ : zaT)
   else
    (if (c564.2.1 != c302.2.1) = true then
     some (⟨true⟩ : zaT)
    else
     some (⟨(!(c564.2.2 == c302.2.2))⟩ : zaT)))) : Option zaT).bind fun p581 =>
  (if p581.t50 = true then
   some false
  else
   ((zbP a0).bind fun c582 =>
   ((zbe c303 c582).bind fun c583 =>
   (if (!c583) = true then
    some false
   else
    ((zaQ c303 1).bind fun c599 =>
    (guardO (c599.2.length = c303.Tellings.Branches.length) <|
    (((if (decide (c599.1 < 0)) = true then
      some (⟨true⟩ : zW)
     else
      ((zbe c564.1 c302.1).bind fun c600 =>
      (if (!c600) = true then
       some (⟨true⟩ : zW)
      else
       (if (c564.2.1 != c302.2.1) = true then
        some (⟨true⟩ : zW)
       else
        some (⟨(!(c564.2.2 == c302.2.2))⟩ : zW))))) : Option zW).bind fun p601 =>
    (if p601.t76 = true then
     some false
    else
     ((zaQ c564.1 1).bind fun c602 =>
     (guardO (c602.2.length = c564.1.Tellings.Branches.length) <|
     ((zbM (⟨c564.1.Id,c564.1.Version,(⟨c602.2⟩ : TellingsT)⟩ : RegionT) 1).bind fun c617 =>
     (if (decide (c617 < 0)) = true then
      some false
     else
      (if (c617 != c602.1) = true then
       some false
      else
       ((zbP a0).bind fun c618 =>
       ((zdj c618).bind fun c619 =>
       ((((zbe c619.1 c302.1).bind fun c620 =>
        (if (!c620) = true then
         some (⟨true⟩ : zaU)
        else
         (if (c619.2.1 != c302.2.1) = true then
          some (⟨true⟩ : zaU)
         else
          some (⟨(!(c619.2.2 == c302.2.2))⟩ : zaU)))) : Option zaU).bind fun p621 =>
       (if p621.t108 = true then
        some false
       else
        ((zbM (⟨c564.1.Id,c564.1.Version,(⟨c602.2⟩ : TellingsT)⟩ : RegionT) 1).bind fun c622 =>
        (if (decide (c622 < 0)) = true then
         some false
        else
         (if (c622 != c602.1) = true then
          some false
         else
          some true)))))))))))))))))))))))))))
end Go.TL

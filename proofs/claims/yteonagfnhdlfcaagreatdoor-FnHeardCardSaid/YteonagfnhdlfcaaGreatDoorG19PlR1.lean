import Derived.Test.YteonagfnhdlfcaaGreatDoorG0TlCore
import Derived.Test.YteonagfnhdlfcaaGreatDoorG18PlTrim
set_option linter.unusedSimpArgs false
set_option linter.unusedVariables false
namespace Go.TL
structure PacketT where
 Ack : Bool
 No : Int
 Text : ByteArray
 deriving DecidableEq,Inhabited
structure QueueT where
 Window : Int
 Sent : (List ByteArray)
 Base : Int
 Got : (List ByteArray)
 Line : (List PacketT)
 deriving DecidableEq,Inhabited
noncomputable def zar (a0 : Int) (a1 : Int) (a2 : Int) : Option Bool :=
 (if (decide (a0 ≥ a1)) = true then
  some (decide (a0 ≤ a2))
 else
  some false)
noncomputable def zee (a0 : Int) (a1 : Int) (a2 : Int) : Option Bool :=
 (if (decide (a0 ≥ a1)) = true then
  some (decide (a0 ≤ a2))
 else
  some false)
structure l1CurT where
 code : (List Int)
 at_ : Int
 seed : Int
 deriving DecidableEq,Inhabited
structure zc2 where
 t3 : Int
noncomputable def zbr (a0 : l1CurT) : Option (Int × l1CurT) :=
 (((if (decide (a0.at_ < ((a0.code.length : Nat) : Int))) = true then
   (guardO (0 ≤ a0.at_ ∧ a0.at_ < (a0.code.length : Int)) <|
   some (⟨(wI (nth a0.code a0.at_.toNat))⟩ : zc2))
  else
   some (⟨0⟩ : zc2)) : Option zc2).bind fun p115 =>
 (if (decide ((wI (a0.at_ + 1)) ≤ ((a0.code.length : Nat) : Int))) = true then
  some (p115.t3,(⟨a0.code,(wI (a0.at_ + 1)),(wU ((wU ((wU (a0.seed * 6364136223846793005)) + (wU p115.t3))) + 1442695040888963407))⟩ : l1CurT))
 else
  some ((wI (wU (bvAnd 64 (shR 64 (wU ((wU ((wU (a0.seed * 6364136223846793005)) + (wU p115.t3))) + 1442695040888963407)) 40) 255))),(⟨a0.code,(wI (a0.at_ + 1)),(wU ((wU ((wU (a0.seed * 6364136223846793005)) + (wU p115.t3))) + 1442695040888963407))⟩ : l1CurT))))
noncomputable def zw (a0 : l1CurT) (a1 : Int) : Option (Int × l1CurT) :=
 (if (decide (a1 ≤ 1)) = true then
  some (0,a0)
 else
  ((zbr a0).bind fun c116 =>
  (if (decide (a1 > 200)) = true then
   ((zbr c116.2).bind fun c117 =>
   (guardO (a1 ≠ 0) <|
   some (((wI ((wI (c116.1 * 256)) + c117.1)).tmod a1),c117.2)))
  else
   (guardO (a1 ≠ 0) <|
   some ((c116.1.tmod a1),c116.2)))))
noncomputable def zas (a0 : l1CurT) (a1 : Int) : Option (Bool × l1CurT) :=
 ((zw a0 a1).bind fun c122 =>
 some ((c122.1 == 0),c122.2))
structure CallT where
 Now : Int
 Fine : Bool
 deriving DecidableEq,Inhabited
end Go.TL
namespace Go.TL
structure LineStepT where
 Kind : Int
 K : Int
 Text : ByteArray
 deriving DecidableEq,Inhabited
noncomputable def zaO (a0 : (List ByteArray)) : Option (List ByteArray) :=
 guardO (a0.length * 16 ≤ 140737488355328) (some a0)
noncomputable def zak (a0 : l1CurT) (a1 : (List Int)) : Option (Int × l1CurT) :=
 ((zw a0 ((a1.length : Nat) : Int)).bind fun c312 =>
 (guardO (0 ≤ c312.1 ∧ c312.1 < ((a1.length : Nat) : Int)) <|
 some ((nth a1 c312.1.toNat),c312.2)))
noncomputable def zcG (a0 : l1CurT) (a1 : (List ByteArray)) : Option (ByteArray × l1CurT) :=
 ((zw a0 ((a1.length : Nat) : Int)).bind fun c315 =>
 (guardO (0 ≤ c315.1 ∧ c315.1 < ((a1.length : Nat) : Int)) <|
 some ((nth a1 c315.1.toNat),c315.2)))
end Go.TL
namespace Go.TL
structure DomainT where
 Name : ByteArray
 Version : Int
 Note : ByteArray
 deriving DecidableEq,Inhabited
structure zeO where
 t3 : Int
structure za1 where
 t32 : Bool
noncomputable def zcx (a0 : ByteArray) (g14 : zeO) : Option (zeO ⊕ (Unit ⊕ Unit)) :=
 (if (decide (g14.t3 < (a0.size : Int))) = true then
  (((guardO (0 ≤ g14.t3 ∧ g14.t3 < (a0.size : Int)) <|
   (if (decide ((bt a0 g14.t3) ≥ 97)) = true then
    (guardO (0 ≤ g14.t3 ∧ g14.t3 < (a0.size : Int)) <|
    (if (decide ((bt a0 g14.t3) ≤ 122)) = true then
     some (⟨false⟩ : za1)
    else
     (guardO (0 ≤ g14.t3 ∧ g14.t3 < (a0.size : Int)) <|
     (if (decide ((bt a0 g14.t3) ≥ 48)) = true then
      (guardO (0 ≤ g14.t3 ∧ g14.t3 < (a0.size : Int)) <|
      some (⟨(!(decide ((bt a0 g14.t3) ≤ 57)))⟩ : za1))
     else
      some (⟨true⟩ : za1)))))
   else
    (guardO (0 ≤ g14.t3 ∧ g14.t3 < (a0.size : Int)) <|
    (if (decide ((bt a0 g14.t3) ≥ 48)) = true then
     (guardO (0 ≤ g14.t3 ∧ g14.t3 < (a0.size : Int)) <|
     some (⟨(!(decide ((bt a0 g14.t3) ≤ 57)))⟩ : za1))
    else
     some (⟨true⟩ : za1))))) : Option za1).bind fun p16 =>
  (if p16.t32 = true then
   some (.inr (.inl ()))
  else
   some (.inl ⟨(wI (g14.t3 + 1))⟩)))
 else
  some (.inr (.inr ())))
noncomputable def zdw (a0 : ByteArray) : Option Bool :=
 ((loopF (zcx a0) ⟨0⟩).bind fun y17 =>
 match y17 with
 | .inl p18 =>
  some false
 | .inr p19 =>
  some (decide ((a0.size : Int) ≤ 12)))
noncomputable def zbf (a0 : Int) : Option Bool :=
 ((zar a0 0 1000000).bind fun c21 =>
 some c21)
noncomputable def zdH (a0 : ByteArray) (a1 : ByteArray) : Option ByteArray :=
 guardO (a0.size ≤ 9223372036854775807 ∧ a1.size < 4294967281 ∧ a1.data.toList.all (fun b => decide (b.toNat < 128)) = true) (some (trimB a0 a1))
noncomputable def zaX (a0 : ByteArray) : Option Bool :=
 (if (decide ((a0.size : Int) ≤ 12)) = true then
  ((zdH a0 (⟨#[97,98,99,100,101,102,103,104,105,106,107,108,109,110,111,112,113,114,115,116,117,118,119,120,121,122,48,49,50,51,52,53,54,55,56,57]⟩ : ByteArray)).bind fun c33 =>
  some (c33.toList == ByteArray.empty.toList))
 else
  some false)
noncomputable def zcy (a0 : Int) : Option Bool :=
 ((zee a0 0 1000000).bind fun c35 =>
 some c35)
noncomputable def zd9 (a0 : Int) : Option Bool :=
 some (a0 != a0)
noncomputable def zaJ (a0 : Int) (a1 : Int) : Option Int :=
 ((zd9 a0).bind fun c105 =>
 ((zd9 a1).bind fun c106 =>
 (if c105 = true then
  (if c106 = true then
   some 0
  else
   some (-1))
 else
  (if c106 = true then
   some 1
  else
   (if (decide (a0 < a1)) = true then
    some (-1)
   else
    (if (decide (a0 > a1)) = true then
     some 1
    else
     some 0))))))
noncomputable def zat (a0 : ByteArray) : Option Bool :=
 some (!(a0.toList == a0.toList))
noncomputable def zbW (a0 : ByteArray) (a1 : ByteArray) : Option Int :=
 ((zat a0).bind fun c108 =>
 ((zat a1).bind fun c109 =>
 (if c108 = true then
  (if c109 = true then
   some 0
  else
   some (-1))
 else
  (if c109 = true then
   some 1
  else
   (if (sLt a0 a1) = true then
    some (-1)
   else
    (if (!(sLt a0 a1 || a0.toList == a1.toList)) = true then
     some 1
    else
     some 0))))))
structure ze4 where
 t8 : Int
structure zf9 where
 t2 : Int
noncomputable def zc4 (a0 : (List Int)) (g111 : ze4) : Option (ze4 ⊕ (zf9 ⊕ Unit)) :=
 (if (decide (g111.t8 < ((a0.length : Nat) : Int))) = true then
  (guardO (0 ≤ g111.t8 ∧ g111.t8 < (a0.length : Int)) <|
  (if ((nth a0 g111.t8.toNat) != 0) = true then
   some (.inr (.inl (⟨(nth a0 g111.t8.toNat)⟩)))
  else
   some (.inl ⟨(wI (g111.t8 + 1))⟩)))
 else
  some (.inr (.inr ())))
noncomputable def zeP (a0 : (List Int)) : Option Int :=
 ((loopF (zc4 a0) ⟨0⟩).bind fun y112 =>
 match y112 with
 | .inl p113 =>
  some p113.t2
 | .inr p114 =>
  some 0)
noncomputable def zew (a0 : Int) (a1 : Int) : Option Int :=
 (if (decide ((wI ((wI (a0 - (a0.tmod 10))) + a1)) ≤ a0)) = true then
  some (wI ((wI ((wI (a0 - (a0.tmod 10))) + a1)) + 10))
 else
  some (wI ((wI (a0 - (a0.tmod 10))) + a1)))
structure zdx where
 t14 : Bool
noncomputable def zcH (a0 : Int) (a1 : Int) : Option (Int × Bool) :=
 ((((zbf a0).bind fun c134 =>
  (if (!c134) = true then
   some (⟨true⟩ : zdx)
  else
   ((zar a1 0 9).bind fun c135 =>
   some (⟨(!c135)⟩ : zdx)))) : Option zdx).bind fun p136 =>
 (if p136.t14 = true then
  some (0,false)
 else
  ((zew a0 a1).bind fun c137 =>
  ((zbf c137).bind fun c138 =>
  (if (!c138) = true then
   some (0,false)
  else
   some (c137,true))))))
noncomputable def ze5 (a0 : Int) : Option Bool :=
 ((zee a0 0 9).bind fun c150 =>
 some c150)
end Go.TL
namespace Go.TL
structure EventT where
 Id : Int
 Version : Int
 Kind : Int
 Name : ByteArray
 deriving DecidableEq,Inhabited
structure StateT where
 Status : Int
 Next : Int
 Cancel : Bool
 Done : Int
 Signals : (List ByteArray)
 Timers : (List ByteArray)
 deriving DecidableEq,Inhabited
noncomputable def ze6 : Option StateT :=
 some (⟨0,1,false,0,[],[]⟩ : StateT)
noncomputable def zdJ (a0 : EventT) : Option Bool :=
 ((zar a0.Id 1 1000).bind fun c23 =>
 (if c23 = true then
  ((zar a0.Version 0 1000000).bind fun c24 =>
  (if c24 = true then
   ((zar a0.Kind 1 6).bind fun c25 =>
   (if c25 = true then
    ((zdw a0.Name).bind fun c32 =>
    some c32)
   else
    some false))
  else
   some false))
 else
  some false))
noncomputable def ze1 (a0 : StateT) : Option StateT :=
 (guardO (a0.Signals.length * 16 ≤ 140737488355328) <|
 (guardO (a0.Timers.length * 16 ≤ 140737488355328) <|
 some (⟨a0.Status,a0.Next,a0.Cancel,a0.Done,(([]) ++ a0.Signals),(([]) ++ a0.Timers)⟩ : StateT)))
structure ze7 where
 t9 : Int
structure zga where
 t4 : Int
noncomputable def zc5 (a0 : (List ByteArray)) (a1 : ByteArray) (g36 : ze7) : Option (ze7 ⊕ (zga ⊕ Unit)) :=
 (if (decide (g36.t9 < ((a0.length : Nat) : Int))) = true then
  (guardO (0 ≤ g36.t9 ∧ g36.t9 < (a0.length : Int)) <|
  (if ((nth a0 g36.t9.toNat).toList == a1.toList) = true then
   some (.inr (.inl (⟨g36.t9⟩)))
  else
   some (.inl ⟨(wI (g36.t9 + 1))⟩)))
 else
  some (.inr (.inr ())))
noncomputable def zbg (a0 : (List ByteArray)) (a1 : ByteArray) : Option Int :=
 ((loopF (zc5 a0 a1) ⟨0⟩).bind fun y37 =>
 match y37 with
 | .inl p38 =>
  some p38.t4
 | .inr p39 =>
  some (-1))
structure zfc where
 t6 : Bool
 t15 : Int
 c0 : (List ByteArray)
structure zgQ where
 t6 : Bool
 c0 : (List ByteArray)
structure zd1 where
 t28 : Bool
noncomputable def zS (a0 : (List ByteArray)) (a1 : ByteArray) (g43 : zfc) : Option (zfc ⊕ zgQ) :=
 (if (decide (g43.t15 < ((a0.length : Nat) : Int))) = true then
  (guardO (0 ≤ g43.t15 ∧ g43.t15 < (a0.length : Int)) <|
  (if ((nth a0 g43.t15.toNat).toList == a1.toList) = true then
   some (.inl ⟨g43.t6,(wI (g43.t15 + 1)),g43.c0⟩)
  else
   (((if (!g43.t6) = true then
     some (⟨(!(sLt (nth a0 g43.t15.toNat) a1 || (nth a0 g43.t15.toNat).toList == a1.toList))⟩ : zd1)
    else
     some (⟨false⟩ : zd1)) : Option zd1).bind fun p45 =>
   (if p45.t28 = true then
    (guardO ((g43.c0.length + 1) * 16 ≤ 140737488355328) <|
    (guardO (((g43.c0.length + 1) + 1) * 16 ≤ 140737488355328) <|
    some (.inl ⟨true,(wI (g43.t15 + 1)),((g43.c0 ++ ([a1])) ++ ([(nth a0 g43.t15.toNat)]))⟩)))
   else
    (guardO ((g43.c0.length + 1) * 16 ≤ 140737488355328) <|
    some (.inl ⟨g43.t6,(wI (g43.t15 + 1)),(g43.c0 ++ ([(nth a0 g43.t15.toNat)]))⟩))))))
 else
  some (.inr (⟨g43.t6,g43.c0⟩)))
noncomputable def zbv (a0 : (List ByteArray)) (a1 : ByteArray) : Option (List ByteArray) :=
 ((zbg a0 a1).bind fun c42 =>
 ((loopF (zS a0 a1) ⟨(decide (c42 ≥ 0)),0,[]⟩).bind fun y46 =>
 (if (!y46.t6) = true then
  (guardO ((y46.c0.length + 1) * 16 ≤ 140737488355328) <|
  some (y46.c0 ++ ([a1])))
 else
  some y46.c0)))
structure zbD where
 t11 : Int
structure zd2 where
 t23 : Int
structure zbh where
 t44 : Bool
noncomputable def zbE (a0 : (List ByteArray)) (g51 : zbD) (a1 : Bool) (g60 : zd2) : Option (zd2 ⊕ (Unit ⊕ Unit)) :=
 (if (decide (g60.t23 < (((a0.take g51.t11.toNat).length : Nat) : Int))) = true then
  (guardO (0 ≤ g60.t23 ∧ g60.t23 < ((a0.take g51.t11.toNat).length : Int)) <|
  (((if ((nth (a0.take g51.t11.toNat) g60.t23.toNat).toList == (nth a0 g51.t11.toNat).toList) = true then
    some (⟨true⟩ : zbh)
   else
    (if a1 = true then
     (if (g60.t23 == (wI (g51.t11 - 1))) = true then
      some (⟨(!(sLt (nth (a0.take g51.t11.toNat) g60.t23.toNat) (nth a0 g51.t11.toNat) || (nth (a0.take g51.t11.toNat) g60.t23.toNat).toList == (nth a0 g51.t11.toNat).toList))⟩ : zbh)
     else
      some (⟨false⟩ : zbh))
    else
     some (⟨false⟩ : zbh))) : Option zbh).bind fun p62 =>
  (if p62.t44 = true then
   some (.inr (.inl ()))
  else
   some (.inl ⟨(wI (g60.t23 + 1))⟩))))
 else
  some (.inr (.inr ())))
noncomputable def zbF (a0 : (List ByteArray)) (a1 : Bool) (g51 : zbD) : Option (zbD ⊕ (Unit ⊕ Unit)) :=
 (if (decide (g51.t11 < ((a0.length : Nat) : Int))) = true then
  (guardO (0 ≤ g51.t11 ∧ g51.t11 < (a0.length : Int)) <|
  ((zdw (nth a0 g51.t11.toNat)).bind fun c59 =>
  (if (!c59) = true then
   some (.inr (.inl ()))
  else
   (guardO (0 ≤ g51.t11 ∧ g51.t11 ≤ (a0.length : Int)) <|
   ((loopF (zbE a0 g51 a1) ⟨0⟩).bind fun y63 =>
   match y63 with
   | .inl p64 =>
    some (.inr (.inl ()))
   | .inr p65 =>
    some (.inl ⟨(wI (g51.t11 + 1))⟩))))))
 else
  some (.inr (.inr ())))
noncomputable def zc6 (a0 : (List ByteArray)) (a1 : Bool) : Option Bool :=
 ((loopF (zbF a0 a1) ⟨0⟩).bind fun y66 =>
 match y66 with
 | .inl p67 =>
  some false
 | .inr p68 =>
  some (decide (((a0.length : Nat) : Int) ≤ 30)))
structure zay where
 t30 : Bool
noncomputable def zcz (a0 : StateT) : Option Bool :=
 ((((zar a0.Next 1 1001).bind fun c49 =>
  (if (!c49) = true then
   some (⟨true⟩ : zay)
  else
   ((zar a0.Done 0 1000).bind fun c50 =>
   (if (!c50) = true then
    some (⟨true⟩ : zay)
   else
    ((zc6 a0.Signals false).bind fun c69 =>
    (if (!c69) = true then
     some (⟨true⟩ : zay)
    else
     ((zc6 a0.Timers true).bind fun c70 =>
     (if (!c70) = true then
      some (⟨true⟩ : zay)
     else
      ((zar a0.Status 0 2).bind fun c71 =>
      some (⟨(!c71)⟩ : zay)))))))))) : Option zay).bind fun p72 =>
 (if p72.t30 = true then
  some false
 else
  (if (a0.Status == 0) = true then
   (if (a0.Next == 1) = true then
    (if (!a0.Cancel) = true then
     (if (a0.Done == 0) = true then
      (if (((a0.Signals.length : Nat) : Int) == 0) = true then
       some (((a0.Timers.length : Nat) : Int) == 0)
      else
       some false)
     else
      some false)
    else
     some false)
   else
    some false)
  else
   some (decide (a0.Next > 1)))))
structure zaP where
 t29 : Bool
structure zY where
 b0_0 : Int
 b0_2 : Bool
 b0_3 : Int
 c2 : (List ByteArray)
 c3 : (List ByteArray)
structure zcS where
 t53 : Bool
noncomputable def zbw (a0 : StateT) (a1 : EventT) : Option (StateT × Bool) :=
 ((((zdJ a1).bind fun c33 =>
  (if (!c33) = true then
   some (⟨true⟩ : zaP)
  else
   (if (a1.Id != a0.Next) = true then
    some (⟨true⟩ : zaP)
   else
    (if (!((a1.Kind == 1) == (a0.Status == 0))) = true then
     some (⟨true⟩ : zaP)
    else
     some (⟨(a0.Status == 2)⟩ : zaP))))) : Option zaP).bind fun p34 =>
 (if p34.t29 = true then
  some (a0,false)
 else
  ((ze1 a0).bind fun c35 =>
  (((if (a1.Kind == 1) = true then
    some (.inl (⟨1,c35.Cancel,c35.Done,c35.Signals,c35.Timers⟩ : zY))
   else
    (if (a1.Kind == 2) = true then
     ((((zbg c35.Signals a1.Name).bind fun c40 =>
      (if (decide (c40 ≥ 0)) = true then
       some (⟨true⟩ : zcS)
      else
       some (⟨(((c35.Signals.length : Nat) : Int) == 30)⟩ : zcS))) : Option zcS).bind fun p41 =>
     (if p41.t53 = true then
      some (.inr (c35,false))
     else
      (guardO ((c35.Signals.length + 1) * 16 ≤ 140737488355328) <|
      some (.inl (⟨c35.Status,c35.Cancel,c35.Done,(c35.Signals ++ ([a1.Name])),c35.Timers⟩ : zY)))))
    else
     (if (a1.Kind == 3) = true then
      some (.inl (⟨c35.Status,c35.Cancel,(wI (c35.Done + 1)),c35.Signals,c35.Timers⟩ : zY))
     else
      (if (a1.Kind == 4) = true then
       ((zbv c35.Timers a1.Name).bind fun c47 =>
       some (.inl (⟨c35.Status,c35.Cancel,c35.Done,c35.Signals,c47⟩ : zY)))
      else
       (if (a1.Kind == 5) = true then
        (if c35.Cancel = true then
         some (.inr (c35,false))
        else
         some (.inl (⟨c35.Status,true,c35.Done,c35.Signals,c35.Timers⟩ : zY)))
       else
        some (.inl (⟨2,c35.Cancel,c35.Done,c35.Signals,[]⟩ : zY))))))) : Option (zY ⊕ (StateT × Bool))).bind fun q => match q with
  | .inl p48 =>
   ((zcz (⟨p48.b0_0,(wI (c35.Next + 1)),p48.b0_2,p48.b0_3,p48.c2,p48.c3⟩ : StateT)).bind fun c73 =>
   some ((⟨p48.b0_0,(wI (c35.Next + 1)),p48.b0_2,p48.b0_3,p48.c2,p48.c3⟩ : StateT),c73))
  | .inr v => some v))))
structure zfl where
 t12 : Int
 b1_0 : Int
 b1_1 : Int
 b1_2 : Bool
 b1_3 : Int
 b1_4 : (List ByteArray)
 b1_5 : (List ByteArray)
structure zg3 where
 t3 : Int
 b0_0 : Int
 b0_1 : Int
 b0_2 : Bool
 b0_3 : Int
 b0_4 : (List ByteArray)
 b0_5 : (List ByteArray)
structure zg4 where
 b1_0 : Int
 b1_1 : Int
 b1_2 : Bool
 b1_3 : Int
 b1_4 : (List ByteArray)
 b1_5 : (List ByteArray)
noncomputable def zaK (a0 : (List EventT)) (g22 : zfl) : Option (zfl ⊕ (zg3 ⊕ zg4)) :=
 (if (decide (g22.t12 < ((a0.length : Nat) : Int))) = true then
  (guardO (0 ≤ g22.t12 ∧ g22.t12 < (a0.length : Int)) <|
  ((zbw (⟨g22.b1_0,g22.b1_1,g22.b1_2,g22.b1_3,g22.b1_4,g22.b1_5⟩ : StateT) (nth a0 g22.t12.toNat)).bind fun c75 =>
  (if (!c75.2) = true then
   some (.inr (.inl (⟨g22.t12,g22.b1_0,g22.b1_1,g22.b1_2,g22.b1_3,g22.b1_4,g22.b1_5⟩)))
  else
   some (.inl ⟨(wI (g22.t12 + 1)),c75.1.Status,c75.1.Next,c75.1.Cancel,c75.1.Done,c75.1.Signals,c75.1.Timers⟩))))
 else
  some (.inr (.inr (⟨g22.b1_0,g22.b1_1,g22.b1_2,g22.b1_3,g22.b1_4,g22.b1_5⟩))))
noncomputable def zbX (a0 : (List EventT)) : Option (StateT × Int) :=
 ((ze6).bind fun c21 =>
 ((loopF (zaK a0) ⟨0,c21.Status,c21.Next,c21.Cancel,c21.Done,[],[]⟩).bind fun y76 =>
 match y76 with
 | .inl p77 =>
  some ((⟨p77.b0_0,p77.b0_1,p77.b0_2,p77.b0_3,p77.b0_4,p77.b0_5⟩ : StateT),p77.t3)
 | .inr p78 =>
  some ((⟨p78.b1_0,p78.b1_1,p78.b1_2,p78.b1_3,p78.b1_4,p78.b1_5⟩ : StateT),((a0.length : Nat) : Int))))
structure zdD where
 t8 : Int
structure zdK where
 t26 : Bool
noncomputable def zbs (a0 : (List EventT)) (g15 : zdD) : Option (zdD ⊕ (Unit ⊕ Unit)) :=
 (if (decide (g15.t8 < ((a0.length : Nat) : Int))) = true then
  (((if (decide (g15.t8 > 0)) = true then
    (guardO (0 ≤ (wI (g15.t8 - 1)) ∧ (wI (g15.t8 - 1)) < (a0.length : Int)) <|
    (guardO (0 ≤ g15.t8 ∧ g15.t8 < (a0.length : Int)) <|
    some (⟨(decide (((nth a0 ((wI (g15.t8 - 1)).toNat)).Version) > ((nth a0 g15.t8.toNat).Version)))⟩ : zdK)))
   else
    some (⟨false⟩ : zdK)) : Option zdK).bind fun p17 =>
  (if p17.t26 = true then
   some (.inr (.inl ()))
  else
   some (.inl ⟨(wI (g15.t8 + 1))⟩)))
 else
  some (.inr (.inr ())))
noncomputable def zdL (a0 : (List EventT)) : Option Bool :=
 ((loopF (zbs a0) ⟨0⟩).bind fun y18 =>
 match y18 with
 | .inl p19 =>
  some false
 | .inr p20 =>
  ((zbX a0).bind fun c79 =>
  (if (c79.2 == ((a0.length : Nat) : Int)) = true then
   some (decide (((a0.length : Nat) : Int) ≤ 60))
  else
   some false)))
noncomputable def zdc (a0 : (List EventT)) : Option Bool :=
 (if (decide (((a0.length : Nat) : Int) > 0)) = true then
  ((zdL a0).bind fun c81 =>
  some c81)
 else
  some false)
noncomputable def zea (a0 : EventT) (a1 : EventT) : Option Int :=
 (if (a0.Version != a1.Version) = true then
  (if (decide (a0.Version < a1.Version)) = true then
   some (-1)
  else
   some 1)
 else
  (if (a0.Kind != a1.Kind) = true then
   (if (decide (a0.Kind < a1.Kind)) = true then
    some (-1)
   else
    some 1)
  else
   (if (sLt a0.Name a1.Name) = true then
    some (-1)
   else
    (if (!(sLt a0.Name a1.Name || a0.Name.toList == a1.Name.toList)) = true then
     some 1
    else
     some 0))))
structure zdd where
 t6 : Int
structure zfm where
 t4 : Int
 t5 : Int
noncomputable def za2 (a0 : (List EventT)) (a1 : (List EventT)) (g85 : zdd) : Option (zdd ⊕ (zfm ⊕ Unit)) :=
 (if (decide (g85.t6 < ((a0.length : Nat) : Int))) = true then
  (if (decide (g85.t6 < ((a1.length : Nat) : Int))) = true then
   (guardO (0 ≤ g85.t6 ∧ g85.t6 < (a0.length : Int)) <|
   (guardO (0 ≤ g85.t6 ∧ g85.t6 < (a1.length : Int)) <|
   ((zea (nth a0 g85.t6.toNat) (nth a1 g85.t6.toNat)).bind fun c87 =>
   (if (c87 != 0) = true then
    some (.inr (.inl (⟨c87,g85.t6⟩)))
   else
    some (.inl ⟨(wI (g85.t6 + 1))⟩)))))
  else
   some (.inr (.inr ())))
 else
  some (.inr (.inr ())))
noncomputable def zaL (a0 : (List EventT)) (a1 : (List EventT)) : Option (Int × Int) :=
 ((loopF (za2 a0 a1) ⟨0⟩).bind fun y88 =>
 match y88 with
 | .inl p89 =>
  some (p89.t4,p89.t5)
 | .inr p90 =>
  (if (decide (((a0.length : Nat) : Int) < ((a1.length : Nat) : Int))) = true then
   some ((-1),((a0.length : Nat) : Int))
  else
   (if (decide (((a0.length : Nat) : Int) > ((a1.length : Nat) : Int))) = true then
    some (1,((a1.length : Nat) : Int))
   else
    some (0,((a0.length : Nat) : Int)))))
noncomputable def ze8 : Option StateT :=
 some (⟨0,1,false,0,[],[]⟩ : StateT)
noncomputable def zem (a0 : ByteArray) : Option Bool :=
 ((zaX a0).bind fun c109 =>
 some (!c109))
structure zK where
 t8 : Int
structure zaS where
 t4 : Int
noncomputable def zh (a0 : (List ByteArray)) (g107 : zK) : Option (zK ⊕ (zaS ⊕ Unit)) :=
 (if (decide (g107.t8 < ((a0.length : Nat) : Int))) = true then
  (guardO (0 ≤ g107.t8 ∧ g107.t8 < (a0.length : Int)) <|
  ((zem (nth a0 g107.t8.toNat)).bind fun c111 =>
  (if c111 = true then
   some (.inr (.inl (⟨g107.t8⟩)))
  else
   some (.inl ⟨(wI (g107.t8 + 1))⟩))))
 else
  some (.inr (.inr ())))
noncomputable def zQ (a0 : (List ByteArray)) : Option Int :=
 ((loopF (zh a0) ⟨0⟩).bind fun y112 =>
 match y112 with
 | .inl p113 =>
  some p113.t4
 | .inr p114 =>
  some (-1))
noncomputable def zL (a0 : (List ByteArray)) : Option Bool :=
 ((zQ a0).bind fun c115 =>
 some (decide (c115 ≥ 0)))
noncomputable def zdM (a0 : (List ByteArray)) (a1 : Int) : Option Bool :=
 (if (decide (((a0.length : Nat) : Int) ≤ a1)) = true then
  ((zL a0).bind fun c116 =>
  some (!c116))
 else
  some false)
structure zbR where
 t8 : Int
structure zex where
 t4 : Int
noncomputable def zaf (a0 : (List ByteArray)) (a1 : ByteArray) (g119 : zbR) : Option (zbR ⊕ (zex ⊕ Unit)) :=
 (if (decide (g119.t8 < ((a0.length : Nat) : Int))) = true then
  (guardO (0 ≤ g119.t8 ∧ g119.t8 < (a0.length : Int)) <|
  (if (a1.toList == (nth a0 g119.t8.toNat).toList) = true then
   some (.inr (.inl (⟨g119.t8⟩)))
  else
   some (.inl ⟨(wI (g119.t8 + 1))⟩)))
 else
  some (.inr (.inr ())))
noncomputable def zcT (a0 : (List ByteArray)) (a1 : ByteArray) : Option Int :=
 ((loopF (zaf a0 a1) ⟨0⟩).bind fun y120 =>
 match y120 with
 | .inl p121 =>
  some p121.t4
 | .inr p122 =>
  some (-1))
noncomputable def zF (a0 : (List ByteArray)) (a1 : ByteArray) : Option Bool :=
 ((zcT a0 a1).bind fun c123 =>
 some (decide (c123 ≥ 0)))
structure zd3 where
 t7 : Int
noncomputable def zbG (a0 : (List ByteArray)) (g118 : zd3) : Option (zd3 ⊕ (Unit ⊕ Unit)) :=
 (if (decide (g118.t7 < ((a0.length : Nat) : Int))) = true then
  (guardO (0 ≤ g118.t7 ∧ g118.t7 < (a0.length : Int)) <|
  (guardO (0 ≤ g118.t7 ∧ g118.t7 ≤ (a0.length : Int)) <|
  ((zF (a0.take g118.t7.toNat) (nth a0 g118.t7.toNat)).bind fun c125 =>
  (if c125 = true then
   some (.inr (.inl ()))
  else
   some (.inl ⟨(wI (g118.t7 + 1))⟩)))))
 else
  some (.inr (.inr ())))
noncomputable def zc7 (a0 : (List ByteArray)) : Option Bool :=
 ((loopF (zbG a0) ⟨0⟩).bind fun y126 =>
 match y126 with
 | .inl p127 =>
  some false
 | .inr p128 =>
  some true)
noncomputable def zb3 (a0 : ByteArray) (a1 : ByteArray) : Option Bool :=
 ((zat a0).bind fun c132 =>
 (if c132 = true then
  ((zat a1).bind fun c133 =>
  (if (!c133) = true then
   some true
  else
   some (sLt a0 a1)))
 else
  some (sLt a0 a1)))
structure zcl where
 t3 : Int
noncomputable def zC (a0 : (List ByteArray)) (g131 : zcl) : Option (zcl ⊕ (Unit ⊕ Unit)) :=
 (if (decide (g131.t3 > 0)) = true then
  (guardO (0 ≤ g131.t3 ∧ g131.t3 < (a0.length : Int)) <|
  (guardO (0 ≤ (wI (g131.t3 - 1)) ∧ (wI (g131.t3 - 1)) < (a0.length : Int)) <|
  ((zb3 (nth a0 g131.t3.toNat) (nth a0 ((wI (g131.t3 - 1)).toNat))).bind fun c135 =>
  (if c135 = true then
   some (.inr (.inl ()))
  else
   some (.inl ⟨(wI (g131.t3 - 1))⟩)))))
 else
  some (.inr (.inr ())))
noncomputable def zaT (a0 : (List ByteArray)) : Option Bool :=
 ((loopF (zC a0) ⟨(wI (((a0.length : Nat) : Int) - 1))⟩).bind fun y136 =>
 match y136 with
 | .inl p137 =>
  some false
 | .inr p138 =>
  some true)
structure zcm where
 t18 : Bool
structure zaz where
 t46 : Bool
noncomputable def za3 (a0 : StateT) : Option Bool :=
 ((((zee a0.Next 1 1001).bind fun c103 =>
  (if (!c103) = true then
   some (⟨true⟩ : zcm)
  else
   ((zee a0.Done 0 1000).bind fun c104 =>
   (if (!c104) = true then
    some (⟨true⟩ : zcm)
   else
    ((zee a0.Status 0 2).bind fun c105 =>
    some (⟨(!c105)⟩ : zcm)))))) : Option zcm).bind fun p106 =>
 (if p106.t18 = true then
  some false
 else
  ((((zdM a0.Signals 30).bind fun c117 =>
   (if (!c117) = true then
    some (⟨true⟩ : zaz)
   else
    ((zc7 a0.Signals).bind fun c129 =>
    (if (!c129) = true then
     some (⟨true⟩ : zaz)
    else
     ((zdM a0.Timers 30).bind fun c130 =>
     (if (!c130) = true then
      some (⟨true⟩ : zaz)
     else
      ((zaT a0.Timers).bind fun c139 =>
      (if (!c139) = true then
       some (⟨true⟩ : zaz)
      else
       ((zc7 a0.Timers).bind fun c140 =>
       some (⟨(!c140)⟩ : zaz)))))))))) : Option zaz).bind fun p141 =>
  (if p141.t46 = true then
   some false
  else
   (if (a0.Status != 0) = true then
    some (decide (a0.Next > 1))
   else
    (if (a0.Next == 1) = true then
     (if (!a0.Cancel) = true then
      (if (a0.Done == 0) = true then
       (if (((a0.Signals.length : Nat) : Int) == 0) = true then
        some (((a0.Timers.length : Nat) : Int) == 0)
       else
        some false)
      else
       some false)
     else
      some false)
    else
     some false))))))
noncomputable def zad (a0 : Int) : Option Bool :=
 ((zee a0 1 6).bind fun c146 =>
 some c146)
noncomputable def zdN (a0 : EventT) : Option Bool :=
 ((zee a0.Id 1 1000).bind fun c143 =>
 (if c143 = true then
  ((zcy a0.Version).bind fun c145 =>
  (if c145 = true then
   ((zad a0.Kind).bind fun c147 =>
   (if c147 = true then
    ((zaX a0.Name).bind fun c148 =>
    some c148)
   else
    some false))
  else
   some false))
 else
  some false))
noncomputable def zaM (a0 : StateT) : Option StateT :=
 ((zaO a0.Signals).bind fun c151 =>
 ((zaO a0.Timers).bind fun c152 =>
 some (⟨a0.Status,a0.Next,a0.Cancel,a0.Done,c151,c152⟩ : StateT)))
noncomputable def zbB (a0 : ByteArray) : Option Bool :=
 some (!(a0.toList == a0.toList))
structure zby where
 t7 : Int
 t8 : Int
structure zfk where
 t7 : Int
noncomputable def zy (a0 : (List ByteArray)) (a1 : ByteArray) (g157 : zby) : Option (zby ⊕ zfk) :=
 (if (decide (g157.t7 < g157.t8)) = true then
  (guardO (0 ≤ (wI (shR 64 (wU (wI (g157.t7 + g157.t8))) 1)) ∧ (wI (shR 64 (wU (wI (g157.t7 + g157.t8))) 1)) < (a0.length : Int)) <|
  ((zb3 (nth a0 ((wI (shR 64 (wU (wI (g157.t7 + g157.t8))) 1)).toNat)) a1).bind fun c159 =>
  (if c159 = true then
   some (.inl ⟨(wI ((wI (shR 64 (wU (wI (g157.t7 + g157.t8))) 1)) + 1)),g157.t8⟩)
  else
   some (.inl ⟨g157.t7,(wI (shR 64 (wU (wI (g157.t7 + g157.t8))) 1))⟩))))
 else
  some (.inr (⟨g157.t7⟩)))
noncomputable def zae (a0 : (List ByteArray)) (a1 : ByteArray) : Option (Int × Bool) :=
 ((loopF (zy a0 a1) ⟨0,((a0.length : Nat) : Int)⟩).bind fun y160 =>
 (if (decide (y160.t7 < ((a0.length : Nat) : Int))) = true then
  (guardO (0 ≤ y160.t7 ∧ y160.t7 < (a0.length : Int)) <|
  (if ((nth a0 y160.t7.toNat).toList == a1.toList) = true then
   some (y160.t7,true)
  else
   (guardO (0 ≤ y160.t7 ∧ y160.t7 < (a0.length : Int)) <|
   ((zbB (nth a0 y160.t7.toNat)).bind fun c161 =>
   (if c161 = true then
    ((zbB a1).bind fun c162 =>
    some (y160.t7,c162))
   else
    some (y160.t7,false))))))
 else
  some (y160.t7,false)))
noncomputable def zbS (a0 : (List ByteArray)) (a1 : Int) (a2 : Int) : Option (List ByteArray) :=
 guardO (0 ≤ a1 ∧ a1 ≤ a2 ∧ a2 ≤ (a0.length : Int) ∧ a0.length * 16 ≤ 140737488355328) (some (a0.take a1.toNat ++ a0.drop a2.toNat))
noncomputable def zbT (a0 : (List ByteArray)) (a1 : Int) (a2 : (List ByteArray)) : Option (List ByteArray) :=
 guardO (a2.length = 1 ∧ 0 ≤ a1 ∧ a1 ≤ (a0.length : Int) ∧ (a0.length + 1) * 16 ≤ 140737488355328) (some (a0.take a1.toNat ++ a2 ++ a0.drop a1.toNat))
noncomputable def zaU (a0 : StateT) (a1 : ByteArray) : Option (Bool × StateT) :=
 ((zae a0.Timers a1).bind fun c165 =>
 (if c165.2 = true then
  ((zbS a0.Timers c165.1 (wI (c165.1 + 1))).bind fun c166 =>
  some (true,(⟨a0.Status,a0.Next,a0.Cancel,a0.Done,a0.Signals,c166⟩ : StateT)))
 else
  (if (((a0.Timers.length : Nat) : Int) == 30) = true then
   some (false,a0)
  else
   ((zbT a0.Timers c165.1 ([a1])).bind fun c167 =>
   some (true,(⟨a0.Status,a0.Next,a0.Cancel,a0.Done,a0.Signals,c167⟩ : StateT))))))
structure z8 where
 t32 : Bool
structure zbi where
 t54 : Bool
noncomputable def za4 (a0 : StateT) (a1 : Int) (a2 : ByteArray) : Option (Bool × StateT) :=
 (((if (decide (a0.Next > 1000)) = true then
   some (⟨true⟩ : z8)
  else
   (if (!((a1 == 1) == (a0.Status == 0))) = true then
    some (⟨true⟩ : z8)
   else
    (if (a1 != 1) = true then
     some (⟨(a0.Status != 1)⟩ : z8)
    else
     some (⟨false⟩ : z8)))) : Option z8).bind fun p170 =>
 (if p170.t32 = true then
  some (false,a0)
 else
  (if (a1 == 1) = true then
   some (true,(⟨1,(wI (a0.Next + 1)),a0.Cancel,a0.Done,a0.Signals,a0.Timers⟩ : StateT))
  else
   (if (a1 == 2) = true then
    ((((zF a0.Signals a2).bind fun c171 =>
     (if c171 = true then
      some (⟨true⟩ : zbi)
     else
      some (⟨(((a0.Signals.length : Nat) : Int) == 30)⟩ : zbi))) : Option zbi).bind fun p172 =>
    (if p172.t54 = true then
     some (false,a0)
    else
     (guardO ((a0.Signals.length + 1) * 16 ≤ 140737488355328) <|
     some (true,(⟨a0.Status,(wI (a0.Next + 1)),a0.Cancel,a0.Done,(a0.Signals ++ ([a2])),a0.Timers⟩ : StateT)))))
   else
    (if (a1 == 3) = true then
     some (true,(⟨a0.Status,(wI (a0.Next + 1)),a0.Cancel,(wI (a0.Done + 1)),a0.Signals,a0.Timers⟩ : StateT))
    else
     (if (a1 == 4) = true then
      ((zaU a0 a2).bind fun c173 =>
      (if (!c173.1) = true then
       some (false,(⟨c173.2.Status,c173.2.Next,c173.2.Cancel,c173.2.Done,a0.Signals,c173.2.Timers⟩ : StateT))
      else
       some (true,(⟨c173.2.Status,(wI (c173.2.Next + 1)),c173.2.Cancel,c173.2.Done,a0.Signals,c173.2.Timers⟩ : StateT))))
     else
      (if (a1 == 5) = true then
       (if a0.Cancel = true then
        some (false,a0)
       else
        some (true,(⟨a0.Status,(wI (a0.Next + 1)),true,a0.Done,a0.Signals,a0.Timers⟩ : StateT)))
      else
       (if (a1 == 6) = true then
        some (true,(⟨2,(wI (a0.Next + 1)),a0.Cancel,a0.Done,a0.Signals,[]⟩ : StateT))
       else
        some (true,(⟨a0.Status,(wI (a0.Next + 1)),a0.Cancel,a0.Done,a0.Signals,a0.Timers⟩ : StateT))))))))))
structure za5 where
 t21 : Bool
structure zdO where
 t35 : Bool
 b1_0 : Int
 b1_1 : Int
 b1_2 : Bool
 b1_3 : Int
 c2 : (List ByteArray)
 c3 : (List ByteArray)
noncomputable def zde (a0 : StateT) (a1 : EventT) : Option (StateT × Bool) :=
 ((((za3 a0).bind fun c142 =>
  (if (!c142) = true then
   some (⟨true⟩ : za5)
  else
   ((zdN a1).bind fun c149 =>
   (if (!c149) = true then
    some (⟨true⟩ : za5)
   else
    some (⟨(a1.Id != a0.Next)⟩ : za5))))) : Option za5).bind fun p150 =>
 (if p150.t21 = true then
  some ((⟨0,0,false,0,[],[]⟩ : StateT),false)
 else
  ((zaM a0).bind fun c153 =>
  ((((za4 c153 a1.Kind a1.Name).bind fun c174 =>
   (if (!c174.1) = true then
    some (⟨true,c174.2.Status,c174.2.Next,c174.2.Cancel,c174.2.Done,c174.2.Signals,c174.2.Timers⟩ : zdO)
   else
    ((za3 c174.2).bind fun c175 =>
    some (⟨(!c175),c174.2.Status,c174.2.Next,c174.2.Cancel,c174.2.Done,c174.2.Signals,c174.2.Timers⟩ : zdO)))) : Option zdO).bind fun p176 =>
  (if p176.t35 = true then
   some ((⟨0,0,false,0,[],[]⟩ : StateT),false)
  else
   some ((⟨p176.b1_0,p176.b1_1,p176.b1_2,p176.b1_3,p176.c2,p176.c3⟩ : StateT),true))))))
structure zey where
 t12 : Int
 b1_0 : Int
 b1_1 : Int
 b1_2 : Bool
 b1_3 : Int
 c2 : (List ByteArray)
 c3 : (List ByteArray)
structure zgC where
 t3 : Int
 b0_0 : Int
 b0_1 : Int
 b0_2 : Bool
 b0_3 : Int
 c1 : (List ByteArray)
 c2 : (List ByteArray)
structure zgD where
 b1_0 : Int
 b1_1 : Int
 b1_2 : Bool
 b1_3 : Int
 c2 : (List ByteArray)
 c3 : (List ByteArray)
noncomputable def zaa (a0 : (List EventT)) (g102 : zey) : Option (zey ⊕ (zgC ⊕ zgD)) :=
 (if (decide (g102.t12 < ((a0.length : Nat) : Int))) = true then
  (guardO (0 ≤ g102.t12 ∧ g102.t12 < (a0.length : Int)) <|
  ((zde (⟨g102.b1_0,g102.b1_1,g102.b1_2,g102.b1_3,g102.c2,g102.c3⟩ : StateT) (nth a0 g102.t12.toNat)).bind fun c178 =>
  (if (!c178.2) = true then
   some (.inr (.inl (⟨g102.t12,g102.b1_0,g102.b1_1,g102.b1_2,g102.b1_3,g102.c2,g102.c3⟩)))
  else
   some (.inl ⟨(wI (g102.t12 + 1)),c178.1.Status,c178.1.Next,c178.1.Cancel,c178.1.Done,c178.1.Signals,c178.1.Timers⟩))))
 else
  some (.inr (.inr (⟨g102.b1_0,g102.b1_1,g102.b1_2,g102.b1_3,g102.c2,g102.c3⟩))))
noncomputable def zb4 (a0 : (List EventT)) : Option (StateT × Int) :=
 ((ze8).bind fun c101 =>
 ((loopF (zaa a0) ⟨0,c101.Status,c101.Next,c101.Cancel,c101.Done,[],[]⟩).bind fun y179 =>
 match y179 with
 | .inl p180 =>
  some ((⟨p180.b0_0,p180.b0_1,p180.b0_2,p180.b0_3,p180.c1,p180.c2⟩ : StateT),p180.t3)
 | .inr p181 =>
  some ((⟨p181.b1_0,p181.b1_1,p181.b1_2,p181.b1_3,p181.c2,p181.c3⟩ : StateT),((a0.length : Nat) : Int))))
structure zdE where
 t12 : Int
structure zdP where
 t29 : Bool
noncomputable def zbt (a0 : (List EventT)) (g95 : zdE) : Option (zdE ⊕ (Unit ⊕ Unit)) :=
 (if (decide (g95.t12 < ((a0.length : Nat) : Int))) = true then
  (guardO (0 ≤ g95.t12 ∧ g95.t12 < (a0.length : Int)) <|
  (((if (decide (g95.t12 > 0)) = true then
    (guardO (0 ≤ (wI (g95.t12 - 1)) ∧ (wI (g95.t12 - 1)) < (a0.length : Int)) <|
    some (⟨(decide (((nth a0 g95.t12.toNat).Version) < ((nth a0 ((wI (g95.t12 - 1)).toNat)).Version)))⟩ : zdP))
   else
    some (⟨false⟩ : zdP)) : Option zdP).bind fun p97 =>
  (if p97.t29 = true then
   some (.inr (.inl ()))
  else
   some (.inl ⟨(wI (g95.t12 + 1))⟩))))
 else
  some (.inr (.inr ())))
noncomputable def zdQ (a0 : (List EventT)) : Option Bool :=
 (if (decide (((a0.length : Nat) : Int) > 60)) = true then
  some false
 else
  ((loopF (zbt a0) ⟨0⟩).bind fun y98 =>
  match y98 with
  | .inl p99 =>
   some false
  | .inr p100 =>
   ((zb4 a0).bind fun c182 =>
   some (c182.2 == ((a0.length : Nat) : Int)))))
noncomputable def zcA (a0 : (List EventT)) : Option Bool :=
 (if (decide (((a0.length : Nat) : Int) > 0)) = true then
  ((zdQ a0).bind fun c293 =>
  some c293)
 else
  some false)
noncomputable def zdf (a0 : EventT) (a1 : EventT) : Option Int :=
 ((zaJ a0.Version a1.Version).bind fun c300 =>
 ((zaJ a0.Kind a1.Kind).bind fun c301 =>
 ((zbW a0.Name a1.Name).bind fun c304 =>
 ((zeP ([c300,c301,c304])).bind fun c309 =>
 some c309))))
structure zu where
 t13 : Int
structure zan where
 t6 : Int
noncomputable def zd (a0 : (List EventT)) (a1 : (List EventT)) (g297 : zu) : Option (zu ⊕ (zan ⊕ Unit)) :=
 (if (decide (g297.t13 < ((a0.length : Nat) : Int))) = true then
  (guardO (0 ≤ g297.t13 ∧ g297.t13 < (a0.length : Int)) <|
  (if (decide (g297.t13 ≥ ((a1.length : Nat) : Int))) = true then
   some (.inr (.inl (⟨1⟩)))
  else
   (guardO (0 ≤ g297.t13 ∧ g297.t13 < (a1.length : Int)) <|
   ((zdf (nth a0 g297.t13.toNat) (nth a1 g297.t13.toNat)).bind fun c311 =>
   (if (c311 != 0) = true then
    some (.inr (.inl (⟨c311⟩)))
   else
    some (.inl ⟨(wI (g297.t13 + 1))⟩))))))
 else
  some (.inr (.inr ())))
noncomputable def zD (a0 : (List EventT)) (a1 : (List EventT)) : Option Int :=
 ((loopF (zd a0 a1) ⟨0⟩).bind fun y312 =>
 match y312 with
 | .inl p313 =>
  some p313.t6
 | .inr p314 =>
  (if (decide (((a0.length : Nat) : Int) < ((a1.length : Nat) : Int))) = true then
   some (-1)
  else
   some 0))
noncomputable def zaZ (a0 : (List EventT)) (a1 : (List EventT)) : Option Int :=
 ((zD a0 a1).bind fun c315 =>
 some c315)
structure BranchT where
 Events : (List EventT)
 deriving DecidableEq,Inhabited
structure TellingsT where
 Branches : (List BranchT)
 deriving DecidableEq,Inhabited
noncomputable def zaA (a0 : (List EventT)) (a1 : (List EventT)) : Option Bool :=
 ((zaL a0 a1).bind fun c346 =>
 some (c346.2 == ((a1.length : Nat) : Int)))
structure zaB where
 t12 : Int
structure zcn where
 t26 : Int
structure zbj where
 t52 : Bool
noncomputable def zaC (a0 : TellingsT) (g342 : zaB) (g356 : zcn) : Option (zcn ⊕ (Unit ⊕ Unit)) :=
 (if (decide (g356.t26 < (((a0.Branches.take g342.t12.toNat).length : Nat) : Int))) = true then
  (guardO (0 ≤ g356.t26 ∧ g356.t26 < ((a0.Branches.take g342.t12.toNat).length : Int)) <|
  ((zaL ((nth (a0.Branches.take g342.t12.toNat) g356.t26.toNat).Events) ((nth a0.Branches g342.t12.toNat).Events)).bind fun c360 =>
  (((if (decide (c360.1 ≥ 0)) = true then
    some (⟨true⟩ : zbj)
   else
    ((zaA ((nth a0.Branches g342.t12.toNat).Events) ((nth (a0.Branches.take g342.t12.toNat) g356.t26.toNat).Events)).bind fun c361 =>
    (if c361 = true then
     some (⟨true⟩ : zbj)
    else
     some (⟨(decide (g356.t26 > g342.t12))⟩ : zbj)))) : Option zbj).bind fun p362 =>
  (if p362.t52 = true then
   some (.inr (.inl ()))
  else
   some (.inl ⟨(wI (g356.t26 + 1))⟩)))))
 else
  some (.inr (.inr ())))
noncomputable def zaD (a0 : TellingsT) (g342 : zaB) : Option (zaB ⊕ (Unit ⊕ Unit)) :=
 (if (decide (g342.t12 < ((a0.Branches.length : Nat) : Int))) = true then
  (guardO (0 ≤ g342.t12 ∧ g342.t12 < (a0.Branches.length : Int)) <|
  ((zdc ((nth a0.Branches g342.t12.toNat).Events)).bind fun c355 =>
  (if (!c355) = true then
   some (.inr (.inl ()))
  else
   (guardO (0 ≤ g342.t12 ∧ g342.t12 ≤ (a0.Branches.length : Int)) <|
   ((loopF (zaC a0 g342) ⟨0⟩).bind fun y363 =>
   match y363 with
   | .inl p364 =>
    some (.inr (.inl ()))
   | .inr p365 =>
    some (.inl ⟨(wI (g342.t12 + 1))⟩))))))
 else
  some (.inr (.inr ())))
noncomputable def zah (a0 : TellingsT) : Option Bool :=
 ((loopF (zaD a0) ⟨0⟩).bind fun y366 =>
 match y366 with
 | .inl p367 =>
  some false
 | .inr p368 =>
  some (decide (((a0.Branches.length : Nat) : Int) ≤ 12)))
structure zaY where
 t13 : Int
noncomputable def zU (a0 : (List EventT)) (a1 : (List EventT)) (g375 : zaY) : Option (zaY ⊕ (Unit ⊕ Unit)) :=
 (if (decide (g375.t13 < ((a0.length : Nat) : Int))) = true then
  (guardO (0 ≤ g375.t13 ∧ g375.t13 < (a0.length : Int)) <|
  (guardO (0 ≤ g375.t13 ∧ g375.t13 < (a1.length : Int)) <|
  (if (!((((nth a0 g375.t13.toNat).Id) == ((nth a1 g375.t13.toNat).Id)) && ((((nth a0 g375.t13.toNat).Version) == ((nth a1 g375.t13.toNat).Version)) && ((((nth a0 g375.t13.toNat).Kind) == ((nth a1 g375.t13.toNat).Kind)) && (((nth a0 g375.t13.toNat).Name).toList == ((nth a1 g375.t13.toNat).Name).toList))))) = true then
   some (.inr (.inl ()))
  else
   some (.inl ⟨(wI (g375.t13 + 1))⟩))))
 else
  some (.inr (.inr ())))
noncomputable def zbz (a0 : (List EventT)) (a1 : (List EventT)) : Option Bool :=
 (if (((a0.length : Nat) : Int) != ((a1.length : Nat) : Int)) = true then
  some false
 else
  ((loopF (zU a0 a1) ⟨0⟩).bind fun y376 =>
  match y376 with
  | .inl p377 =>
   some false
  | .inr p378 =>
   some true))
noncomputable def zcw (a0 : (List EventT)) (a1 : (List EventT)) : Option Bool :=
 (if (decide (((a0.length : Nat) : Int) ≤ ((a1.length : Nat) : Int))) = true then
  (guardO (0 ≤ ((a0.length : Nat) : Int) ∧ ((a0.length : Nat) : Int) ≤ (a1.length : Int)) <|
  ((zbz a0 (a1.take a0.length)).bind fun c379 =>
  some c379))
 else
  some false)
structure zaE where
 t14 : Int
structure zco where
 t28 : Int
structure zcJ where
 t44 : Bool
noncomputable def zaF (a0 : TellingsT) (g371 : zaE) (g389 : zco) : Option (zco ⊕ (Unit ⊕ Unit)) :=
 (if (decide (g389.t28 < (((a0.Branches.take g371.t14.toNat).length : Nat) : Int))) = true then
  (guardO (0 ≤ g389.t28 ∧ g389.t28 < ((a0.Branches.take g371.t14.toNat).length : Int)) <|
  ((((zaZ ((nth (a0.Branches.take g371.t14.toNat) g389.t28.toNat).Events) ((nth a0.Branches g371.t14.toNat).Events)).bind fun c393 =>
   (if (decide (c393 ≥ 0)) = true then
    some (⟨true⟩ : zcJ)
   else
    ((zcw ((nth (a0.Branches.take g371.t14.toNat) g389.t28.toNat).Events) ((nth a0.Branches g371.t14.toNat).Events)).bind fun c394 =>
    some (⟨c394⟩ : zcJ)))) : Option zcJ).bind fun p395 =>
  (if p395.t44 = true then
   some (.inr (.inl ()))
  else
   some (.inl ⟨(wI (g389.t28 + 1))⟩))))
 else
  some (.inr (.inr ())))
noncomputable def zaG (a0 : TellingsT) (g371 : zaE) : Option (zaE ⊕ (Unit ⊕ Unit)) :=
 (if (decide (g371.t14 < ((a0.Branches.length : Nat) : Int))) = true then
  (guardO (0 ≤ g371.t14 ∧ g371.t14 < (a0.Branches.length : Int)) <|
  ((zcA ((nth a0.Branches g371.t14.toNat).Events)).bind fun c388 =>
  (if (!c388) = true then
   some (.inr (.inl ()))
  else
   (guardO (0 ≤ g371.t14 ∧ g371.t14 ≤ (a0.Branches.length : Int)) <|
   ((loopF (zaF a0 g371) ⟨0⟩).bind fun y396 =>
   match y396 with
   | .inl p397 =>
    some (.inr (.inl ()))
   | .inr p398 =>
    some (.inl ⟨(wI (g371.t14 + 1))⟩))))))
 else
  some (.inr (.inr ())))
noncomputable def z7 (a0 : TellingsT) : Option Bool :=
 (if (decide (((a0.Branches.length : Nat) : Int) > 12)) = true then
  some false
 else
  ((loopF (zaG a0) ⟨0⟩).bind fun y399 =>
  match y399 with
  | .inl p400 =>
   some false
  | .inr p401 =>
   some true))
end Go.TL
namespace Go.TL
noncomputable def zcp (a0 : BranchT) (a1 : (List EventT)) : Option Bool :=
 ((zcw a1 a0.Events).bind fun c288 =>
 some c288)
structure zp where
 t8 : Int
structure zac where
 t4 : Int
noncomputable def zb (a0 : (List BranchT)) (a1 : (List EventT)) (g287 : zp) : Option (zp ⊕ (zac ⊕ Unit)) :=
 (if (decide (g287.t8 < ((a0.length : Nat) : Int))) = true then
  (guardO (0 ≤ g287.t8 ∧ g287.t8 < (a0.length : Int)) <|
  ((zcp (nth a0 g287.t8.toNat) a1).bind fun c290 =>
  (if c290 = true then
   some (.inr (.inl (⟨g287.t8⟩)))
  else
   some (.inl ⟨(wI (g287.t8 + 1))⟩))))
 else
  some (.inr (.inr ())))
noncomputable def zv (a0 : (List BranchT)) (a1 : (List EventT)) : Option Int :=
 ((loopF (zb a0 a1) ⟨0⟩).bind fun y291 =>
 match y291 with
 | .inl p292 =>
  some p292.t4
 | .inr p293 =>
  some (-1))
noncomputable def zg (a0 : (List BranchT)) (a1 : (List EventT)) : Option Bool :=
 ((zv a0 a1).bind fun c294 =>
 some (decide (c294 ≥ 0)))
structure zdR where
 t13 : Bool
noncomputable def zdg (a0 : TellingsT) (a1 : (List EventT)) : Option (Bool × Bool) :=
 ((((z7 a0).bind fun c284 =>
  (if (!c284) = true then
   some (⟨true⟩ : zdR)
  else
   ((zcA a1).bind fun c285 =>
   some (⟨(!c285)⟩ : zdR)))) : Option zdR).bind fun p286 =>
 (if p286.t13 = true then
  some (false,false)
 else
  ((zg a0.Branches a1).bind fun c295 =>
  some (c295,true))))
end Go.TL

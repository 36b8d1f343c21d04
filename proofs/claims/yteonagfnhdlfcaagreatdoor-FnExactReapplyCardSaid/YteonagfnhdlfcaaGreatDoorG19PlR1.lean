import Derived.Test.YteonagfnhdlfcaaGreatDoorG0TlCore
import Derived.Test.YteonagfnhdlfcaaGreatDoorG18PlTrim
set_option linter.unusedSimpArgs false
set_option linter.unusedVariables false
namespace Go.TL
structure PacketT where
 Ack : Bool
 No : Int
 Text : ByteArray
 deriving DecidableEq,Inhabited
noncomputable def zaE (a0 : Int) (a1 : Int) (a2 : Int) : Option Bool :=
 (if (decide (a0 ≥ a1)) = true then
  some (decide (a0 ≤ a2))
 else
  some false)
noncomputable def zdG (a0 : Int) (a1 : Int) (a2 : Int) : Option Bool :=
 (if (decide (a0 ≥ a1)) = true then
  some (decide (a0 ≤ a2))
 else
  some false)
structure l1CurT where
 code : (List Int)
 at_ : Int
 seed : Int
 deriving DecidableEq,Inhabited
structure CallT where
 Now : Int
 Fine : Bool
 deriving DecidableEq,Inhabited
end Go.TL
namespace Go.TL
structure LineStepT where
 Kind : Int
 K : Int
 Text : ByteArray
 deriving DecidableEq,Inhabited
noncomputable def zap (a0 : (List ByteArray)) : Option (List ByteArray) :=
 guardO (a0.length * 16 ≤ 140737488355328) (some a0)
structure zex where
 t0 : Int
 t3 : ByteArray
structure zf5 where
 t3 : ByteArray
noncomputable def zdm (g152 : zex) : Option (zex ⊕ zf5) :=
 (if (decide (g152.t0 > 0)) = true then
  (guardO ((bstr ([(wB (wI (48 + (g152.t0.tmod 10))))])).size + g152.t3.size ≤ 9223372036854775807) <|
  some (.inl ⟨(wI (g152.t0.tdiv 10)),((bstr ([(wB (wI (48 + (g152.t0.tmod 10))))])) ++ g152.t3)⟩))
 else
  some (.inr (⟨g152.t3⟩)))
noncomputable def zaz (a0 : Int) : Option ByteArray :=
 (if (decide (a0 ≤ 0)) = true then
  some (⟨#[109,48]⟩ : ByteArray)
 else
  ((loopF (zdm) ⟨a0,ByteArray.empty⟩).bind fun y153 =>
  (guardO ((⟨#[109]⟩ : ByteArray).size + y153.t3.size ≤ 9223372036854775807) <|
  some ((⟨#[109]⟩ : ByteArray) ++ y153.t3))))
end Go.TL
namespace Go.TL
structure DomainT where
 Name : ByteArray
 Version : Int
 Note : ByteArray
 deriving DecidableEq,Inhabited
structure zec where
 t3 : Int
structure zaF where
 t32 : Bool
noncomputable def zb2 (a0 : ByteArray) (g14 : zec) : Option (zec ⊕ (Unit ⊕ Unit)) :=
 (if (decide (g14.t3 < (a0.size : Int))) = true then
  (((guardO (0 ≤ g14.t3 ∧ g14.t3 < (a0.size : Int)) <|
   (if (decide ((bt a0 g14.t3) ≥ 97)) = true then
    (guardO (0 ≤ g14.t3 ∧ g14.t3 < (a0.size : Int)) <|
    (if (decide ((bt a0 g14.t3) ≤ 122)) = true then
     some (⟨false⟩ : zaF)
    else
     (guardO (0 ≤ g14.t3 ∧ g14.t3 < (a0.size : Int)) <|
     (if (decide ((bt a0 g14.t3) ≥ 48)) = true then
      (guardO (0 ≤ g14.t3 ∧ g14.t3 < (a0.size : Int)) <|
      some (⟨(!(decide ((bt a0 g14.t3) ≤ 57)))⟩ : zaF))
     else
      some (⟨true⟩ : zaF)))))
   else
    (guardO (0 ≤ g14.t3 ∧ g14.t3 < (a0.size : Int)) <|
    (if (decide ((bt a0 g14.t3) ≥ 48)) = true then
     (guardO (0 ≤ g14.t3 ∧ g14.t3 < (a0.size : Int)) <|
     some (⟨(!(decide ((bt a0 g14.t3) ≤ 57)))⟩ : zaF))
    else
     some (⟨true⟩ : zaF))))) : Option zaF).bind fun p16 =>
  (if p16.t32 = true then
   some (.inr (.inl ()))
  else
   some (.inl ⟨(wI (g14.t3 + 1))⟩)))
 else
  some (.inr (.inr ())))
noncomputable def zcS (a0 : ByteArray) : Option Bool :=
 ((loopF (zb2 a0) ⟨0⟩).bind fun y17 =>
 match y17 with
 | .inl p18 =>
  some false
 | .inr p19 =>
  some (decide ((a0.size : Int) ≤ 12)))
noncomputable def zdL (a0 : Int) : Option Bool :=
 ((zaE a0 0 1000000).bind fun c21 =>
 some c21)
noncomputable def zc3 (a0 : ByteArray) (a1 : ByteArray) : Option ByteArray :=
 guardO (a0.size ≤ 9223372036854775807 ∧ a1.size < 4294967281 ∧ a1.data.toList.all (fun b => decide (b.toNat < 128)) = true) (some (trimB a0 a1))
noncomputable def zaA (a0 : ByteArray) : Option Bool :=
 (if (decide ((a0.size : Int) ≤ 12)) = true then
  ((zc3 a0 (⟨#[97,98,99,100,101,102,103,104,105,106,107,108,109,110,111,112,113,114,115,116,117,118,119,120,121,122,48,49,50,51,52,53,54,55,56,57]⟩ : ByteArray)).bind fun c33 =>
  some (c33.toList == ByteArray.empty.toList))
 else
  some false)
noncomputable def zb3 (a0 : Int) : Option Bool :=
 ((zdG a0 0 1000000).bind fun c35 =>
 some c35)
noncomputable def zdy (a0 : Int) : Option Bool :=
 some (a0 != a0)
noncomputable def zal (a0 : Int) (a1 : Int) : Option Int :=
 ((zdy a0).bind fun c105 =>
 ((zdy a1).bind fun c106 =>
 (if c105 = true then
  (if c106 = true then
   some 0
  else
   some (-1))
 else
  (if c106 = true then
   some 1
  else
   (if (decide (a0 < a1)) = true then
    some (-1)
   else
    (if (decide (a0 > a1)) = true then
     some 1
    else
     some 0))))))
noncomputable def zZ (a0 : ByteArray) : Option Bool :=
 some (!(a0.toList == a0.toList))
noncomputable def zbz (a0 : ByteArray) (a1 : ByteArray) : Option Int :=
 ((zZ a0).bind fun c108 =>
 ((zZ a1).bind fun c109 =>
 (if c108 = true then
  (if c109 = true then
   some 0
  else
   some (-1))
 else
  (if c109 = true then
   some 1
  else
   (if (sLt a0 a1) = true then
    some (-1)
   else
    (if (!(sLt a0 a1 || a0.toList == a1.toList)) = true then
     some 1
    else
     some 0))))))
structure zep where
 t8 : Int
structure zfq where
 t2 : Int
noncomputable def zco (a0 : (List Int)) (g111 : zep) : Option (zep ⊕ (zfq ⊕ Unit)) :=
 (if (decide (g111.t8 < ((a0.length : Nat) : Int))) = true then
  (guardO (0 ≤ g111.t8 ∧ g111.t8 < (a0.length : Int)) <|
  (if ((nth a0 g111.t8.toNat) != 0) = true then
   some (.inr (.inl (⟨(nth a0 g111.t8.toNat)⟩)))
  else
   some (.inl ⟨(wI (g111.t8 + 1))⟩)))
 else
  some (.inr (.inr ())))
noncomputable def zed (a0 : (List Int)) : Option Int :=
 ((loopF (zco a0) ⟨0⟩).bind fun y112 =>
 match y112 with
 | .inl p113 =>
  some p113.t2
 | .inr p114 =>
  some 0)
noncomputable def zeq (a0 : Int) : Option Bool :=
 ((zdG a0 0 9).bind fun c150 =>
 some c150)
end Go.TL
namespace Go.TL
structure EventT where
 Id : Int
 Version : Int
 Kind : Int
 Name : ByteArray
 deriving DecidableEq,Inhabited
noncomputable def zdV (a0 : EventT) (a1 : Int) : Option Int :=
 (if (decide ((wI (a1 - (a0.Name.size : Int))) < 0)) = true then
  some (-1)
 else
  some (wI (a1 - (a0.Name.size : Int))))
structure zdn where
 t1 : Int
 t5 : Int
structure zeW where
 t1 : Int
noncomputable def zbk (a0 : (List EventT)) (g1 : zdn) : Option (zdn ⊕ (Unit ⊕ zeW)) :=
 (if (decide (g1.t5 < ((a0.length : Nat) : Int))) = true then
  (guardO (0 ≤ g1.t5 ∧ g1.t5 < (a0.length : Int)) <|
  ((zdV (nth a0 g1.t5.toNat) g1.t1).bind fun c3 =>
  (if (decide (c3 < 0)) = true then
   some (.inr (.inl ()))
  else
   some (.inl ⟨c3,(wI (g1.t5 + 1))⟩))))
 else
  some (.inr (.inr (⟨g1.t1⟩))))
noncomputable def zdz (a0 : (List EventT)) (a1 : Int) : Option Int :=
 (if (decide ((wI (a1 - ((a0.length : Nat) : Int))) < 0)) = true then
  some (-1)
 else
  ((loopF (zbk a0) ⟨(wI (a1 - ((a0.length : Nat) : Int))),0⟩).bind fun y4 =>
  match y4 with
  | .inl p5 =>
   some (-1)
  | .inr p6 =>
   some p6.t1))
noncomputable def zdW (a0 : EventT) : Option EventT :=
 some a0
structure zdo where
 t4 : Int
 c0 : (List EventT)
structure zeX where
 c0 : (List EventT)
noncomputable def zbl (a0 : (List EventT)) (g9 : zdo) : Option (zdo ⊕ zeX) :=
 (if (decide (g9.t4 < ((a0.length : Nat) : Int))) = true then
  (guardO (0 ≤ g9.t4 ∧ g9.t4 < (a0.length : Int)) <|
  ((zdW (nth a0 g9.t4.toNat)).bind fun c11 =>
  (guardO (0 ≤ g9.t4 ∧ g9.t4 < ((g9.c0.length : Nat) : Int)) <|
  some (.inl ⟨(wI (g9.t4 + 1)),(g9.c0.set g9.t4.toNat c11)⟩))))
 else
  some (.inr (⟨g9.c0⟩)))
noncomputable def zdA (a0 : (List EventT)) : Option (List EventT) :=
 (guardO (0 ≤ ((a0.length : Nat) : Int) ∧ ((a0.length : Nat) : Int) * 40 ≤ 281474976710656 ∧ ((a0.length : Nat) : Int) ≤ 9223372036854775807) <|
 ((loopF (zbl a0) ⟨0,(List.replicate a0.length (⟨0,0,0,ByteArray.empty⟩ : EventT))⟩).bind fun y12 =>
 some y12.c0))
structure StateT where
 Status : Int
 Next : Int
 Cancel : Bool
 Done : Int
 Signals : (List ByteArray)
 Timers : (List ByteArray)
 deriving DecidableEq,Inhabited
noncomputable def zes : Option StateT :=
 some (⟨0,1,false,0,[],[]⟩ : StateT)
noncomputable def zc4 (a0 : EventT) : Option Bool :=
 ((zaE a0.Id 1 1000).bind fun c23 =>
 (if c23 = true then
  ((zaE a0.Version 0 1000000).bind fun c24 =>
  (if c24 = true then
   ((zaE a0.Kind 1 6).bind fun c25 =>
   (if c25 = true then
    ((zcS a0.Name).bind fun c32 =>
    some c32)
   else
    some false))
  else
   some false))
 else
  some false))
noncomputable def zem (a0 : StateT) : Option StateT :=
 (guardO (a0.Signals.length * 16 ≤ 140737488355328) <|
 (guardO (a0.Timers.length * 16 ≤ 140737488355328) <|
 some (⟨a0.Status,a0.Next,a0.Cancel,a0.Done,(([]) ++ a0.Signals),(([]) ++ a0.Timers)⟩ : StateT)))
structure zet where
 t9 : Int
structure zfr where
 t4 : Int
noncomputable def zcp (a0 : (List ByteArray)) (a1 : ByteArray) (g36 : zet) : Option (zet ⊕ (zfr ⊕ Unit)) :=
 (if (decide (g36.t9 < ((a0.length : Nat) : Int))) = true then
  (guardO (0 ≤ g36.t9 ∧ g36.t9 < (a0.length : Int)) <|
  (if ((nth a0 g36.t9.toNat).toList == a1.toList) = true then
   some (.inr (.inl (⟨g36.t9⟩)))
  else
   some (.inl ⟨(wI (g36.t9 + 1))⟩)))
 else
  some (.inr (.inr ())))
noncomputable def zaW (a0 : (List ByteArray)) (a1 : ByteArray) : Option Int :=
 ((loopF (zcp a0 a1) ⟨0⟩).bind fun y37 =>
 match y37 with
 | .inl p38 =>
  some p38.t4
 | .inr p39 =>
  some (-1))
structure zey where
 t6 : Bool
 t15 : Int
 c0 : (List ByteArray)
structure zf6 where
 t6 : Bool
 c0 : (List ByteArray)
structure zdp where
 t28 : Bool
noncomputable def zF (a0 : (List ByteArray)) (a1 : ByteArray) (g43 : zey) : Option (zey ⊕ zf6) :=
 (if (decide (g43.t15 < ((a0.length : Nat) : Int))) = true then
  (guardO (0 ≤ g43.t15 ∧ g43.t15 < (a0.length : Int)) <|
  (if ((nth a0 g43.t15.toNat).toList == a1.toList) = true then
   some (.inl ⟨g43.t6,(wI (g43.t15 + 1)),g43.c0⟩)
  else
   (((if (!g43.t6) = true then
     some (⟨(!(sLt (nth a0 g43.t15.toNat) a1 || (nth a0 g43.t15.toNat).toList == a1.toList))⟩ : zdp)
    else
     some (⟨false⟩ : zdp)) : Option zdp).bind fun p45 =>
   (if p45.t28 = true then
    (guardO ((g43.c0.length + 1) * 16 ≤ 140737488355328) <|
    (guardO (((g43.c0.length + 1) + 1) * 16 ≤ 140737488355328) <|
    some (.inl ⟨true,(wI (g43.t15 + 1)),((g43.c0 ++ ([a1])) ++ ([(nth a0 g43.t15.toNat)]))⟩)))
   else
    (guardO ((g43.c0.length + 1) * 16 ≤ 140737488355328) <|
    some (.inl ⟨g43.t6,(wI (g43.t15 + 1)),(g43.c0 ++ ([(nth a0 g43.t15.toNat)]))⟩))))))
 else
  some (.inr (⟨g43.t6,g43.c0⟩)))
noncomputable def zbc (a0 : (List ByteArray)) (a1 : ByteArray) : Option (List ByteArray) :=
 ((zaW a0 a1).bind fun c42 =>
 ((loopF (zF a0 a1) ⟨(decide (c42 ≥ 0)),0,[]⟩).bind fun y46 =>
 (if (!y46.t6) = true then
  (guardO ((y46.c0.length + 1) * 16 ≤ 140737488355328) <|
  some (y46.c0 ++ ([a1])))
 else
  some y46.c0)))
structure zbm where
 t11 : Int
structure zdq where
 t23 : Int
structure zaX where
 t44 : Bool
noncomputable def zbn (a0 : (List ByteArray)) (g51 : zbm) (a1 : Bool) (g60 : zdq) : Option (zdq ⊕ (Unit ⊕ Unit)) :=
 (if (decide (g60.t23 < (((a0.take g51.t11.toNat).length : Nat) : Int))) = true then
  (guardO (0 ≤ g60.t23 ∧ g60.t23 < ((a0.take g51.t11.toNat).length : Int)) <|
  (((if ((nth (a0.take g51.t11.toNat) g60.t23.toNat).toList == (nth a0 g51.t11.toNat).toList) = true then
    some (⟨true⟩ : zaX)
   else
    (if a1 = true then
     (if (g60.t23 == (wI (g51.t11 - 1))) = true then
      some (⟨(!(sLt (nth (a0.take g51.t11.toNat) g60.t23.toNat) (nth a0 g51.t11.toNat) || (nth (a0.take g51.t11.toNat) g60.t23.toNat).toList == (nth a0 g51.t11.toNat).toList))⟩ : zaX)
     else
      some (⟨false⟩ : zaX))
    else
     some (⟨false⟩ : zaX))) : Option zaX).bind fun p62 =>
  (if p62.t44 = true then
   some (.inr (.inl ()))
  else
   some (.inl ⟨(wI (g60.t23 + 1))⟩))))
 else
  some (.inr (.inr ())))
noncomputable def zbo (a0 : (List ByteArray)) (a1 : Bool) (g51 : zbm) : Option (zbm ⊕ (Unit ⊕ Unit)) :=
 (if (decide (g51.t11 < ((a0.length : Nat) : Int))) = true then
  (guardO (0 ≤ g51.t11 ∧ g51.t11 < (a0.length : Int)) <|
  ((zcS (nth a0 g51.t11.toNat)).bind fun c59 =>
  (if (!c59) = true then
   some (.inr (.inl ()))
  else
   (guardO (0 ≤ g51.t11 ∧ g51.t11 ≤ (a0.length : Int)) <|
   ((loopF (zbn a0 g51 a1) ⟨0⟩).bind fun y63 =>
   match y63 with
   | .inl p64 =>
    some (.inr (.inl ()))
   | .inr p65 =>
    some (.inl ⟨(wI (g51.t11 + 1))⟩))))))
 else
  some (.inr (.inr ())))
noncomputable def zcq (a0 : (List ByteArray)) (a1 : Bool) : Option Bool :=
 ((loopF (zbo a0 a1) ⟨0⟩).bind fun y66 =>
 match y66 with
 | .inl p67 =>
  some false
 | .inr p68 =>
  some (decide (((a0.length : Nat) : Int) ≤ 30)))
structure zac where
 t30 : Bool
noncomputable def zb4 (a0 : StateT) : Option Bool :=
 ((((zaE a0.Next 1 1001).bind fun c49 =>
  (if (!c49) = true then
   some (⟨true⟩ : zac)
  else
   ((zaE a0.Done 0 1000).bind fun c50 =>
   (if (!c50) = true then
    some (⟨true⟩ : zac)
   else
    ((zcq a0.Signals false).bind fun c69 =>
    (if (!c69) = true then
     some (⟨true⟩ : zac)
    else
     ((zcq a0.Timers true).bind fun c70 =>
     (if (!c70) = true then
      some (⟨true⟩ : zac)
     else
      ((zaE a0.Status 0 2).bind fun c71 =>
      some (⟨(!c71)⟩ : zac)))))))))) : Option zac).bind fun p72 =>
 (if p72.t30 = true then
  some false
 else
  (if (a0.Status == 0) = true then
   (if (a0.Next == 1) = true then
    (if (!a0.Cancel) = true then
     (if (a0.Done == 0) = true then
      (if (((a0.Signals.length : Nat) : Int) == 0) = true then
       some (((a0.Timers.length : Nat) : Int) == 0)
      else
       some false)
     else
      some false)
    else
     some false)
   else
    some false)
  else
   some (decide (a0.Next > 1)))))
structure zaq where
 t29 : Bool
structure zM where
 b0_0 : Int
 b0_2 : Bool
 b0_3 : Int
 c2 : (List ByteArray)
 c3 : (List ByteArray)
structure zce where
 t53 : Bool
noncomputable def zbd (a0 : StateT) (a1 : EventT) : Option (StateT × Bool) :=
 ((((zc4 a1).bind fun c33 =>
  (if (!c33) = true then
   some (⟨true⟩ : zaq)
  else
   (if (a1.Id != a0.Next) = true then
    some (⟨true⟩ : zaq)
   else
    (if (!((a1.Kind == 1) == (a0.Status == 0))) = true then
     some (⟨true⟩ : zaq)
    else
     some (⟨(a0.Status == 2)⟩ : zaq))))) : Option zaq).bind fun p34 =>
 (if p34.t29 = true then
  some (a0,false)
 else
  ((zem a0).bind fun c35 =>
  (((if (a1.Kind == 1) = true then
    some (.inl (⟨1,c35.Cancel,c35.Done,c35.Signals,c35.Timers⟩ : zM))
   else
    (if (a1.Kind == 2) = true then
     ((((zaW c35.Signals a1.Name).bind fun c40 =>
      (if (decide (c40 ≥ 0)) = true then
       some (⟨true⟩ : zce)
      else
       some (⟨(((c35.Signals.length : Nat) : Int) == 30)⟩ : zce))) : Option zce).bind fun p41 =>
     (if p41.t53 = true then
      some (.inr (c35,false))
     else
      (guardO ((c35.Signals.length + 1) * 16 ≤ 140737488355328) <|
      some (.inl (⟨c35.Status,c35.Cancel,c35.Done,(c35.Signals ++ ([a1.Name])),c35.Timers⟩ : zM)))))
    else
     (if (a1.Kind == 3) = true then
      some (.inl (⟨c35.Status,c35.Cancel,(wI (c35.Done + 1)),c35.Signals,c35.Timers⟩ : zM))
     else
      (if (a1.Kind == 4) = true then
       ((zbc c35.Timers a1.Name).bind fun c47 =>
       some (.inl (⟨c35.Status,c35.Cancel,c35.Done,c35.Signals,c47⟩ : zM)))
      else
       (if (a1.Kind == 5) = true then
        (if c35.Cancel = true then
         some (.inr (c35,false))
        else
         some (.inl (⟨c35.Status,true,c35.Done,c35.Signals,c35.Timers⟩ : zM)))
       else
        some (.inl (⟨2,c35.Cancel,c35.Done,c35.Signals,[]⟩ : zM))))))) : Option (zM ⊕ (StateT × Bool))).bind fun q => match q with
  | .inl p48 =>
   ((zb4 (⟨p48.b0_0,(wI (c35.Next + 1)),p48.b0_2,p48.b0_3,p48.c2,p48.c3⟩ : StateT)).bind fun c73 =>
   some ((⟨p48.b0_0,(wI (c35.Next + 1)),p48.b0_2,p48.b0_3,p48.c2,p48.c3⟩ : StateT),c73))
  | .inr v => some v))))
structure zeJ where
 t12 : Int
 b1_0 : Int
 b1_1 : Int
 b1_2 : Bool
 b1_3 : Int
 b1_4 : (List ByteArray)
 b1_5 : (List ByteArray)
structure zgo where
 t3 : Int
 b0_0 : Int
 b0_1 : Int
 b0_2 : Bool
 b0_3 : Int
 b0_4 : (List ByteArray)
 b0_5 : (List ByteArray)
structure zgp where
 b1_0 : Int
 b1_1 : Int
 b1_2 : Bool
 b1_3 : Int
 b1_4 : (List ByteArray)
 b1_5 : (List ByteArray)
noncomputable def zam (a0 : (List EventT)) (g22 : zeJ) : Option (zeJ ⊕ (zgo ⊕ zgp)) :=
 (if (decide (g22.t12 < ((a0.length : Nat) : Int))) = true then
  (guardO (0 ≤ g22.t12 ∧ g22.t12 < (a0.length : Int)) <|
  ((zbd (⟨g22.b1_0,g22.b1_1,g22.b1_2,g22.b1_3,g22.b1_4,g22.b1_5⟩ : StateT) (nth a0 g22.t12.toNat)).bind fun c75 =>
  (if (!c75.2) = true then
   some (.inr (.inl (⟨g22.t12,g22.b1_0,g22.b1_1,g22.b1_2,g22.b1_3,g22.b1_4,g22.b1_5⟩)))
  else
   some (.inl ⟨(wI (g22.t12 + 1)),c75.1.Status,c75.1.Next,c75.1.Cancel,c75.1.Done,c75.1.Signals,c75.1.Timers⟩))))
 else
  some (.inr (.inr (⟨g22.b1_0,g22.b1_1,g22.b1_2,g22.b1_3,g22.b1_4,g22.b1_5⟩))))
noncomputable def zbA (a0 : (List EventT)) : Option (StateT × Int) :=
 ((zes).bind fun c21 =>
 ((loopF (zam a0) ⟨0,c21.Status,c21.Next,c21.Cancel,c21.Done,[],[]⟩).bind fun y76 =>
 match y76 with
 | .inl p77 =>
  some ((⟨p77.b0_0,p77.b0_1,p77.b0_2,p77.b0_3,p77.b0_4,p77.b0_5⟩ : StateT),p77.t3)
 | .inr p78 =>
  some ((⟨p78.b1_0,p78.b1_1,p78.b1_2,p78.b1_3,p78.b1_4,p78.b1_5⟩ : StateT),((a0.length : Nat) : Int))))
structure zcX where
 t8 : Int
structure zc5 where
 t26 : Bool
noncomputable def za7 (a0 : (List EventT)) (g15 : zcX) : Option (zcX ⊕ (Unit ⊕ Unit)) :=
 (if (decide (g15.t8 < ((a0.length : Nat) : Int))) = true then
  (((if (decide (g15.t8 > 0)) = true then
    (guardO (0 ≤ (wI (g15.t8 - 1)) ∧ (wI (g15.t8 - 1)) < (a0.length : Int)) <|
    (guardO (0 ≤ g15.t8 ∧ g15.t8 < (a0.length : Int)) <|
    some (⟨(decide (((nth a0 ((wI (g15.t8 - 1)).toNat)).Version) > ((nth a0 g15.t8.toNat).Version)))⟩ : zc5)))
   else
    some (⟨false⟩ : zc5)) : Option zc5).bind fun p17 =>
  (if p17.t26 = true then
   some (.inr (.inl ()))
  else
   some (.inl ⟨(wI (g15.t8 + 1))⟩)))
 else
  some (.inr (.inr ())))
noncomputable def zc6 (a0 : (List EventT)) : Option Bool :=
 ((loopF (za7 a0) ⟨0⟩).bind fun y18 =>
 match y18 with
 | .inl p19 =>
  some false
 | .inr p20 =>
  ((zbA a0).bind fun c79 =>
  (if (c79.2 == ((a0.length : Nat) : Int)) = true then
   some (decide (((a0.length : Nat) : Int) ≤ 60))
  else
   some false)))
noncomputable def zcu (a0 : (List EventT)) : Option Bool :=
 (if (decide (((a0.length : Nat) : Int) > 0)) = true then
  ((zc6 a0).bind fun c81 =>
  some c81)
 else
  some false)
noncomputable def zdB (a0 : EventT) (a1 : EventT) : Option Int :=
 (if (a0.Version != a1.Version) = true then
  (if (decide (a0.Version < a1.Version)) = true then
   some (-1)
  else
   some 1)
 else
  (if (a0.Kind != a1.Kind) = true then
   (if (decide (a0.Kind < a1.Kind)) = true then
    some (-1)
   else
    some 1)
  else
   (if (sLt a0.Name a1.Name) = true then
    some (-1)
   else
    (if (!(sLt a0.Name a1.Name || a0.Name.toList == a1.Name.toList)) = true then
     some 1
    else
     some 0))))
structure zcv where
 t6 : Int
structure zeK where
 t4 : Int
 t5 : Int
noncomputable def zaG (a0 : (List EventT)) (a1 : (List EventT)) (g85 : zcv) : Option (zcv ⊕ (zeK ⊕ Unit)) :=
 (if (decide (g85.t6 < ((a0.length : Nat) : Int))) = true then
  (if (decide (g85.t6 < ((a1.length : Nat) : Int))) = true then
   (guardO (0 ≤ g85.t6 ∧ g85.t6 < (a0.length : Int)) <|
   (guardO (0 ≤ g85.t6 ∧ g85.t6 < (a1.length : Int)) <|
   ((zdB (nth a0 g85.t6.toNat) (nth a1 g85.t6.toNat)).bind fun c87 =>
   (if (c87 != 0) = true then
    some (.inr (.inl (⟨c87,g85.t6⟩)))
   else
    some (.inl ⟨(wI (g85.t6 + 1))⟩)))))
  else
   some (.inr (.inr ())))
 else
  some (.inr (.inr ())))
noncomputable def zaY (a0 : (List EventT)) (a1 : (List EventT)) : Option (Int × Int) :=
 ((loopF (zaG a0 a1) ⟨0⟩).bind fun y88 =>
 match y88 with
 | .inl p89 =>
  some (p89.t4,p89.t5)
 | .inr p90 =>
  (if (decide (((a0.length : Nat) : Int) < ((a1.length : Nat) : Int))) = true then
   some ((-1),((a0.length : Nat) : Int))
  else
   (if (decide (((a0.length : Nat) : Int) > ((a1.length : Nat) : Int))) = true then
    some (1,((a1.length : Nat) : Int))
   else
    some (0,((a0.length : Nat) : Int)))))
noncomputable def zeu : Option StateT :=
 some (⟨0,1,false,0,[],[]⟩ : StateT)
noncomputable def zdM (a0 : ByteArray) : Option Bool :=
 ((zaA a0).bind fun c109 =>
 some (!c109))
structure zz where
 t8 : Int
structure zav where
 t4 : Int
noncomputable def zf (a0 : (List ByteArray)) (g107 : zz) : Option (zz ⊕ (zav ⊕ Unit)) :=
 (if (decide (g107.t8 < ((a0.length : Nat) : Int))) = true then
  (guardO (0 ≤ g107.t8 ∧ g107.t8 < (a0.length : Int)) <|
  ((zdM (nth a0 g107.t8.toNat)).bind fun c111 =>
  (if c111 = true then
   some (.inr (.inl (⟨g107.t8⟩)))
  else
   some (.inl ⟨(wI (g107.t8 + 1))⟩))))
 else
  some (.inr (.inr ())))
noncomputable def zD (a0 : (List ByteArray)) : Option Int :=
 ((loopF (zf a0) ⟨0⟩).bind fun y112 =>
 match y112 with
 | .inl p113 =>
  some p113.t4
 | .inr p114 =>
  some (-1))
noncomputable def zA (a0 : (List ByteArray)) : Option Bool :=
 ((zD a0).bind fun c115 =>
 some (decide (c115 ≥ 0)))
noncomputable def zc7 (a0 : (List ByteArray)) (a1 : Int) : Option Bool :=
 (if (decide (((a0.length : Nat) : Int) ≤ a1)) = true then
  ((zA a0).bind fun c116 =>
  some (!c116))
 else
  some false)
structure zbu where
 t8 : Int
structure zdX where
 t4 : Int
noncomputable def zR (a0 : (List ByteArray)) (a1 : ByteArray) (g119 : zbu) : Option (zbu ⊕ (zdX ⊕ Unit)) :=
 (if (decide (g119.t8 < ((a0.length : Nat) : Int))) = true then
  (guardO (0 ≤ g119.t8 ∧ g119.t8 < (a0.length : Int)) <|
  (if (a1.toList == (nth a0 g119.t8.toNat).toList) = true then
   some (.inr (.inl (⟨g119.t8⟩)))
  else
   some (.inl ⟨(wI (g119.t8 + 1))⟩)))
 else
  some (.inr (.inr ())))
noncomputable def zcf (a0 : (List ByteArray)) (a1 : ByteArray) : Option Int :=
 ((loopF (zR a0 a1) ⟨0⟩).bind fun y120 =>
 match y120 with
 | .inl p121 =>
  some p121.t4
 | .inr p122 =>
  some (-1))
noncomputable def zv (a0 : (List ByteArray)) (a1 : ByteArray) : Option Bool :=
 ((zcf a0 a1).bind fun c123 =>
 some (decide (c123 ≥ 0)))
structure zdr where
 t7 : Int
noncomputable def zbp (a0 : (List ByteArray)) (g118 : zdr) : Option (zdr ⊕ (Unit ⊕ Unit)) :=
 (if (decide (g118.t7 < ((a0.length : Nat) : Int))) = true then
  (guardO (0 ≤ g118.t7 ∧ g118.t7 < (a0.length : Int)) <|
  (guardO (0 ≤ g118.t7 ∧ g118.t7 ≤ (a0.length : Int)) <|
  ((zv (a0.take g118.t7.toNat) (nth a0 g118.t7.toNat)).bind fun c125 =>
  (if c125 = true then
   some (.inr (.inl ()))
  else
   some (.inl ⟨(wI (g118.t7 + 1))⟩)))))
 else
  some (.inr (.inr ())))
noncomputable def zcr (a0 : (List ByteArray)) : Option Bool :=
 ((loopF (zbp a0) ⟨0⟩).bind fun y126 =>
 match y126 with
 | .inl p127 =>
  some false
 | .inr p128 =>
  some true)
noncomputable def zbD (a0 : ByteArray) (a1 : ByteArray) : Option Bool :=
 ((zZ a0).bind fun c132 =>
 (if c132 = true then
  ((zZ a1).bind fun c133 =>
  (if (!c133) = true then
   some true
  else
   some (sLt a0 a1)))
 else
  some (sLt a0 a1)))
structure zbW where
 t3 : Int
noncomputable def zt (a0 : (List ByteArray)) (g131 : zbW) : Option (zbW ⊕ (Unit ⊕ Unit)) :=
 (if (decide (g131.t3 > 0)) = true then
  (guardO (0 ≤ g131.t3 ∧ g131.t3 < (a0.length : Int)) <|
  (guardO (0 ≤ (wI (g131.t3 - 1)) ∧ (wI (g131.t3 - 1)) < (a0.length : Int)) <|
  ((zbD (nth a0 g131.t3.toNat) (nth a0 ((wI (g131.t3 - 1)).toNat))).bind fun c135 =>
  (if c135 = true then
   some (.inr (.inl ()))
  else
   some (.inl ⟨(wI (g131.t3 - 1))⟩)))))
 else
  some (.inr (.inr ())))
noncomputable def zaw (a0 : (List ByteArray)) : Option Bool :=
 ((loopF (zt a0) ⟨(wI (((a0.length : Nat) : Int) - 1))⟩).bind fun y136 =>
 match y136 with
 | .inl p137 =>
  some false
 | .inr p138 =>
  some true)
structure zbX where
 t18 : Bool
structure zad where
 t46 : Bool
noncomputable def zaH (a0 : StateT) : Option Bool :=
 ((((zdG a0.Next 1 1001).bind fun c103 =>
  (if (!c103) = true then
   some (⟨true⟩ : zbX)
  else
   ((zdG a0.Done 0 1000).bind fun c104 =>
   (if (!c104) = true then
    some (⟨true⟩ : zbX)
   else
    ((zdG a0.Status 0 2).bind fun c105 =>
    some (⟨(!c105)⟩ : zbX)))))) : Option zbX).bind fun p106 =>
 (if p106.t18 = true then
  some false
 else
  ((((zc7 a0.Signals 30).bind fun c117 =>
   (if (!c117) = true then
    some (⟨true⟩ : zad)
   else
    ((zcr a0.Signals).bind fun c129 =>
    (if (!c129) = true then
     some (⟨true⟩ : zad)
    else
     ((zc7 a0.Timers 30).bind fun c130 =>
     (if (!c130) = true then
      some (⟨true⟩ : zad)
     else
      ((zaw a0.Timers).bind fun c139 =>
      (if (!c139) = true then
       some (⟨true⟩ : zad)
      else
       ((zcr a0.Timers).bind fun c140 =>
       some (⟨(!c140)⟩ : zad)))))))))) : Option zad).bind fun p141 =>
  (if p141.t46 = true then
   some false
  else
   (if (a0.Status != 0) = true then
    some (decide (a0.Next > 1))
   else
    (if (a0.Next == 1) = true then
     (if (!a0.Cancel) = true then
      (if (a0.Done == 0) = true then
       (if (((a0.Signals.length : Nat) : Int) == 0) = true then
        some (((a0.Timers.length : Nat) : Int) == 0)
       else
        some false)
      else
       some false)
     else
      some false)
    else
     some false))))))
noncomputable def zP (a0 : Int) : Option Bool :=
 ((zdG a0 1 6).bind fun c146 =>
 some c146)
noncomputable def zc8 (a0 : EventT) : Option Bool :=
 ((zdG a0.Id 1 1000).bind fun c143 =>
 (if c143 = true then
  ((zb3 a0.Version).bind fun c145 =>
  (if c145 = true then
   ((zP a0.Kind).bind fun c147 =>
   (if c147 = true then
    ((zaA a0.Name).bind fun c148 =>
    some c148)
   else
    some false))
  else
   some false))
 else
  some false))
noncomputable def zan (a0 : StateT) : Option StateT :=
 ((zap a0.Signals).bind fun c151 =>
 ((zap a0.Timers).bind fun c152 =>
 some (⟨a0.Status,a0.Next,a0.Cancel,a0.Done,c151,c152⟩ : StateT)))
noncomputable def zbi (a0 : ByteArray) : Option Bool :=
 some (!(a0.toList == a0.toList))
structure zbf where
 t7 : Int
 t8 : Int
structure zeH where
 t7 : Int
noncomputable def zp (a0 : (List ByteArray)) (a1 : ByteArray) (g157 : zbf) : Option (zbf ⊕ zeH) :=
 (if (decide (g157.t7 < g157.t8)) = true then
  (guardO (0 ≤ (wI (shR 64 (wU (wI (g157.t7 + g157.t8))) 1)) ∧ (wI (shR 64 (wU (wI (g157.t7 + g157.t8))) 1)) < (a0.length : Int)) <|
  ((zbD (nth a0 ((wI (shR 64 (wU (wI (g157.t7 + g157.t8))) 1)).toNat)) a1).bind fun c159 =>
  (if c159 = true then
   some (.inl ⟨(wI ((wI (shR 64 (wU (wI (g157.t7 + g157.t8))) 1)) + 1)),g157.t8⟩)
  else
   some (.inl ⟨g157.t7,(wI (shR 64 (wU (wI (g157.t7 + g157.t8))) 1))⟩))))
 else
  some (.inr (⟨g157.t7⟩)))
noncomputable def zQ (a0 : (List ByteArray)) (a1 : ByteArray) : Option (Int × Bool) :=
 ((loopF (zp a0 a1) ⟨0,((a0.length : Nat) : Int)⟩).bind fun y160 =>
 (if (decide (y160.t7 < ((a0.length : Nat) : Int))) = true then
  (guardO (0 ≤ y160.t7 ∧ y160.t7 < (a0.length : Int)) <|
  (if ((nth a0 y160.t7.toNat).toList == a1.toList) = true then
   some (y160.t7,true)
  else
   (guardO (0 ≤ y160.t7 ∧ y160.t7 < (a0.length : Int)) <|
   ((zbi (nth a0 y160.t7.toNat)).bind fun c161 =>
   (if c161 = true then
    ((zbi a1).bind fun c162 =>
    some (y160.t7,c162))
   else
    some (y160.t7,false))))))
 else
  some (y160.t7,false)))
noncomputable def zbv (a0 : (List ByteArray)) (a1 : Int) (a2 : Int) : Option (List ByteArray) :=
 guardO (0 ≤ a1 ∧ a1 ≤ a2 ∧ a2 ≤ (a0.length : Int) ∧ a0.length * 16 ≤ 140737488355328) (some (a0.take a1.toNat ++ a0.drop a2.toNat))
noncomputable def zbw (a0 : (List ByteArray)) (a1 : Int) (a2 : (List ByteArray)) : Option (List ByteArray) :=
 guardO (a2.length = 1 ∧ 0 ≤ a1 ∧ a1 ≤ (a0.length : Int) ∧ (a0.length + 1) * 16 ≤ 140737488355328) (some (a0.take a1.toNat ++ a2 ++ a0.drop a1.toNat))
noncomputable def zax (a0 : StateT) (a1 : ByteArray) : Option (Bool × StateT) :=
 ((zQ a0.Timers a1).bind fun c165 =>
 (if c165.2 = true then
  ((zbv a0.Timers c165.1 (wI (c165.1 + 1))).bind fun c166 =>
  some (true,(⟨a0.Status,a0.Next,a0.Cancel,a0.Done,a0.Signals,c166⟩ : StateT)))
 else
  (if (((a0.Timers.length : Nat) : Int) == 30) = true then
   some (false,a0)
  else
   ((zbw a0.Timers c165.1 ([a1])).bind fun c167 =>
   some (true,(⟨a0.Status,a0.Next,a0.Cancel,a0.Done,a0.Signals,c167⟩ : StateT))))))
structure zN where
 t32 : Bool
structure zaZ where
 t54 : Bool
noncomputable def zaJ (a0 : StateT) (a1 : Int) (a2 : ByteArray) : Option (Bool × StateT) :=
 (((if (decide (a0.Next > 1000)) = true then
   some (⟨true⟩ : zN)
  else
   (if (!((a1 == 1) == (a0.Status == 0))) = true then
    some (⟨true⟩ : zN)
   else
    (if (a1 != 1) = true then
     some (⟨(a0.Status != 1)⟩ : zN)
    else
     some (⟨false⟩ : zN)))) : Option zN).bind fun p170 =>
 (if p170.t32 = true then
  some (false,a0)
 else
  (if (a1 == 1) = true then
   some (true,(⟨1,(wI (a0.Next + 1)),a0.Cancel,a0.Done,a0.Signals,a0.Timers⟩ : StateT))
  else
   (if (a1 == 2) = true then
    ((((zv a0.Signals a2).bind fun c171 =>
     (if c171 = true then
      some (⟨true⟩ : zaZ)
     else
      some (⟨(((a0.Signals.length : Nat) : Int) == 30)⟩ : zaZ))) : Option zaZ).bind fun p172 =>
    (if p172.t54 = true then
     some (false,a0)
    else
     (guardO ((a0.Signals.length + 1) * 16 ≤ 140737488355328) <|
     some (true,(⟨a0.Status,(wI (a0.Next + 1)),a0.Cancel,a0.Done,(a0.Signals ++ ([a2])),a0.Timers⟩ : StateT)))))
   else
    (if (a1 == 3) = true then
     some (true,(⟨a0.Status,(wI (a0.Next + 1)),a0.Cancel,(wI (a0.Done + 1)),a0.Signals,a0.Timers⟩ : StateT))
    else
     (if (a1 == 4) = true then
      ((zax a0 a2).bind fun c173 =>
      (if (!c173.1) = true then
       some (false,(⟨c173.2.Status,c173.2.Next,c173.2.Cancel,c173.2.Done,a0.Signals,c173.2.Timers⟩ : StateT))
      else
       some (true,(⟨c173.2.Status,(wI (c173.2.Next + 1)),c173.2.Cancel,c173.2.Done,a0.Signals,c173.2.Timers⟩ : StateT))))
     else
      (if (a1 == 5) = true then
       (if a0.Cancel = true then
        some (false,a0)
       else
        some (true,(⟨a0.Status,(wI (a0.Next + 1)),true,a0.Done,a0.Signals,a0.Timers⟩ : StateT)))
      else
       (if (a1 == 6) = true then
        some (true,(⟨2,(wI (a0.Next + 1)),a0.Cancel,a0.Done,a0.Signals,[]⟩ : StateT))
       else
        some (true,(⟨a0.Status,(wI (a0.Next + 1)),a0.Cancel,a0.Done,a0.Signals,a0.Timers⟩ : StateT))))))))))
structure zaK where
 t21 : Bool
structure zc9 where
 t35 : Bool
 b1_0 : Int
 b1_1 : Int
 b1_2 : Bool
 b1_3 : Int
 c2 : (List ByteArray)
 c3 : (List ByteArray)
noncomputable def zcw (a0 : StateT) (a1 : EventT) : Option (StateT × Bool) :=
 ((((zaH a0).bind fun c142 =>
  (if (!c142) = true then
   some (⟨true⟩ : zaK)
  else
   ((zc8 a1).bind fun c149 =>
   (if (!c149) = true then
    some (⟨true⟩ : zaK)
   else
    some (⟨(a1.Id != a0.Next)⟩ : zaK))))) : Option zaK).bind fun p150 =>
 (if p150.t21 = true then
  some ((⟨0,0,false,0,[],[]⟩ : StateT),false)
 else
  ((zan a0).bind fun c153 =>
  ((((zaJ c153 a1.Kind a1.Name).bind fun c174 =>
   (if (!c174.1) = true then
    some (⟨true,c174.2.Status,c174.2.Next,c174.2.Cancel,c174.2.Done,c174.2.Signals,c174.2.Timers⟩ : zc9)
   else
    ((zaH c174.2).bind fun c175 =>
    some (⟨(!c175),c174.2.Status,c174.2.Next,c174.2.Cancel,c174.2.Done,c174.2.Signals,c174.2.Timers⟩ : zc9)))) : Option zc9).bind fun p176 =>
  (if p176.t35 = true then
   some ((⟨0,0,false,0,[],[]⟩ : StateT),false)
  else
   some ((⟨p176.b1_0,p176.b1_1,p176.b1_2,p176.b1_3,p176.c2,p176.c3⟩ : StateT),true))))))
structure zdY where
 t12 : Int
 b1_0 : Int
 b1_1 : Int
 b1_2 : Bool
 b1_3 : Int
 c2 : (List ByteArray)
 c3 : (List ByteArray)
structure zfO where
 t3 : Int
 b0_0 : Int
 b0_1 : Int
 b0_2 : Bool
 b0_3 : Int
 c1 : (List ByteArray)
 c2 : (List ByteArray)
structure zfP where
 b1_0 : Int
 b1_1 : Int
 b1_2 : Bool
 b1_3 : Int
 c2 : (List ByteArray)
 c3 : (List ByteArray)
noncomputable def zO (a0 : (List EventT)) (g102 : zdY) : Option (zdY ⊕ (zfO ⊕ zfP)) :=
 (if (decide (g102.t12 < ((a0.length : Nat) : Int))) = true then
  (guardO (0 ≤ g102.t12 ∧ g102.t12 < (a0.length : Int)) <|
  ((zcw (⟨g102.b1_0,g102.b1_1,g102.b1_2,g102.b1_3,g102.c2,g102.c3⟩ : StateT) (nth a0 g102.t12.toNat)).bind fun c178 =>
  (if (!c178.2) = true then
   some (.inr (.inl (⟨g102.t12,g102.b1_0,g102.b1_1,g102.b1_2,g102.b1_3,g102.c2,g102.c3⟩)))
  else
   some (.inl ⟨(wI (g102.t12 + 1)),c178.1.Status,c178.1.Next,c178.1.Cancel,c178.1.Done,c178.1.Signals,c178.1.Timers⟩))))
 else
  some (.inr (.inr (⟨g102.b1_0,g102.b1_1,g102.b1_2,g102.b1_3,g102.c2,g102.c3⟩))))
noncomputable def zbE (a0 : (List EventT)) : Option (StateT × Int) :=
 ((zeu).bind fun c101 =>
 ((loopF (zO a0) ⟨0,c101.Status,c101.Next,c101.Cancel,c101.Done,[],[]⟩).bind fun y179 =>
 match y179 with
 | .inl p180 =>
  some ((⟨p180.b0_0,p180.b0_1,p180.b0_2,p180.b0_3,p180.c1,p180.c2⟩ : StateT),p180.t3)
 | .inr p181 =>
  some ((⟨p181.b1_0,p181.b1_1,p181.b1_2,p181.b1_3,p181.c2,p181.c3⟩ : StateT),((a0.length : Nat) : Int))))
structure zcY where
 t12 : Int
structure zda where
 t29 : Bool
noncomputable def za8 (a0 : (List EventT)) (g95 : zcY) : Option (zcY ⊕ (Unit ⊕ Unit)) :=
 (if (decide (g95.t12 < ((a0.length : Nat) : Int))) = true then
  (guardO (0 ≤ g95.t12 ∧ g95.t12 < (a0.length : Int)) <|
  (((if (decide (g95.t12 > 0)) = true then
    (guardO (0 ≤ (wI (g95.t12 - 1)) ∧ (wI (g95.t12 - 1)) < (a0.length : Int)) <|
    some (⟨(decide (((nth a0 g95.t12.toNat).Version) < ((nth a0 ((wI (g95.t12 - 1)).toNat)).Version)))⟩ : zda))
   else
    some (⟨false⟩ : zda)) : Option zda).bind fun p97 =>
  (if p97.t29 = true then
   some (.inr (.inl ()))
  else
   some (.inl ⟨(wI (g95.t12 + 1))⟩))))
 else
  some (.inr (.inr ())))
noncomputable def zdb (a0 : (List EventT)) : Option Bool :=
 (if (decide (((a0.length : Nat) : Int) > 60)) = true then
  some false
 else
  ((loopF (za8 a0) ⟨0⟩).bind fun y98 =>
  match y98 with
  | .inl p99 =>
   some false
  | .inr p100 =>
   ((zbE a0).bind fun c182 =>
   some (c182.2 == ((a0.length : Nat) : Int)))))
noncomputable def zdZ (a0 : EventT) (a1 : EventT) : Option Bool :=
 (if (a0.Id != a1.Id) = true then
  some false
 else
  (if (a0.Version != a1.Version) = true then
   some false
  else
   (if (a0.Kind != a1.Kind) = true then
    some false
   else
    (if (!(a0.Name.toList == a1.Name.toList)) = true then
     some false
    else
     some true))))
structure zds where
 t5 : Int
noncomputable def zbq (a0 : (List EventT)) (a1 : (List EventT)) (g193 : zds) : Option (zds ⊕ (Unit ⊕ Unit)) :=
 (if (decide (g193.t5 < ((a0.length : Nat) : Int))) = true then
  (guardO (0 ≤ g193.t5 ∧ g193.t5 < (a0.length : Int)) <|
  (guardO (0 ≤ g193.t5 ∧ g193.t5 < (a1.length : Int)) <|
  ((zdZ (nth a0 g193.t5.toNat) (nth a1 g193.t5.toNat)).bind fun c195 =>
  (if (!c195) = true then
   some (.inr (.inl ()))
  else
   some (.inl ⟨(wI (g193.t5 + 1))⟩)))))
 else
  some (.inr (.inr ())))
noncomputable def zdC (a0 : (List EventT)) (a1 : (List EventT)) : Option Bool :=
 (if (((a0.length : Nat) : Int) != ((a1.length : Nat) : Int)) = true then
  some false
 else
  ((loopF (zbq a0 a1) ⟨0⟩).bind fun y196 =>
  match y196 with
  | .inl p197 =>
   some false
  | .inr p198 =>
   some true))
structure zbY where
 t1 : Int
 t5 : Int
 c0 : (List EventT)
structure zen where
 t1 : Int
 c0 : (List EventT)
noncomputable def zae (g220 : zbY) : Option (zbY ⊕ zen) :=
 (if (decide (g220.t5 < ((g220.c0.length : Nat) : Int))) = true then
  (guardO (0 ≤ g220.t5 ∧ g220.t5 < ((g220.c0.length : Nat) : Int)) <|
  (guardO (0 ≤ g220.t5 ∧ g220.t5 < ((g220.c0.length : Nat) : Int)) <|
  (guardO (0 ≤ g220.t5 ∧ g220.t5 < ((g220.c0.length : Nat) : Int)) <|
  ((zaz (wI ((wI ((wI (g220.t1 + 1)) + 1)) + 1))).bind fun c224 =>
  (guardO (0 ≤ g220.t5 ∧ g220.t5 < ((g220.c0.length : Nat) : Int)) <|
  some (.inl ⟨(wI ((wI ((wI ((wI (g220.t1 + 1)) + 1)) + 1)) + 1)),(wI (g220.t5 + 1)),((((g220.c0.set g220.t5.toNat (⟨g220.t1,(nth g220.c0 g220.t5.toNat).Version,(nth g220.c0 g220.t5.toNat).Kind,(nth g220.c0 g220.t5.toNat).Name⟩ : EventT)).set g220.t5.toNat (⟨(nth (g220.c0.set g220.t5.toNat (⟨g220.t1,(nth g220.c0 g220.t5.toNat).Version,(nth g220.c0 g220.t5.toNat).Kind,(nth g220.c0 g220.t5.toNat).Name⟩ : EventT)) g220.t5.toNat).Id,(wI (g220.t1 + 1)),(nth (g220.c0.set g220.t5.toNat (⟨g220.t1,(nth g220.c0 g220.t5.toNat).Version,(nth g220.c0 g220.t5.toNat).Kind,(nth g220.c0 g220.t5.toNat).Name⟩ : EventT)) g220.t5.toNat).Kind,(nth (g220.c0.set g220.t5.toNat (⟨g220.t1,(nth g220.c0 g220.t5.toNat).Version,(nth g220.c0 g220.t5.toNat).Kind,(nth g220.c0 g220.t5.toNat).Name⟩ : EventT)) g220.t5.toNat).Name⟩ : EventT)).set g220.t5.toNat (⟨(nth ((g220.c0.set g220.t5.toNat (⟨g220.t1,(nth g220.c0 g220.t5.toNat).Version,(nth g220.c0 g220.t5.toNat).Kind,(nth g220.c0 g220.t5.toNat).Name⟩ : EventT)).set g220.t5.toNat (⟨(nth (g220.c0.set g220.t5.toNat (⟨g220.t1,(nth g220.c0 g220.t5.toNat).Version,(nth g220.c0 g220.t5.toNat).Kind,(nth g220.c0 g220.t5.toNat).Name⟩ : EventT)) g220.t5.toNat).Id,(wI (g220.t1 + 1)),(nth (g220.c0.set g220.t5.toNat (⟨g220.t1,(nth g220.c0 g220.t5.toNat).Version,(nth g220.c0 g220.t5.toNat).Kind,(nth g220.c0 g220.t5.toNat).Name⟩ : EventT)) g220.t5.toNat).Kind,(nth (g220.c0.set g220.t5.toNat (⟨g220.t1,(nth g220.c0 g220.t5.toNat).Version,(nth g220.c0 g220.t5.toNat).Kind,(nth g220.c0 g220.t5.toNat).Name⟩ : EventT)) g220.t5.toNat).Name⟩ : EventT)) g220.t5.toNat).Id,(nth ((g220.c0.set g220.t5.toNat (⟨g220.t1,(nth g220.c0 g220.t5.toNat).Version,(nth g220.c0 g220.t5.toNat).Kind,(nth g220.c0 g220.t5.toNat).Name⟩ : EventT)).set g220.t5.toNat (⟨(nth (g220.c0.set g220.t5.toNat (⟨g220.t1,(nth g220.c0 g220.t5.toNat).Version,(nth g220.c0 g220.t5.toNat).Kind,(nth g220.c0 g220.t5.toNat).Name⟩ : EventT)) g220.t5.toNat).Id,(wI (g220.t1 + 1)),(nth (g220.c0.set g220.t5.toNat (⟨g220.t1,(nth g220.c0 g220.t5.toNat).Version,(nth g220.c0 g220.t5.toNat).Kind,(nth g220.c0 g220.t5.toNat).Name⟩ : EventT)) g220.t5.toNat).Kind,(nth (g220.c0.set g220.t5.toNat (⟨g220.t1,(nth g220.c0 g220.t5.toNat).Version,(nth g220.c0 g220.t5.toNat).Kind,(nth g220.c0 g220.t5.toNat).Name⟩ : EventT)) g220.t5.toNat).Name⟩ : EventT)) g220.t5.toNat).Version,(wI ((wI (g220.t1 + 1)) + 1)),(nth ((g220.c0.set g220.t5.toNat (⟨g220.t1,(nth g220.c0 g220.t5.toNat).Version,(nth g220.c0 g220.t5.toNat).Kind,(nth g220.c0 g220.t5.toNat).Name⟩ : EventT)).set g220.t5.toNat (⟨(nth (g220.c0.set g220.t5.toNat (⟨g220.t1,(nth g220.c0 g220.t5.toNat).Version,(nth g220.c0 g220.t5.toNat).Kind,(nth g220.c0 g220.t5.toNat).Name⟩ : EventT)) g220.t5.toNat).Id,(wI (g220.t1 + 1)),(nth (g220.c0.set g220.t5.toNat (⟨g220.t1,(nth g220.c0 g220.t5.toNat).Version,(nth g220.c0 g220.t5.toNat).Kind,(nth g220.c0 g220.t5.toNat).Name⟩ : EventT)) g220.t5.toNat).Kind,(nth (g220.c0.set g220.t5.toNat (⟨g220.t1,(nth g220.c0 g220.t5.toNat).Version,(nth g220.c0 g220.t5.toNat).Kind,(nth g220.c0 g220.t5.toNat).Name⟩ : EventT)) g220.t5.toNat).Name⟩ : EventT)) g220.t5.toNat).Name⟩ : EventT)).set g220.t5.toNat (⟨(nth (((g220.c0.set g220.t5.toNat (⟨g220.t1,(nth g220.c0 g220.t5.toNat).Version,(nth g220.c0 g220.t5.toNat).Kind,(nth g220.c0 g220.t5.toNat).Name⟩ : EventT)).set g220.t5.toNat (⟨(nth (g220.c0.set g220.t5.toNat (⟨g220.t1,(nth g220.c0 g220.t5.toNat).Version,(nth g220.c0 g220.t5.toNat).Kind,(nth g220.c0 g220.t5.toNat).Name⟩ : EventT)) g220.t5.toNat).Id,(wI (g220.t1 + 1)),(nth (g220.c0.set g220.t5.toNat (⟨g220.t1,(nth g220.c0 g220.t5.toNat).Version,(nth g220.c0 g220.t5.toNat).Kind,(nth g220.c0 g220.t5.toNat).Name⟩ : EventT)) g220.t5.toNat).Kind,(nth (g220.c0.set g220.t5.toNat (⟨g220.t1,(nth g220.c0 g220.t5.toNat).Version,(nth g220.c0 g220.t5.toNat).Kind,(nth g220.c0 g220.t5.toNat).Name⟩ : EventT)) g220.t5.toNat).Name⟩ : EventT)).set g220.t5.toNat (⟨(nth ((g220.c0.set g220.t5.toNat (⟨g220.t1,(nth g220.c0 g220.t5.toNat).Version,(nth g220.c0 g220.t5.toNat).Kind,(nth g220.c0 g220.t5.toNat).Name⟩ : EventT)).set g220.t5.toNat (⟨(nth (g220.c0.set g220.t5.toNat (⟨g220.t1,(nth g220.c0 g220.t5.toNat).Version,(nth g220.c0 g220.t5.toNat).Kind,(nth g220.c0 g220.t5.toNat).Name⟩ : EventT)) g220.t5.toNat).Id,(wI (g220.t1 + 1)),(nth (g220.c0.set g220.t5.toNat (⟨g220.t1,(nth g220.c0 g220.t5.toNat).Version,(nth g220.c0 g220.t5.toNat).Kind,(nth g220.c0 g220.t5.toNat).Name⟩ : EventT)) g220.t5.toNat).Kind,(nth (g220.c0.set g220.t5.toNat (⟨g220.t1,(nth g220.c0 g220.t5.toNat).Version,(nth g220.c0 g220.t5.toNat).Kind,(nth g220.c0 g220.t5.toNat).Name⟩ : EventT)) g220.t5.toNat).Name⟩ : EventT)) g220.t5.toNat).Id,(nth ((g220.c0.set g220.t5.toNat (⟨g220.t1,(nth g220.c0 g220.t5.toNat).Version,(nth g220.c0 g220.t5.toNat).Kind,(nth g220.c0 g220.t5.toNat).Name⟩ : EventT)).set g220.t5.toNat (⟨(nth (g220.c0.set g220.t5.toNat (⟨g220.t1,(nth g220.c0 g220.t5.toNat).Version,(nth g220.c0 g220.t5.toNat).Kind,(nth g220.c0 g220.t5.toNat).Name⟩ : EventT)) g220.t5.toNat).Id,(wI (g220.t1 + 1)),(nth (g220.c0.set g220.t5.toNat (⟨g220.t1,(nth g220.c0 g220.t5.toNat).Version,(nth g220.c0 g220.t5.toNat).Kind,(nth g220.c0 g220.t5.toNat).Name⟩ : EventT)) g220.t5.toNat).Kind,(nth (g220.c0.set g220.t5.toNat (⟨g220.t1,(nth g220.c0 g220.t5.toNat).Version,(nth g220.c0 g220.t5.toNat).Kind,(nth g220.c0 g220.t5.toNat).Name⟩ : EventT)) g220.t5.toNat).Name⟩ : EventT)) g220.t5.toNat).Version,(wI ((wI (g220.t1 + 1)) + 1)),(nth ((g220.c0.set g220.t5.toNat (⟨g220.t1,(nth g220.c0 g220.t5.toNat).Version,(nth g220.c0 g220.t5.toNat).Kind,(nth g220.c0 g220.t5.toNat).Name⟩ : EventT)).set g220.t5.toNat (⟨(nth (g220.c0.set g220.t5.toNat (⟨g220.t1,(nth g220.c0 g220.t5.toNat).Version,(nth g220.c0 g220.t5.toNat).Kind,(nth g220.c0 g220.t5.toNat).Name⟩ : EventT)) g220.t5.toNat).Id,(wI (g220.t1 + 1)),(nth (g220.c0.set g220.t5.toNat (⟨g220.t1,(nth g220.c0 g220.t5.toNat).Version,(nth g220.c0 g220.t5.toNat).Kind,(nth g220.c0 g220.t5.toNat).Name⟩ : EventT)) g220.t5.toNat).Kind,(nth (g220.c0.set g220.t5.toNat (⟨g220.t1,(nth g220.c0 g220.t5.toNat).Version,(nth g220.c0 g220.t5.toNat).Kind,(nth g220.c0 g220.t5.toNat).Name⟩ : EventT)) g220.t5.toNat).Name⟩ : EventT)) g220.t5.toNat).Name⟩ : EventT)) g220.t5.toNat).Id,(nth (((g220.c0.set g220.t5.toNat (⟨g220.t1,(nth g220.c0 g220.t5.toNat).Version,(nth g220.c0 g220.t5.toNat).Kind,(nth g220.c0 g220.t5.toNat).Name⟩ : EventT)).set g220.t5.toNat (⟨(nth (g220.c0.set g220.t5.toNat (⟨g220.t1,(nth g220.c0 g220.t5.toNat).Version,(nth g220.c0 g220.t5.toNat).Kind,(nth g220.c0 g220.t5.toNat).Name⟩ : EventT)) g220.t5.toNat).Id,(wI (g220.t1 + 1)),(nth (g220.c0.set g220.t5.toNat (⟨g220.t1,(nth g220.c0 g220.t5.toNat).Version,(nth g220.c0 g220.t5.toNat).Kind,(nth g220.c0 g220.t5.toNat).Name⟩ : EventT)) g220.t5.toNat).Kind,(nth (g220.c0.set g220.t5.toNat (⟨g220.t1,(nth g220.c0 g220.t5.toNat).Version,(nth g220.c0 g220.t5.toNat).Kind,(nth g220.c0 g220.t5.toNat).Name⟩ : EventT)) g220.t5.toNat).Name⟩ : EventT)).set g220.t5.toNat (⟨(nth ((g220.c0.set g220.t5.toNat (⟨g220.t1,(nth g220.c0 g220.t5.toNat).Version,(nth g220.c0 g220.t5.toNat).Kind,(nth g220.c0 g220.t5.toNat).Name⟩ : EventT)).set g220.t5.toNat (⟨(nth (g220.c0.set g220.t5.toNat (⟨g220.t1,(nth g220.c0 g220.t5.toNat).Version,(nth g220.c0 g220.t5.toNat).Kind,(nth g220.c0 g220.t5.toNat).Name⟩ : EventT)) g220.t5.toNat).Id,(wI (g220.t1 + 1)),(nth (g220.c0.set g220.t5.toNat (⟨g220.t1,(nth g220.c0 g220.t5.toNat).Version,(nth g220.c0 g220.t5.toNat).Kind,(nth g220.c0 g220.t5.toNat).Name⟩ : EventT)) g220.t5.toNat).Kind,(nth (g220.c0.set g220.t5.toNat (⟨g220.t1,(nth g220.c0 g220.t5.toNat).Version,(nth g220.c0 g220.t5.toNat).Kind,(nth g220.c0 g220.t5.toNat).Name⟩ : EventT)) g220.t5.toNat).Name⟩ : EventT)) g220.t5.toNat).Id,(nth ((g220.c0.set g220.t5.toNat (⟨g220.t1,(nth g220.c0 g220.t5.toNat).Version,(nth g220.c0 g220.t5.toNat).Kind,(nth g220.c0 g220.t5.toNat).Name⟩ : EventT)).set g220.t5.toNat (⟨(nth (g220.c0.set g220.t5.toNat (⟨g220.t1,(nth g220.c0 g220.t5.toNat).Version,(nth g220.c0 g220.t5.toNat).Kind,(nth g220.c0 g220.t5.toNat).Name⟩ : EventT)) g220.t5.toNat).Id,(wI (g220.t1 + 1)),(nth (g220.c0.set g220.t5.toNat (⟨g220.t1,(nth g220.c0 g220.t5.toNat).Version,(nth g220.c0 g220.t5.toNat).Kind,(nth g220.c0 g220.t5.toNat).Name⟩ : EventT)) g220.t5.toNat).Kind,(nth (g220.c0.set g220.t5.toNat (⟨g220.t1,(nth g220.c0 g220.t5.toNat).Version,(nth g220.c0 g220.t5.toNat).Kind,(nth g220.c0 g220.t5.toNat).Name⟩ : EventT)) g220.t5.toNat).Name⟩ : EventT)) g220.t5.toNat).Version,(wI ((wI (g220.t1 + 1)) + 1)),(nth ((g220.c0.set g220.t5.toNat (⟨g220.t1,(nth g220.c0 g220.t5.toNat).Version,(nth g220.c0 g220.t5.toNat).Kind,(nth g220.c0 g220.t5.toNat).Name⟩ : EventT)).set g220.t5.toNat (⟨(nth (g220.c0.set g220.t5.toNat (⟨g220.t1,(nth g220.c0 g220.t5.toNat).Version,(nth g220.c0 g220.t5.toNat).Kind,(nth g220.c0 g220.t5.toNat).Name⟩ : EventT)) g220.t5.toNat).Id,(wI (g220.t1 + 1)),(nth (g220.c0.set g220.t5.toNat (⟨g220.t1,(nth g220.c0 g220.t5.toNat).Version,(nth g220.c0 g220.t5.toNat).Kind,(nth g220.c0 g220.t5.toNat).Name⟩ : EventT)) g220.t5.toNat).Kind,(nth (g220.c0.set g220.t5.toNat (⟨g220.t1,(nth g220.c0 g220.t5.toNat).Version,(nth g220.c0 g220.t5.toNat).Kind,(nth g220.c0 g220.t5.toNat).Name⟩ : EventT)) g220.t5.toNat).Name⟩ : EventT)) g220.t5.toNat).Name⟩ : EventT)) g220.t5.toNat).Version,(nth (((g220.c0.set g220.t5.toNat (⟨g220.t1,(nth g220.c0 g220.t5.toNat).Version,(nth g220.c0 g220.t5.toNat).Kind,(nth g220.c0 g220.t5.toNat).Name⟩ : EventT)).set g220.t5.toNat (⟨(nth (g220.c0.set g220.t5.toNat (⟨g220.t1,(nth g220.c0 g220.t5.toNat).Version,(nth g220.c0 g220.t5.toNat).Kind,(nth g220.c0 g220.t5.toNat).Name⟩ : EventT)) g220.t5.toNat).Id,(wI (g220.t1 + 1)),(nth (g220.c0.set g220.t5.toNat (⟨g220.t1,(nth g220.c0 g220.t5.toNat).Version,(nth g220.c0 g220.t5.toNat).Kind,(nth g220.c0 g220.t5.toNat).Name⟩ : EventT)) g220.t5.toNat).Kind,(nth (g220.c0.set g220.t5.toNat (⟨g220.t1,(nth g220.c0 g220.t5.toNat).Version,(nth g220.c0 g220.t5.toNat).Kind,(nth g220.c0 g220.t5.toNat).Name⟩ : EventT)) g220.t5.toNat).Name⟩ : EventT)).set g220.t5.toNat (⟨(nth ((g220.c0.set g220.t5.toNat (⟨g220.t1,(nth g220.c0 g220.t5.toNat).Version,(nth g220.c0 g220.t5.toNat).Kind,(nth g220.c0 g220.t5.toNat).Name⟩ : EventT)).set g220.t5.toNat (⟨(nth (g220.c0.set g220.t5.toNat (⟨g220.t1,(nth g220.c0 g220.t5.toNat).Version,(nth g220.c0 g220.t5.toNat).Kind,(nth g220.c0 g220.t5.toNat).Name⟩ : EventT)) g220.t5.toNat).Id,(wI (g220.t1 + 1)),(nth (g220.c0.set g220.t5.toNat (⟨g220.t1,(nth g220.c0 g220.t5.toNat).Version,(nth g220.c0 g220.t5.toNat).Kind,(nth g220.c0 g220.t5.toNat).Name⟩ : EventT)) g220.t5.toNat).Kind,(nth (g220.c0.set g220.t5.toNat (⟨g220.t1,(nth g220.c0 g220.t5.toNat).Version,(nth g220.c0 g220.t5.toNat).Kind,(nth g220.c0 g220.t5.toNat).Name⟩ : EventT)) g220.t5.toNat).Name⟩ : EventT)) g220.t5.toNat).Id,(nth ((g220.c0.set g220.t5.toNat (⟨g220.t1,(nth g220.c0 g220.t5.toNat).Version,(nth g220.c0 g220.t5.toNat).Kind,(nth g220.c0 g220.t5.toNat).Name⟩ : EventT)).set g220.t5.toNat (⟨(nth (g220.c0.set g220.t5.toNat (⟨g220.t1,(nth g220.c0 g220.t5.toNat).Version,(nth g220.c0 g220.t5.toNat).Kind,(nth g220.c0 g220.t5.toNat).Name⟩ : EventT)) g220.t5.toNat).Id,(wI (g220.t1 + 1)),(nth (g220.c0.set g220.t5.toNat (⟨g220.t1,(nth g220.c0 g220.t5.toNat).Version,(nth g220.c0 g220.t5.toNat).Kind,(nth g220.c0 g220.t5.toNat).Name⟩ : EventT)) g220.t5.toNat).Kind,(nth (g220.c0.set g220.t5.toNat (⟨g220.t1,(nth g220.c0 g220.t5.toNat).Version,(nth g220.c0 g220.t5.toNat).Kind,(nth g220.c0 g220.t5.toNat).Name⟩ : EventT)) g220.t5.toNat).Name⟩ : EventT)) g220.t5.toNat).Version,(wI ((wI (g220.t1 + 1)) + 1)),(nth ((g220.c0.set g220.t5.toNat (⟨g220.t1,(nth g220.c0 g220.t5.toNat).Version,(nth g220.c0 g220.t5.toNat).Kind,(nth g220.c0 g220.t5.toNat).Name⟩ : EventT)).set g220.t5.toNat (⟨(nth (g220.c0.set g220.t5.toNat (⟨g220.t1,(nth g220.c0 g220.t5.toNat).Version,(nth g220.c0 g220.t5.toNat).Kind,(nth g220.c0 g220.t5.toNat).Name⟩ : EventT)) g220.t5.toNat).Id,(wI (g220.t1 + 1)),(nth (g220.c0.set g220.t5.toNat (⟨g220.t1,(nth g220.c0 g220.t5.toNat).Version,(nth g220.c0 g220.t5.toNat).Kind,(nth g220.c0 g220.t5.toNat).Name⟩ : EventT)) g220.t5.toNat).Kind,(nth (g220.c0.set g220.t5.toNat (⟨g220.t1,(nth g220.c0 g220.t5.toNat).Version,(nth g220.c0 g220.t5.toNat).Kind,(nth g220.c0 g220.t5.toNat).Name⟩ : EventT)) g220.t5.toNat).Name⟩ : EventT)) g220.t5.toNat).Name⟩ : EventT)) g220.t5.toNat).Kind,c224⟩ : EventT))⟩))))))
 else
  some (.inr (⟨g220.t1,g220.c0⟩)))
noncomputable def zbQ (a0 : (List EventT)) (a1 : Int) : Option (Int × (List EventT)) :=
 ((loopF (zae) ⟨a1,0,a0⟩).bind fun y225 =>
 some (y225.t1,y225.c0))
noncomputable def zdc (a0 : (List EventT)) : Option Bool :=
 (if (decide (((a0.length : Nat) : Int) > 0)) = true then
  ((zdb a0).bind fun c293 =>
  some c293)
 else
  some false)
noncomputable def zcx (a0 : EventT) (a1 : EventT) : Option Int :=
 ((zal a0.Version a1.Version).bind fun c300 =>
 ((zal a0.Kind a1.Kind).bind fun c301 =>
 ((zbz a0.Name a1.Name).bind fun c304 =>
 ((zed ([c300,c301,c304])).bind fun c309 =>
 some c309))))
structure zn where
 t13 : Int
structure zV where
 t6 : Int
noncomputable def zc (a0 : (List EventT)) (a1 : (List EventT)) (g297 : zn) : Option (zn ⊕ (zV ⊕ Unit)) :=
 (if (decide (g297.t13 < ((a0.length : Nat) : Int))) = true then
  (guardO (0 ≤ g297.t13 ∧ g297.t13 < (a0.length : Int)) <|
  (if (decide (g297.t13 ≥ ((a1.length : Nat) : Int))) = true then
   some (.inr (.inl (⟨1⟩)))
  else
   (guardO (0 ≤ g297.t13 ∧ g297.t13 < (a1.length : Int)) <|
   ((zcx (nth a0 g297.t13.toNat) (nth a1 g297.t13.toNat)).bind fun c311 =>
   (if (c311 != 0) = true then
    some (.inr (.inl (⟨c311⟩)))
   else
    some (.inl ⟨(wI (g297.t13 + 1))⟩))))))
 else
  some (.inr (.inr ())))
noncomputable def zu (a0 : (List EventT)) (a1 : (List EventT)) : Option Int :=
 ((loopF (zc a0 a1) ⟨0⟩).bind fun y312 =>
 match y312 with
 | .inl p313 =>
  some p313.t6
 | .inr p314 =>
  (if (decide (((a0.length : Nat) : Int) < ((a1.length : Nat) : Int))) = true then
   some (-1)
  else
   some 0))
noncomputable def zaC (a0 : (List EventT)) (a1 : (List EventT)) : Option Int :=
 ((zu a0 a1).bind fun c315 =>
 some c315)
structure BranchT where
 Events : (List EventT)
 deriving DecidableEq,Inhabited
structure TellingsT where
 Branches : (List BranchT)
 deriving DecidableEq,Inhabited
noncomputable def zdD (a0 : BranchT) (a1 : Int) : Option Int :=
 ((zdz a0.Events a1).bind fun c324 =>
 (if (decide (c324 < 0)) = true then
  some (-1)
 else
  some c324))
structure zcZ where
 t1 : Int
 t5 : Int
structure zeR where
 t1 : Int
noncomputable def za9 (a0 : (List BranchT)) (g323 : zcZ) : Option (zcZ ⊕ (Unit ⊕ zeR)) :=
 (if (decide (g323.t5 < ((a0.length : Nat) : Int))) = true then
  (guardO (0 ≤ g323.t5 ∧ g323.t5 < (a0.length : Int)) <|
  ((zdD (nth a0 g323.t5.toNat) g323.t1).bind fun c326 =>
  (if (decide (c326 < 0)) = true then
   some (.inr (.inl ()))
  else
   some (.inl ⟨c326,(wI (g323.t5 + 1))⟩))))
 else
  some (.inr (.inr (⟨g323.t1⟩))))
noncomputable def zdd (a0 : (List BranchT)) (a1 : Int) : Option Int :=
 (if (decide ((wI (a1 - ((a0.length : Nat) : Int))) < 0)) = true then
  some (-1)
 else
  ((loopF (za9 a0) ⟨(wI (a1 - ((a0.length : Nat) : Int))),0⟩).bind fun y327 =>
  match y327 with
  | .inl p328 =>
   some (-1)
  | .inr p329 =>
   some p329.t1))
noncomputable def zcy (a0 : TellingsT) (a1 : Int) : Option Int :=
 ((zdd a0.Branches a1).bind fun c330 =>
 (if (decide (c330 < 0)) = true then
  some (-1)
 else
  some c330))
noncomputable def zcz (a0 : BranchT) : Option BranchT :=
 ((zdA a0.Events).bind fun c336 =>
 some (⟨c336⟩ : BranchT))
structure zc0 where
 t4 : Int
 c0 : (List BranchT)
structure zeS where
 c0 : (List BranchT)
noncomputable def zba (a0 : (List BranchT)) (g335 : zc0) : Option (zc0 ⊕ zeS) :=
 (if (decide (g335.t4 < ((a0.length : Nat) : Int))) = true then
  (guardO (0 ≤ g335.t4 ∧ g335.t4 < (a0.length : Int)) <|
  ((zcz (nth a0 g335.t4.toNat)).bind fun c338 =>
  (guardO (0 ≤ g335.t4 ∧ g335.t4 < ((g335.c0.length : Nat) : Int)) <|
  some (.inl ⟨(wI (g335.t4 + 1)),(g335.c0.set g335.t4.toNat c338)⟩))))
 else
  some (.inr (⟨g335.c0⟩)))
noncomputable def zde (a0 : (List BranchT)) : Option (List BranchT) :=
 (guardO (0 ≤ ((a0.length : Nat) : Int) ∧ ((a0.length : Nat) : Int) * 24 ≤ 281474976710656 ∧ ((a0.length : Nat) : Int) ≤ 9223372036854775807) <|
 ((loopF (zba a0) ⟨0,(List.replicate a0.length (⟨[]⟩ : BranchT))⟩).bind fun y339 =>
 some y339.c0))
noncomputable def zbF (a0 : TellingsT) : Option TellingsT :=
 ((zde a0.Branches).bind fun c340 =>
 some (⟨c340⟩ : TellingsT))
noncomputable def zbr (a0 : (List EventT)) (a1 : (List EventT)) : Option Bool :=
 ((zaY a0 a1).bind fun c346 =>
 some (c346.2 == ((a1.length : Nat) : Int)))
structure zaf where
 t12 : Int
structure zbZ where
 t26 : Int
structure za0 where
 t52 : Bool
noncomputable def zag (a0 : TellingsT) (g342 : zaf) (g356 : zbZ) : Option (zbZ ⊕ (Unit ⊕ Unit)) :=
 (if (decide (g356.t26 < (((a0.Branches.take g342.t12.toNat).length : Nat) : Int))) = true then
  (guardO (0 ≤ g356.t26 ∧ g356.t26 < ((a0.Branches.take g342.t12.toNat).length : Int)) <|
  ((zaY ((nth (a0.Branches.take g342.t12.toNat) g356.t26.toNat).Events) ((nth a0.Branches g342.t12.toNat).Events)).bind fun c360 =>
  (((if (decide (c360.1 ≥ 0)) = true then
    some (⟨true⟩ : za0)
   else
    ((zbr ((nth a0.Branches g342.t12.toNat).Events) ((nth (a0.Branches.take g342.t12.toNat) g356.t26.toNat).Events)).bind fun c361 =>
    (if c361 = true then
     some (⟨true⟩ : za0)
    else
     some (⟨(decide (g356.t26 > g342.t12))⟩ : za0)))) : Option za0).bind fun p362 =>
  (if p362.t52 = true then
   some (.inr (.inl ()))
  else
   some (.inl ⟨(wI (g356.t26 + 1))⟩)))))
 else
  some (.inr (.inr ())))
noncomputable def zah (a0 : TellingsT) (g342 : zaf) : Option (zaf ⊕ (Unit ⊕ Unit)) :=
 (if (decide (g342.t12 < ((a0.Branches.length : Nat) : Int))) = true then
  (guardO (0 ≤ g342.t12 ∧ g342.t12 < (a0.Branches.length : Int)) <|
  ((zcu ((nth a0.Branches g342.t12.toNat).Events)).bind fun c355 =>
  (if (!c355) = true then
   some (.inr (.inl ()))
  else
   (guardO (0 ≤ g342.t12 ∧ g342.t12 ≤ (a0.Branches.length : Int)) <|
   ((loopF (zag a0 g342) ⟨0⟩).bind fun y363 =>
   match y363 with
   | .inl p364 =>
    some (.inr (.inl ()))
   | .inr p365 =>
    some (.inl ⟨(wI (g342.t12 + 1))⟩))))))
 else
  some (.inr (.inr ())))
noncomputable def zbR (a0 : TellingsT) : Option Bool :=
 ((loopF (zah a0) ⟨0⟩).bind fun y366 =>
 match y366 with
 | .inl p367 =>
  some false
 | .inr p368 =>
  some (decide (((a0.Branches.length : Nat) : Int) ≤ 12)))
structure zaB where
 t13 : Int
noncomputable def zJ (a0 : (List EventT)) (a1 : (List EventT)) (g375 : zaB) : Option (zaB ⊕ (Unit ⊕ Unit)) :=
 (if (decide (g375.t13 < ((a0.length : Nat) : Int))) = true then
  (guardO (0 ≤ g375.t13 ∧ g375.t13 < (a0.length : Int)) <|
  (guardO (0 ≤ g375.t13 ∧ g375.t13 < (a1.length : Int)) <|
  (if (!((((nth a0 g375.t13.toNat).Id) == ((nth a1 g375.t13.toNat).Id)) && ((((nth a0 g375.t13.toNat).Version) == ((nth a1 g375.t13.toNat).Version)) && ((((nth a0 g375.t13.toNat).Kind) == ((nth a1 g375.t13.toNat).Kind)) && (((nth a0 g375.t13.toNat).Name).toList == ((nth a1 g375.t13.toNat).Name).toList))))) = true then
   some (.inr (.inl ()))
  else
   some (.inl ⟨(wI (g375.t13 + 1))⟩))))
 else
  some (.inr (.inr ())))
noncomputable def zbg (a0 : (List EventT)) (a1 : (List EventT)) : Option Bool :=
 (if (((a0.length : Nat) : Int) != ((a1.length : Nat) : Int)) = true then
  some false
 else
  ((loopF (zJ a0 a1) ⟨0⟩).bind fun y376 =>
  match y376 with
  | .inl p377 =>
   some false
  | .inr p378 =>
   some true))
noncomputable def zcT (a0 : (List EventT)) (a1 : (List EventT)) : Option Bool :=
 (if (decide (((a0.length : Nat) : Int) ≤ ((a1.length : Nat) : Int))) = true then
  (guardO (0 ≤ ((a0.length : Nat) : Int) ∧ ((a0.length : Nat) : Int) ≤ (a1.length : Int)) <|
  ((zbg a0 (a1.take a0.length)).bind fun c379 =>
  some c379))
 else
  some false)
structure zai where
 t14 : Int
structure zb0 where
 t28 : Int
structure zb8 where
 t44 : Bool
noncomputable def zaj (a0 : TellingsT) (g371 : zai) (g389 : zb0) : Option (zb0 ⊕ (Unit ⊕ Unit)) :=
 (if (decide (g389.t28 < (((a0.Branches.take g371.t14.toNat).length : Nat) : Int))) = true then
  (guardO (0 ≤ g389.t28 ∧ g389.t28 < ((a0.Branches.take g371.t14.toNat).length : Int)) <|
  ((((zaC ((nth (a0.Branches.take g371.t14.toNat) g389.t28.toNat).Events) ((nth a0.Branches g371.t14.toNat).Events)).bind fun c393 =>
   (if (decide (c393 ≥ 0)) = true then
    some (⟨true⟩ : zb8)
   else
    ((zcT ((nth (a0.Branches.take g371.t14.toNat) g389.t28.toNat).Events) ((nth a0.Branches g371.t14.toNat).Events)).bind fun c394 =>
    some (⟨c394⟩ : zb8)))) : Option zb8).bind fun p395 =>
  (if p395.t44 = true then
   some (.inr (.inl ()))
  else
   some (.inl ⟨(wI (g389.t28 + 1))⟩))))
 else
  some (.inr (.inr ())))
noncomputable def zak (a0 : TellingsT) (g371 : zai) : Option (zai ⊕ (Unit ⊕ Unit)) :=
 (if (decide (g371.t14 < ((a0.Branches.length : Nat) : Int))) = true then
  (guardO (0 ≤ g371.t14 ∧ g371.t14 < (a0.Branches.length : Int)) <|
  ((zdc ((nth a0.Branches g371.t14.toNat).Events)).bind fun c388 =>
  (if (!c388) = true then
   some (.inr (.inl ()))
  else
   (guardO (0 ≤ g371.t14 ∧ g371.t14 ≤ (a0.Branches.length : Int)) <|
   ((loopF (zaj a0 g371) ⟨0⟩).bind fun y396 =>
   match y396 with
   | .inl p397 =>
    some (.inr (.inl ()))
   | .inr p398 =>
    some (.inl ⟨(wI (g371.t14 + 1))⟩))))))
 else
  some (.inr (.inr ())))
noncomputable def zbS (a0 : TellingsT) : Option Bool :=
 (if (decide (((a0.Branches.length : Nat) : Int) > 12)) = true then
  some false
 else
  ((loopF (zak a0) ⟨0⟩).bind fun y399 =>
  match y399 with
  | .inl p400 =>
   some false
  | .inr p401 =>
   some true))
noncomputable def zdE (a0 : BranchT) (a1 : BranchT) : Option Bool :=
 ((zdC a0.Events a1.Events).bind fun c405 =>
 (if (!c405) = true then
  some false
 else
  some true))
structure zc1 where
 t5 : Int
noncomputable def zbb (a0 : (List BranchT)) (a1 : (List BranchT)) (g404 : zc1) : Option (zc1 ⊕ (Unit ⊕ Unit)) :=
 (if (decide (g404.t5 < ((a0.length : Nat) : Int))) = true then
  (guardO (0 ≤ g404.t5 ∧ g404.t5 < (a0.length : Int)) <|
  (guardO (0 ≤ g404.t5 ∧ g404.t5 < (a1.length : Int)) <|
  ((zdE (nth a0 g404.t5.toNat) (nth a1 g404.t5.toNat)).bind fun c407 =>
  (if (!c407) = true then
   some (.inr (.inl ()))
  else
   some (.inl ⟨(wI (g404.t5 + 1))⟩)))))
 else
  some (.inr (.inr ())))
noncomputable def zdf (a0 : (List BranchT)) (a1 : (List BranchT)) : Option Bool :=
 (if (((a0.length : Nat) : Int) != ((a1.length : Nat) : Int)) = true then
  some false
 else
  ((loopF (zbb a0 a1) ⟨0⟩).bind fun y408 =>
  match y408 with
  | .inl p409 =>
   some false
  | .inr p410 =>
   some true))
noncomputable def zcA (a0 : TellingsT) (a1 : TellingsT) : Option Bool :=
 ((zdf a0.Branches a1.Branches).bind fun c411 =>
 (if (!c411) = true then
  some false
 else
  some true))
end Go.TL
namespace Go.TL
end Go.TL

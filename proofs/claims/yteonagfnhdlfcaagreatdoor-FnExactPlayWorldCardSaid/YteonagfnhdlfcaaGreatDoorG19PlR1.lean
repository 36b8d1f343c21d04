import Derived.Test.YteonagfnhdlfcaaGreatDoorG0TlCore
import Derived.Test.YteonagfnhdlfcaaGreatDoorG18PlTrim
set_option linter.unusedSimpArgs false
set_option linter.unusedVariables false
noncomputable section
namespace Go.TL
structure zq1 where
 Ack:Bool
 No:Int
 Text:ByteArray
 deriving DecidableEq,Inhabited
def zN (a0:Int) (a1:Int) (a2:Int):Option Bool :=
 (if (decide (a0 ≥ a1))=true then
  some (decide (a0≤a2))
 else
  some false)
def zdn (a0:Int) (a1:Int) (a2:Int):Option Bool :=
 (if (decide (a0 ≥ a1))=true then
  some (decide (a0≤a2))
 else
  some false)
structure zy3 where
 code:(List Int)
 at_:Int
 seed:Int
 deriving DecidableEq,Inhabited
structure zBa where
 Now:Int
 Fine:Bool
 deriving DecidableEq,Inhabited
end Go.TL
namespace Go.TL
structure zsT where
 Kind:Int
 K:Int
 Text:ByteArray
 deriving DecidableEq,Inhabited
def zaK (a0:(List ByteArray)):Option (List ByteArray) :=
 zjP (a0.length * 16≤140737488355328) (some a0)
structure zfS where
 t0:Int
 t3:ByteArray
structure zhX where
 t3:ByteArray
def zeC (g152:zfS):Option (zfS⊕zhX) :=
 (if (decide (g152.t0 > 0))=true then
  (zjP ((zsf ([(wB (wI (48+(g152.t0.tmod 10))))])).size+g152.t3.size≤9223372036854775807) <|
  some (.inl ⟨(wI (g152.t0.tdiv 10)),((zsf ([(wB (wI (48+(g152.t0.tmod 10))))]))++g152.t3)⟩))
 else
  some (.inr (⟨g152.t3⟩)))
def zak (a0:Int):Option ByteArray :=
 (if (decide (a0≤0))=true then
  some (⟨#[109,48]⟩:ByteArray)
 else
  ((zjZ (zeC) ⟨a0,ByteArray.empty⟩).bind λ y153 =>
  (zjP ((⟨#[109]⟩:ByteArray).size+y153.t3.size≤9223372036854775807) <|
  some ((⟨#[109]⟩:ByteArray)++y153.t3))))
end Go.TL
namespace Go.TL
structure zwT where
 Name:ByteArray
 fVe:Int
 Note:ByteArray
 deriving DecidableEq,Inhabited
structure zfp where
 t3:Int
structure zaZ where
 t32:Bool
def zcP (a0:ByteArray) (g14:zfp):Option (zfp⊕(Unit⊕Unit)) :=
 (if (decide (g14.t3 < (a0.size:Int)))=true then
  (((zjP (0≤g14.t3∧g14.t3 < (a0.size:Int)) <|
   (if (decide ((bt a0 g14.t3) ≥ 97))=true then
    (zjP (0≤g14.t3∧g14.t3 < (a0.size:Int)) <|
    (if (decide ((bt a0 g14.t3)≤122))=true then
     some (⟨false⟩:zaZ)
    else
     (zjP (0≤g14.t3∧g14.t3 < (a0.size:Int)) <|
     (if (decide ((bt a0 g14.t3) ≥ 48))=true then
      (zjP (0≤g14.t3∧g14.t3 < (a0.size:Int)) <|
      some (⟨(!(decide ((bt a0 g14.t3)≤57)))⟩:zaZ))
     else
      some (⟨true⟩:zaZ)))))
   else
    (zjP (0≤g14.t3∧g14.t3 < (a0.size:Int)) <|
    (if (decide ((bt a0 g14.t3) ≥ 48))=true then
     (zjP (0≤g14.t3∧g14.t3 < (a0.size:Int)) <|
     some (⟨(!(decide ((bt a0 g14.t3)≤57)))⟩:zaZ))
    else
     some (⟨true⟩:zaZ))))):Option zaZ).bind λ p16 =>
  (if p16.t32=true then
   some (.inr (.inl ()))
  else
   some (.inl ⟨(wI (g14.t3+1))⟩)))
 else
  some (.inr (.inr ())))
def zdT (a0:ByteArray):Option Bool :=
 ((zjZ (zcP a0) ⟨0⟩).bind λ y17 =>
 match y17 with
 | .inl p18 =>
  some false
 | .inr p19 =>
  some (decide ((a0.size:Int)≤12)))
def zbd (a0:Int):Option Bool :=
 ((zN a0 0 1000000).bind λ c21 =>
 some c21)
def zed (a0:ByteArray) (a1:ByteArray):Option ByteArray :=
 zjP (a0.size≤9223372036854775807∧a1.size < 4294967281∧a1.data.toList.all (λ b=>decide (b.toNat < 128))=true) (some (zuR a0 a1))
def zaV (a0:ByteArray):Option Bool :=
 (if (decide ((a0.size:Int)≤12))=true then
  ((zed a0 (⟨#[97,98,99,100,101,102,103,104,105,106,107,108,109,110,111,112,113,114,115,116,117,118,119,120,121,122,48,49,50,51,52,53,54,55,56,57]⟩:ByteArray)).bind λ c33 =>
  some (c33.toList == ByteArray.empty.toList))
 else
  some false)
def zbL (a0:Int):Option Bool :=
 ((zdn a0 0 1000000).bind λ c35 =>
 some c35)
def zeN (a0:Int):Option Bool :=
 some (a0 != a0)
def zaC (a0:Int) (a1:Int):Option Int :=
 ((zeN a0).bind λ c105 =>
 ((zeN a1).bind λ c106 =>
 (if c105=true then
  (if c106=true then
   some 0
  else
   some (-1))
 else
  (if c106=true then
   some 1
  else
   (if (decide (a0 < a1))=true then
    some (-1)
   else
    (if (decide (a0 > a1))=true then
     some 1
    else
     some 0))))))
def zag (a0:ByteArray):Option Bool :=
 some (!(a0.toList == a0.toList))
def zb9 (a0:ByteArray) (a1:ByteArray):Option Int :=
 ((zag a0).bind λ c108 =>
 ((zag a1).bind λ c109 =>
 (if c108=true then
  (if c109=true then
   some 0
  else
   some (-1))
 else
  (if c109=true then
   some 1
  else
   (if (sLt a0 a1)=true then
    some (-1)
   else
    (if (!(sLt a0 a1 || a0.toList == a1.toList))=true then
     some 1
    else
     some 0))))))
structure zfL where
 t8:Int
structure zg7 where
 t2:Int
def zdo (a0:(List Int)) (g111:zfL):Option (zfL⊕(zg7⊕Unit)) :=
 (if (decide (g111.t8 < ((a0.length:Nat):Int)))=true then
  (zjP (0≤g111.t8∧g111.t8 < (a0.length:Int)) <|
  (if ((nth a0 g111.t8.toNat) != 0)=true then
   some (.inr (.inl (⟨(nth a0 g111.t8.toNat)⟩)))
  else
   some (.inl ⟨(wI (g111.t8+1))⟩)))
 else
  some (.inr (.inr ())))
def zfq (a0:(List Int)):Option Int :=
 ((zjZ (zdo a0) ⟨0⟩).bind λ y112 =>
 match y112 with
 | .inl p113 =>
  some p113.t2
 | .inr p114 =>
  some 0)
def zfa (a0:Int) (a1:Int):Option Int :=
 (if (decide ((wI ((wI (a0 - (a0.tmod 10)))+a1))≤a0))=true then
  some (wI ((wI ((wI (a0 - (a0.tmod 10)))+a1))+10))
 else
  some (wI ((wI (a0 - (a0.tmod 10)))+a1)))
structure zdU where
 t14:Bool
def zcY (a0:Int) (a1:Int):Option (Int×Bool) :=
 ((((zbd a0).bind λ c134 =>
  (if (!c134)=true then
   some (⟨true⟩:zdU)
  else
   ((zN a1 0 9).bind λ c135 =>
   some (⟨(!c135)⟩:zdU)))):Option zdU).bind λ p136 =>
 (if p136.t14=true then
  some (0,false)
 else
  ((zfa a0 a1).bind λ c137 =>
  ((zbd c137).bind λ c138 =>
  (if (!c138)=true then
   some (0,false)
  else
   some (c137,true))))))
def zfM (a0:Int):Option Bool :=
 ((zdn a0 0 9).bind λ c150 =>
 some c150)
structure zdV where
 t14:Bool
structure zb0 where
 t6:Int
def zcZ (a0:Int) (a1:Int):Option (Int×Bool) :=
 ((((zbL a0).bind λ c149 =>
  (if (!c149)=true then
   some (⟨true⟩:zdV)
  else
   ((zfM a1).bind λ c151 =>
   some (⟨(!c151)⟩:zdV)))):Option zdV).bind λ p152 =>
 (if p152.t14=true then
  some (0,false)
 else
  (((if (decide ((wI ((wI (a0 - (a0.tmod 10)))+a1))≤a0))=true then
    some (⟨(wI ((wI ((wI (a0 - (a0.tmod 10)))+a1))+10))⟩:zb0)
   else
    some (⟨(wI ((wI (a0 - (a0.tmod 10)))+a1))⟩:zb0)):Option zb0).bind λ p153 =>
  ((zbL p153.t6).bind λ c154 =>
  (if (!c154)=true then
   some (0,false)
  else
   some (p153.t6,true))))))
end Go.TL
namespace Go.TL
structure EventT where
 Id:Int
 fVe:Int
 Kind:Int
 Name:ByteArray
 deriving DecidableEq,Inhabited
structure zjV where
 fSt:Int
 Next:Int
 fCa:Bool
 Done:Int
 fSi:(List ByteArray)
 fTi:(List ByteArray)
 deriving DecidableEq,Inhabited
def zfN:Option zjV :=
 some (⟨0,1,false,0,[],[]⟩:zjV)
def zee (a0:EventT):Option Bool :=
 ((zN a0.Id 1 1000).bind λ c23 =>
 (if c23=true then
  ((zN a0.fVe 0 1000000).bind λ c24 =>
  (if c24=true then
   ((zN a0.Kind 1 6).bind λ c25 =>
   (if c25=true then
    ((zdT a0.Name).bind λ c32 =>
    some c32)
   else
    some false))
  else
   some false))
 else
  some false))
def zfC (a0:zjV):Option zjV :=
 (zjP (a0.fSi.length * 16≤140737488355328) <|
 (zjP (a0.fTi.length * 16≤140737488355328) <|
 some (⟨a0.fSt,a0.Next,a0.fCa,a0.Done,(([])++a0.fSi),(([])++a0.fTi)⟩:zjV)))
structure zfO where
 t9:Int
structure zg8 where
 t4:Int
def zdp (a0:(List ByteArray)) (a1:ByteArray) (g36:zfO):Option (zfO⊕(zg8⊕Unit)) :=
 (if (decide (g36.t9 < ((a0.length:Nat):Int)))=true then
  (zjP (0≤g36.t9∧g36.t9 < (a0.length:Int)) <|
  (if ((nth a0 g36.t9.toNat).toList == a1.toList)=true then
   some (.inr (.inl (⟨g36.t9⟩)))
  else
   some (.inl ⟨(wI (g36.t9+1))⟩)))
 else
  some (.inr (.inr ())))
def zbe (a0:(List ByteArray)) (a1:ByteArray):Option Int :=
 ((zjZ (zdp a0 a1) ⟨0⟩).bind λ y37 =>
 match y37 with
 | .inl p38 =>
  some p38.t4
 | .inr p39 =>
  some (-1))
structure zfT where
 t6:Bool
 t15:Int
 c0:(List ByteArray)
structure zhY where
 t6:Bool
 c0:(List ByteArray)
structure zeD where
 t28:Bool
def zC (a0:(List ByteArray)) (a1:ByteArray) (g43:zfT):Option (zfT⊕zhY) :=
 (if (decide (g43.t15 < ((a0.length:Nat):Int)))=true then
  (zjP (0≤g43.t15∧g43.t15 < (a0.length:Int)) <|
  (if ((nth a0 g43.t15.toNat).toList == a1.toList)=true then
   some (.inl ⟨g43.t6,(wI (g43.t15+1)),g43.c0⟩)
  else
   (((if (!g43.t6)=true then
     some (⟨(!(sLt (nth a0 g43.t15.toNat) a1 || (nth a0 g43.t15.toNat).toList == a1.toList))⟩:zeD)
    else
     some (⟨false⟩:zeD)):Option zeD).bind λ p45 =>
   (if p45.t28=true then
    (zjP ((g43.c0.length+1) * 16≤140737488355328) <|
    (zjP (((g43.c0.length+1)+1) * 16≤140737488355328) <|
    some (.inl ⟨true,(wI (g43.t15+1)),((g43.c0++([a1]))++([(nth a0 g43.t15.toNat)]))⟩)))
   else
    (zjP ((g43.c0.length+1) * 16≤140737488355328) <|
    some (.inl ⟨g43.t6,(wI (g43.t15+1)),(g43.c0++([(nth a0 g43.t15.toNat)]))⟩))))))
 else
  some (.inr (⟨g43.t6,g43.c0⟩)))
def zbA (a0:(List ByteArray)) (a1:ByteArray):Option (List ByteArray) :=
 ((zbe a0 a1).bind λ c42 =>
 ((zjZ (zC a0 a1) ⟨(decide (c42 ≥ 0)),0,[]⟩).bind λ y46 =>
 (if (!y46.t6)=true then
  (zjP ((y46.c0.length+1) * 16≤140737488355328) <|
  some (y46.c0++([a1])))
 else
  some y46.c0)))
structure zbM where
 t11:Int
structure zeE where
 t23:Int
structure zbf where
 t44:Bool
def zbN (a0:(List ByteArray)) (g51:zbM) (a1:Bool) (g60:zeE):Option (zeE⊕(Unit⊕Unit)) :=
 (if (decide (g60.t23 < (((a0.take g51.t11.toNat).length:Nat):Int)))=true then
  (zjP (0≤g60.t23∧g60.t23 < ((a0.take g51.t11.toNat).length:Int)) <|
  (((if ((nth (a0.take g51.t11.toNat) g60.t23.toNat).toList == (nth a0 g51.t11.toNat).toList)=true then
    some (⟨true⟩:zbf)
   else
    (if a1=true then
     (if (g60.t23 == (wI (g51.t11 - 1)))=true then
      some (⟨(!(sLt (nth (a0.take g51.t11.toNat) g60.t23.toNat) (nth a0 g51.t11.toNat) || (nth (a0.take g51.t11.toNat) g60.t23.toNat).toList == (nth a0 g51.t11.toNat).toList))⟩:zbf)
     else
      some (⟨false⟩:zbf))
    else
     some (⟨false⟩:zbf))):Option zbf).bind λ p62 =>
  (if p62.t44=true then
   some (.inr (.inl ()))
  else
   some (.inl ⟨(wI (g60.t23+1))⟩))))
 else
  some (.inr (.inr ())))
def zbO (a0:(List ByteArray)) (a1:Bool) (g51:zbM):Option (zbM⊕(Unit⊕Unit)) :=
 (if (decide (g51.t11 < ((a0.length:Nat):Int)))=true then
  (zjP (0≤g51.t11∧g51.t11 < (a0.length:Int)) <|
  ((zdT (nth a0 g51.t11.toNat)).bind λ c59 =>
  (if (!c59)=true then
   some (.inr (.inl ()))
  else
   (zjP (0≤g51.t11∧g51.t11≤(a0.length:Int)) <|
   ((zjZ (zbN a0 g51 a1) ⟨0⟩).bind λ y63 =>
   match y63 with
   | .inl p64 =>
    some (.inr (.inl ()))
   | .inr p65 =>
    some (.inl ⟨(wI (g51.t11+1))⟩))))))
 else
  some (.inr (.inr ())))
def zdq (a0:(List ByteArray)) (a1:Bool):Option Bool :=
 ((zjZ (zbO a0 a1) ⟨0⟩).bind λ y66 =>
 match y66 with
 | .inl p67 =>
  some false
 | .inr p68 =>
  some (decide (((a0.length:Nat):Int)≤30)))
structure zal where
 t30:Bool
def zcQ (a0:zjV):Option Bool :=
 ((((zN a0.Next 1 1001).bind λ c49 =>
  (if (!c49)=true then
   some (⟨true⟩:zal)
  else
   ((zN a0.Done 0 1000).bind λ c50 =>
   (if (!c50)=true then
    some (⟨true⟩:zal)
   else
    ((zdq a0.fSi false).bind λ c69 =>
    (if (!c69)=true then
     some (⟨true⟩:zal)
    else
     ((zdq a0.fTi true).bind λ c70 =>
     (if (!c70)=true then
      some (⟨true⟩:zal)
     else
      ((zN a0.fSt 0 2).bind λ c71 =>
      some (⟨(!c71)⟩:zal)))))))))):Option zal).bind λ p72 =>
 (if p72.t30=true then
  some false
 else
  (if (a0.fSt == 0)=true then
   (if (a0.Next == 1)=true then
    (if (!a0.fCa)=true then
     (if (a0.Done == 0)=true then
      (if (((a0.fSi.length:Nat):Int) == 0)=true then
       some (((a0.fTi.length:Nat):Int) == 0)
      else
       some false)
     else
      some false)
    else
     some false)
   else
    some false)
  else
   some (decide (a0.Next > 1)))))
structure zaL where
 t29:Bool
structure zJ where
 b0_0:Int
 b0_2:Bool
 b0_3:Int
 c2:(List ByteArray)
 c3:(List ByteArray)
structure zdc where
 t53:Bool
def zbB (a0:zjV) (a1:EventT):Option (zjV×Bool) :=
 ((((zee a1).bind λ c33 =>
  (if (!c33)=true then
   some (⟨true⟩:zaL)
  else
   (if (a1.Id != a0.Next)=true then
    some (⟨true⟩:zaL)
   else
    (if (!((a1.Kind == 1) == (a0.fSt == 0)))=true then
     some (⟨true⟩:zaL)
    else
     some (⟨(a0.fSt == 2)⟩:zaL))))):Option zaL).bind λ p34 =>
 (if p34.t29=true then
  some (a0,false)
 else
  ((zfC a0).bind λ c35 =>
  (((if (a1.Kind == 1)=true then
    some (.inl (⟨1,c35.fCa,c35.Done,c35.fSi,c35.fTi⟩:zJ))
   else
    (if (a1.Kind == 2)=true then
     ((((zbe c35.fSi a1.Name).bind λ c40 =>
      (if (decide (c40 ≥ 0))=true then
       some (⟨true⟩:zdc)
      else
       some (⟨(((c35.fSi.length:Nat):Int) == 30)⟩:zdc))):Option zdc).bind λ p41 =>
     (if p41.t53=true then
      some (.inr (c35,false))
     else
      (zjP ((c35.fSi.length+1) * 16≤140737488355328) <|
      some (.inl (⟨c35.fSt,c35.fCa,c35.Done,(c35.fSi++([a1.Name])),c35.fTi⟩:zJ)))))
    else
     (if (a1.Kind == 3)=true then
      some (.inl (⟨c35.fSt,c35.fCa,(wI (c35.Done+1)),c35.fSi,c35.fTi⟩:zJ))
     else
      (if (a1.Kind == 4)=true then
       ((zbA c35.fTi a1.Name).bind λ c47 =>
       some (.inl (⟨c35.fSt,c35.fCa,c35.Done,c35.fSi,c47⟩:zJ)))
      else
       (if (a1.Kind == 5)=true then
        (if c35.fCa=true then
         some (.inr (c35,false))
        else
         some (.inl (⟨c35.fSt,true,c35.Done,c35.fSi,c35.fTi⟩:zJ)))
       else
        some (.inl (⟨2,c35.fCa,c35.Done,c35.fSi,[]⟩:zJ))))))):Option (zJ⊕(zjV×Bool))).bind λ q=>match q with
  | .inl p48 =>
   ((zcQ (⟨p48.b0_0,(wI (c35.Next+1)),p48.b0_2,p48.b0_3,p48.c2,p48.c3⟩:zjV)).bind λ c73 =>
   some ((⟨p48.b0_0,(wI (c35.Next+1)),p48.b0_2,p48.b0_3,p48.c2,p48.c3⟩:zjV),c73))
  | .inr v=>some v))))
structure zf5 where
 t12:Int
 b1_0:Int
 b1_1:Int
 b1_2:Bool
 b1_3:Int
 b1_4:(List ByteArray)
 b1_5:(List ByteArray)
structure zie where
 t3:Int
 b0_0:Int
 b0_1:Int
 b0_2:Bool
 b0_3:Int
 b0_4:(List ByteArray)
 b0_5:(List ByteArray)
structure zif where
 b1_0:Int
 b1_1:Int
 b1_2:Bool
 b1_3:Int
 b1_4:(List ByteArray)
 b1_5:(List ByteArray)
def zaD (a0:(List EventT)) (g22:zf5):Option (zf5⊕(zie⊕zif)) :=
 (if (decide (g22.t12 < ((a0.length:Nat):Int)))=true then
  (zjP (0≤g22.t12∧g22.t12 < (a0.length:Int)) <|
  ((zbB (⟨g22.b1_0,g22.b1_1,g22.b1_2,g22.b1_3,g22.b1_4,g22.b1_5⟩:zjV) (nth a0 g22.t12.toNat)).bind λ c75 =>
  (if (!c75.2)=true then
   some (.inr (.inl (⟨g22.t12,g22.b1_0,g22.b1_1,g22.b1_2,g22.b1_3,g22.b1_4,g22.b1_5⟩)))
  else
   some (.inl ⟨(wI (g22.t12+1)),c75.1.fSt,c75.1.Next,c75.1.fCa,c75.1.Done,c75.1.fSi,c75.1.fTi⟩))))
 else
  some (.inr (.inr (⟨g22.b1_0,g22.b1_1,g22.b1_2,g22.b1_3,g22.b1_4,g22.b1_5⟩))))
def zca (a0:(List EventT)):Option (zjV×Int) :=
 ((zfN).bind λ c21 =>
 ((zjZ (zaD a0) ⟨0,c21.fSt,c21.Next,c21.fCa,c21.Done,[],[]⟩).bind λ y76 =>
 match y76 with
 | .inl p77 =>
  some ((⟨p77.b0_0,p77.b0_1,p77.b0_2,p77.b0_3,p77.b0_4,p77.b0_5⟩:zjV),p77.t3)
 | .inr p78 =>
  some ((⟨p78.b1_0,p78.b1_1,p78.b1_2,p78.b1_3,p78.b1_4,p78.b1_5⟩:zjV),((a0.length:Nat):Int))))
structure zd2 where
 t8:Int
structure zef where
 t26:Bool
def zbq (a0:(List EventT)) (g15:zd2):Option (zd2⊕(Unit⊕Unit)) :=
 (if (decide (g15.t8 < ((a0.length:Nat):Int)))=true then
  (((if (decide (g15.t8 > 0))=true then
    (zjP (0≤(wI (g15.t8 - 1))∧(wI (g15.t8 - 1)) < (a0.length:Int)) <|
    (zjP (0≤g15.t8∧g15.t8 < (a0.length:Int)) <|
    some (⟨(decide (((nth a0 ((wI (g15.t8 - 1)).toNat)).fVe) > ((nth a0 g15.t8.toNat).fVe)))⟩:zef)))
   else
    some (⟨false⟩:zef)):Option zef).bind λ p17 =>
  (if p17.t26=true then
   some (.inr (.inl ()))
  else
   some (.inl ⟨(wI (g15.t8+1))⟩)))
 else
  some (.inr (.inr ())))
def zeg (a0:(List EventT)):Option Bool :=
 ((zjZ (zbq a0) ⟨0⟩).bind λ y18 =>
 match y18 with
 | .inl p19 =>
  some false
 | .inr p20 =>
  ((zca a0).bind λ c79 =>
  (if (c79.2 == ((a0.length:Nat):Int))=true then
   some (decide (((a0.length:Nat):Int)≤60))
  else
   some false)))
def zdx (a0:(List EventT)):Option Bool :=
 (if (decide (((a0.length:Nat):Int) > 0))=true then
  ((zeg a0).bind λ c81 =>
  some c81)
 else
  some false)
def zeO (a0:EventT) (a1:EventT):Option Int :=
 (if (a0.fVe != a1.fVe)=true then
  (if (decide (a0.fVe < a1.fVe))=true then
   some (-1)
  else
   some 1)
 else
  (if (a0.Kind != a1.Kind)=true then
   (if (decide (a0.Kind < a1.Kind))=true then
    some (-1)
   else
    some 1)
  else
   (if (sLt a0.Name a1.Name)=true then
    some (-1)
   else
    (if (!(sLt a0.Name a1.Name || a0.Name.toList == a1.Name.toList))=true then
     some 1
    else
     some 0))))
structure zdy where
 t6:Int
structure zf6 where
 t4:Int
 t5:Int
def za0 (a0:(List EventT)) (a1:(List EventT)) (g85:zdy):Option (zdy⊕(zf6⊕Unit)) :=
 (if (decide (g85.t6 < ((a0.length:Nat):Int)))=true then
  (if (decide (g85.t6 < ((a1.length:Nat):Int)))=true then
   (zjP (0≤g85.t6∧g85.t6 < (a0.length:Int)) <|
   (zjP (0≤g85.t6∧g85.t6 < (a1.length:Int)) <|
   ((zeO (nth a0 g85.t6.toNat) (nth a1 g85.t6.toNat)).bind λ c87 =>
   (if (c87 != 0)=true then
    some (.inr (.inl (⟨c87,g85.t6⟩)))
   else
    some (.inl ⟨(wI (g85.t6+1))⟩)))))
  else
   some (.inr (.inr ())))
 else
  some (.inr (.inr ())))
def zaE (a0:(List EventT)) (a1:(List EventT)):Option (Int×Int) :=
 ((zjZ (za0 a0 a1) ⟨0⟩).bind λ y88 =>
 match y88 with
 | .inl p89 =>
  some (p89.t4,p89.t5)
 | .inr p90 =>
  (if (decide (((a0.length:Nat):Int) < ((a1.length:Nat):Int)))=true then
   some ((-1),((a0.length:Nat):Int))
  else
   (if (decide (((a0.length:Nat):Int) > ((a1.length:Nat):Int)))=true then
    some (1,((a1.length:Nat):Int))
   else
    some (0,((a0.length:Nat):Int)))))
def zfP:Option zjV :=
 some (⟨0,1,false,0,[],[]⟩:zjV)
def ze0 (a0:ByteArray):Option Bool :=
 ((zaV a0).bind λ c109 =>
 some (!c109))
structure zr where
 t8:Int
structure zaR where
 t4:Int
def ze (a0:(List ByteArray)) (g107:zr):Option (zr⊕(zaR⊕Unit)) :=
 (if (decide (g107.t8 < ((a0.length:Nat):Int)))=true then
  (zjP (0≤g107.t8∧g107.t8 < (a0.length:Int)) <|
  ((ze0 (nth a0 g107.t8.toNat)).bind λ c111 =>
  (if c111=true then
   some (.inr (.inl (⟨g107.t8⟩)))
  else
   some (.inl ⟨(wI (g107.t8+1))⟩))))
 else
  some (.inr (.inr ())))
def zA (a0:(List ByteArray)):Option Int :=
 ((zjZ (ze a0) ⟨0⟩).bind λ y112 =>
 match y112 with
 | .inl p113 =>
  some p113.t4
 | .inr p114 =>
  some (-1))
def zt (a0:(List ByteArray)):Option Bool :=
 ((zA a0).bind λ c115 =>
 some (decide (c115 ≥ 0)))
def zeh (a0:(List ByteArray)) (a1:Int):Option Bool :=
 (if (decide (((a0.length:Nat):Int)≤a1))=true then
  ((zt a0).bind λ c116 =>
  some (!c116))
 else
  some false)
structure zb1 where
 t8:Int
structure zfb where
 t4:Int
def zU (a0:(List ByteArray)) (a1:ByteArray) (g119:zb1):Option (zb1⊕(zfb⊕Unit)) :=
 (if (decide (g119.t8 < ((a0.length:Nat):Int)))=true then
  (zjP (0≤g119.t8∧g119.t8 < (a0.length:Int)) <|
  (if (a1.toList == (nth a0 g119.t8.toNat).toList)=true then
   some (.inr (.inl (⟨g119.t8⟩)))
  else
   some (.inl ⟨(wI (g119.t8+1))⟩)))
 else
  some (.inr (.inr ())))
def zdd (a0:(List ByteArray)) (a1:ByteArray):Option Int :=
 ((zjZ (zU a0 a1) ⟨0⟩).bind λ y120 =>
 match y120 with
 | .inl p121 =>
  some p121.t4
 | .inr p122 =>
  some (-1))
def zo (a0:(List ByteArray)) (a1:ByteArray):Option Bool :=
 ((zdd a0 a1).bind λ c123 =>
 some (decide (c123 ≥ 0)))
structure zeF where
 t7:Int
def zbP (a0:(List ByteArray)) (g118:zeF):Option (zeF⊕(Unit⊕Unit)) :=
 (if (decide (g118.t7 < ((a0.length:Nat):Int)))=true then
  (zjP (0≤g118.t7∧g118.t7 < (a0.length:Int)) <|
  (zjP (0≤g118.t7∧g118.t7≤(a0.length:Int)) <|
  ((zo (a0.take g118.t7.toNat) (nth a0 g118.t7.toNat)).bind λ c125 =>
  (if c125=true then
   some (.inr (.inl ()))
  else
   some (.inl ⟨(wI (g118.t7+1))⟩)))))
 else
  some (.inr (.inr ())))
def zdr (a0:(List ByteArray)):Option Bool :=
 ((zjZ (zbP a0) ⟨0⟩).bind λ y126 =>
 match y126 with
 | .inl p127 =>
  some false
 | .inr p128 =>
  some true)
def zcg (a0:ByteArray) (a1:ByteArray):Option Bool :=
 ((zag a0).bind λ c132 =>
 (if c132=true then
  ((zag a1).bind λ c133 =>
  (if (!c133)=true then
   some true
  else
   some (sLt a0 a1)))
 else
  some (sLt a0 a1)))
structure zcA where
 t3:Int
def zm (a0:(List ByteArray)) (g131:zcA):Option (zcA⊕(Unit⊕Unit)) :=
 (if (decide (g131.t3 > 0))=true then
  (zjP (0≤g131.t3∧g131.t3 < (a0.length:Int)) <|
  (zjP (0≤(wI (g131.t3 - 1))∧(wI (g131.t3 - 1)) < (a0.length:Int)) <|
  ((zcg (nth a0 g131.t3.toNat) (nth a0 ((wI (g131.t3 - 1)).toNat))).bind λ c135 =>
  (if c135=true then
   some (.inr (.inl ()))
  else
   some (.inl ⟨(wI (g131.t3 - 1))⟩)))))
 else
  some (.inr (.inr ())))
def zaS (a0:(List ByteArray)):Option Bool :=
 ((zjZ (zm a0) ⟨(wI (((a0.length:Nat):Int) - 1))⟩).bind λ y136 =>
 match y136 with
 | .inl p137 =>
  some false
 | .inr p138 =>
  some true)
structure zcB where
 t18:Bool
structure zam where
 t46:Bool
def za1 (a0:zjV):Option Bool :=
 ((((zdn a0.Next 1 1001).bind λ c103 =>
  (if (!c103)=true then
   some (⟨true⟩:zcB)
  else
   ((zdn a0.Done 0 1000).bind λ c104 =>
   (if (!c104)=true then
    some (⟨true⟩:zcB)
   else
    ((zdn a0.fSt 0 2).bind λ c105 =>
    some (⟨(!c105)⟩:zcB)))))):Option zcB).bind λ p106 =>
 (if p106.t18=true then
  some false
 else
  ((((zeh a0.fSi 30).bind λ c117 =>
   (if (!c117)=true then
    some (⟨true⟩:zam)
   else
    ((zdr a0.fSi).bind λ c129 =>
    (if (!c129)=true then
     some (⟨true⟩:zam)
    else
     ((zeh a0.fTi 30).bind λ c130 =>
     (if (!c130)=true then
      some (⟨true⟩:zam)
     else
      ((zaS a0.fTi).bind λ c139 =>
      (if (!c139)=true then
       some (⟨true⟩:zam)
      else
       ((zdr a0.fTi).bind λ c140 =>
       some (⟨(!c140)⟩:zam)))))))))):Option zam).bind λ p141 =>
  (if p141.t46=true then
   some false
  else
   (if (a0.fSt != 0)=true then
    some (decide (a0.Next > 1))
   else
    (if (a0.Next == 1)=true then
     (if (!a0.fCa)=true then
      (if (a0.Done == 0)=true then
       (if (((a0.fSi.length:Nat):Int) == 0)=true then
        some (((a0.fTi.length:Nat):Int) == 0)
       else
        some false)
      else
       some false)
     else
      some false)
    else
     some false))))))
def zS (a0:Int):Option Bool :=
 ((zdn a0 1 6).bind λ c146 =>
 some c146)
def zei (a0:EventT):Option Bool :=
 ((zdn a0.Id 1 1000).bind λ c143 =>
 (if c143=true then
  ((zbL a0.fVe).bind λ c145 =>
  (if c145=true then
   ((zS a0.Kind).bind λ c147 =>
   (if c147=true then
    ((zaV a0.Name).bind λ c148 =>
    some c148)
   else
    some false))
  else
   some false))
 else
  some false))
def zaF (a0:zjV):Option zjV :=
 ((zaK a0.fSi).bind λ c151 =>
 ((zaK a0.fTi).bind λ c152 =>
 some (⟨a0.fSt,a0.Next,a0.fCa,a0.Done,c151,c152⟩:zjV)))
def zbF (a0:ByteArray):Option Bool :=
 some (!(a0.toList == a0.toList))
structure zbC where
 t7:Int
 t8:Int
structure zf4 where
 t7:Int
def zj (a0:(List ByteArray)) (a1:ByteArray) (g157:zbC):Option (zbC⊕zf4) :=
 (if (decide (g157.t7 < g157.t8))=true then
  (zjP (0≤(wI (shR 64 (wU (wI (g157.t7+g157.t8))) 1))∧(wI (shR 64 (wU (wI (g157.t7+g157.t8))) 1)) < (a0.length:Int)) <|
  ((zcg (nth a0 ((wI (shR 64 (wU (wI (g157.t7+g157.t8))) 1)).toNat)) a1).bind λ c159 =>
  (if c159=true then
   some (.inl ⟨(wI ((wI (shR 64 (wU (wI (g157.t7+g157.t8))) 1))+1)),g157.t8⟩)
  else
   some (.inl ⟨g157.t7,(wI (shR 64 (wU (wI (g157.t7+g157.t8))) 1))⟩))))
 else
  some (.inr (⟨g157.t7⟩)))
def zT (a0:(List ByteArray)) (a1:ByteArray):Option (Int×Bool) :=
 ((zjZ (zj a0 a1) ⟨0,((a0.length:Nat):Int)⟩).bind λ y160 =>
 (if (decide (y160.t7 < ((a0.length:Nat):Int)))=true then
  (zjP (0≤y160.t7∧y160.t7 < (a0.length:Int)) <|
  (if ((nth a0 y160.t7.toNat).toList == a1.toList)=true then
   some (y160.t7,true)
  else
   (zjP (0≤y160.t7∧y160.t7 < (a0.length:Int)) <|
   ((zbF (nth a0 y160.t7.toNat)).bind λ c161 =>
   (if c161=true then
    ((zbF a1).bind λ c162 =>
    some (y160.t7,c162))
   else
    some (y160.t7,false))))))
 else
  some (y160.t7,false)))
def zb2 (a0:(List ByteArray)) (a1:Int) (a2:Int):Option (List ByteArray) :=
 zjP (0≤a1∧a1≤a2∧a2≤(a0.length:Int)∧a0.length * 16≤140737488355328) (some (a0.take a1.toNat++a0.drop a2.toNat))
def zb3 (a0:(List ByteArray)) (a1:Int) (a2:(List ByteArray)):Option (List ByteArray) :=
 zjP (a2.length=1∧0≤a1∧a1≤(a0.length:Int)∧(a0.length+1) * 16≤140737488355328) (some (a0.take a1.toNat++a2++a0.drop a1.toNat))
def zaT (a0:zjV) (a1:ByteArray):Option (Bool×zjV) :=
 ((zT a0.fTi a1).bind λ c165 =>
 (if c165.2=true then
  ((zb2 a0.fTi c165.1 (wI (c165.1+1))).bind λ c166 =>
  some (true,(⟨a0.fSt,a0.Next,a0.fCa,a0.Done,a0.fSi,c166⟩:zjV)))
 else
  (if (((a0.fTi.length:Nat):Int) == 30)=true then
   some (false,a0)
  else
   ((zb3 a0.fTi c165.1 ([a1])).bind λ c167 =>
   some (true,(⟨a0.fSt,a0.Next,a0.fCa,a0.Done,a0.fSi,c167⟩:zjV))))))
structure zK where
 t32:Bool
structure zbg where
 t54:Bool
def za2 (a0:zjV) (a1:Int) (a2:ByteArray):Option (Bool×zjV) :=
 (((if (decide (a0.Next > 1000))=true then
   some (⟨true⟩:zK)
  else
   (if (!((a1 == 1) == (a0.fSt == 0)))=true then
    some (⟨true⟩:zK)
   else
    (if (a1 != 1)=true then
     some (⟨(a0.fSt != 1)⟩:zK)
    else
     some (⟨false⟩:zK)))):Option zK).bind λ p170 =>
 (if p170.t32=true then
  some (false,a0)
 else
  (if (a1 == 1)=true then
   some (true,(⟨1,(wI (a0.Next+1)),a0.fCa,a0.Done,a0.fSi,a0.fTi⟩:zjV))
  else
   (if (a1 == 2)=true then
    ((((zo a0.fSi a2).bind λ c171 =>
     (if c171=true then
      some (⟨true⟩:zbg)
     else
      some (⟨(((a0.fSi.length:Nat):Int) == 30)⟩:zbg))):Option zbg).bind λ p172 =>
    (if p172.t54=true then
     some (false,a0)
    else
     (zjP ((a0.fSi.length+1) * 16≤140737488355328) <|
     some (true,(⟨a0.fSt,(wI (a0.Next+1)),a0.fCa,a0.Done,(a0.fSi++([a2])),a0.fTi⟩:zjV)))))
   else
    (if (a1 == 3)=true then
     some (true,(⟨a0.fSt,(wI (a0.Next+1)),a0.fCa,(wI (a0.Done+1)),a0.fSi,a0.fTi⟩:zjV))
    else
     (if (a1 == 4)=true then
      ((zaT a0 a2).bind λ c173 =>
      (if (!c173.1)=true then
       some (false,(⟨c173.2.fSt,c173.2.Next,c173.2.fCa,c173.2.Done,a0.fSi,c173.2.fTi⟩:zjV))
      else
       some (true,(⟨c173.2.fSt,(wI (c173.2.Next+1)),c173.2.fCa,c173.2.Done,a0.fSi,c173.2.fTi⟩:zjV))))
     else
      (if (a1 == 5)=true then
       (if a0.fCa=true then
        some (false,a0)
       else
        some (true,(⟨a0.fSt,(wI (a0.Next+1)),true,a0.Done,a0.fSi,a0.fTi⟩:zjV)))
      else
       (if (a1 == 6)=true then
        some (true,(⟨2,(wI (a0.Next+1)),a0.fCa,a0.Done,a0.fSi,[]⟩:zjV))
       else
        some (true,(⟨a0.fSt,(wI (a0.Next+1)),a0.fCa,a0.Done,a0.fSi,a0.fTi⟩:zjV))))))))))
structure za3 where
 t21:Bool
structure zej where
 t35:Bool
 b1_0:Int
 b1_1:Int
 b1_2:Bool
 b1_3:Int
 c2:(List ByteArray)
 c3:(List ByteArray)
def zdz (a0:zjV) (a1:EventT):Option (zjV×Bool) :=
 ((((za1 a0).bind λ c142 =>
  (if (!c142)=true then
   some (⟨true⟩:za3)
  else
   ((zei a1).bind λ c149 =>
   (if (!c149)=true then
    some (⟨true⟩:za3)
   else
    some (⟨(a1.Id != a0.Next)⟩:za3))))):Option za3).bind λ p150 =>
 (if p150.t21=true then
  some ((⟨0,0,false,0,[],[]⟩:zjV),false)
 else
  ((zaF a0).bind λ c153 =>
  ((((za2 c153 a1.Kind a1.Name).bind λ c174 =>
   (if (!c174.1)=true then
    some (⟨true,c174.2.fSt,c174.2.Next,c174.2.fCa,c174.2.Done,c174.2.fSi,c174.2.fTi⟩:zej)
   else
    ((za1 c174.2).bind λ c175 =>
    some (⟨(!c175),c174.2.fSt,c174.2.Next,c174.2.fCa,c174.2.Done,c174.2.fSi,c174.2.fTi⟩:zej)))):Option zej).bind λ p176 =>
  (if p176.t35=true then
   some ((⟨0,0,false,0,[],[]⟩:zjV),false)
  else
   some ((⟨p176.b1_0,p176.b1_1,p176.b1_2,p176.b1_3,p176.c2,p176.c3⟩:zjV),true))))))
structure zfc where
 t12:Int
 b1_0:Int
 b1_1:Int
 b1_2:Bool
 b1_3:Int
 c2:(List ByteArray)
 c3:(List ByteArray)
structure zhB where
 t3:Int
 b0_0:Int
 b0_1:Int
 b0_2:Bool
 b0_3:Int
 c1:(List ByteArray)
 c2:(List ByteArray)
structure zhC where
 b1_0:Int
 b1_1:Int
 b1_2:Bool
 b1_3:Int
 c2:(List ByteArray)
 c3:(List ByteArray)
def zO (a0:(List EventT)) (g102:zfc):Option (zfc⊕(zhB⊕zhC)) :=
 (if (decide (g102.t12 < ((a0.length:Nat):Int)))=true then
  (zjP (0≤g102.t12∧g102.t12 < (a0.length:Int)) <|
  ((zdz (⟨g102.b1_0,g102.b1_1,g102.b1_2,g102.b1_3,g102.c2,g102.c3⟩:zjV) (nth a0 g102.t12.toNat)).bind λ c178 =>
  (if (!c178.2)=true then
   some (.inr (.inl (⟨g102.t12,g102.b1_0,g102.b1_1,g102.b1_2,g102.b1_3,g102.c2,g102.c3⟩)))
  else
   some (.inl ⟨(wI (g102.t12+1)),c178.1.fSt,c178.1.Next,c178.1.fCa,c178.1.Done,c178.1.fSi,c178.1.fTi⟩))))
 else
  some (.inr (.inr (⟨g102.b1_0,g102.b1_1,g102.b1_2,g102.b1_3,g102.c2,g102.c3⟩))))
def zch (a0:(List EventT)):Option (zjV×Int) :=
 ((zfP).bind λ c101 =>
 ((zjZ (zO a0) ⟨0,c101.fSt,c101.Next,c101.fCa,c101.Done,[],[]⟩).bind λ y179 =>
 match y179 with
 | .inl p180 =>
  some ((⟨p180.b0_0,p180.b0_1,p180.b0_2,p180.b0_3,p180.c1,p180.c2⟩:zjV),p180.t3)
 | .inr p181 =>
  some ((⟨p181.b1_0,p181.b1_1,p181.b1_2,p181.b1_3,p181.c2,p181.c3⟩:zjV),((a0.length:Nat):Int))))
structure zd3 where
 t12:Int
structure zek where
 t29:Bool
def zbr (a0:(List EventT)) (g95:zd3):Option (zd3⊕(Unit⊕Unit)) :=
 (if (decide (g95.t12 < ((a0.length:Nat):Int)))=true then
  (zjP (0≤g95.t12∧g95.t12 < (a0.length:Int)) <|
  (((if (decide (g95.t12 > 0))=true then
    (zjP (0≤(wI (g95.t12 - 1))∧(wI (g95.t12 - 1)) < (a0.length:Int)) <|
    some (⟨(decide (((nth a0 g95.t12.toNat).fVe) < ((nth a0 ((wI (g95.t12 - 1)).toNat)).fVe)))⟩:zek))
   else
    some (⟨false⟩:zek)):Option zek).bind λ p97 =>
  (if p97.t29=true then
   some (.inr (.inl ()))
  else
   some (.inl ⟨(wI (g95.t12+1))⟩))))
 else
  some (.inr (.inr ())))
def zel (a0:(List EventT)):Option Bool :=
 (if (decide (((a0.length:Nat):Int) > 60))=true then
  some false
 else
  ((zjZ (zbr a0) ⟨0⟩).bind λ y98 =>
  match y98 with
  | .inl p99 =>
   some false
  | .inr p100 =>
   ((zch a0).bind λ c182 =>
   some (c182.2 == ((a0.length:Nat):Int)))))
def zfd (a0:EventT) (a1:EventT):Option Bool :=
 (if (a0.Id != a1.Id)=true then
  some false
 else
  (if (a0.fVe != a1.fVe)=true then
   some false
  else
   (if (a0.Kind != a1.Kind)=true then
    some false
   else
    (if (!(a0.Name.toList == a1.Name.toList))=true then
     some false
    else
     some true))))
structure zeG where
 t5:Int
def zbQ (a0:(List EventT)) (a1:(List EventT)) (g193:zeG):Option (zeG⊕(Unit⊕Unit)) :=
 (if (decide (g193.t5 < ((a0.length:Nat):Int)))=true then
  (zjP (0≤g193.t5∧g193.t5 < (a0.length:Int)) <|
  (zjP (0≤g193.t5∧g193.t5 < (a1.length:Int)) <|
  ((zfd (nth a0 g193.t5.toNat) (nth a1 g193.t5.toNat)).bind λ c195 =>
  (if (!c195)=true then
   some (.inr (.inl ()))
  else
   some (.inl ⟨(wI (g193.t5+1))⟩)))))
 else
  some (.inr (.inr ())))
def zeP (a0:(List EventT)) (a1:(List EventT)):Option Bool :=
 (if (((a0.length:Nat):Int) != ((a1.length:Nat):Int))=true then
  some false
 else
  ((zjZ (zbQ a0 a1) ⟨0⟩).bind λ y196 =>
  match y196 with
  | .inl p197 =>
   some false
  | .inr p198 =>
   some true))
structure zcC where
 t1:Int
 t5:Int
 c0:(List EventT)
structure zfD where
 t1:Int
 c0:(List EventT)
def zan (g220:zcC):Option (zcC⊕zfD) :=
 (if (decide (g220.t5 < ((g220.c0.length:Nat):Int)))=true then
  (zjP (0≤g220.t5∧g220.t5 < ((g220.c0.length:Nat):Int)) <|
  (zjP (0≤g220.t5∧g220.t5 < ((g220.c0.length:Nat):Int)) <|
  (zjP (0≤g220.t5∧g220.t5 < ((g220.c0.length:Nat):Int)) <|
  ((zak (wI ((wI ((wI (g220.t1+1))+1))+1))).bind λ c224 =>
  (zjP (0≤g220.t5∧g220.t5 < ((g220.c0.length:Nat):Int)) <|
  some (.inl ⟨(wI ((wI ((wI ((wI (g220.t1+1))+1))+1))+1)),(wI (g220.t5+1)),((((g220.c0.set g220.t5.toNat (⟨g220.t1,(nth g220.c0 g220.t5.toNat).fVe,(nth g220.c0 g220.t5.toNat).Kind,(nth g220.c0 g220.t5.toNat).Name⟩:EventT)).set g220.t5.toNat (⟨(nth (g220.c0.set g220.t5.toNat (⟨g220.t1,(nth g220.c0 g220.t5.toNat).fVe,(nth g220.c0 g220.t5.toNat).Kind,(nth g220.c0 g220.t5.toNat).Name⟩:EventT)) g220.t5.toNat).Id,(wI (g220.t1+1)),(nth (g220.c0.set g220.t5.toNat (⟨g220.t1,(nth g220.c0 g220.t5.toNat).fVe,(nth g220.c0 g220.t5.toNat).Kind,(nth g220.c0 g220.t5.toNat).Name⟩:EventT)) g220.t5.toNat).Kind,(nth (g220.c0.set g220.t5.toNat (⟨g220.t1,(nth g220.c0 g220.t5.toNat).fVe,(nth g220.c0 g220.t5.toNat).Kind,(nth g220.c0 g220.t5.toNat).Name⟩:EventT)) g220.t5.toNat).Name⟩:EventT)).set g220.t5.toNat (⟨(nth ((g220.c0.set g220.t5.toNat (⟨g220.t1,(nth g220.c0 g220.t5.toNat).fVe,(nth g220.c0 g220.t5.toNat).Kind,(nth g220.c0 g220.t5.toNat).Name⟩:EventT)).set g220.t5.toNat (⟨(nth (g220.c0.set g220.t5.toNat (⟨g220.t1,(nth g220.c0 g220.t5.toNat).fVe,(nth g220.c0 g220.t5.toNat).Kind,(nth g220.c0 g220.t5.toNat).Name⟩:EventT)) g220.t5.toNat).Id,(wI (g220.t1+1)),(nth (g220.c0.set g220.t5.toNat (⟨g220.t1,(nth g220.c0 g220.t5.toNat).fVe,(nth g220.c0 g220.t5.toNat).Kind,(nth g220.c0 g220.t5.toNat).Name⟩:EventT)) g220.t5.toNat).Kind,(nth (g220.c0.set g220.t5.toNat (⟨g220.t1,(nth g220.c0 g220.t5.toNat).fVe,(nth g220.c0 g220.t5.toNat).Kind,(nth g220.c0 g220.t5.toNat).Name⟩:EventT)) g220.t5.toNat).Name⟩:EventT)) g220.t5.toNat).Id,(nth ((g220.c0.set g220.t5.toNat (⟨g220.t1,(nth g220.c0 g220.t5.toNat).fVe,(nth g220.c0 g220.t5.toNat).Kind,(nth g220.c0 g220.t5.toNat).Name⟩:EventT)).set g220.t5.toNat (⟨(nth (g220.c0.set g220.t5.toNat (⟨g220.t1,(nth g220.c0 g220.t5.toNat).fVe,(nth g220.c0 g220.t5.toNat).Kind,(nth g220.c0 g220.t5.toNat).Name⟩:EventT)) g220.t5.toNat).Id,(wI (g220.t1+1)),(nth (g220.c0.set g220.t5.toNat (⟨g220.t1,(nth g220.c0 g220.t5.toNat).fVe,(nth g220.c0 g220.t5.toNat).Kind,(nth g220.c0 g220.t5.toNat).Name⟩:EventT)) g220.t5.toNat).Kind,(nth (g220.c0.set g220.t5.toNat (⟨g220.t1,(nth g220.c0 g220.t5.toNat).fVe,(nth g220.c0 g220.t5.toNat).Kind,(nth g220.c0 g220.t5.toNat).Name⟩:EventT)) g220.t5.toNat).Name⟩:EventT)) g220.t5.toNat).fVe,(wI ((wI (g220.t1+1))+1)),(nth ((g220.c0.set g220.t5.toNat (⟨g220.t1,(nth g220.c0 g220.t5.toNat).fVe,(nth g220.c0 g220.t5.toNat).Kind,(nth g220.c0 g220.t5.toNat).Name⟩:EventT)).set g220.t5.toNat (⟨(nth (g220.c0.set g220.t5.toNat (⟨g220.t1,(nth g220.c0 g220.t5.toNat).fVe,(nth g220.c0 g220.t5.toNat).Kind,(nth g220.c0 g220.t5.toNat).Name⟩:EventT)) g220.t5.toNat).Id,(wI (g220.t1+1)),(nth (g220.c0.set g220.t5.toNat (⟨g220.t1,(nth g220.c0 g220.t5.toNat).fVe,(nth g220.c0 g220.t5.toNat).Kind,(nth g220.c0 g220.t5.toNat).Name⟩:EventT)) g220.t5.toNat).Kind,(nth (g220.c0.set g220.t5.toNat (⟨g220.t1,(nth g220.c0 g220.t5.toNat).fVe,(nth g220.c0 g220.t5.toNat).Kind,(nth g220.c0 g220.t5.toNat).Name⟩:EventT)) g220.t5.toNat).Name⟩:EventT)) g220.t5.toNat).Name⟩:EventT)).set g220.t5.toNat (⟨(nth (((g220.c0.set g220.t5.toNat (⟨g220.t1,(nth g220.c0 g220.t5.toNat).fVe,(nth g220.c0 g220.t5.toNat).Kind,(nth g220.c0 g220.t5.toNat).Name⟩:EventT)).set g220.t5.toNat (⟨(nth (g220.c0.set g220.t5.toNat (⟨g220.t1,(nth g220.c0 g220.t5.toNat).fVe,(nth g220.c0 g220.t5.toNat).Kind,(nth g220.c0 g220.t5.toNat).Name⟩:EventT)) g220.t5.toNat).Id,(wI (g220.t1+1)),(nth (g220.c0.set g220.t5.toNat (⟨g220.t1,(nth g220.c0 g220.t5.toNat).fVe,(nth g220.c0 g220.t5.toNat).Kind,(nth g220.c0 g220.t5.toNat).Name⟩:EventT)) g220.t5.toNat).Kind,(nth (g220.c0.set g220.t5.toNat (⟨g220.t1,(nth g220.c0 g220.t5.toNat).fVe,(nth g220.c0 g220.t5.toNat).Kind,(nth g220.c0 g220.t5.toNat).Name⟩:EventT)) g220.t5.toNat).Name⟩:EventT)).set g220.t5.toNat (⟨(nth ((g220.c0.set g220.t5.toNat (⟨g220.t1,(nth g220.c0 g220.t5.toNat).fVe,(nth g220.c0 g220.t5.toNat).Kind,(nth g220.c0 g220.t5.toNat).Name⟩:EventT)).set g220.t5.toNat (⟨(nth (g220.c0.set g220.t5.toNat (⟨g220.t1,(nth g220.c0 g220.t5.toNat).fVe,(nth g220.c0 g220.t5.toNat).Kind,(nth g220.c0 g220.t5.toNat).Name⟩:EventT)) g220.t5.toNat).Id,(wI (g220.t1+1)),(nth (g220.c0.set g220.t5.toNat (⟨g220.t1,(nth g220.c0 g220.t5.toNat).fVe,(nth g220.c0 g220.t5.toNat).Kind,(nth g220.c0 g220.t5.toNat).Name⟩:EventT)) g220.t5.toNat).Kind,(nth (g220.c0.set g220.t5.toNat (⟨g220.t1,(nth g220.c0 g220.t5.toNat).fVe,(nth g220.c0 g220.t5.toNat).Kind,(nth g220.c0 g220.t5.toNat).Name⟩:EventT)) g220.t5.toNat).Name⟩:EventT)) g220.t5.toNat).Id,(nth ((g220.c0.set g220.t5.toNat (⟨g220.t1,(nth g220.c0 g220.t5.toNat).fVe,(nth g220.c0 g220.t5.toNat).Kind,(nth g220.c0 g220.t5.toNat).Name⟩:EventT)).set g220.t5.toNat (⟨(nth (g220.c0.set g220.t5.toNat (⟨g220.t1,(nth g220.c0 g220.t5.toNat).fVe,(nth g220.c0 g220.t5.toNat).Kind,(nth g220.c0 g220.t5.toNat).Name⟩:EventT)) g220.t5.toNat).Id,(wI (g220.t1+1)),(nth (g220.c0.set g220.t5.toNat (⟨g220.t1,(nth g220.c0 g220.t5.toNat).fVe,(nth g220.c0 g220.t5.toNat).Kind,(nth g220.c0 g220.t5.toNat).Name⟩:EventT)) g220.t5.toNat).Kind,(nth (g220.c0.set g220.t5.toNat (⟨g220.t1,(nth g220.c0 g220.t5.toNat).fVe,(nth g220.c0 g220.t5.toNat).Kind,(nth g220.c0 g220.t5.toNat).Name⟩:EventT)) g220.t5.toNat).Name⟩:EventT)) g220.t5.toNat).fVe,(wI ((wI (g220.t1+1))+1)),(nth ((g220.c0.set g220.t5.toNat (⟨g220.t1,(nth g220.c0 g220.t5.toNat).fVe,(nth g220.c0 g220.t5.toNat).Kind,(nth g220.c0 g220.t5.toNat).Name⟩:EventT)).set g220.t5.toNat (⟨(nth (g220.c0.set g220.t5.toNat (⟨g220.t1,(nth g220.c0 g220.t5.toNat).fVe,(nth g220.c0 g220.t5.toNat).Kind,(nth g220.c0 g220.t5.toNat).Name⟩:EventT)) g220.t5.toNat).Id,(wI (g220.t1+1)),(nth (g220.c0.set g220.t5.toNat (⟨g220.t1,(nth g220.c0 g220.t5.toNat).fVe,(nth g220.c0 g220.t5.toNat).Kind,(nth g220.c0 g220.t5.toNat).Name⟩:EventT)) g220.t5.toNat).Kind,(nth (g220.c0.set g220.t5.toNat (⟨g220.t1,(nth g220.c0 g220.t5.toNat).fVe,(nth g220.c0 g220.t5.toNat).Kind,(nth g220.c0 g220.t5.toNat).Name⟩:EventT)) g220.t5.toNat).Name⟩:EventT)) g220.t5.toNat).Name⟩:EventT)) g220.t5.toNat).Id,(nth (((g220.c0.set g220.t5.toNat (⟨g220.t1,(nth g220.c0 g220.t5.toNat).fVe,(nth g220.c0 g220.t5.toNat).Kind,(nth g220.c0 g220.t5.toNat).Name⟩:EventT)).set g220.t5.toNat (⟨(nth (g220.c0.set g220.t5.toNat (⟨g220.t1,(nth g220.c0 g220.t5.toNat).fVe,(nth g220.c0 g220.t5.toNat).Kind,(nth g220.c0 g220.t5.toNat).Name⟩:EventT)) g220.t5.toNat).Id,(wI (g220.t1+1)),(nth (g220.c0.set g220.t5.toNat (⟨g220.t1,(nth g220.c0 g220.t5.toNat).fVe,(nth g220.c0 g220.t5.toNat).Kind,(nth g220.c0 g220.t5.toNat).Name⟩:EventT)) g220.t5.toNat).Kind,(nth (g220.c0.set g220.t5.toNat (⟨g220.t1,(nth g220.c0 g220.t5.toNat).fVe,(nth g220.c0 g220.t5.toNat).Kind,(nth g220.c0 g220.t5.toNat).Name⟩:EventT)) g220.t5.toNat).Name⟩:EventT)).set g220.t5.toNat (⟨(nth ((g220.c0.set g220.t5.toNat (⟨g220.t1,(nth g220.c0 g220.t5.toNat).fVe,(nth g220.c0 g220.t5.toNat).Kind,(nth g220.c0 g220.t5.toNat).Name⟩:EventT)).set g220.t5.toNat (⟨(nth (g220.c0.set g220.t5.toNat (⟨g220.t1,(nth g220.c0 g220.t5.toNat).fVe,(nth g220.c0 g220.t5.toNat).Kind,(nth g220.c0 g220.t5.toNat).Name⟩:EventT)) g220.t5.toNat).Id,(wI (g220.t1+1)),(nth (g220.c0.set g220.t5.toNat (⟨g220.t1,(nth g220.c0 g220.t5.toNat).fVe,(nth g220.c0 g220.t5.toNat).Kind,(nth g220.c0 g220.t5.toNat).Name⟩:EventT)) g220.t5.toNat).Kind,(nth (g220.c0.set g220.t5.toNat (⟨g220.t1,(nth g220.c0 g220.t5.toNat).fVe,(nth g220.c0 g220.t5.toNat).Kind,(nth g220.c0 g220.t5.toNat).Name⟩:EventT)) g220.t5.toNat).Name⟩:EventT)) g220.t5.toNat).Id,(nth ((g220.c0.set g220.t5.toNat (⟨g220.t1,(nth g220.c0 g220.t5.toNat).fVe,(nth g220.c0 g220.t5.toNat).Kind,(nth g220.c0 g220.t5.toNat).Name⟩:EventT)).set g220.t5.toNat (⟨(nth (g220.c0.set g220.t5.toNat (⟨g220.t1,(nth g220.c0 g220.t5.toNat).fVe,(nth g220.c0 g220.t5.toNat).Kind,(nth g220.c0 g220.t5.toNat).Name⟩:EventT)) g220.t5.toNat).Id,(wI (g220.t1+1)),(nth (g220.c0.set g220.t5.toNat (⟨g220.t1,(nth g220.c0 g220.t5.toNat).fVe,(nth g220.c0 g220.t5.toNat).Kind,(nth g220.c0 g220.t5.toNat).Name⟩:EventT)) g220.t5.toNat).Kind,(nth (g220.c0.set g220.t5.toNat (⟨g220.t1,(nth g220.c0 g220.t5.toNat).fVe,(nth g220.c0 g220.t5.toNat).Kind,(nth g220.c0 g220.t5.toNat).Name⟩:EventT)) g220.t5.toNat).Name⟩:EventT)) g220.t5.toNat).fVe,(wI ((wI (g220.t1+1))+1)),(nth ((g220.c0.set g220.t5.toNat (⟨g220.t1,(nth g220.c0 g220.t5.toNat).fVe,(nth g220.c0 g220.t5.toNat).Kind,(nth g220.c0 g220.t5.toNat).Name⟩:EventT)).set g220.t5.toNat (⟨(nth (g220.c0.set g220.t5.toNat (⟨g220.t1,(nth g220.c0 g220.t5.toNat).fVe,(nth g220.c0 g220.t5.toNat).Kind,(nth g220.c0 g220.t5.toNat).Name⟩:EventT)) g220.t5.toNat).Id,(wI (g220.t1+1)),(nth (g220.c0.set g220.t5.toNat (⟨g220.t1,(nth g220.c0 g220.t5.toNat).fVe,(nth g220.c0 g220.t5.toNat).Kind,(nth g220.c0 g220.t5.toNat).Name⟩:EventT)) g220.t5.toNat).Kind,(nth (g220.c0.set g220.t5.toNat (⟨g220.t1,(nth g220.c0 g220.t5.toNat).fVe,(nth g220.c0 g220.t5.toNat).Kind,(nth g220.c0 g220.t5.toNat).Name⟩:EventT)) g220.t5.toNat).Name⟩:EventT)) g220.t5.toNat).Name⟩:EventT)) g220.t5.toNat).fVe,(nth (((g220.c0.set g220.t5.toNat (⟨g220.t1,(nth g220.c0 g220.t5.toNat).fVe,(nth g220.c0 g220.t5.toNat).Kind,(nth g220.c0 g220.t5.toNat).Name⟩:EventT)).set g220.t5.toNat (⟨(nth (g220.c0.set g220.t5.toNat (⟨g220.t1,(nth g220.c0 g220.t5.toNat).fVe,(nth g220.c0 g220.t5.toNat).Kind,(nth g220.c0 g220.t5.toNat).Name⟩:EventT)) g220.t5.toNat).Id,(wI (g220.t1+1)),(nth (g220.c0.set g220.t5.toNat (⟨g220.t1,(nth g220.c0 g220.t5.toNat).fVe,(nth g220.c0 g220.t5.toNat).Kind,(nth g220.c0 g220.t5.toNat).Name⟩:EventT)) g220.t5.toNat).Kind,(nth (g220.c0.set g220.t5.toNat (⟨g220.t1,(nth g220.c0 g220.t5.toNat).fVe,(nth g220.c0 g220.t5.toNat).Kind,(nth g220.c0 g220.t5.toNat).Name⟩:EventT)) g220.t5.toNat).Name⟩:EventT)).set g220.t5.toNat (⟨(nth ((g220.c0.set g220.t5.toNat (⟨g220.t1,(nth g220.c0 g220.t5.toNat).fVe,(nth g220.c0 g220.t5.toNat).Kind,(nth g220.c0 g220.t5.toNat).Name⟩:EventT)).set g220.t5.toNat (⟨(nth (g220.c0.set g220.t5.toNat (⟨g220.t1,(nth g220.c0 g220.t5.toNat).fVe,(nth g220.c0 g220.t5.toNat).Kind,(nth g220.c0 g220.t5.toNat).Name⟩:EventT)) g220.t5.toNat).Id,(wI (g220.t1+1)),(nth (g220.c0.set g220.t5.toNat (⟨g220.t1,(nth g220.c0 g220.t5.toNat).fVe,(nth g220.c0 g220.t5.toNat).Kind,(nth g220.c0 g220.t5.toNat).Name⟩:EventT)) g220.t5.toNat).Kind,(nth (g220.c0.set g220.t5.toNat (⟨g220.t1,(nth g220.c0 g220.t5.toNat).fVe,(nth g220.c0 g220.t5.toNat).Kind,(nth g220.c0 g220.t5.toNat).Name⟩:EventT)) g220.t5.toNat).Name⟩:EventT)) g220.t5.toNat).Id,(nth ((g220.c0.set g220.t5.toNat (⟨g220.t1,(nth g220.c0 g220.t5.toNat).fVe,(nth g220.c0 g220.t5.toNat).Kind,(nth g220.c0 g220.t5.toNat).Name⟩:EventT)).set g220.t5.toNat (⟨(nth (g220.c0.set g220.t5.toNat (⟨g220.t1,(nth g220.c0 g220.t5.toNat).fVe,(nth g220.c0 g220.t5.toNat).Kind,(nth g220.c0 g220.t5.toNat).Name⟩:EventT)) g220.t5.toNat).Id,(wI (g220.t1+1)),(nth (g220.c0.set g220.t5.toNat (⟨g220.t1,(nth g220.c0 g220.t5.toNat).fVe,(nth g220.c0 g220.t5.toNat).Kind,(nth g220.c0 g220.t5.toNat).Name⟩:EventT)) g220.t5.toNat).Kind,(nth (g220.c0.set g220.t5.toNat (⟨g220.t1,(nth g220.c0 g220.t5.toNat).fVe,(nth g220.c0 g220.t5.toNat).Kind,(nth g220.c0 g220.t5.toNat).Name⟩:EventT)) g220.t5.toNat).Name⟩:EventT)) g220.t5.toNat).fVe,(wI ((wI (g220.t1+1))+1)),(nth ((g220.c0.set g220.t5.toNat (⟨g220.t1,(nth g220.c0 g220.t5.toNat).fVe,(nth g220.c0 g220.t5.toNat).Kind,(nth g220.c0 g220.t5.toNat).Name⟩:EventT)).set g220.t5.toNat (⟨(nth (g220.c0.set g220.t5.toNat (⟨g220.t1,(nth g220.c0 g220.t5.toNat).fVe,(nth g220.c0 g220.t5.toNat).Kind,(nth g220.c0 g220.t5.toNat).Name⟩:EventT)) g220.t5.toNat).Id,(wI (g220.t1+1)),(nth (g220.c0.set g220.t5.toNat (⟨g220.t1,(nth g220.c0 g220.t5.toNat).fVe,(nth g220.c0 g220.t5.toNat).Kind,(nth g220.c0 g220.t5.toNat).Name⟩:EventT)) g220.t5.toNat).Kind,(nth (g220.c0.set g220.t5.toNat (⟨g220.t1,(nth g220.c0 g220.t5.toNat).fVe,(nth g220.c0 g220.t5.toNat).Kind,(nth g220.c0 g220.t5.toNat).Name⟩:EventT)) g220.t5.toNat).Name⟩:EventT)) g220.t5.toNat).Name⟩:EventT)) g220.t5.toNat).Kind,c224⟩:EventT))⟩))))))
 else
  some (.inr (⟨g220.t1,g220.c0⟩)))
def zct (a0:(List EventT)) (a1:Int):Option (Int×(List EventT)) :=
 ((zjZ (zan) ⟨a1,0,a0⟩).bind λ y225 =>
 some (y225.t1,y225.c0))
def zem (a0:(List EventT)):Option Bool :=
 (if (decide (((a0.length:Nat):Int) > 0))=true then
  ((zel a0).bind λ c293 =>
  some c293)
 else
  some false)
def zdA (a0:EventT) (a1:EventT):Option Int :=
 ((zaC a0.fVe a1.fVe).bind λ c300 =>
 ((zaC a0.Kind a1.Kind).bind λ c301 =>
 ((zb9 a0.Name a1.Name).bind λ c304 =>
 ((zfq ([c300,c301,c304])).bind λ c309 =>
 some c309))))
structure zi where
 t13:Int
structure z8 where
 t6:Int
def zb (a0:(List EventT)) (a1:(List EventT)) (g297:zi):Option (zi⊕(z8⊕Unit)) :=
 (if (decide (g297.t13 < ((a0.length:Nat):Int)))=true then
  (zjP (0≤g297.t13∧g297.t13 < (a0.length:Int)) <|
  (if (decide (g297.t13 ≥ ((a1.length:Nat):Int)))=true then
   some (.inr (.inl (⟨1⟩)))
  else
   (zjP (0≤g297.t13∧g297.t13 < (a1.length:Int)) <|
   ((zdA (nth a0 g297.t13.toNat) (nth a1 g297.t13.toNat)).bind λ c311 =>
   (if (c311 != 0)=true then
    some (.inr (.inl (⟨c311⟩)))
   else
    some (.inl ⟨(wI (g297.t13+1))⟩))))))
 else
  some (.inr (.inr ())))
def zn (a0:(List EventT)) (a1:(List EventT)):Option Int :=
 ((zjZ (zb a0 a1) ⟨0⟩).bind λ y312 =>
 match y312 with
 | .inl p313 =>
  some p313.t6
 | .inr p314 =>
  (if (decide (((a0.length:Nat):Int) < ((a1.length:Nat):Int)))=true then
   some (-1)
  else
   some 0))
def zaX (a0:(List EventT)) (a1:(List EventT)):Option Int :=
 ((zn a0 a1).bind λ c315 =>
 some c315)
structure BranchT where
 fEv:(List EventT)
 deriving DecidableEq,Inhabited
structure TellingsT where
 fBr:(List BranchT)
 deriving DecidableEq,Inhabited
def zao (a0:(List EventT)) (a1:(List EventT)):Option Bool :=
 ((zaE a0 a1).bind λ c346 =>
 some (c346.2 == ((a1.length:Nat):Int)))
structure zap where
 t12:Int
structure zcD where
 t26:Int
structure zbh where
 t52:Bool
def zaq (a0:TellingsT) (g342:zap) (g356:zcD):Option (zcD⊕(Unit⊕Unit)) :=
 (if (decide (g356.t26 < (((a0.fBr.take g342.t12.toNat).length:Nat):Int)))=true then
  (zjP (0≤g356.t26∧g356.t26 < ((a0.fBr.take g342.t12.toNat).length:Int)) <|
  ((zaE ((nth (a0.fBr.take g342.t12.toNat) g356.t26.toNat).fEv) ((nth a0.fBr g342.t12.toNat).fEv)).bind λ c360 =>
  (((if (decide (c360.1 ≥ 0))=true then
    some (⟨true⟩:zbh)
   else
    ((zao ((nth a0.fBr g342.t12.toNat).fEv) ((nth (a0.fBr.take g342.t12.toNat) g356.t26.toNat).fEv)).bind λ c361 =>
    (if c361=true then
     some (⟨true⟩:zbh)
    else
     some (⟨(decide (g356.t26 > g342.t12))⟩:zbh)))):Option zbh).bind λ p362 =>
  (if p362.t52=true then
   some (.inr (.inl ()))
  else
   some (.inl ⟨(wI (g356.t26+1))⟩)))))
 else
  some (.inr (.inr ())))
def zar (a0:TellingsT) (g342:zap):Option (zap⊕(Unit⊕Unit)) :=
 (if (decide (g342.t12 < ((a0.fBr.length:Nat):Int)))=true then
  (zjP (0≤g342.t12∧g342.t12 < (a0.fBr.length:Int)) <|
  ((zdx ((nth a0.fBr g342.t12.toNat).fEv)).bind λ c355 =>
  (if (!c355)=true then
   some (.inr (.inl ()))
  else
   (zjP (0≤g342.t12∧g342.t12≤(a0.fBr.length:Int)) <|
   ((zjZ (zaq a0 g342) ⟨0⟩).bind λ y363 =>
   match y363 with
   | .inl p364 =>
    some (.inr (.inl ()))
   | .inr p365 =>
    some (.inl ⟨(wI (g342.t12+1))⟩))))))
 else
  some (.inr (.inr ())))
def zZ (a0:TellingsT):Option Bool :=
 ((zjZ (zar a0) ⟨0⟩).bind λ y366 =>
 match y366 with
 | .inl p367 =>
  some false
 | .inr p368 =>
  some (decide (((a0.fBr.length:Nat):Int)≤12)))
structure zaW where
 t13:Int
def zF (a0:(List EventT)) (a1:(List EventT)) (g375:zaW):Option (zaW⊕(Unit⊕Unit)) :=
 (if (decide (g375.t13 < ((a0.length:Nat):Int)))=true then
  (zjP (0≤g375.t13∧g375.t13 < (a0.length:Int)) <|
  (zjP (0≤g375.t13∧g375.t13 < (a1.length:Int)) <|
  (if (!((((nth a0 g375.t13.toNat).Id) == ((nth a1 g375.t13.toNat).Id)) && ((((nth a0 g375.t13.toNat).fVe) == ((nth a1 g375.t13.toNat).fVe)) && ((((nth a0 g375.t13.toNat).Kind) == ((nth a1 g375.t13.toNat).Kind)) && (((nth a0 g375.t13.toNat).Name).toList == ((nth a1 g375.t13.toNat).Name).toList)))))=true then
   some (.inr (.inl ()))
  else
   some (.inl ⟨(wI (g375.t13+1))⟩))))
 else
  some (.inr (.inr ())))
def zbD (a0:(List EventT)) (a1:(List EventT)):Option Bool :=
 (if (((a0.length:Nat):Int) != ((a1.length:Nat):Int))=true then
  some false
 else
  ((zjZ (zF a0 a1) ⟨0⟩).bind λ y376 =>
  match y376 with
  | .inl p377 =>
   some false
  | .inr p378 =>
   some true))
def zdW (a0:(List EventT)) (a1:(List EventT)):Option Bool :=
 (if (decide (((a0.length:Nat):Int)≤((a1.length:Nat):Int)))=true then
  (zjP (0≤((a0.length:Nat):Int)∧((a0.length:Nat):Int)≤(a1.length:Int)) <|
  ((zbD a0 (a1.take a0.length)).bind λ c379 =>
  some c379))
 else
  some false)
structure zas where
 t14:Int
structure zcE where
 t28:Int
structure zc0 where
 t44:Bool
def zat (a0:TellingsT) (g371:zas) (g389:zcE):Option (zcE⊕(Unit⊕Unit)) :=
 (if (decide (g389.t28 < (((a0.fBr.take g371.t14.toNat).length:Nat):Int)))=true then
  (zjP (0≤g389.t28∧g389.t28 < ((a0.fBr.take g371.t14.toNat).length:Int)) <|
  ((((zaX ((nth (a0.fBr.take g371.t14.toNat) g389.t28.toNat).fEv) ((nth a0.fBr g371.t14.toNat).fEv)).bind λ c393 =>
   (if (decide (c393 ≥ 0))=true then
    some (⟨true⟩:zc0)
   else
    ((zdW ((nth (a0.fBr.take g371.t14.toNat) g389.t28.toNat).fEv) ((nth a0.fBr g371.t14.toNat).fEv)).bind λ c394 =>
    some (⟨c394⟩:zc0)))):Option zc0).bind λ p395 =>
  (if p395.t44=true then
   some (.inr (.inl ()))
  else
   some (.inl ⟨(wI (g389.t28+1))⟩))))
 else
  some (.inr (.inr ())))
def zau (a0:TellingsT) (g371:zas):Option (zas⊕(Unit⊕Unit)) :=
 (if (decide (g371.t14 < ((a0.fBr.length:Nat):Int)))=true then
  (zjP (0≤g371.t14∧g371.t14 < (a0.fBr.length:Int)) <|
  ((zem ((nth a0.fBr g371.t14.toNat).fEv)).bind λ c388 =>
  (if (!c388)=true then
   some (.inr (.inl ()))
  else
   (zjP (0≤g371.t14∧g371.t14≤(a0.fBr.length:Int)) <|
   ((zjZ (zat a0 g371) ⟨0⟩).bind λ y396 =>
   match y396 with
   | .inl p397 =>
    some (.inr (.inl ()))
   | .inr p398 =>
    some (.inl ⟨(wI (g371.t14+1))⟩))))))
 else
  some (.inr (.inr ())))
def zbs (a0:TellingsT):Option Bool :=
 (if (decide (((a0.fBr.length:Nat):Int) > 12))=true then
  some false
 else
  ((zjZ (zau a0) ⟨0⟩).bind λ y399 =>
  match y399 with
  | .inl p400 =>
   some false
  | .inr p401 =>
   some true))
def zeQ (a0:BranchT) (a1:BranchT):Option Bool :=
 ((zeP a0.fEv a1.fEv).bind λ c405 =>
 (if (!c405)=true then
  some false
 else
  some true))
structure zd4 where
 t5:Int
def zbt (a0:(List BranchT)) (a1:(List BranchT)) (g404:zd4):Option (zd4⊕(Unit⊕Unit)) :=
 (if (decide (g404.t5 < ((a0.length:Nat):Int)))=true then
  (zjP (0≤g404.t5∧g404.t5 < (a0.length:Int)) <|
  (zjP (0≤g404.t5∧g404.t5 < (a1.length:Int)) <|
  ((zeQ (nth a0 g404.t5.toNat) (nth a1 g404.t5.toNat)).bind λ c407 =>
  (if (!c407)=true then
   some (.inr (.inl ()))
  else
   some (.inl ⟨(wI (g404.t5+1))⟩)))))
 else
  some (.inr (.inr ())))
def zen (a0:(List BranchT)) (a1:(List BranchT)):Option Bool :=
 (if (((a0.length:Nat):Int) != ((a1.length:Nat):Int))=true then
  some false
 else
  ((zjZ (zbt a0 a1) ⟨0⟩).bind λ y408 =>
  match y408 with
  | .inl p409 =>
   some false
  | .inr p410 =>
   some true))
def zci (a0:TellingsT) (a1:TellingsT):Option Bool :=
 ((zen a0.fBr a1.fBr).bind λ c411 =>
 (if (!c411)=true then
  some false
 else
  some true))
end Go.TL
namespace Go.TL
end Go.TL

import Derived.Test.YteonagfnhdlfcaaGreatDoorG0TlCore
import Derived.Test.YteonagfnhdlfcaaGreatDoorG18PlTrim
set_option linter.unusedSimpArgs false
set_option linter.unusedVariables false
noncomputable section
namespace Go.TL
structure zsC where
 Ack:Bool
 No:Int
 Text:ByteArray
 deriving DecidableEq,Inhabited
def zaT (a0:Int) (a1:Int) (a2:Int):Option Bool :=
 (if (decide (a0 ≥ a1))=true then
  some (decide (a0≤a2))
 else
  some false)
def zeu (a0:Int) (a1:Int) (a2:Int):Option Bool :=
 (if (decide (a0 ≥ a1))=true then
  some (decide (a0≤a2))
 else
  some false)
structure zAd where
 code:(List Int)
 at_:Int
 seed:Int
 deriving DecidableEq,Inhabited
structure zB4 where
 Now:Int
 Fine:Bool
 deriving DecidableEq,Inhabited
end Go.TL
namespace Go.TL
structure zul where
 Kind:Int
 K:Int
 Text:ByteArray
 deriving DecidableEq,Inhabited
def zaY (a0:(List ByteArray)):Option (List ByteArray) :=
 zlf (a0.length * 16≤140737488355328) (some a0)
structure zgF where
 t0:Int
 t3:ByteArray
structure ziN where
 t3:ByteArray
def ze3 (g152:zgF):Option (zgF⊕ziN) :=
 (if (decide (g152.t0 > 0))=true then
  (zlf ((ztL ([(wB (wI (48+(g152.t0.tmod 10))))])).size+g152.t3.size≤9223372036854775807) <|
  some (.inl ⟨(wI (g152.t0.tdiv 10)),((ztL ([(wB (wI (48+(g152.t0.tmod 10))))]))++g152.t3)⟩))
 else
  some (.inr (⟨g152.t3⟩)))
def zbb (a0:Int):Option ByteArray :=
 (if (decide (a0≤0))=true then
  some (⟨#[109,48]⟩:ByteArray)
 else
  ((zln (ze3) ⟨a0,ByteArray.empty⟩).bind λ y153 =>
  (zlf ((⟨#[109]⟩:ByteArray).size+y153.t3.size≤9223372036854775807) <|
  some ((⟨#[109]⟩:ByteArray)++y153.t3))))
end Go.TL
namespace Go.TL
structure zx7 where
 Name:ByteArray
 fVe:Int
 Note:ByteArray
 deriving DecidableEq,Inhabited
structure zf9 where
 t3:Int
structure zbf where
 t32:Bool
def zc7 (a0:ByteArray) (g14:zf9):Option (zf9⊕(Unit⊕Unit)) :=
 (if (decide (g14.t3 < (a0.size:Int)))=true then
  (((zlf (0≤g14.t3∧g14.t3 < (a0.size:Int)) <|
   (if (decide ((bt a0 g14.t3) ≥ 97))=true then
    (zlf (0≤g14.t3∧g14.t3 < (a0.size:Int)) <|
    (if (decide ((bt a0 g14.t3)≤122))=true then
     some (⟨false⟩:zbf)
    else
     (zlf (0≤g14.t3∧g14.t3 < (a0.size:Int)) <|
     (if (decide ((bt a0 g14.t3) ≥ 48))=true then
      (zlf (0≤g14.t3∧g14.t3 < (a0.size:Int)) <|
      some (⟨(!(decide ((bt a0 g14.t3)≤57)))⟩:zbf))
     else
      some (⟨true⟩:zbf)))))
   else
    (zlf (0≤g14.t3∧g14.t3 < (a0.size:Int)) <|
    (if (decide ((bt a0 g14.t3) ≥ 48))=true then
     (zlf (0≤g14.t3∧g14.t3 < (a0.size:Int)) <|
     some (⟨(!(decide ((bt a0 g14.t3)≤57)))⟩:zbf))
    else
     some (⟨true⟩:zbf))))):Option zbf).bind λ p16 =>
  (if p16.t32=true then
   some (.inr (.inl ()))
  else
   some (.inl ⟨(wI (g14.t3+1))⟩)))
 else
  some (.inr (.inr ())))
def zea (a0:ByteArray):Option Bool :=
 ((zln (zc7 a0) ⟨0⟩).bind λ y17 =>
 match y17 with
 | .inl p18 =>
  some false
 | .inr p19 =>
  some (decide ((a0.size:Int)≤12)))
def zfE (a0:Int):Option Bool :=
 ((zaT a0 0 1000000).bind λ c21 =>
 some c21)
def zev (a0:ByteArray) (a1:ByteArray):Option ByteArray :=
 zlf (a0.size≤9223372036854775807∧a1.size < 4294967281∧a1.data.toList.all (λ b=>decide (b.toNat < 128))=true) (some (zv8 a0 a1))
def zbc (a0:ByteArray):Option Bool :=
 (if (decide ((a0.size:Int)≤12))=true then
  ((zev a0 (⟨#[97,98,99,100,101,102,103,104,105,106,107,108,109,110,111,112,113,114,115,116,117,118,119,120,121,122,48,49,50,51,52,53,54,55,56,57]⟩:ByteArray)).bind λ c33 =>
  some (c33.toList == ByteArray.empty.toList))
 else
  some false)
def zc8 (a0:Int):Option Bool :=
 ((zeu a0 0 1000000).bind λ c35 =>
 some c35)
def zfi (a0:Int):Option Bool :=
 some (a0 != a0)
def zaU (a0:Int) (a1:Int):Option Int :=
 ((zfi a0).bind λ c105 =>
 ((zfi a1).bind λ c106 =>
 (if c105=true then
  (if c106=true then
   some 0
  else
   some (-1))
 else
  (if c106=true then
   some 1
  else
   (if (decide (a0 < a1))=true then
    some (-1)
   else
    (if (decide (a0 > a1))=true then
     some 1
    else
     some 0))))))
def zaA (a0:ByteArray):Option Bool :=
 some (!(a0.toList == a0.toList))
def zch (a0:ByteArray) (a1:ByteArray):Option Int :=
 ((zaA a0).bind λ c108 =>
 ((zaA a1).bind λ c109 =>
 (if c108=true then
  (if c109=true then
   some 0
  else
   some (-1))
 else
  (if c109=true then
   some 1
  else
   (if (sLt a0 a1)=true then
    some (-1)
   else
    (if (!(sLt a0 a1 || a0.toList == a1.toList))=true then
     some 1
    else
     some 0))))))
structure zgy where
 t8:Int
structure zhZ where
 t2:Int
def zdL (a0:(List Int)) (g111:zgy):Option (zgy⊕(zhZ⊕Unit)) :=
 (if (decide (g111.t8 < ((a0.length:Nat):Int)))=true then
  (zlf (0≤g111.t8∧g111.t8 < (a0.length:Int)) <|
  (if ((nth a0 g111.t8.toNat) != 0)=true then
   some (.inr (.inl (⟨(nth a0 g111.t8.toNat)⟩)))
  else
   some (.inl ⟨(wI (g111.t8+1))⟩)))
 else
  some (.inr (.inr ())))
def zga (a0:(List Int)):Option Int :=
 ((zln (zdL a0) ⟨0⟩).bind λ y112 =>
 match y112 with
 | .inl p113 =>
  some p113.t2
 | .inr p114 =>
  some 0)
def zgz (a0:Int):Option Bool :=
 ((zeu a0 0 9).bind λ c150 =>
 some c150)
end Go.TL
namespace Go.TL
structure EventT where
 Id:Int
 fVe:Int
 Kind:Int
 Name:ByteArray
 deriving DecidableEq,Inhabited
def zfS (a0:EventT) (a1:Int):Option Int :=
 (if (decide ((wI (a1 - (a0.Name.size:Int))) < 0))=true then
  some (-1)
 else
  some (wI (a1 - (a0.Name.size:Int))))
structure ze4 where
 t1:Int
 t5:Int
structure zhd where
 t1:Int
def zbW (a0:(List EventT)) (g1:ze4):Option (ze4⊕(Unit⊕zhd)) :=
 (if (decide (g1.t5 < ((a0.length:Nat):Int)))=true then
  (zlf (0≤g1.t5∧g1.t5 < (a0.length:Int)) <|
  ((zfS (nth a0 g1.t5.toNat) g1.t1).bind λ c3 =>
  (if (decide (c3 < 0))=true then
   some (.inr (.inl ()))
  else
   some (.inl ⟨c3,(wI (g1.t5+1))⟩))))
 else
  some (.inr (.inr (⟨g1.t1⟩))))
def zfj (a0:(List EventT)) (a1:Int):Option Int :=
 (if (decide ((wI (a1 - ((a0.length:Nat):Int))) < 0))=true then
  some (-1)
 else
  ((zln (zbW a0) ⟨(wI (a1 - ((a0.length:Nat):Int))),0⟩).bind λ y4 =>
  match y4 with
  | .inl p5 =>
   some (-1)
  | .inr p6 =>
   some p6.t1))
def zfT (a0:EventT):Option EventT :=
 some a0
structure ze5 where
 t4:Int
 c0:(List EventT)
structure zhe where
 c0:(List EventT)
def zbX (a0:(List EventT)) (g9:ze5):Option (ze5⊕zhe) :=
 (if (decide (g9.t4 < ((a0.length:Nat):Int)))=true then
  (zlf (0≤g9.t4∧g9.t4 < (a0.length:Int)) <|
  ((zfT (nth a0 g9.t4.toNat)).bind λ c11 =>
  (zlf (0≤g9.t4∧g9.t4 < ((g9.c0.length:Nat):Int)) <|
  some (.inl ⟨(wI (g9.t4+1)),(g9.c0.set g9.t4.toNat c11)⟩))))
 else
  some (.inr (⟨g9.c0⟩)))
def zfk (a0:(List EventT)):Option (List EventT) :=
 (zlf (0≤((a0.length:Nat):Int)∧((a0.length:Nat):Int) * 40≤281474976710656∧((a0.length:Nat):Int)≤9223372036854775807) <|
 ((zln (zbX a0) ⟨0,(List.replicate a0.length (⟨0,0,0,ByteArray.empty⟩:EventT))⟩).bind λ y12 =>
 some y12.c0))
structure zlm where
 fSt:Int
 Next:Int
 fCa:Bool
 Done:Int
 fSi:(List ByteArray)
 fTi:(List ByteArray)
 deriving DecidableEq,Inhabited
def zgA:Option zlm :=
 some (⟨0,1,false,0,[],[]⟩:zlm)
def zew (a0:EventT):Option Bool :=
 ((zaT a0.Id 1 1000).bind λ c23 =>
 (if c23=true then
  ((zaT a0.fVe 0 1000000).bind λ c24 =>
  (if c24=true then
   ((zaT a0.Kind 1 6).bind λ c25 =>
   (if c25=true then
    ((zea a0.Name).bind λ c32 =>
    some c32)
   else
    some false))
  else
   some false))
 else
  some false))
def zgp (a0:zlm):Option zlm :=
 (zlf (a0.fSi.length * 16≤140737488355328) <|
 (zlf (a0.fTi.length * 16≤140737488355328) <|
 some (⟨a0.fSt,a0.Next,a0.fCa,a0.Done,(([])++a0.fSi),(([])++a0.fTi)⟩:zlm)))
structure zgB where
 t9:Int
structure zh0 where
 t4:Int
def zdM (a0:(List ByteArray)) (a1:ByteArray) (g36:zgB):Option (zgB⊕(zh0⊕Unit)) :=
 (if (decide (g36.t9 < ((a0.length:Nat):Int)))=true then
  (zlf (0≤g36.t9∧g36.t9 < (a0.length:Int)) <|
  (if ((nth a0 g36.t9.toNat).toList == a1.toList)=true then
   some (.inr (.inl (⟨g36.t9⟩)))
  else
   some (.inl ⟨(wI (g36.t9+1))⟩)))
 else
  some (.inr (.inr ())))
def zbv (a0:(List ByteArray)) (a1:ByteArray):Option Int :=
 ((zln (zdM a0 a1) ⟨0⟩).bind λ y37 =>
 match y37 with
 | .inl p38 =>
  some p38.t4
 | .inr p39 =>
  some (-1))
structure zgG where
 t6:Bool
 t15:Int
 c0:(List ByteArray)
structure ziO where
 t6:Bool
 c0:(List ByteArray)
structure ze6 where
 t28:Bool
def zR (a0:(List ByteArray)) (a1:ByteArray) (g43:zgG):Option (zgG⊕ziO) :=
 (if (decide (g43.t15 < ((a0.length:Nat):Int)))=true then
  (zlf (0≤g43.t15∧g43.t15 < (a0.length:Int)) <|
  (if ((nth a0 g43.t15.toNat).toList == a1.toList)=true then
   some (.inl ⟨g43.t6,(wI (g43.t15+1)),g43.c0⟩)
  else
   (((if (!g43.t6)=true then
     some (⟨(!(sLt (nth a0 g43.t15.toNat) a1 || (nth a0 g43.t15.toNat).toList == a1.toList))⟩:ze6)
    else
     some (⟨false⟩:ze6)):Option ze6).bind λ p45 =>
   (if p45.t28=true then
    (zlf ((g43.c0.length+1) * 16≤140737488355328) <|
    (zlf (((g43.c0.length+1)+1) * 16≤140737488355328) <|
    some (.inl ⟨true,(wI (g43.t15+1)),((g43.c0++([a1]))++([(nth a0 g43.t15.toNat)]))⟩)))
   else
    (zlf ((g43.c0.length+1) * 16≤140737488355328) <|
    some (.inl ⟨g43.t6,(wI (g43.t15+1)),(g43.c0++([(nth a0 g43.t15.toNat)]))⟩))))))
 else
  some (.inr (⟨g43.t6,g43.c0⟩)))
def zbP (a0:(List ByteArray)) (a1:ByteArray):Option (List ByteArray) :=
 ((zbv a0 a1).bind λ c42 =>
 ((zln (zR a0 a1) ⟨(decide (c42 ≥ 0)),0,[]⟩).bind λ y46 =>
 (if (!y46.t6)=true then
  (zlf ((y46.c0.length+1) * 16≤140737488355328) <|
  some (y46.c0++([a1])))
 else
  some y46.c0)))
structure zbY where
 t11:Int
structure ze7 where
 t23:Int
structure zbw where
 t44:Bool
def zbZ (a0:(List ByteArray)) (g51:zbY) (a1:Bool) (g60:ze7):Option (ze7⊕(Unit⊕Unit)) :=
 (if (decide (g60.t23 < (((a0.take g51.t11.toNat).length:Nat):Int)))=true then
  (zlf (0≤g60.t23∧g60.t23 < ((a0.take g51.t11.toNat).length:Int)) <|
  (((if ((nth (a0.take g51.t11.toNat) g60.t23.toNat).toList == (nth a0 g51.t11.toNat).toList)=true then
    some (⟨true⟩:zbw)
   else
    (if a1=true then
     (if (g60.t23 == (wI (g51.t11 - 1)))=true then
      some (⟨(!(sLt (nth (a0.take g51.t11.toNat) g60.t23.toNat) (nth a0 g51.t11.toNat) || (nth (a0.take g51.t11.toNat) g60.t23.toNat).toList == (nth a0 g51.t11.toNat).toList))⟩:zbw)
     else
      some (⟨false⟩:zbw))
    else
     some (⟨false⟩:zbw))):Option zbw).bind λ p62 =>
  (if p62.t44=true then
   some (.inr (.inl ()))
  else
   some (.inl ⟨(wI (g60.t23+1))⟩))))
 else
  some (.inr (.inr ())))
def zb0 (a0:(List ByteArray)) (a1:Bool) (g51:zbY):Option (zbY⊕(Unit⊕Unit)) :=
 (if (decide (g51.t11 < ((a0.length:Nat):Int)))=true then
  (zlf (0≤g51.t11∧g51.t11 < (a0.length:Int)) <|
  ((zea (nth a0 g51.t11.toNat)).bind λ c59 =>
  (if (!c59)=true then
   some (.inr (.inl ()))
  else
   (zlf (0≤g51.t11∧g51.t11≤(a0.length:Int)) <|
   ((zln (zbZ a0 g51 a1) ⟨0⟩).bind λ y63 =>
   match y63 with
   | .inl p64 =>
    some (.inr (.inl ()))
   | .inr p65 =>
    some (.inl ⟨(wI (g51.t11+1))⟩))))))
 else
  some (.inr (.inr ())))
def zdN (a0:(List ByteArray)) (a1:Bool):Option Bool :=
 ((zln (zb0 a0 a1) ⟨0⟩).bind λ y66 =>
 match y66 with
 | .inl p67 =>
  some false
 | .inr p68 =>
  some (decide (((a0.length:Nat):Int)≤30)))
structure zaG where
 t30:Bool
def zc9 (a0:zlm):Option Bool :=
 ((((zaT a0.Next 1 1001).bind λ c49 =>
  (if (!c49)=true then
   some (⟨true⟩:zaG)
  else
   ((zaT a0.Done 0 1000).bind λ c50 =>
   (if (!c50)=true then
    some (⟨true⟩:zaG)
   else
    ((zdN a0.fSi false).bind λ c69 =>
    (if (!c69)=true then
     some (⟨true⟩:zaG)
    else
     ((zdN a0.fTi true).bind λ c70 =>
     (if (!c70)=true then
      some (⟨true⟩:zaG)
     else
      ((zaT a0.fSt 0 2).bind λ c71 =>
      some (⟨(!c71)⟩:zaG)))))))))):Option zaG).bind λ p72 =>
 (if p72.t30=true then
  some false
 else
  (if (a0.fSt == 0)=true then
   (if (a0.Next == 1)=true then
    (if (!a0.fCa)=true then
     (if (a0.Done == 0)=true then
      (if (((a0.fSi.length:Nat):Int) == 0)=true then
       some (((a0.fTi.length:Nat):Int) == 0)
      else
       some false)
     else
      some false)
    else
     some false)
   else
    some false)
  else
   some (decide (a0.Next > 1)))))
structure zaZ where
 t29:Bool
structure z7 where
 b0_0:Int
 b0_2:Bool
 b0_3:Int
 c2:(List ByteArray)
 c3:(List ByteArray)
structure zdt where
 t53:Bool
def zbQ (a0:zlm) (a1:EventT):Option (zlm×Bool) :=
 ((((zew a1).bind λ c33 =>
  (if (!c33)=true then
   some (⟨true⟩:zaZ)
  else
   (if (a1.Id != a0.Next)=true then
    some (⟨true⟩:zaZ)
   else
    (if (!((a1.Kind == 1) == (a0.fSt == 0)))=true then
     some (⟨true⟩:zaZ)
    else
     some (⟨(a0.fSt == 2)⟩:zaZ))))):Option zaZ).bind λ p34 =>
 (if p34.t29=true then
  some (a0,false)
 else
  ((zgp a0).bind λ c35 =>
  (((if (a1.Kind == 1)=true then
    some (.inl (⟨1,c35.fCa,c35.Done,c35.fSi,c35.fTi⟩:z7))
   else
    (if (a1.Kind == 2)=true then
     ((((zbv c35.fSi a1.Name).bind λ c40 =>
      (if (decide (c40 ≥ 0))=true then
       some (⟨true⟩:zdt)
      else
       some (⟨(((c35.fSi.length:Nat):Int) == 30)⟩:zdt))):Option zdt).bind λ p41 =>
     (if p41.t53=true then
      some (.inr (c35,false))
     else
      (zlf ((c35.fSi.length+1) * 16≤140737488355328) <|
      some (.inl (⟨c35.fSt,c35.fCa,c35.Done,(c35.fSi++([a1.Name])),c35.fTi⟩:z7)))))
    else
     (if (a1.Kind == 3)=true then
      some (.inl (⟨c35.fSt,c35.fCa,(wI (c35.Done+1)),c35.fSi,c35.fTi⟩:z7))
     else
      (if (a1.Kind == 4)=true then
       ((zbP c35.fTi a1.Name).bind λ c47 =>
       some (.inl (⟨c35.fSt,c35.fCa,c35.Done,c35.fSi,c47⟩:z7)))
      else
       (if (a1.Kind == 5)=true then
        (if c35.fCa=true then
         some (.inr (c35,false))
        else
         some (.inl (⟨c35.fSt,true,c35.Done,c35.fSi,c35.fTi⟩:z7)))
       else
        some (.inl (⟨2,c35.fCa,c35.Done,c35.fSi,[]⟩:z7))))))):Option (z7⊕(zlm×Bool))).bind λ q=>match q with
  | .inl p48 =>
   ((zc9 (⟨p48.b0_0,(wI (c35.Next+1)),p48.b0_2,p48.b0_3,p48.c2,p48.c3⟩:zlm)).bind λ c73 =>
   some ((⟨p48.b0_0,(wI (c35.Next+1)),p48.b0_2,p48.b0_3,p48.c2,p48.c3⟩:zlm),c73))
  | .inr v=>some v))))
structure zgW where
 t12:Int
 b1_0:Int
 b1_1:Int
 b1_2:Bool
 b1_3:Int
 b1_4:(List ByteArray)
 b1_5:(List ByteArray)
structure zi5 where
 t3:Int
 b0_0:Int
 b0_1:Int
 b0_2:Bool
 b0_3:Int
 b0_4:(List ByteArray)
 b0_5:(List ByteArray)
structure zi6 where
 b1_0:Int
 b1_1:Int
 b1_2:Bool
 b1_3:Int
 b1_4:(List ByteArray)
 b1_5:(List ByteArray)
def zaV (a0:(List EventT)) (g22:zgW):Option (zgW⊕(zi5⊕zi6)) :=
 (if (decide (g22.t12 < ((a0.length:Nat):Int)))=true then
  (zlf (0≤g22.t12∧g22.t12 < (a0.length:Int)) <|
  ((zbQ (⟨g22.b1_0,g22.b1_1,g22.b1_2,g22.b1_3,g22.b1_4,g22.b1_5⟩:zlm) (nth a0 g22.t12.toNat)).bind λ c75 =>
  (if (!c75.2)=true then
   some (.inr (.inl (⟨g22.t12,g22.b1_0,g22.b1_1,g22.b1_2,g22.b1_3,g22.b1_4,g22.b1_5⟩)))
  else
   some (.inl ⟨(wI (g22.t12+1)),c75.1.fSt,c75.1.Next,c75.1.fCa,c75.1.Done,c75.1.fSi,c75.1.fTi⟩))))
 else
  some (.inr (.inr (⟨g22.b1_0,g22.b1_1,g22.b1_2,g22.b1_3,g22.b1_4,g22.b1_5⟩))))
def zci (a0:(List EventT)):Option (zlm×Int) :=
 ((zgA).bind λ c21 =>
 ((zln (zaV a0) ⟨0,c21.fSt,c21.Next,c21.fCa,c21.Done,[],[]⟩).bind λ y76 =>
 match y76 with
 | .inl p77 =>
  some ((⟨p77.b0_0,p77.b0_1,p77.b0_2,p77.b0_3,p77.b0_4,p77.b0_5⟩:zlm),p77.t3)
 | .inr p78 =>
  some ((⟨p78.b1_0,p78.b1_1,p78.b1_2,p78.b1_3,p78.b1_4,p78.b1_5⟩:zlm),((a0.length:Nat):Int))))
structure zeg where
 t8:Int
structure zex where
 t26:Bool
def zbF (a0:(List EventT)) (g15:zeg):Option (zeg⊕(Unit⊕Unit)) :=
 (if (decide (g15.t8 < ((a0.length:Nat):Int)))=true then
  (((if (decide (g15.t8 > 0))=true then
    (zlf (0≤(wI (g15.t8 - 1))∧(wI (g15.t8 - 1)) < (a0.length:Int)) <|
    (zlf (0≤g15.t8∧g15.t8 < (a0.length:Int)) <|
    some (⟨(decide (((nth a0 ((wI (g15.t8 - 1)).toNat)).fVe) > ((nth a0 g15.t8.toNat).fVe)))⟩:zex)))
   else
    some (⟨false⟩:zex)):Option zex).bind λ p17 =>
  (if p17.t26=true then
   some (.inr (.inl ()))
  else
   some (.inl ⟨(wI (g15.t8+1))⟩)))
 else
  some (.inr (.inr ())))
def zey (a0:(List EventT)):Option Bool :=
 ((zln (zbF a0) ⟨0⟩).bind λ y18 =>
 match y18 with
 | .inl p19 =>
  some false
 | .inr p20 =>
  ((zci a0).bind λ c79 =>
  (if (c79.2 == ((a0.length:Nat):Int))=true then
   some (decide (((a0.length:Nat):Int)≤60))
  else
   some false)))
def zdR (a0:(List EventT)):Option Bool :=
 (if (decide (((a0.length:Nat):Int) > 0))=true then
  ((zey a0).bind λ c81 =>
  some c81)
 else
  some false)
def zfl (a0:EventT) (a1:EventT):Option Int :=
 (if (a0.fVe != a1.fVe)=true then
  (if (decide (a0.fVe < a1.fVe))=true then
   some (-1)
  else
   some 1)
 else
  (if (a0.Kind != a1.Kind)=true then
   (if (decide (a0.Kind < a1.Kind))=true then
    some (-1)
   else
    some 1)
  else
   (if (sLt a0.Name a1.Name)=true then
    some (-1)
   else
    (if (!(sLt a0.Name a1.Name || a0.Name.toList == a1.Name.toList))=true then
     some 1
    else
     some 0))))
structure zdS where
 t6:Int
structure zgX where
 t4:Int
 t5:Int
def zbg (a0:(List EventT)) (a1:(List EventT)) (g85:zdS):Option (zdS⊕(zgX⊕Unit)) :=
 (if (decide (g85.t6 < ((a0.length:Nat):Int)))=true then
  (if (decide (g85.t6 < ((a1.length:Nat):Int)))=true then
   (zlf (0≤g85.t6∧g85.t6 < (a0.length:Int)) <|
   (zlf (0≤g85.t6∧g85.t6 < (a1.length:Int)) <|
   ((zfl (nth a0 g85.t6.toNat) (nth a1 g85.t6.toNat)).bind λ c87 =>
   (if (c87 != 0)=true then
    some (.inr (.inl (⟨c87,g85.t6⟩)))
   else
    some (.inl ⟨(wI (g85.t6+1))⟩)))))
  else
   some (.inr (.inr ())))
 else
  some (.inr (.inr ())))
def zar (a0:(List EventT)) (a1:(List EventT)):Option (Int×Int) :=
 ((zln (zbg a0 a1) ⟨0⟩).bind λ y88 =>
 match y88 with
 | .inl p89 =>
  some (p89.t4,p89.t5)
 | .inr p90 =>
  (if (decide (((a0.length:Nat):Int) < ((a1.length:Nat):Int)))=true then
   some ((-1),((a0.length:Nat):Int))
  else
   (if (decide (((a0.length:Nat):Int) > ((a1.length:Nat):Int)))=true then
    some (1,((a1.length:Nat):Int))
   else
    some (0,((a0.length:Nat):Int)))))
def zgC:Option zlm :=
 some (⟨0,1,false,0,[],[]⟩:zlm)
def zfF (a0:ByteArray):Option Bool :=
 ((zbc a0).bind λ c109 =>
 some (!c109))
structure zL where
 t8:Int
structure za7 where
 t4:Int
def zi (a0:(List ByteArray)) (g107:zL):Option (zL⊕(za7⊕Unit)) :=
 (if (decide (g107.t8 < ((a0.length:Nat):Int)))=true then
  (zlf (0≤g107.t8∧g107.t8 < (a0.length:Int)) <|
  ((zfF (nth a0 g107.t8.toNat)).bind λ c111 =>
  (if c111=true then
   some (.inr (.inl (⟨g107.t8⟩)))
  else
   some (.inl ⟨(wI (g107.t8+1))⟩))))
 else
  some (.inr (.inr ())))
def zQ (a0:(List ByteArray)):Option Int :=
 ((zln (zi a0) ⟨0⟩).bind λ y112 =>
 match y112 with
 | .inl p113 =>
  some p113.t4
 | .inr p114 =>
  some (-1))
def zM (a0:(List ByteArray)):Option Bool :=
 ((zQ a0).bind λ c115 =>
 some (decide (c115 ≥ 0)))
def zez (a0:(List ByteArray)) (a1:Int):Option Bool :=
 (if (decide (((a0.length:Nat):Int)≤a1))=true then
  ((zM a0).bind λ c116 =>
  some (!c116))
 else
  some false)
structure zcb where
 t8:Int
structure zfU where
 t4:Int
def zal (a0:(List ByteArray)) (a1:ByteArray) (g119:zcb):Option (zcb⊕(zfU⊕Unit)) :=
 (if (decide (g119.t8 < ((a0.length:Nat):Int)))=true then
  (zlf (0≤g119.t8∧g119.t8 < (a0.length:Int)) <|
  (if (a1.toList == (nth a0 g119.t8.toNat).toList)=true then
   some (.inr (.inl (⟨g119.t8⟩)))
  else
   some (.inl ⟨(wI (g119.t8+1))⟩)))
 else
  some (.inr (.inr ())))
def zdu (a0:(List ByteArray)) (a1:ByteArray):Option Int :=
 ((zln (zal a0 a1) ⟨0⟩).bind λ y120 =>
 match y120 with
 | .inl p121 =>
  some p121.t4
 | .inr p122 =>
  some (-1))
def zF (a0:(List ByteArray)) (a1:ByteArray):Option Bool :=
 ((zdu a0 a1).bind λ c123 =>
 some (decide (c123 ≥ 0)))
structure ze8 where
 t7:Int
def zb1 (a0:(List ByteArray)) (g118:ze8):Option (ze8⊕(Unit⊕Unit)) :=
 (if (decide (g118.t7 < ((a0.length:Nat):Int)))=true then
  (zlf (0≤g118.t7∧g118.t7 < (a0.length:Int)) <|
  (zlf (0≤g118.t7∧g118.t7≤(a0.length:Int)) <|
  ((zF (a0.take g118.t7.toNat) (nth a0 g118.t7.toNat)).bind λ c125 =>
  (if c125=true then
   some (.inr (.inl ()))
  else
   some (.inl ⟨(wI (g118.t7+1))⟩)))))
 else
  some (.inr (.inr ())))
def zdO (a0:(List ByteArray)):Option Bool :=
 ((zln (zb1 a0) ⟨0⟩).bind λ y126 =>
 match y126 with
 | .inl p127 =>
  some false
 | .inr p128 =>
  some true)
def zcr (a0:ByteArray) (a1:ByteArray):Option Bool :=
 ((zaA a0).bind λ c132 =>
 (if c132=true then
  ((zaA a1).bind λ c133 =>
  (if (!c133)=true then
   some true
  else
   some (sLt a0 a1)))
 else
  some (sLt a0 a1)))
structure zcV where
 t3:Int
def zC (a0:(List ByteArray)) (g131:zcV):Option (zcV⊕(Unit⊕Unit)) :=
 (if (decide (g131.t3 > 0))=true then
  (zlf (0≤g131.t3∧g131.t3 < (a0.length:Int)) <|
  (zlf (0≤(wI (g131.t3 - 1))∧(wI (g131.t3 - 1)) < (a0.length:Int)) <|
  ((zcr (nth a0 g131.t3.toNat) (nth a0 ((wI (g131.t3 - 1)).toNat))).bind λ c135 =>
  (if c135=true then
   some (.inr (.inl ()))
  else
   some (.inl ⟨(wI (g131.t3 - 1))⟩)))))
 else
  some (.inr (.inr ())))
def za8 (a0:(List ByteArray)):Option Bool :=
 ((zln (zC a0) ⟨(wI (((a0.length:Nat):Int) - 1))⟩).bind λ y136 =>
 match y136 with
 | .inl p137 =>
  some false
 | .inr p138 =>
  some true)
structure zcW where
 t18:Bool
structure zaH where
 t46:Bool
def zbh (a0:zlm):Option Bool :=
 ((((zeu a0.Next 1 1001).bind λ c103 =>
  (if (!c103)=true then
   some (⟨true⟩:zcW)
  else
   ((zeu a0.Done 0 1000).bind λ c104 =>
   (if (!c104)=true then
    some (⟨true⟩:zcW)
   else
    ((zeu a0.fSt 0 2).bind λ c105 =>
    some (⟨(!c105)⟩:zcW)))))):Option zcW).bind λ p106 =>
 (if p106.t18=true then
  some false
 else
  ((((zez a0.fSi 30).bind λ c117 =>
   (if (!c117)=true then
    some (⟨true⟩:zaH)
   else
    ((zdO a0.fSi).bind λ c129 =>
    (if (!c129)=true then
     some (⟨true⟩:zaH)
    else
     ((zez a0.fTi 30).bind λ c130 =>
     (if (!c130)=true then
      some (⟨true⟩:zaH)
     else
      ((za8 a0.fTi).bind λ c139 =>
      (if (!c139)=true then
       some (⟨true⟩:zaH)
      else
       ((zdO a0.fTi).bind λ c140 =>
       some (⟨(!c140)⟩:zaH)))))))))):Option zaH).bind λ p141 =>
  (if p141.t46=true then
   some false
  else
   (if (a0.fSt != 0)=true then
    some (decide (a0.Next > 1))
   else
    (if (a0.Next == 1)=true then
     (if (!a0.fCa)=true then
      (if (a0.Done == 0)=true then
       (if (((a0.fSi.length:Nat):Int) == 0)=true then
        some (((a0.fTi.length:Nat):Int) == 0)
       else
        some false)
      else
       some false)
     else
      some false)
    else
     some false))))))
def zai (a0:Int):Option Bool :=
 ((zeu a0 1 6).bind λ c146 =>
 some c146)
def zeA (a0:EventT):Option Bool :=
 ((zeu a0.Id 1 1000).bind λ c143 =>
 (if c143=true then
  ((zc8 a0.fVe).bind λ c145 =>
  (if c145=true then
   ((zai a0.Kind).bind λ c147 =>
   (if c147=true then
    ((zbc a0.Name).bind λ c148 =>
    some c148)
   else
    some false))
  else
   some false))
 else
  some false))
def zaW (a0:zlm):Option zlm :=
 ((zaY a0.fSi).bind λ c151 =>
 ((zaY a0.fTi).bind λ c152 =>
 some (⟨a0.fSt,a0.Next,a0.fCa,a0.Done,c151,c152⟩:zlm)))
def zbV (a0:ByteArray):Option Bool :=
 some (!(a0.toList == a0.toList))
structure zbR where
 t7:Int
 t8:Int
structure zgV where
 t7:Int
def zz (a0:(List ByteArray)) (a1:ByteArray) (g157:zbR):Option (zbR⊕zgV) :=
 (if (decide (g157.t7 < g157.t8))=true then
  (zlf (0≤(wI (shR 64 (wU (wI (g157.t7+g157.t8))) 1))∧(wI (shR 64 (wU (wI (g157.t7+g157.t8))) 1)) < (a0.length:Int)) <|
  ((zcr (nth a0 ((wI (shR 64 (wU (wI (g157.t7+g157.t8))) 1)).toNat)) a1).bind λ c159 =>
  (if c159=true then
   some (.inl ⟨(wI ((wI (shR 64 (wU (wI (g157.t7+g157.t8))) 1))+1)),g157.t8⟩)
  else
   some (.inl ⟨g157.t7,(wI (shR 64 (wU (wI (g157.t7+g157.t8))) 1))⟩))))
 else
  some (.inr (⟨g157.t7⟩)))
def zaj (a0:(List ByteArray)) (a1:ByteArray):Option (Int×Bool) :=
 ((zln (zz a0 a1) ⟨0,((a0.length:Nat):Int)⟩).bind λ y160 =>
 (if (decide (y160.t7 < ((a0.length:Nat):Int)))=true then
  (zlf (0≤y160.t7∧y160.t7 < (a0.length:Int)) <|
  (if ((nth a0 y160.t7.toNat).toList == a1.toList)=true then
   some (y160.t7,true)
  else
   (zlf (0≤y160.t7∧y160.t7 < (a0.length:Int)) <|
   ((zbV (nth a0 y160.t7.toNat)).bind λ c161 =>
   (if c161=true then
    ((zbV a1).bind λ c162 =>
    some (y160.t7,c162))
   else
    some (y160.t7,false))))))
 else
  some (y160.t7,false)))
def zcc (a0:(List ByteArray)) (a1:Int) (a2:Int):Option (List ByteArray) :=
 zlf (0≤a1∧a1≤a2∧a2≤(a0.length:Int)∧a0.length * 16≤140737488355328) (some (a0.take a1.toNat++a0.drop a2.toNat))
def zcd (a0:(List ByteArray)) (a1:Int) (a2:(List ByteArray)):Option (List ByteArray) :=
 zlf (a2.length=1∧0≤a1∧a1≤(a0.length:Int)∧(a0.length+1) * 16≤140737488355328) (some (a0.take a1.toNat++a2++a0.drop a1.toNat))
def za9 (a0:zlm) (a1:ByteArray):Option (Bool×zlm) :=
 ((zaj a0.fTi a1).bind λ c165 =>
 (if c165.2=true then
  ((zcc a0.fTi c165.1 (wI (c165.1+1))).bind λ c166 =>
  some (true,(⟨a0.fSt,a0.Next,a0.fCa,a0.Done,a0.fSi,c166⟩:zlm)))
 else
  (if (((a0.fTi.length:Nat):Int) == 30)=true then
   some (false,a0)
  else
   ((zcd a0.fTi c165.1 ([a1])).bind λ c167 =>
   some (true,(⟨a0.fSt,a0.Next,a0.fCa,a0.Done,a0.fSi,c167⟩:zlm))))))
structure zac where
 t32:Bool
structure zbx where
 t54:Bool
def zbi (a0:zlm) (a1:Int) (a2:ByteArray):Option (Bool×zlm) :=
 (((if (decide (a0.Next > 1000))=true then
   some (⟨true⟩:zac)
  else
   (if (!((a1 == 1) == (a0.fSt == 0)))=true then
    some (⟨true⟩:zac)
   else
    (if (a1 != 1)=true then
     some (⟨(a0.fSt != 1)⟩:zac)
    else
     some (⟨false⟩:zac)))):Option zac).bind λ p170 =>
 (if p170.t32=true then
  some (false,a0)
 else
  (if (a1 == 1)=true then
   some (true,(⟨1,(wI (a0.Next+1)),a0.fCa,a0.Done,a0.fSi,a0.fTi⟩:zlm))
  else
   (if (a1 == 2)=true then
    ((((zF a0.fSi a2).bind λ c171 =>
     (if c171=true then
      some (⟨true⟩:zbx)
     else
      some (⟨(((a0.fSi.length:Nat):Int) == 30)⟩:zbx))):Option zbx).bind λ p172 =>
    (if p172.t54=true then
     some (false,a0)
    else
     (zlf ((a0.fSi.length+1) * 16≤140737488355328) <|
     some (true,(⟨a0.fSt,(wI (a0.Next+1)),a0.fCa,a0.Done,(a0.fSi++([a2])),a0.fTi⟩:zlm)))))
   else
    (if (a1 == 3)=true then
     some (true,(⟨a0.fSt,(wI (a0.Next+1)),a0.fCa,(wI (a0.Done+1)),a0.fSi,a0.fTi⟩:zlm))
    else
     (if (a1 == 4)=true then
      ((za9 a0 a2).bind λ c173 =>
      (if (!c173.1)=true then
       some (false,(⟨c173.2.fSt,c173.2.Next,c173.2.fCa,c173.2.Done,a0.fSi,c173.2.fTi⟩:zlm))
      else
       some (true,(⟨c173.2.fSt,(wI (c173.2.Next+1)),c173.2.fCa,c173.2.Done,a0.fSi,c173.2.fTi⟩:zlm))))
     else
      (if (a1 == 5)=true then
       (if a0.fCa=true then
        some (false,a0)
       else
        some (true,(⟨a0.fSt,(wI (a0.Next+1)),true,a0.Done,a0.fSi,a0.fTi⟩:zlm)))
      else
       (if (a1 == 6)=true then
        some (true,(⟨2,(wI (a0.Next+1)),a0.fCa,a0.Done,a0.fSi,[]⟩:zlm))
       else
        some (true,(⟨a0.fSt,(wI (a0.Next+1)),a0.fCa,a0.Done,a0.fSi,a0.fTi⟩:zlm))))))))))
structure zbj where
 t21:Bool
structure zeB where
 t35:Bool
 b1_0:Int
 b1_1:Int
 b1_2:Bool
 b1_3:Int
 c2:(List ByteArray)
 c3:(List ByteArray)
def zdT (a0:zlm) (a1:EventT):Option (zlm×Bool) :=
 ((((zbh a0).bind λ c142 =>
  (if (!c142)=true then
   some (⟨true⟩:zbj)
  else
   ((zeA a1).bind λ c149 =>
   (if (!c149)=true then
    some (⟨true⟩:zbj)
   else
    some (⟨(a1.Id != a0.Next)⟩:zbj))))):Option zbj).bind λ p150 =>
 (if p150.t21=true then
  some ((⟨0,0,false,0,[],[]⟩:zlm),false)
 else
  ((zaW a0).bind λ c153 =>
  ((((zbi c153 a1.Kind a1.Name).bind λ c174 =>
   (if (!c174.1)=true then
    some (⟨true,c174.2.fSt,c174.2.Next,c174.2.fCa,c174.2.Done,c174.2.fSi,c174.2.fTi⟩:zeB)
   else
    ((zbh c174.2).bind λ c175 =>
    some (⟨(!c175),c174.2.fSt,c174.2.Next,c174.2.fCa,c174.2.Done,c174.2.fSi,c174.2.fTi⟩:zeB)))):Option zeB).bind λ p176 =>
  (if p176.t35=true then
   some ((⟨0,0,false,0,[],[]⟩:zlm),false)
  else
   some ((⟨p176.b1_0,p176.b1_1,p176.b1_2,p176.b1_3,p176.c2,p176.c3⟩:zlm),true))))))
structure zfV where
 t12:Int
 b1_0:Int
 b1_1:Int
 b1_2:Bool
 b1_3:Int
 c2:(List ByteArray)
 c3:(List ByteArray)
structure ziq where
 t3:Int
 b0_0:Int
 b0_1:Int
 b0_2:Bool
 b0_3:Int
 c1:(List ByteArray)
 c2:(List ByteArray)
structure zir where
 b1_0:Int
 b1_1:Int
 b1_2:Bool
 b1_3:Int
 c2:(List ByteArray)
 c3:(List ByteArray)
def zae (a0:(List EventT)) (g102:zfV):Option (zfV⊕(ziq⊕zir)) :=
 (if (decide (g102.t12 < ((a0.length:Nat):Int)))=true then
  (zlf (0≤g102.t12∧g102.t12 < (a0.length:Int)) <|
  ((zdT (⟨g102.b1_0,g102.b1_1,g102.b1_2,g102.b1_3,g102.c2,g102.c3⟩:zlm) (nth a0 g102.t12.toNat)).bind λ c178 =>
  (if (!c178.2)=true then
   some (.inr (.inl (⟨g102.t12,g102.b1_0,g102.b1_1,g102.b1_2,g102.b1_3,g102.c2,g102.c3⟩)))
  else
   some (.inl ⟨(wI (g102.t12+1)),c178.1.fSt,c178.1.Next,c178.1.fCa,c178.1.Done,c178.1.fSi,c178.1.fTi⟩))))
 else
  some (.inr (.inr (⟨g102.b1_0,g102.b1_1,g102.b1_2,g102.b1_3,g102.c2,g102.c3⟩))))
def zcs (a0:(List EventT)):Option (zlm×Int) :=
 ((zgC).bind λ c101 =>
 ((zln (zae a0) ⟨0,c101.fSt,c101.Next,c101.fCa,c101.Done,[],[]⟩).bind λ y179 =>
 match y179 with
 | .inl p180 =>
  some ((⟨p180.b0_0,p180.b0_1,p180.b0_2,p180.b0_3,p180.c1,p180.c2⟩:zlm),p180.t3)
 | .inr p181 =>
  some ((⟨p181.b1_0,p181.b1_1,p181.b1_2,p181.b1_3,p181.c2,p181.c3⟩:zlm),((a0.length:Nat):Int))))
structure zeh where
 t12:Int
structure zeC where
 t29:Bool
def zbG (a0:(List EventT)) (g95:zeh):Option (zeh⊕(Unit⊕Unit)) :=
 (if (decide (g95.t12 < ((a0.length:Nat):Int)))=true then
  (zlf (0≤g95.t12∧g95.t12 < (a0.length:Int)) <|
  (((if (decide (g95.t12 > 0))=true then
    (zlf (0≤(wI (g95.t12 - 1))∧(wI (g95.t12 - 1)) < (a0.length:Int)) <|
    some (⟨(decide (((nth a0 g95.t12.toNat).fVe) < ((nth a0 ((wI (g95.t12 - 1)).toNat)).fVe)))⟩:zeC))
   else
    some (⟨false⟩:zeC)):Option zeC).bind λ p97 =>
  (if p97.t29=true then
   some (.inr (.inl ()))
  else
   some (.inl ⟨(wI (g95.t12+1))⟩))))
 else
  some (.inr (.inr ())))
def zeD (a0:(List EventT)):Option Bool :=
 (if (decide (((a0.length:Nat):Int) > 60))=true then
  some false
 else
  ((zln (zbG a0) ⟨0⟩).bind λ y98 =>
  match y98 with
  | .inl p99 =>
   some false
  | .inr p100 =>
   ((zcs a0).bind λ c182 =>
   some (c182.2 == ((a0.length:Nat):Int)))))
def zfW (a0:EventT) (a1:EventT):Option Bool :=
 (if (a0.Id != a1.Id)=true then
  some false
 else
  (if (a0.fVe != a1.fVe)=true then
   some false
  else
   (if (a0.Kind != a1.Kind)=true then
    some false
   else
    (if (!(a0.Name.toList == a1.Name.toList))=true then
     some false
    else
     some true))))
structure ze9 where
 t5:Int
def zb2 (a0:(List EventT)) (a1:(List EventT)) (g193:ze9):Option (ze9⊕(Unit⊕Unit)) :=
 (if (decide (g193.t5 < ((a0.length:Nat):Int)))=true then
  (zlf (0≤g193.t5∧g193.t5 < (a0.length:Int)) <|
  (zlf (0≤g193.t5∧g193.t5 < (a1.length:Int)) <|
  ((zfW (nth a0 g193.t5.toNat) (nth a1 g193.t5.toNat)).bind λ c195 =>
  (if (!c195)=true then
   some (.inr (.inl ()))
  else
   some (.inl ⟨(wI (g193.t5+1))⟩)))))
 else
  some (.inr (.inr ())))
def zfm (a0:(List EventT)) (a1:(List EventT)):Option Bool :=
 (if (((a0.length:Nat):Int) != ((a1.length:Nat):Int))=true then
  some false
 else
  ((zln (zb2 a0 a1) ⟨0⟩).bind λ y196 =>
  match y196 with
  | .inl p197 =>
   some false
  | .inr p198 =>
   some true))
structure zcX where
 t1:Int
 t5:Int
 c0:(List EventT)
structure zgq where
 t1:Int
 c0:(List EventT)
def zaJ (g220:zcX):Option (zcX⊕zgq) :=
 (if (decide (g220.t5 < ((g220.c0.length:Nat):Int)))=true then
  (zlf (0≤g220.t5∧g220.t5 < ((g220.c0.length:Nat):Int)) <|
  (zlf (0≤g220.t5∧g220.t5 < ((g220.c0.length:Nat):Int)) <|
  (zlf (0≤g220.t5∧g220.t5 < ((g220.c0.length:Nat):Int)) <|
  ((zbb (wI ((wI ((wI (g220.t1+1))+1))+1))).bind λ c224 =>
  (zlf (0≤g220.t5∧g220.t5 < ((g220.c0.length:Nat):Int)) <|
  some (.inl ⟨(wI ((wI ((wI ((wI (g220.t1+1))+1))+1))+1)),(wI (g220.t5+1)),((((g220.c0.set g220.t5.toNat (⟨g220.t1,(nth g220.c0 g220.t5.toNat).fVe,(nth g220.c0 g220.t5.toNat).Kind,(nth g220.c0 g220.t5.toNat).Name⟩:EventT)).set g220.t5.toNat (⟨(nth (g220.c0.set g220.t5.toNat (⟨g220.t1,(nth g220.c0 g220.t5.toNat).fVe,(nth g220.c0 g220.t5.toNat).Kind,(nth g220.c0 g220.t5.toNat).Name⟩:EventT)) g220.t5.toNat).Id,(wI (g220.t1+1)),(nth (g220.c0.set g220.t5.toNat (⟨g220.t1,(nth g220.c0 g220.t5.toNat).fVe,(nth g220.c0 g220.t5.toNat).Kind,(nth g220.c0 g220.t5.toNat).Name⟩:EventT)) g220.t5.toNat).Kind,(nth (g220.c0.set g220.t5.toNat (⟨g220.t1,(nth g220.c0 g220.t5.toNat).fVe,(nth g220.c0 g220.t5.toNat).Kind,(nth g220.c0 g220.t5.toNat).Name⟩:EventT)) g220.t5.toNat).Name⟩:EventT)).set g220.t5.toNat (⟨(nth ((g220.c0.set g220.t5.toNat (⟨g220.t1,(nth g220.c0 g220.t5.toNat).fVe,(nth g220.c0 g220.t5.toNat).Kind,(nth g220.c0 g220.t5.toNat).Name⟩:EventT)).set g220.t5.toNat (⟨(nth (g220.c0.set g220.t5.toNat (⟨g220.t1,(nth g220.c0 g220.t5.toNat).fVe,(nth g220.c0 g220.t5.toNat).Kind,(nth g220.c0 g220.t5.toNat).Name⟩:EventT)) g220.t5.toNat).Id,(wI (g220.t1+1)),(nth (g220.c0.set g220.t5.toNat (⟨g220.t1,(nth g220.c0 g220.t5.toNat).fVe,(nth g220.c0 g220.t5.toNat).Kind,(nth g220.c0 g220.t5.toNat).Name⟩:EventT)) g220.t5.toNat).Kind,(nth (g220.c0.set g220.t5.toNat (⟨g220.t1,(nth g220.c0 g220.t5.toNat).fVe,(nth g220.c0 g220.t5.toNat).Kind,(nth g220.c0 g220.t5.toNat).Name⟩:EventT)) g220.t5.toNat).Name⟩:EventT)) g220.t5.toNat).Id,(nth ((g220.c0.set g220.t5.toNat (⟨g220.t1,(nth g220.c0 g220.t5.toNat).fVe,(nth g220.c0 g220.t5.toNat).Kind,(nth g220.c0 g220.t5.toNat).Name⟩:EventT)).set g220.t5.toNat (⟨(nth (g220.c0.set g220.t5.toNat (⟨g220.t1,(nth g220.c0 g220.t5.toNat).fVe,(nth g220.c0 g220.t5.toNat).Kind,(nth g220.c0 g220.t5.toNat).Name⟩:EventT)) g220.t5.toNat).Id,(wI (g220.t1+1)),(nth (g220.c0.set g220.t5.toNat (⟨g220.t1,(nth g220.c0 g220.t5.toNat).fVe,(nth g220.c0 g220.t5.toNat).Kind,(nth g220.c0 g220.t5.toNat).Name⟩:EventT)) g220.t5.toNat).Kind,(nth (g220.c0.set g220.t5.toNat (⟨g220.t1,(nth g220.c0 g220.t5.toNat).fVe,(nth g220.c0 g220.t5.toNat).Kind,(nth g220.c0 g220.t5.toNat).Name⟩:EventT)) g220.t5.toNat).Name⟩:EventT)) g220.t5.toNat).fVe,(wI ((wI (g220.t1+1))+1)),(nth ((g220.c0.set g220.t5.toNat (⟨g220.t1,(nth g220.c0 g220.t5.toNat).fVe,(nth g220.c0 g220.t5.toNat).Kind,(nth g220.c0 g220.t5.toNat).Name⟩:EventT)).set g220.t5.toNat (⟨(nth (g220.c0.set g220.t5.toNat (⟨g220.t1,(nth g220.c0 g220.t5.toNat).fVe,(nth g220.c0 g220.t5.toNat).Kind,(nth g220.c0 g220.t5.toNat).Name⟩:EventT)) g220.t5.toNat).Id,(wI (g220.t1+1)),(nth (g220.c0.set g220.t5.toNat (⟨g220.t1,(nth g220.c0 g220.t5.toNat).fVe,(nth g220.c0 g220.t5.toNat).Kind,(nth g220.c0 g220.t5.toNat).Name⟩:EventT)) g220.t5.toNat).Kind,(nth (g220.c0.set g220.t5.toNat (⟨g220.t1,(nth g220.c0 g220.t5.toNat).fVe,(nth g220.c0 g220.t5.toNat).Kind,(nth g220.c0 g220.t5.toNat).Name⟩:EventT)) g220.t5.toNat).Name⟩:EventT)) g220.t5.toNat).Name⟩:EventT)).set g220.t5.toNat (⟨(nth (((g220.c0.set g220.t5.toNat (⟨g220.t1,(nth g220.c0 g220.t5.toNat).fVe,(nth g220.c0 g220.t5.toNat).Kind,(nth g220.c0 g220.t5.toNat).Name⟩:EventT)).set g220.t5.toNat (⟨(nth (g220.c0.set g220.t5.toNat (⟨g220.t1,(nth g220.c0 g220.t5.toNat).fVe,(nth g220.c0 g220.t5.toNat).Kind,(nth g220.c0 g220.t5.toNat).Name⟩:EventT)) g220.t5.toNat).Id,(wI (g220.t1+1)),(nth (g220.c0.set g220.t5.toNat (⟨g220.t1,(nth g220.c0 g220.t5.toNat).fVe,(nth g220.c0 g220.t5.toNat).Kind,(nth g220.c0 g220.t5.toNat).Name⟩:EventT)) g220.t5.toNat).Kind,(nth (g220.c0.set g220.t5.toNat (⟨g220.t1,(nth g220.c0 g220.t5.toNat).fVe,(nth g220.c0 g220.t5.toNat).Kind,(nth g220.c0 g220.t5.toNat).Name⟩:EventT)) g220.t5.toNat).Name⟩:EventT)).set g220.t5.toNat (⟨(nth ((g220.c0.set g220.t5.toNat (⟨g220.t1,(nth g220.c0 g220.t5.toNat).fVe,(nth g220.c0 g220.t5.toNat).Kind,(nth g220.c0 g220.t5.toNat).Name⟩:EventT)).set g220.t5.toNat (⟨(nth (g220.c0.set g220.t5.toNat (⟨g220.t1,(nth g220.c0 g220.t5.toNat).fVe,(nth g220.c0 g220.t5.toNat).Kind,(nth g220.c0 g220.t5.toNat).Name⟩:EventT)) g220.t5.toNat).Id,(wI (g220.t1+1)),(nth (g220.c0.set g220.t5.toNat (⟨g220.t1,(nth g220.c0 g220.t5.toNat).fVe,(nth g220.c0 g220.t5.toNat).Kind,(nth g220.c0 g220.t5.toNat).Name⟩:EventT)) g220.t5.toNat).Kind,(nth (g220.c0.set g220.t5.toNat (⟨g220.t1,(nth g220.c0 g220.t5.toNat).fVe,(nth g220.c0 g220.t5.toNat).Kind,(nth g220.c0 g220.t5.toNat).Name⟩:EventT)) g220.t5.toNat).Name⟩:EventT)) g220.t5.toNat).Id,(nth ((g220.c0.set g220.t5.toNat (⟨g220.t1,(nth g220.c0 g220.t5.toNat).fVe,(nth g220.c0 g220.t5.toNat).Kind,(nth g220.c0 g220.t5.toNat).Name⟩:EventT)).set g220.t5.toNat (⟨(nth (g220.c0.set g220.t5.toNat (⟨g220.t1,(nth g220.c0 g220.t5.toNat).fVe,(nth g220.c0 g220.t5.toNat).Kind,(nth g220.c0 g220.t5.toNat).Name⟩:EventT)) g220.t5.toNat).Id,(wI (g220.t1+1)),(nth (g220.c0.set g220.t5.toNat (⟨g220.t1,(nth g220.c0 g220.t5.toNat).fVe,(nth g220.c0 g220.t5.toNat).Kind,(nth g220.c0 g220.t5.toNat).Name⟩:EventT)) g220.t5.toNat).Kind,(nth (g220.c0.set g220.t5.toNat (⟨g220.t1,(nth g220.c0 g220.t5.toNat).fVe,(nth g220.c0 g220.t5.toNat).Kind,(nth g220.c0 g220.t5.toNat).Name⟩:EventT)) g220.t5.toNat).Name⟩:EventT)) g220.t5.toNat).fVe,(wI ((wI (g220.t1+1))+1)),(nth ((g220.c0.set g220.t5.toNat (⟨g220.t1,(nth g220.c0 g220.t5.toNat).fVe,(nth g220.c0 g220.t5.toNat).Kind,(nth g220.c0 g220.t5.toNat).Name⟩:EventT)).set g220.t5.toNat (⟨(nth (g220.c0.set g220.t5.toNat (⟨g220.t1,(nth g220.c0 g220.t5.toNat).fVe,(nth g220.c0 g220.t5.toNat).Kind,(nth g220.c0 g220.t5.toNat).Name⟩:EventT)) g220.t5.toNat).Id,(wI (g220.t1+1)),(nth (g220.c0.set g220.t5.toNat (⟨g220.t1,(nth g220.c0 g220.t5.toNat).fVe,(nth g220.c0 g220.t5.toNat).Kind,(nth g220.c0 g220.t5.toNat).Name⟩:EventT)) g220.t5.toNat).Kind,(nth (g220.c0.set g220.t5.toNat (⟨g220.t1,(nth g220.c0 g220.t5.toNat).fVe,(nth g220.c0 g220.t5.toNat).Kind,(nth g220.c0 g220.t5.toNat).Name⟩:EventT)) g220.t5.toNat).Name⟩:EventT)) g220.t5.toNat).Name⟩:EventT)) g220.t5.toNat).Id,(nth (((g220.c0.set g220.t5.toNat (⟨g220.t1,(nth g220.c0 g220.t5.toNat).fVe,(nth g220.c0 g220.t5.toNat).Kind,(nth g220.c0 g220.t5.toNat).Name⟩:EventT)).set g220.t5.toNat (⟨(nth (g220.c0.set g220.t5.toNat (⟨g220.t1,(nth g220.c0 g220.t5.toNat).fVe,(nth g220.c0 g220.t5.toNat).Kind,(nth g220.c0 g220.t5.toNat).Name⟩:EventT)) g220.t5.toNat).Id,(wI (g220.t1+1)),(nth (g220.c0.set g220.t5.toNat (⟨g220.t1,(nth g220.c0 g220.t5.toNat).fVe,(nth g220.c0 g220.t5.toNat).Kind,(nth g220.c0 g220.t5.toNat).Name⟩:EventT)) g220.t5.toNat).Kind,(nth (g220.c0.set g220.t5.toNat (⟨g220.t1,(nth g220.c0 g220.t5.toNat).fVe,(nth g220.c0 g220.t5.toNat).Kind,(nth g220.c0 g220.t5.toNat).Name⟩:EventT)) g220.t5.toNat).Name⟩:EventT)).set g220.t5.toNat (⟨(nth ((g220.c0.set g220.t5.toNat (⟨g220.t1,(nth g220.c0 g220.t5.toNat).fVe,(nth g220.c0 g220.t5.toNat).Kind,(nth g220.c0 g220.t5.toNat).Name⟩:EventT)).set g220.t5.toNat (⟨(nth (g220.c0.set g220.t5.toNat (⟨g220.t1,(nth g220.c0 g220.t5.toNat).fVe,(nth g220.c0 g220.t5.toNat).Kind,(nth g220.c0 g220.t5.toNat).Name⟩:EventT)) g220.t5.toNat).Id,(wI (g220.t1+1)),(nth (g220.c0.set g220.t5.toNat (⟨g220.t1,(nth g220.c0 g220.t5.toNat).fVe,(nth g220.c0 g220.t5.toNat).Kind,(nth g220.c0 g220.t5.toNat).Name⟩:EventT)) g220.t5.toNat).Kind,(nth (g220.c0.set g220.t5.toNat (⟨g220.t1,(nth g220.c0 g220.t5.toNat).fVe,(nth g220.c0 g220.t5.toNat).Kind,(nth g220.c0 g220.t5.toNat).Name⟩:EventT)) g220.t5.toNat).Name⟩:EventT)) g220.t5.toNat).Id,(nth ((g220.c0.set g220.t5.toNat (⟨g220.t1,(nth g220.c0 g220.t5.toNat).fVe,(nth g220.c0 g220.t5.toNat).Kind,(nth g220.c0 g220.t5.toNat).Name⟩:EventT)).set g220.t5.toNat (⟨(nth (g220.c0.set g220.t5.toNat (⟨g220.t1,(nth g220.c0 g220.t5.toNat).fVe,(nth g220.c0 g220.t5.toNat).Kind,(nth g220.c0 g220.t5.toNat).Name⟩:EventT)) g220.t5.toNat).Id,(wI (g220.t1+1)),(nth (g220.c0.set g220.t5.toNat (⟨g220.t1,(nth g220.c0 g220.t5.toNat).fVe,(nth g220.c0 g220.t5.toNat).Kind,(nth g220.c0 g220.t5.toNat).Name⟩:EventT)) g220.t5.toNat).Kind,(nth (g220.c0.set g220.t5.toNat (⟨g220.t1,(nth g220.c0 g220.t5.toNat).fVe,(nth g220.c0 g220.t5.toNat).Kind,(nth g220.c0 g220.t5.toNat).Name⟩:EventT)) g220.t5.toNat).Name⟩:EventT)) g220.t5.toNat).fVe,(wI ((wI (g220.t1+1))+1)),(nth ((g220.c0.set g220.t5.toNat (⟨g220.t1,(nth g220.c0 g220.t5.toNat).fVe,(nth g220.c0 g220.t5.toNat).Kind,(nth g220.c0 g220.t5.toNat).Name⟩:EventT)).set g220.t5.toNat (⟨(nth (g220.c0.set g220.t5.toNat (⟨g220.t1,(nth g220.c0 g220.t5.toNat).fVe,(nth g220.c0 g220.t5.toNat).Kind,(nth g220.c0 g220.t5.toNat).Name⟩:EventT)) g220.t5.toNat).Id,(wI (g220.t1+1)),(nth (g220.c0.set g220.t5.toNat (⟨g220.t1,(nth g220.c0 g220.t5.toNat).fVe,(nth g220.c0 g220.t5.toNat).Kind,(nth g220.c0 g220.t5.toNat).Name⟩:EventT)) g220.t5.toNat).Kind,(nth (g220.c0.set g220.t5.toNat (⟨g220.t1,(nth g220.c0 g220.t5.toNat).fVe,(nth g220.c0 g220.t5.toNat).Kind,(nth g220.c0 g220.t5.toNat).Name⟩:EventT)) g220.t5.toNat).Name⟩:EventT)) g220.t5.toNat).Name⟩:EventT)) g220.t5.toNat).fVe,(nth (((g220.c0.set g220.t5.toNat (⟨g220.t1,(nth g220.c0 g220.t5.toNat).fVe,(nth g220.c0 g220.t5.toNat).Kind,(nth g220.c0 g220.t5.toNat).Name⟩:EventT)).set g220.t5.toNat (⟨(nth (g220.c0.set g220.t5.toNat (⟨g220.t1,(nth g220.c0 g220.t5.toNat).fVe,(nth g220.c0 g220.t5.toNat).Kind,(nth g220.c0 g220.t5.toNat).Name⟩:EventT)) g220.t5.toNat).Id,(wI (g220.t1+1)),(nth (g220.c0.set g220.t5.toNat (⟨g220.t1,(nth g220.c0 g220.t5.toNat).fVe,(nth g220.c0 g220.t5.toNat).Kind,(nth g220.c0 g220.t5.toNat).Name⟩:EventT)) g220.t5.toNat).Kind,(nth (g220.c0.set g220.t5.toNat (⟨g220.t1,(nth g220.c0 g220.t5.toNat).fVe,(nth g220.c0 g220.t5.toNat).Kind,(nth g220.c0 g220.t5.toNat).Name⟩:EventT)) g220.t5.toNat).Name⟩:EventT)).set g220.t5.toNat (⟨(nth ((g220.c0.set g220.t5.toNat (⟨g220.t1,(nth g220.c0 g220.t5.toNat).fVe,(nth g220.c0 g220.t5.toNat).Kind,(nth g220.c0 g220.t5.toNat).Name⟩:EventT)).set g220.t5.toNat (⟨(nth (g220.c0.set g220.t5.toNat (⟨g220.t1,(nth g220.c0 g220.t5.toNat).fVe,(nth g220.c0 g220.t5.toNat).Kind,(nth g220.c0 g220.t5.toNat).Name⟩:EventT)) g220.t5.toNat).Id,(wI (g220.t1+1)),(nth (g220.c0.set g220.t5.toNat (⟨g220.t1,(nth g220.c0 g220.t5.toNat).fVe,(nth g220.c0 g220.t5.toNat).Kind,(nth g220.c0 g220.t5.toNat).Name⟩:EventT)) g220.t5.toNat).Kind,(nth (g220.c0.set g220.t5.toNat (⟨g220.t1,(nth g220.c0 g220.t5.toNat).fVe,(nth g220.c0 g220.t5.toNat).Kind,(nth g220.c0 g220.t5.toNat).Name⟩:EventT)) g220.t5.toNat).Name⟩:EventT)) g220.t5.toNat).Id,(nth ((g220.c0.set g220.t5.toNat (⟨g220.t1,(nth g220.c0 g220.t5.toNat).fVe,(nth g220.c0 g220.t5.toNat).Kind,(nth g220.c0 g220.t5.toNat).Name⟩:EventT)).set g220.t5.toNat (⟨(nth (g220.c0.set g220.t5.toNat (⟨g220.t1,(nth g220.c0 g220.t5.toNat).fVe,(nth g220.c0 g220.t5.toNat).Kind,(nth g220.c0 g220.t5.toNat).Name⟩:EventT)) g220.t5.toNat).Id,(wI (g220.t1+1)),(nth (g220.c0.set g220.t5.toNat (⟨g220.t1,(nth g220.c0 g220.t5.toNat).fVe,(nth g220.c0 g220.t5.toNat).Kind,(nth g220.c0 g220.t5.toNat).Name⟩:EventT)) g220.t5.toNat).Kind,(nth (g220.c0.set g220.t5.toNat (⟨g220.t1,(nth g220.c0 g220.t5.toNat).fVe,(nth g220.c0 g220.t5.toNat).Kind,(nth g220.c0 g220.t5.toNat).Name⟩:EventT)) g220.t5.toNat).Name⟩:EventT)) g220.t5.toNat).fVe,(wI ((wI (g220.t1+1))+1)),(nth ((g220.c0.set g220.t5.toNat (⟨g220.t1,(nth g220.c0 g220.t5.toNat).fVe,(nth g220.c0 g220.t5.toNat).Kind,(nth g220.c0 g220.t5.toNat).Name⟩:EventT)).set g220.t5.toNat (⟨(nth (g220.c0.set g220.t5.toNat (⟨g220.t1,(nth g220.c0 g220.t5.toNat).fVe,(nth g220.c0 g220.t5.toNat).Kind,(nth g220.c0 g220.t5.toNat).Name⟩:EventT)) g220.t5.toNat).Id,(wI (g220.t1+1)),(nth (g220.c0.set g220.t5.toNat (⟨g220.t1,(nth g220.c0 g220.t5.toNat).fVe,(nth g220.c0 g220.t5.toNat).Kind,(nth g220.c0 g220.t5.toNat).Name⟩:EventT)) g220.t5.toNat).Kind,(nth (g220.c0.set g220.t5.toNat (⟨g220.t1,(nth g220.c0 g220.t5.toNat).fVe,(nth g220.c0 g220.t5.toNat).Kind,(nth g220.c0 g220.t5.toNat).Name⟩:EventT)) g220.t5.toNat).Name⟩:EventT)) g220.t5.toNat).Name⟩:EventT)) g220.t5.toNat).Kind,c224⟩:EventT))⟩))))))
 else
  some (.inr (⟨g220.t1,g220.c0⟩)))
def zcK (a0:(List EventT)) (a1:Int):Option (Int×(List EventT)) :=
 ((zln (zaJ) ⟨a1,0,a0⟩).bind λ y225 =>
 some (y225.t1,y225.c0))
def zeE (a0:(List EventT)):Option Bool :=
 (if (decide (((a0.length:Nat):Int) > 0))=true then
  ((zeD a0).bind λ c293 =>
  some c293)
 else
  some false)
def zdU (a0:EventT) (a1:EventT):Option Int :=
 ((zaU a0.fVe a1.fVe).bind λ c300 =>
 ((zaU a0.Kind a1.Kind).bind λ c301 =>
 ((zch a0.Name a1.Name).bind λ c304 =>
 ((zga ([c300,c301,c304])).bind λ c309 =>
 some c309))))
structure zv where
 t13:Int
structure zas where
 t6:Int
def zd (a0:(List EventT)) (a1:(List EventT)) (g297:zv):Option (zv⊕(zas⊕Unit)) :=
 (if (decide (g297.t13 < ((a0.length:Nat):Int)))=true then
  (zlf (0≤g297.t13∧g297.t13 < (a0.length:Int)) <|
  (if (decide (g297.t13 ≥ ((a1.length:Nat):Int)))=true then
   some (.inr (.inl (⟨1⟩)))
  else
   (zlf (0≤g297.t13∧g297.t13 < (a1.length:Int)) <|
   ((zdU (nth a0 g297.t13.toNat) (nth a1 g297.t13.toNat)).bind λ c311 =>
   (if (c311 != 0)=true then
    some (.inr (.inl (⟨c311⟩)))
   else
    some (.inl ⟨(wI (g297.t13+1))⟩))))))
 else
  some (.inr (.inr ())))
def zD (a0:(List EventT)) (a1:(List EventT)):Option Int :=
 ((zln (zd a0 a1) ⟨0⟩).bind λ y312 =>
 match y312 with
 | .inl p313 =>
  some p313.t6
 | .inr p314 =>
  (if (decide (((a0.length:Nat):Int) < ((a1.length:Nat):Int)))=true then
   some (-1)
  else
   some 0))
def zbd (a0:(List EventT)) (a1:(List EventT)):Option Int :=
 ((zD a0 a1).bind λ c315 =>
 some c315)
structure BranchT where
 fEv:(List EventT)
 deriving DecidableEq,Inhabited
structure TellingsT where
 fBr:(List BranchT)
 deriving DecidableEq,Inhabited
def zfn (a0:BranchT) (a1:Int):Option Int :=
 ((zfj a0.fEv a1).bind λ c324 =>
 (if (decide (c324 < 0))=true then
  some (-1)
 else
  some c324))
structure zei where
 t1:Int
 t5:Int
structure zg6 where
 t1:Int
def zbH (a0:(List BranchT)) (g323:zei):Option (zei⊕(Unit⊕zg6)) :=
 (if (decide (g323.t5 < ((a0.length:Nat):Int)))=true then
  (zlf (0≤g323.t5∧g323.t5 < (a0.length:Int)) <|
  ((zfn (nth a0 g323.t5.toNat) g323.t1).bind λ c326 =>
  (if (decide (c326 < 0))=true then
   some (.inr (.inl ()))
  else
   some (.inl ⟨c326,(wI (g323.t5+1))⟩))))
 else
  some (.inr (.inr (⟨g323.t1⟩))))
def zeF (a0:(List BranchT)) (a1:Int):Option Int :=
 (if (decide ((wI (a1 - ((a0.length:Nat):Int))) < 0))=true then
  some (-1)
 else
  ((zln (zbH a0) ⟨(wI (a1 - ((a0.length:Nat):Int))),0⟩).bind λ y327 =>
  match y327 with
  | .inl p328 =>
   some (-1)
  | .inr p329 =>
   some p329.t1))
def zct (a0:TellingsT) (a1:Int):Option Int :=
 ((zeF a0.fBr a1).bind λ c330 =>
 (if (decide (c330 < 0))=true then
  some (-1)
 else
  some c330))
def zdV (a0:BranchT):Option BranchT :=
 ((zfk a0.fEv).bind λ c336 =>
 some (⟨c336⟩:BranchT))
structure zej where
 t4:Int
 c0:(List BranchT)
structure zg7 where
 c0:(List BranchT)
def zbJ (a0:(List BranchT)) (g335:zej):Option (zej⊕zg7) :=
 (if (decide (g335.t4 < ((a0.length:Nat):Int)))=true then
  (zlf (0≤g335.t4∧g335.t4 < (a0.length:Int)) <|
  ((zdV (nth a0 g335.t4.toNat)).bind λ c338 =>
  (zlf (0≤g335.t4∧g335.t4 < ((g335.c0.length:Nat):Int)) <|
  some (.inl ⟨(wI (g335.t4+1)),(g335.c0.set g335.t4.toNat c338)⟩))))
 else
  some (.inr (⟨g335.c0⟩)))
def zeG (a0:(List BranchT)):Option (List BranchT) :=
 (zlf (0≤((a0.length:Nat):Int)∧((a0.length:Nat):Int) * 24≤281474976710656∧((a0.length:Nat):Int)≤9223372036854775807) <|
 ((zln (zbJ a0) ⟨0,(List.replicate a0.length (⟨[]⟩:BranchT))⟩).bind λ y339 =>
 some y339.c0))
def zcu (a0:TellingsT):Option TellingsT :=
 ((zeG a0.fBr).bind λ c340 =>
 some (⟨c340⟩:TellingsT))
def zaK (a0:(List EventT)) (a1:(List EventT)):Option Bool :=
 ((zar a0 a1).bind λ c346 =>
 some (c346.2 == ((a1.length:Nat):Int)))
structure zaL where
 t12:Int
structure zcY where
 t26:Int
structure zby where
 t52:Bool
def zaM (a0:TellingsT) (g342:zaL) (g356:zcY):Option (zcY⊕(Unit⊕Unit)) :=
 (if (decide (g356.t26 < (((a0.fBr.take g342.t12.toNat).length:Nat):Int)))=true then
  (zlf (0≤g356.t26∧g356.t26 < ((a0.fBr.take g342.t12.toNat).length:Int)) <|
  ((zar ((nth (a0.fBr.take g342.t12.toNat) g356.t26.toNat).fEv) ((nth a0.fBr g342.t12.toNat).fEv)).bind λ c360 =>
  (((if (decide (c360.1 ≥ 0))=true then
    some (⟨true⟩:zby)
   else
    ((zaK ((nth a0.fBr g342.t12.toNat).fEv) ((nth (a0.fBr.take g342.t12.toNat) g356.t26.toNat).fEv)).bind λ c361 =>
    (if c361=true then
     some (⟨true⟩:zby)
    else
     some (⟨(decide (g356.t26 > g342.t12))⟩:zby)))):Option zby).bind λ p362 =>
  (if p362.t52=true then
   some (.inr (.inl ()))
  else
   some (.inl ⟨(wI (g356.t26+1))⟩)))))
 else
  some (.inr (.inr ())))
def zaN (a0:TellingsT) (g342:zaL):Option (zaL⊕(Unit⊕Unit)) :=
 (if (decide (g342.t12 < ((a0.fBr.length:Nat):Int)))=true then
  (zlf (0≤g342.t12∧g342.t12 < (a0.fBr.length:Int)) <|
  ((zdR ((nth a0.fBr g342.t12.toNat).fEv)).bind λ c355 =>
  (if (!c355)=true then
   some (.inr (.inl ()))
  else
   (zlf (0≤g342.t12∧g342.t12≤(a0.fBr.length:Int)) <|
   ((zln (zaM a0 g342) ⟨0⟩).bind λ y363 =>
   match y363 with
   | .inl p364 =>
    some (.inr (.inl ()))
   | .inr p365 =>
    some (.inl ⟨(wI (g342.t12+1))⟩))))))
 else
  some (.inr (.inr ())))
def zao (a0:TellingsT):Option Bool :=
 ((zln (zaN a0) ⟨0⟩).bind λ y366 =>
 match y366 with
 | .inl p367 =>
  some false
 | .inr p368 =>
  some (decide (((a0.fBr.length:Nat):Int)≤12)))
structure zak where
 t13:Int
def zo (a0:(List EventT)) (a1:(List EventT)) (g375:zak):Option (zak⊕(Unit⊕Unit)) :=
 (if (decide (g375.t13 < ((a0.length:Nat):Int)))=true then
  (zlf (0≤g375.t13∧g375.t13 < (a0.length:Int)) <|
  (zlf (0≤g375.t13∧g375.t13 < (a1.length:Int)) <|
  (if (!((((nth a0 g375.t13.toNat).Id) == ((nth a1 g375.t13.toNat).Id)) && ((((nth a0 g375.t13.toNat).fVe) == ((nth a1 g375.t13.toNat).fVe)) && ((((nth a0 g375.t13.toNat).Kind) == ((nth a1 g375.t13.toNat).Kind)) && (((nth a0 g375.t13.toNat).Name).toList == ((nth a1 g375.t13.toNat).Name).toList)))))=true then
   some (.inr (.inl ()))
  else
   some (.inl ⟨(wI (g375.t13+1))⟩))))
 else
  some (.inr (.inr ())))
def zV (a0:(List EventT)) (a1:(List EventT)):Option Bool :=
 (if (((a0.length:Nat):Int) != ((a1.length:Nat):Int))=true then
  some false
 else
  ((zln (zo a0 a1) ⟨0⟩).bind λ y376 =>
  match y376 with
  | .inl p377 =>
   some false
  | .inr p378 =>
   some true))
def zeb (a0:(List EventT)) (a1:(List EventT)):Option Bool :=
 (if (decide (((a0.length:Nat):Int)≤((a1.length:Nat):Int)))=true then
  (zlf (0≤((a0.length:Nat):Int)∧((a0.length:Nat):Int)≤(a1.length:Int)) <|
  ((zV a0 (a1.take a0.length)).bind λ c379 =>
  some c379))
 else
  some false)
structure zaO where
 t14:Int
structure zcZ where
 t28:Int
structure zdh where
 t44:Bool
def zaP (a0:TellingsT) (g371:zaO) (g389:zcZ):Option (zcZ⊕(Unit⊕Unit)) :=
 (if (decide (g389.t28 < (((a0.fBr.take g371.t14.toNat).length:Nat):Int)))=true then
  (zlf (0≤g389.t28∧g389.t28 < ((a0.fBr.take g371.t14.toNat).length:Int)) <|
  ((((zbd ((nth (a0.fBr.take g371.t14.toNat) g389.t28.toNat).fEv) ((nth a0.fBr g371.t14.toNat).fEv)).bind λ c393 =>
   (if (decide (c393 ≥ 0))=true then
    some (⟨true⟩:zdh)
   else
    ((zeb ((nth (a0.fBr.take g371.t14.toNat) g389.t28.toNat).fEv) ((nth a0.fBr g371.t14.toNat).fEv)).bind λ c394 =>
    some (⟨c394⟩:zdh)))):Option zdh).bind λ p395 =>
  (if p395.t44=true then
   some (.inr (.inl ()))
  else
   some (.inl ⟨(wI (g389.t28+1))⟩))))
 else
  some (.inr (.inr ())))
def zaQ (a0:TellingsT) (g371:zaO):Option (zaO⊕(Unit⊕Unit)) :=
 (if (decide (g371.t14 < ((a0.fBr.length:Nat):Int)))=true then
  (zlf (0≤g371.t14∧g371.t14 < (a0.fBr.length:Int)) <|
  ((zeE ((nth a0.fBr g371.t14.toNat).fEv)).bind λ c388 =>
  (if (!c388)=true then
   some (.inr (.inl ()))
  else
   (zlf (0≤g371.t14∧g371.t14≤(a0.fBr.length:Int)) <|
   ((zln (zaP a0 g371) ⟨0⟩).bind λ y396 =>
   match y396 with
   | .inl p397 =>
    some (.inr (.inl ()))
   | .inr p398 =>
    some (.inl ⟨(wI (g371.t14+1))⟩))))))
 else
  some (.inr (.inr ())))
def zaS (a0:TellingsT):Option Bool :=
 (if (decide (((a0.fBr.length:Nat):Int) > 12))=true then
  some false
 else
  ((zln (zaQ a0) ⟨0⟩).bind λ y399 =>
  match y399 with
  | .inl p400 =>
   some false
  | .inr p401 =>
   some true))
def zfo (a0:BranchT) (a1:BranchT):Option Bool :=
 ((zfm a0.fEv a1.fEv).bind λ c405 =>
 (if (!c405)=true then
  some false
 else
  some true))
structure zek where
 t5:Int
def zbK (a0:(List BranchT)) (a1:(List BranchT)) (g404:zek):Option (zek⊕(Unit⊕Unit)) :=
 (if (decide (g404.t5 < ((a0.length:Nat):Int)))=true then
  (zlf (0≤g404.t5∧g404.t5 < (a0.length:Int)) <|
  (zlf (0≤g404.t5∧g404.t5 < (a1.length:Int)) <|
  ((zfo (nth a0 g404.t5.toNat) (nth a1 g404.t5.toNat)).bind λ c407 =>
  (if (!c407)=true then
   some (.inr (.inl ()))
  else
   some (.inl ⟨(wI (g404.t5+1))⟩)))))
 else
  some (.inr (.inr ())))
def zeH (a0:(List BranchT)) (a1:(List BranchT)):Option Bool :=
 (if (((a0.length:Nat):Int) != ((a1.length:Nat):Int))=true then
  some false
 else
  ((zln (zbK a0 a1) ⟨0⟩).bind λ y408 =>
  match y408 with
  | .inl p409 =>
   some false
  | .inr p410 =>
   some true))
def zcv (a0:TellingsT) (a1:TellingsT):Option Bool :=
 ((zeH a0.fBr a1.fBr).bind λ c411 =>
 (if (!c411)=true then
  some false
 else
  some true))
end Go.TL
namespace Go.TL
end Go.TL

import Derived.Test.YteonagfnhdlfcaaGreatDoorG20PlR3M
import Derived.Test.YteonagfnhdlfcaaGreatDoorG18PlTrim
import Derived.Test.YteonagfnhdlfcaaGreatDoorG28PpOrd
set_option linter.unusedSimpArgs false
set_option linter.unusedVariables false
noncomputable section
namespace Go.TL
structure zf0 where
 t15:Int
def zci (a0:(List zkd)) (a1:(List zka)) (g0:zf0):Option (zf0⊕(Unit⊕Unit)) :=
 (if (decide (g0.t15 < ((a0.length:Nat):Int)))=true then
  (zkk (0≤g0.t15∧g0.t15 < (a0.length:Int)) <|
  ((zaN ((nth a0 g0.t15.toNat).fEv) a1).bind λ c0 =>
  (if c0=true then
   some (.inr (.inl ()))
  else
   some (.inl ⟨(wI (g0.t15+1))⟩))))
 else
  some (.inr (.inr ())))
structure zgR where
 t6:Bool
 t27:Int
 c0:(List zkd)
structure zjb where
 t6:Bool
 c0:(List zkd)
structure zfP where
 t47:Bool
def zdh (a0:(List zkd)) (a1:(List zka)) (g0:zgR):Option (zgR⊕zjb) :=
 (if (decide (g0.t27 < ((a0.length:Nat):Int)))=true then
  (zkk (0≤g0.t27∧g0.t27 < (a0.length:Int)) <|
  ((zaN a1 ((nth a0 g0.t27.toNat).fEv)).bind λ c0 =>
  (if c0=true then
   some (.inl ⟨g0.t6,(wI (g0.t27+1)),g0.c0⟩)
  else
   ((za4 ((nth a0 g0.t27.toNat).fEv) a1).bind λ c1 =>
   (((if (decide (c1.1 > 0))=true then
     some (⟨(!g0.t6)⟩:zfP)
    else
     some (⟨false⟩:zfP)):Option zfP).bind λ p0 =>
   (if p0.t47=true then
    ((zp a1).bind λ c2 =>
    (zkk ((g0.c0.length+1) * 24≤140737488355328) <|
    ((zp ((nth a0 g0.t27.toNat).fEv)).bind λ c3 =>
    (zkk (((g0.c0.length+1)+1) * 24≤140737488355328) <|
    some (.inl ⟨true,(wI (g0.t27+1)),((g0.c0++[(⟨c2⟩:zkd)])++[(⟨c3⟩:zkd)])⟩)))))
   else
    ((zp ((nth a0 g0.t27.toNat).fEv)).bind λ c4 =>
    (zkk ((g0.c0.length+1) * 24≤140737488355328) <|
    some (.inl ⟨g0.t6,(wI (g0.t27+1)),(g0.c0++[(⟨c4⟩:zkd)])⟩)))))))))
 else
  some (.inr (⟨g0.t6,g0.c0⟩)))
def zgg (a0:(List zkd)) (a1:(List zka)):Option (List zkd) :=
 ((zkx (zci a0 a1) ⟨0⟩).bind λ y0 =>
 match y0 with
 | .inl p0 =>
  some a0
 | .inr p1 =>
  ((zkx (zdh a0 a1) ⟨false,0,[]⟩).bind λ y1 =>
  (if (!y1.t6)=true then
   ((zp a1).bind λ c0 =>
   (zkk ((y1.c0.length+1) * 24≤140737488355328) <|
   some (y1.c0++[(⟨c0⟩:zkd)])))
  else
   some y1.c0)))
structure zf1 where
 t9:Int
 c1:(List zkd)
structure zhm where
 c1:(List zkd)
def zdi (a0:zkh) (g0:zf1):Option (zf1⊕zhm) :=
 (if (decide (g0.t9 < ((a0.fBr.length:Nat):Int)))=true then
  (zkk (0≤g0.t9∧g0.t9 < (a0.fBr.length:Int)) <|
  ((zp ((nth a0.fBr g0.t9.toNat).fEv)).bind λ c0 =>
  (zkk ((g0.c1.length+1) * 24≤140737488355328) <|
  some (.inl ⟨(wI (g0.t9+1)),(g0.c1++[(⟨c0⟩:zkd)])⟩))))
 else
  some (.inr (⟨g0.c1⟩)))
def zbA (a0:zkh):Option zkh :=
 ((zkx (zdi a0) ⟨0,[]⟩).bind λ y0 =>
 some (⟨y0.c1⟩:zkh))
structure zeb where
 t13:Int
def zbx (a0:(List zka)) (a1:(List zka)) (g0:zeb):Option (zeb⊕(Unit⊕Unit)) :=
 (if (decide (g0.t13 < ((a0.length:Nat):Int)))=true then
  (zkk (0≤g0.t13∧g0.t13 < (a0.length:Int)) <|
  (zkk (0≤g0.t13∧g0.t13 < (a1.length:Int)) <|
  (if (!((((nth a0 g0.t13.toNat).Id) == ((nth a1 g0.t13.toNat).Id)) && ((((nth a0 g0.t13.toNat).fVe) == ((nth a1 g0.t13.toNat).fVe)) && ((((nth a0 g0.t13.toNat).Kind) == ((nth a1 g0.t13.toNat).Kind)) && (((nth a0 g0.t13.toNat).Name).toList == ((nth a1 g0.t13.toNat).Name).toList)))))=true then
   some (.inr (.inl ()))
  else
   some (.inl ⟨(wI (g0.t13+1))⟩))))
 else
  some (.inr (.inr ())))
def zec (a0:(List zka)) (a1:(List zka)):Option Bool :=
 (if (((a0.length:Nat):Int) != ((a1.length:Nat):Int))=true then
  some false
 else
  ((zkx (zbx a0 a1) ⟨0⟩).bind λ y0 =>
  match y0 with
  | .inl p0 =>
   some false
  | .inr p1 =>
   some true))
end Go.TL
namespace Go.TL
def zfE (a0:zkd) (a1:(List zka)):Option Bool :=
 ((zeq a1 a0.fEv).bind λ c0 =>
 some c0)
structure zz where
 t8:Int
structure zaG where
 t4:Int
def zg (a0:(List zkd)) (a1:(List zka)) (g0:zz):Option (zz⊕(zaG⊕Unit)) :=
 (if (decide (g0.t8 < ((a0.length:Nat):Int)))=true then
  (zkk (0≤g0.t8∧g0.t8 < (a0.length:Int)) <|
  ((zfE (nth a0 g0.t8.toNat) a1).bind λ c0 =>
  (if c0=true then
   some (.inr (.inl (⟨g0.t8⟩)))
  else
   some (.inl ⟨(wI (g0.t8+1))⟩))))
 else
  some (.inr (.inr ())))
def zL (a0:(List zkd)) (a1:(List zka)):Option Int :=
 ((zkx (zg a0 a1) ⟨0⟩).bind λ y0 =>
 match y0 with
 | .inl p0 =>
  some p0.t4
 | .inr p1 =>
  some (-1))
def zo (a0:(List zkd)) (a1:(List zka)):Option Bool :=
 ((zL a0 a1).bind λ c0 =>
 some (decide (c0 ≥ 0)))
def za6 (a0:zkd) (a1:(List zka)):Option Bool :=
 ((zeq a0.fEv a1).bind λ c0 =>
 some c0)
def zP (a0:(List zkd)) (a1:(List zka)):Option (List zkd) :=
 zkk (a0.length≤9223372036854775807∧(a0.all λ b=>(za6 b a1).isSome)=true) (some (a0.filter λ b=>!((za6 b a1).getD false)))
def zgm (a0:zkd) (a1:zkd):Option Int :=
 ((zbm a0.fEv a1.fEv).bind λ c0 =>
 some c0)
def zY (a0:(List zkd)):Option (List zkd) :=
 zkk (a0.length < 4611686018427387904∧(a0.all λ b=>decide (b.fEv.length≤1000))=true∧zuZ brL a0=true) (some (zr3 brL a0))
def zct (a0:zkh) (a1:(List zka)):Option zkh :=
 ((zah a0).bind λ c0 =>
 ((zo c0.fBr a1).bind λ c1 =>
 (if c1=true then
  some c0
 else
  ((zP c0.fBr a1).bind λ c2 =>
  ((zh a1).bind λ c3 =>
  (zkk ((c2.length+1) * 24≤140737488355328) <|
  ((zY (c2++[(⟨c3⟩:zkd)])).bind λ c4 =>
  (zkk (c4.length=(c2.length+1)) <|
  some (⟨c4⟩:zkh)))))))))
structure zfd where
 t5:(List zkd)
 t13:Int
structure zgW where
 t5:(List zkd)
def zcj (a1:zkh) (g0:zfd):Option (zfd⊕zgW) :=
 (if (decide (g0.t13 < ((a1.fBr.length:Nat):Int)))=true then
  (zkk (0≤g0.t13∧g0.t13 < (a1.fBr.length:Int)) <|
  ((zgg g0.t5 ((nth a1.fBr g0.t13.toNat).fEv)).bind λ c0 =>
  some (.inl ⟨c0,(wI (g0.t13+1))⟩)))
 else
  some (.inr (⟨g0.t5⟩)))
def zfn (a0:zkh) (a1:zkh):Option zkh :=
 ((zkx (zcj a1) ⟨a0.fBr,0⟩).bind λ y0 =>
 ((zbA (⟨y0.t5⟩:zkh)).bind λ c0 =>
 some c0))
structure zdu where
 t14:Bool
def zcA (a0:zkh) (a1:zkh):Option (zkh×Bool) :=
 ((((zao a0).bind λ c0 =>
  (if (!c0)=true then
   some (⟨true⟩:zdu)
  else
   ((zao a1).bind λ c1 =>
   some (⟨(!c1)⟩:zdu)))):Option zdu).bind λ p0 =>
 (if p0.t14=true then
  some ((⟨[]⟩:zkh),false)
 else
  ((zfn a0 a1).bind λ c2 =>
  ((zao c2).bind λ c3 =>
  (if (!c3)=true then
   some ((⟨[]⟩:zkh),false)
  else
   some (c2,true))))))
structure zdv where
 t16:Bool
structure zcO where
 t23:Int
 c2:(List zkd)
structure zf8 where
 c2:(List zkd)
def zay (a1:zkh) (g0:zcO):Option (zcO⊕zf8) :=
 (if (decide (g0.t23 < ((a1.fBr.length:Nat):Int)))=true then
  (zkk (0≤g0.t23∧g0.t23 < (a1.fBr.length:Int)) <|
  ((zct (⟨g0.c2⟩:zkh) ((nth a1.fBr g0.t23.toNat).fEv)).bind λ c0 =>
  some (.inl ⟨(wI (g0.t23+1)),c0.fBr⟩)))
 else
  some (.inr (⟨g0.c2⟩)))
def zcB (a0:zkh) (a1:zkh):Option (zkh×Bool) :=
 ((((za0 a0).bind λ c0 =>
  (if (!c0)=true then
   some (⟨true⟩:zdv)
  else
   ((za0 a1).bind λ c1 =>
   some (⟨(!c1)⟩:zdv)))):Option zdv).bind λ p0 =>
 (if p0.t16=true then
  some ((⟨[]⟩:zkh),false)
 else
  ((zah a0).bind λ c2 =>
  ((zkx (zay a1) ⟨0,c2.fBr⟩).bind λ y0 =>
  (if (decide (((y0.c2.length:Nat):Int) > 12))=true then
   some ((⟨[]⟩:zkh),false)
  else
   some ((⟨y0.c2⟩:zkh),true))))))
end Go.TL
namespace Go.TL
structure zc5 where
 t16:Int
def zaU (a0:zkh) (a1:zkh) (g0:zc5):Option (zc5⊕(Unit⊕Unit)) :=
 (if (decide (g0.t16 < ((a0.fBr.length:Nat):Int)))=true then
  (zkk (0≤g0.t16∧g0.t16 < (a0.fBr.length:Int)) <|
  (zkk (0≤g0.t16∧g0.t16 < (a1.fBr.length:Int)) <|
  ((zec ((nth a0.fBr g0.t16.toNat).fEv) ((nth a1.fBr g0.t16.toNat).fEv)).bind λ c0 =>
  (if (!c0)=true then
   some (.inr (.inl ()))
  else
   some (.inl ⟨(wI (g0.t16+1))⟩)))))
 else
  some (.inr (.inr ())))
def zbV (a0:zkh) (a1:zkh):Option Bool :=
 (if (((a0.fBr.length:Nat):Int) != ((a1.fBr.length:Nat):Int))=true then
  some false
 else
  ((zkx (zaU a0 a1) ⟨0⟩).bind λ y0 =>
  match y0 with
  | .inl p0 =>
   some false
  | .inr p1 =>
   some true))
end Go.TL
namespace Go.TL
def zd0 (a0:zkb):Option zkb :=
 ((zbA a0.fTe).bind λ c0 =>
 some (⟨a0.Id,a0.fVe,c0⟩:zkb))
structure zfe where
 t15:Int
def zbn (a0:(List zkd)) (a1:(List zka)) (g0:zfe):Option (zfe⊕(Unit⊕Unit)) :=
 (if (decide (g0.t15 < ((a0.length:Nat):Int)))=true then
  (zkk (0≤g0.t15∧g0.t15 < (a0.length:Int)) <|
  ((zaN ((nth a0 g0.t15.toNat).fEv) a1).bind λ c0 =>
  (if c0=true then
   some (.inr (.inl ()))
  else
   some (.inl ⟨(wI (g0.t15+1))⟩))))
 else
  some (.inr (.inr ())))
structure zgp where
 t6:Bool
 t27:Int
 c1:(List zkd)
structure ziw where
 t6:Bool
 c1:(List zkd)
structure zff where
 t47:Bool
def zck (a0:(List zkd)) (a1:(List zka)) (g0:zgp):Option (zgp⊕ziw) :=
 (if (decide (g0.t27 < ((a0.length:Nat):Int)))=true then
  (zkk (0≤g0.t27∧g0.t27 < (a0.length:Int)) <|
  ((zaN a1 ((nth a0 g0.t27.toNat).fEv)).bind λ c0 =>
  (if c0=true then
   some (.inl ⟨g0.t6,(wI (g0.t27+1)),g0.c1⟩)
  else
   ((za4 ((nth a0 g0.t27.toNat).fEv) a1).bind λ c1 =>
   (((if (decide (c1.1 > 0))=true then
     some (⟨(!g0.t6)⟩:zff)
    else
     some (⟨false⟩:zff)):Option zff).bind λ p0 =>
   (if p0.t47=true then
    ((zp a1).bind λ c2 =>
    (zkk ((g0.c1.length+1) * 24≤140737488355328) <|
    ((zp ((nth a0 g0.t27.toNat).fEv)).bind λ c3 =>
    (zkk (((g0.c1.length+1)+1) * 24≤140737488355328) <|
    some (.inl ⟨true,(wI (g0.t27+1)),((g0.c1++[(⟨c2⟩:zkd)])++[(⟨c3⟩:zkd)])⟩)))))
   else
    ((zp ((nth a0 g0.t27.toNat).fEv)).bind λ c4 =>
    (zkk ((g0.c1.length+1) * 24≤140737488355328) <|
    some (.inl ⟨g0.t6,(wI (g0.t27+1)),(g0.c1++[(⟨c4⟩:zkd)])⟩)))))))))
 else
  some (.inr (⟨g0.t6,g0.c1⟩)))
def zd1 (a0:(List zkd)) (a1:(List zka)):Option (List zkd) :=
 ((zkx (zbn a0 a1) ⟨0⟩).bind λ y0 =>
 match y0 with
 | .inl p0 =>
  some a0
 | .inr p1 =>
  ((zkx (zck a0 a1) ⟨false,0,[]⟩).bind λ y1 =>
  (if (!y1.t6)=true then
   ((zp a1).bind λ c0 =>
   (zkk ((y1.c1.length+1) * 24≤140737488355328) <|
   some (y1.c1++[(⟨c0⟩:zkd)])))
  else
   some y1.c1)))
structure zed where
 t21:Bool
structure zcC where
 t42:Bool
def zdw (a0:zkb) (a1:Int) (a2:ByteArray):Option (zkb×Int) :=
 ((((z7 a1 1 6).bind λ c0 =>
  (if (!c0)=true then
   some (⟨true⟩:zed)
  else
   ((zen a2).bind λ c1 =>
   some (⟨(!c1)⟩:zed)))):Option zed).bind λ p0 =>
 (if p0.t21=true then
  some (a0,1)
 else
  ((zdf a0).bind λ c2 =>
  (if (!c2)=true then
   some (a0,2)
  else
   ((zd9 a0).bind λ c3 =>
   ((zcx c3).bind λ c4 =>
   (((if (a1 == 2)=true then
     ((zbC c4.1.fSi a2).bind λ c5 =>
     some (⟨(decide (c5 ≥ 0))⟩:zcC))
    else
     some (⟨false⟩:zcC)):Option zcC).bind λ p1 =>
   (if p1.t42=true then
    some (a0,5)
   else
    ((zb1 c4.1 (⟨c4.1.Next,a0.fVe,a1,a2⟩:zka)).bind λ c6 =>
    (if (!c6.2)=true then
     some (a0,3)
    else
     (if (((c3.length:Nat):Int) == 60)=true then
      some (a0,4)
     else
      ((zp c3).bind λ c7 =>
      (zkk ((c7.length+1) * 40≤140737488355328) <|
      ((zd1 a0.fTe.fBr (c7++([(⟨c4.1.Next,a0.fVe,a1,a2⟩:zka)]))).bind λ c8 =>
      ((zbA (⟨c8⟩:zkh)).bind λ c9 =>
      some ((⟨a0.Id,a0.fVe,c9⟩:zkb),0))))))))))))))))
structure zee where
 t4:Int
 t14:Int
 b0_0:Int
 b0_1:Int
 b0_2:(List zkd)
structure zgD where
 t4:Int
 b0_0:Int
 b0_1:Int
 b0_2:(List zkd)
def zaH (c0:(List ByteArray)) (g0:zee):Option (zee⊕zgD) :=
 (if (decide (g0.t14 < ((c0.length:Nat):Int)))=true then
  (zkk (0≤g0.t14∧g0.t14 < ((c0.length:Nat):Int)) <|
  ((zdw (⟨g0.b0_0,g0.b0_1,(⟨g0.b0_2⟩:zkh)⟩:zkb) 2 (nth c0 g0.t14.toNat)).bind λ c1 =>
  (if (c1.2 == 0)=true then
   some (.inl ⟨(wI (g0.t4+1)),(wI (g0.t14+1)),c1.1.Id,c1.1.fVe,c1.1.fTe.fBr⟩)
  else
   some (.inl ⟨g0.t4,(wI (g0.t14+1)),g0.b0_0,g0.b0_1,g0.b0_2⟩))))
 else
  some (.inr (⟨g0.t4,g0.b0_0,g0.b0_1,g0.b0_2⟩)))
def zef (a0:zkb):Option (zkb×Int) :=
 ((zfO a0.fTe.fBr).bind λ c0 =>
 ((zkx (zaH c0) ⟨0,0,a0.Id,a0.fVe,a0.fTe.fBr⟩).bind λ y0 =>
 some ((⟨y0.b0_0,y0.b0_1,(⟨y0.b0_2⟩:zkh)⟩:zkb),y0.t4)))
structure zbJ where
 t25:Bool
structure zbK where
 t38:Bool
def zS (a0:zkb) (a1:Int) (a2:ByteArray):Option Int :=
 ((zcy a0.fTe).bind λ c0 =>
 ((zba a0).bind λ c1 =>
 ((zbG c1 a1 a2).bind λ c2 =>
 ((((zal a1).bind λ c3 =>
  (if (!c3)=true then
   some (⟨true⟩:zbJ)
  else
   ((zbj a2).bind λ c4 =>
   some (⟨(!c4)⟩:zbJ)))):Option zbJ).bind λ p0 =>
 (if p0.t25=true then
  some 1
 else
  ((z8 a0).bind λ c5 =>
  (if (!c5)=true then
   some 2
  else
   (((if (a1 == 2)=true then
     ((zF c1.fSi a2).bind λ c6 =>
     some (⟨c6⟩:zbK))
    else
     some (⟨false⟩:zbK)):Option zbK).bind λ p1 =>
   (if p1.t38=true then
    some 5
   else
    (if (!c2.1)=true then
     some 3
    else
     (if (((c0.length:Nat):Int) == 60)=true then
      some 4
     else
      ((zh c0).bind λ c7 =>
      (zkk ((c7.length+1) * 40≤140737488355328) <|
      ((zct a0.fTe (c7++([(⟨c1.Next,a0.fVe,a1,a2⟩:zka)]))).bind λ c8 =>
      none))))))))))))))
end Go.TL
namespace Go.TL
def zd2 (a0:zkb):Option (zkb×Bool) :=
 ((zW a0).bind λ c0 =>
 (if (!c0)=true then
  some ((⟨0,0,(⟨[]⟩:zkh)⟩:zkb),false)
 else
  ((zdp a0.fVe a0.Id).bind λ c1 =>
  (if (!c1.2)=true then
   some ((⟨0,0,(⟨[]⟩:zkh)⟩:zkb),false)
  else
   ((zd0 a0).bind λ c2 =>
   some ((⟨c2.Id,c1.1,c2.fTe⟩:zkb),true))))))
structure zeX where
 t19:Bool
structure zeY where
 b0_1:Int
def zeg (a0:zkb) (a1:zlF):Option (zkb×Bool) :=
 ((((zW a0).bind λ c0 =>
  (if (!c0)=true then
   some (⟨true⟩:zeX)
  else
   ((zW (⟨0,a1.fVe,a1.fTe⟩:zkb)).bind λ c1 =>
   some (⟨(!c1)⟩:zeX)))):Option zeX).bind λ p0 =>
 (if p0.t19=true then
  some ((⟨0,0,(⟨[]⟩:zkh)⟩:zkb),false)
 else
  ((zcA a0.fTe a1.fTe).bind λ c2 =>
  (if (!c2.2)=true then
   some ((⟨0,0,(⟨[]⟩:zkh)⟩:zkb),false)
  else
   (((if (decide (a1.fVe > a0.fVe))=true then
     some (⟨a1.fVe⟩:zeY)
    else
     some (⟨a0.fVe⟩:zeY)):Option zeY).bind λ p1 =>
   some ((⟨a0.Id,p1.b0_1,c2.1⟩:zkb),true))))))
def zdx (a0:zkb) (a1:zkb):Option Bool :=
 (if (a0.Id == a1.Id)=true then
  (if (a0.fVe == a1.fVe)=true then
   ((zbV a0.fTe a1.fTe).bind λ c0 =>
   some c0)
  else
   some false)
 else
  some false)
end Go.TL
namespace Go.TL
def za1 (a0:zlF):Option zlF :=
 ((zbA a0.fTe).bind λ c0 =>
 some (⟨a0.fVe,c0⟩:zlF))
structure zf2 where
 t11:Int
 c3:(List zkb)
structure zhn where
 c3:(List zkb)
def zcl (a0:zkn) (g0:zf2):Option (zf2⊕zhn) :=
 (if (decide (g0.t11 < ((a0.fRe.length:Nat):Int)))=true then
  (zkk (0≤g0.t11∧g0.t11 < (a0.fRe.length:Int)) <|
  ((zd0 (⟨(nth a0.fRe g0.t11.toNat).Id,(nth a0.fRe g0.t11.toNat).fVe,((nth a0.fRe g0.t11.toNat).fTe)⟩:zkb)).bind λ c0 =>
  (zkk ((g0.c3.length+1) * 40≤140737488355328) <|
  some (.inl ⟨(wI (g0.t11+1)),(g0.c3++([c0]))⟩))))
 else
  some (.inr (⟨g0.c3⟩)))
structure zf3 where
 t26:Int
 c3:(List zkB)
structure zho where
 c3:(List zkB)
def zdj (a0:zkn) (g0:zf3):Option (zf3⊕zho) :=
 (if (decide (g0.t26 < ((a0.Line.length:Nat):Int)))=true then
  (zkk (0≤g0.t26∧g0.t26 < (a0.Line.length:Int)) <|
  ((za1 (⟨((nth a0.Line g0.t26.toNat).Word).fVe,(((nth a0.Line g0.t26.toNat).Word).fTe)⟩:zlF)).bind λ c0 =>
  (zkk ((g0.c3.length+1) * 40≤140737488355328) <|
  some (.inl ⟨(wI (g0.t26+1)),(g0.c3++([(⟨(nth a0.Line g0.t26.toNat).To,c0⟩:zkB)]))⟩))))
 else
  some (.inr (⟨g0.c3⟩)))
def zes (a0:zkn):Option zkn :=
 ((zkx (zcl a0) ⟨0,[]⟩).bind λ y0 =>
 ((zkx (zdj a0) ⟨0,[]⟩).bind λ y1 =>
 some (⟨y0.c3,y1.c3⟩:zkn)))
def zdk (a0:zkB):Option zkB :=
 ((zah a0.Word.fTe).bind λ c0 =>
 some (⟨a0.To,(⟨a0.Word.fVe,c0⟩:zlF)⟩:zkB))
def zaz (a0:(List zkb)) (i0:Nat) (a2:zlF):Option (Bool×(List zkb)) :=
 (zkk (i0 < a0.length) <|
 ((zcB ((nth a0 i0).fTe) a2.fTe).bind λ c0 =>
 (if c0.2=true then
  some (c0.2,(a0.set i0 (⟨(nth a0 i0).Id,(max ((nth a0 i0).fVe) a2.fVe),c0.1⟩:zkb)))
 else
  some (c0.2,(a0.set i0 (⟨(nth a0 i0).Id,(nth a0 i0).fVe,((nth a0 i0).fTe)⟩:zkb))))))
def zai (a0:(List zkb)) (i0:Nat) (f0:zkb) (a3:Int) (a4:ByteArray):Option (Int×(List zkb)) :=
 ((zcy f0.fTe).bind λ c0 =>
 ((zba f0).bind λ c1 =>
 ((zbG c1 a3 a4).bind λ c2 =>
 ((zal a3).bind λ c3 =>
 (if (!c3)=true then
  none
 else
  ((zbj a4).bind λ c4 =>
  (if (!c4)=true then
   none
  else
   ((z8 f0).bind λ c5 =>
   (if (!c5)=true then
    none
   else
    (if (a3 == 2)=true then
     ((zF c1.fSi a4).bind λ c6 =>
     (if c6=true then
      none
     else
      (if (!c2.1)=true then
       none
      else
       (if (((c0.length:Nat):Int) == 60)=true then
        none
       else
        ((zh c0).bind λ c7 =>
        (zkk ((c7.length+1) * 40≤140737488355328) <|
        ((zct f0.fTe (c7++([(⟨c1.Next,f0.fVe,a3,a4⟩:zka)]))).bind λ c8 =>
        some (0,(a0.set i0 (⟨f0.Id,f0.fVe,c8⟩:zkb))))))))))
    else
     (if (!c2.1)=true then
      none
     else
      (if (((c0.length:Nat):Int) == 60)=true then
       none
      else
       ((zh c0).bind λ c9 =>
       (zkk ((c9.length+1) * 40≤140737488355328) <|
       ((zct f0.fTe (c9++([(⟨c1.Next,f0.fVe,a3,a4⟩:zka)]))).bind λ c10 =>
       some (0,(a0.set i0 (⟨f0.Id,f0.fVe,c10⟩:zkb))))))))))))))))))
structure zbz where
 t3:Int
 t12:Int
 c0:(List zkb)
structure ze6 where
 t3:Int
 c0:(List zkb)
def zQ (c0:(List ByteArray)) (i0:Nat) (g0:zbz):Option (zbz⊕ze6) :=
 (if (decide (g0.t12 < ((c0.length:Nat):Int)))=true then
  (zkk (0≤g0.t12∧g0.t12 < ((c0.length:Nat):Int)) <|
  (zkk (i0 < g0.c0.length) <|
  (match zS (⟨(nth g0.c0 i0).Id,(nth g0.c0 i0).fVe,((nth g0.c0 i0).fTe)⟩:zkb) 2 (nth c0 g0.t12.toNat) with
  | some c1 =>
   (if (c1 == 0)=true then
    some (.inl ⟨(wI (g0.t3+1)),(wI (g0.t12+1)),(g0.c0.set i0 (⟨(nth g0.c0 i0).Id,(nth g0.c0 i0).fVe,((nth g0.c0 i0).fTe)⟩:zkb))⟩)
   else
    some (.inl ⟨g0.t3,(wI (g0.t12+1)),(g0.c0.set i0 (⟨(nth g0.c0 i0).Id,(nth g0.c0 i0).fVe,((nth g0.c0 i0).fTe)⟩:zkb))⟩))
  | none =>
   ((zai g0.c0 i0 (⟨(nth g0.c0 i0).Id,(nth g0.c0 i0).fVe,((nth g0.c0 i0).fTe)⟩:zkb) 2 (nth c0 g0.t12.toNat)).bind λ c2 =>
   (if (c2.1 == 0)=true then
    some (.inl ⟨(wI (g0.t3+1)),(wI (g0.t12+1)),c2.2⟩)
   else
    some (.inl ⟨g0.t3,(wI (g0.t12+1)),c2.2⟩))))))
 else
  some (.inr (⟨g0.t3,g0.c0⟩)))
def zbh (a0:(List zkb)) (i0:Nat):Option (Int×(List zkb)) :=
 (zkk (i0 < a0.length) <|
 ((zdt ((nth a0 i0).fTe)).bind λ c0 =>
 ((zkx (zQ c0 i0) ⟨0,0,(a0.set i0 (⟨(nth a0 i0).Id,(nth a0 i0).fVe,((nth a0 i0).fTe)⟩:zkb))⟩).bind λ y0 =>
 some (y0.t3,y0.c0))))
end Go.TL
namespace Go.TL
structure zks where
 Kind:Int
 Region:Int
 What:Int
 Name:ByteArray
 K:Int
 deriving DecidableEq,Inhabited
def zfo (a0:zkb):Option (zlF×Bool) :=
 ((zW a0).bind λ c0 =>
 (if (!c0)=true then
  some ((⟨0,(⟨[]⟩:zkh)⟩:zlF),false)
 else
  ((zbA a0.fTe).bind λ c1 =>
  some ((⟨a0.fVe,c1⟩:zlF),true))))
structure zaA where
 t20:Bool
def zeh (a0:zkn) (a1:zks):Option (zkn×Int×(List zkb)) :=
 (((if (a1.Kind == 4)=true then
   some (⟨true⟩:zaA)
  else
   (if (a1.Kind == 5)=true then
    some (⟨true⟩:zaA)
   else
    some (⟨(a1.Kind == 6)⟩:zaA))):Option zaA).bind λ p0 =>
 (if p0.t20=true then
  ((z7 a1.K 0 (wI (((a0.Line.length:Nat):Int) - 1))).bind λ c0 =>
  (if (!c0)=true then
   some (a0,1,a0.fRe)
  else
   (zkk (0≤a1.K∧a1.K < ((a0.Line.length:Nat):Int)) <|
   (if (a1.Kind == 6)=true then
    (if (((a0.Line.length:Nat):Int) == 20)=true then
     some (a0,1,a0.fRe)
    else
     ((za1 (⟨((nth a0.Line a1.K.toNat).Word).fVe,(((nth a0.Line a1.K.toNat).Word).fTe)⟩:zlF)).bind λ c1 =>
     (zkk ((a0.Line.length+1) * 40≤140737488355328) <|
     some ((⟨a0.fRe,(a0.Line++([(⟨(nth a0.Line a1.K.toNat).To,c1⟩:zkB)]))⟩:zkn),0,a0.fRe))))
   else
    (zkk (0≤0∧0≤a1.K∧a1.K≤((a0.Line.length:Nat):Int)) <|
    (zkk (a1.K.toNat * 40≤140737488355328) <|
    (zkk (0≤(wI (a1.K+1))∧(wI (a1.K+1))≤((a0.Line.length:Nat):Int)∧((a0.Line.length:Nat):Int)≤((a0.Line.length:Nat):Int)) <|
    (zkk ((a1.K.toNat+(a0.Line.length - (wI (a1.K+1)).toNat)) * 40≤140737488355328) <|
    (if (a1.Kind == 5)=true then
     some ((⟨a0.fRe,((([])++(a0.Line.take a1.K.toNat))++((a0.Line.drop ((wI (a1.K+1)).toNat)).take (a0.Line.length - (wI (a1.K+1)).toNat)))⟩:zkn),0,a0.fRe)
    else
     (zkk (0≤((nth a0.Line a1.K.toNat).To)∧((nth a0.Line a1.K.toNat).To) < ((a0.fRe.length:Nat):Int)) <|
     ((zeg (⟨(nth a0.fRe (((nth a0.Line a1.K.toNat).To).toNat)).Id,(nth a0.fRe (((nth a0.Line a1.K.toNat).To).toNat)).fVe,((nth a0.fRe (((nth a0.Line a1.K.toNat).To).toNat)).fTe)⟩:zkb) (⟨((nth a0.Line a1.K.toNat).Word).fVe,(((nth a0.Line a1.K.toNat).Word).fTe)⟩:zlF)).bind λ c2 =>
     (if (!c2.2)=true then
      some ((⟨a0.fRe,((([])++(a0.Line.take a1.K.toNat))++((a0.Line.drop ((wI (a1.K+1)).toNat)).take (a0.Line.length - (wI (a1.K+1)).toNat)))⟩:zkn),2,a0.fRe)
     else
      (zkk (0≤((nth a0.Line a1.K.toNat).To)∧((nth a0.Line a1.K.toNat).To) < ((a0.fRe.length:Nat):Int)) <|
      some ((⟨(a0.fRe.set (((nth a0.Line a1.K.toNat).To).toNat) c2.1),((([])++(a0.Line.take a1.K.toNat))++((a0.Line.drop ((wI (a1.K+1)).toNat)).take (a0.Line.length - (wI (a1.K+1)).toNat)))⟩:zkn),0,(a0.fRe.set (((nth a0.Line a1.K.toNat).To).toNat) c2.1)))))))))))))))
 else
  ((z7 a1.Region 0 1).bind λ c3 =>
  (if (!c3)=true then
   some (a0,1,a0.fRe)
  else
   (zkk (0≤a1.Region∧a1.Region < ((a0.fRe.length:Nat):Int)) <|
   (if (a1.Kind == 1)=true then
    ((zdw (⟨(nth a0.fRe a1.Region.toNat).Id,(nth a0.fRe a1.Region.toNat).fVe,((nth a0.fRe a1.Region.toNat).fTe)⟩:zkb) a1.What a1.Name).bind λ c4 =>
    (zkk (0≤a1.Region∧a1.Region < ((a0.fRe.length:Nat):Int)) <|
    some ((⟨(a0.fRe.set a1.Region.toNat c4.1),a0.Line⟩:zkn),c4.2,(a0.fRe.set a1.Region.toNat c4.1))))
   else
    (if (a1.Kind == 2)=true then
     ((zd2 (⟨(nth a0.fRe a1.Region.toNat).Id,(nth a0.fRe a1.Region.toNat).fVe,((nth a0.fRe a1.Region.toNat).fTe)⟩:zkb)).bind λ c5 =>
     (if (!c5.2)=true then
      some (a0,1,a0.fRe)
     else
      (zkk (0≤a1.Region∧a1.Region < ((a0.fRe.length:Nat):Int)) <|
      some ((⟨(a0.fRe.set a1.Region.toNat c5.1),a0.Line⟩:zkn),0,(a0.fRe.set a1.Region.toNat c5.1)))))
    else
     (if (a1.Kind == 3)=true then
      (if (((a0.Line.length:Nat):Int) == 20)=true then
       some (a0,1,a0.fRe)
      else
       ((zfo (⟨(nth a0.fRe a1.Region.toNat).Id,(nth a0.fRe a1.Region.toNat).fVe,((nth a0.fRe a1.Region.toNat).fTe)⟩:zkb)).bind λ c6 =>
       (zkk ((a0.Line.length+1) * 40≤140737488355328) <|
       some ((⟨a0.fRe,(a0.Line++([(⟨(wI (1 - a1.Region)),c6.1⟩:zkB)]))⟩:zkn),0,a0.fRe))))
     else
      (if (a1.Kind == 7)=true then
       ((zdf (⟨(nth a0.fRe a1.Region.toNat).Id,(nth a0.fRe a1.Region.toNat).fVe,((nth a0.fRe a1.Region.toNat).fTe)⟩:zkb)).bind λ c7 =>
       (if (!c7)=true then
        some (a0,1,a0.fRe)
       else
        ((zef (⟨(nth a0.fRe a1.Region.toNat).Id,(nth a0.fRe a1.Region.toNat).fVe,((nth a0.fRe a1.Region.toNat).fTe)⟩:zkb)).bind λ c8 =>
        (if (c8.2 == 0)=true then
         some (a0,1,a0.fRe)
        else
         (zkk (0≤a1.Region∧a1.Region < ((a0.fRe.length:Nat):Int)) <|
         some ((⟨(a0.fRe.set a1.Region.toNat c8.1),a0.Line⟩:zkn),0,(a0.fRe.set a1.Region.toNat c8.1)))))))
      else
       some (a0,1,a0.fRe))))))))))
def zfF:Option zkn :=
 some (⟨[(⟨0,0,(⟨[]⟩:zkh)⟩:zkb),(⟨1,0,(⟨[]⟩:zkh)⟩:zkb)],[]⟩:zkn)
structure zT where
 t33:Bool
def zdy (a0:zkn) (a1:zks):Option (zkn×Int) :=
 ((zdg a0).bind λ c0 =>
 (if (!c0)=true then
  some ((⟨[],[]⟩:zkn),1)
 else
  ((zes a0).bind λ c1 =>
  ((zeh c1 a1).bind λ c2 =>
  (zkk (c2.2.2.length=c1.fRe.length) <|
  (((if (c2.2.1 != 0)=true then
    (if (c2.2.1 != 2)=true then
     some (⟨true⟩:zT)
    else
     (if (c2.2.1 == 2)=true then
      some (⟨(a1.Kind != 4)⟩:zT)
     else
      some (⟨false⟩:zT)))
   else
    (if (c2.2.1 == 2)=true then
     some (⟨(a1.Kind != 4)⟩:zT)
    else
     some (⟨false⟩:zT))):Option zT).bind λ p0 =>
  (if p0.t33=true then
   ((zes a0).bind λ c3 =>
   some (c3,c2.2.1))
  else
   some ((⟨c2.2.2,c2.1.Line⟩:zkn),c2.2.1))))))))
structure zeD where
 t18:Int
 b1_0:(List zkb)
 b1_1:(List zkB)
 c2:(List Int)
structure zgL where
 b1_0:(List zkb)
 b1_1:(List zkB)
 c2:(List Int)
def zbW (a0:(List zks)) (g0:zeD):Option (zeD⊕zgL) :=
 (if (decide (g0.t18 < ((a0.length:Nat):Int)))=true then
  (zkk (0≤g0.t18∧g0.t18 < (a0.length:Int)) <|
  ((zdy (⟨g0.b1_0,g0.b1_1⟩:zkn) (nth a0 g0.t18.toNat)).bind λ c0 =>
  (zkk ((g0.c2.length+1) * 8≤140737488355328) <|
  some (.inl ⟨(wI (g0.t18+1)),c0.1.fRe,c0.1.Line,(g0.c2++([c0.2]))⟩))))
 else
  some (.inr (⟨g0.b1_0,g0.b1_1,g0.c2⟩)))
def zeZ (a0:(List zks)):Option (zkn×(List Int)×Bool) :=
 (if (decide (((a0.length:Nat):Int) > 120))=true then
  some ((⟨[],[]⟩:zkn),[],false)
 else
  ((zfF).bind λ c0 =>
  ((zkx (zbW a0) ⟨0,c0.fRe,[],[]⟩).bind λ y0 =>
  some ((⟨y0.b1_0,y0.b1_1⟩:zkn),y0.c2,true))))
def zgn:Option zkn :=
 some (⟨[(⟨0,0,(⟨[]⟩:zkh)⟩:zkb),(⟨1,0,(⟨[]⟩:zkh)⟩:zkb)],[]⟩:zkn)
def zb8 (a0:(List zkb)) (i0:Nat):Option (Bool×(List zkb)) :=
 (zkk (i0 < a0.length) <|
 (zkk (i0 < a0.length) <|
 ((zdq ((nth a0 i0).fVe) ((nth a0 i0).Id)).bind λ c0 =>
 (if c0.2=true then
  (zkk (i0 < a0.length) <|
  some (c0.2,(a0.set i0 (⟨(nth a0 i0).Id,c0.1,((nth a0 i0).fTe)⟩:zkb))))
 else
  some (c0.2,a0)))))
def zcu (a0:Bool):Option Int :=
 (if a0=true then
  some 0
 else
  some 1)
def zbL (a0:zkn) (a1:zkB):Option (Bool×zkn) :=
 (if (((a0.Line.length:Nat):Int) == 20)=true then
  some (false,a0)
 else
  ((zdk a1).bind λ c0 =>
  (zkk ((a0.Line.length+1) * 40≤140737488355328) <|
  some (true,(⟨a0.fRe,(a0.Line++[c0])⟩:zkn)))))
def zaY (a0:zkn) (a1:zks):Option (Int×zkn×(List zkb)) :=
 ((zds a1.Region).bind λ c0 =>
 (if (!c0)=true then
  some (1,a0,a0.fRe)
 else
  (zkk (0≤a1.Region∧a1.Region < ((a0.fRe.length:Nat):Int)) <|
  (if (a1.Kind == 1)=true then
   (zkk (a1.Region.toNat < a0.fRe.length) <|
   (match zS (⟨(nth a0.fRe a1.Region.toNat).Id,(nth a0.fRe a1.Region.toNat).fVe,((nth a0.fRe a1.Region.toNat).fTe)⟩:zkb) a1.What a1.Name with
   | some c1 =>
    some (c1,(⟨(a0.fRe.set a1.Region.toNat (⟨(nth a0.fRe a1.Region.toNat).Id,(nth a0.fRe a1.Region.toNat).fVe,((nth a0.fRe a1.Region.toNat).fTe)⟩:zkb)),a0.Line⟩:zkn),(a0.fRe.set a1.Region.toNat (⟨(nth a0.fRe a1.Region.toNat).Id,(nth a0.fRe a1.Region.toNat).fVe,((nth a0.fRe a1.Region.toNat).fTe)⟩:zkb)))
   | none =>
    ((zai a0.fRe a1.Region.toNat (⟨(nth a0.fRe a1.Region.toNat).Id,(nth a0.fRe a1.Region.toNat).fVe,((nth a0.fRe a1.Region.toNat).fTe)⟩:zkb) a1.What a1.Name).bind λ c2 =>
    (zkk (c2.2.length=a0.fRe.length) <|
    some (c2.1,(⟨c2.2,a0.Line⟩:zkn),c2.2)))))
  else
   (if (a1.Kind == 2)=true then
    ((zb8 a0.fRe a1.Region.toNat).bind λ c3 =>
    (zkk (c3.2.length=a0.fRe.length) <|
    ((zcu c3.1).bind λ c4 =>
    some (c4,(⟨c3.2,a0.Line⟩:zkn),c3.2))))
   else
    (if (a1.Kind == 3)=true then
     ((zcz (nth a0.fRe a1.Region.toNat)).bind λ c5 =>
     ((zbL a0 (⟨(wI (1 - a1.Region)),c5⟩:zkB)).bind λ c6 =>
     ((zcu c6.1).bind λ c7 =>
     some (c7,(⟨a0.fRe,c6.2.Line⟩:zkn),a0.fRe))))
    else
     ((z8 (nth a0.fRe a1.Region.toNat)).bind λ c8 =>
     (if c8=true then
      ((zbh a0.fRe a1.Region.toNat).bind λ c9 =>
      (zkk (c9.2.length=a0.fRe.length) <|
      ((zcu (decide (c9.1 > 0))).bind λ c10 =>
      some (c10,(⟨c9.2,a0.Line⟩:zkn),c9.2))))
     else
      ((zcu false).bind λ c11 =>
      some (c11,a0,a0.fRe))))))))))
def zbM (a0:zkn) (i2:Nat) (f2:zkB) (a3:zkB):Option (Bool×zkn) :=
 (if (((a0.Line.length:Nat):Int) == 20)=true then
  some (false,(⟨a0.fRe,(a0.Line.set i2 f2)⟩:zkn))
 else
  ((zdk (⟨a3.To,(⟨a3.Word.fVe,f2.Word.fTe⟩:zlF)⟩:zkB)).bind λ c0 =>
  (zkk ((a0.Line.length+1) * 40≤140737488355328) <|
  some (true,(⟨a0.fRe,((a0.Line.set i2 f2)++[c0])⟩:zkn)))))
def zas (a0:(List zkB)) (i0:Nat) (f0:zkB) (a1:Int) (a2:Int):Option (List zkB) :=
 zkk (i0 < a0.length∧a1=(i0:Int)∧a2=(i0:Int)+1∧a0.length * 40≤140737488355328) (some (a0.take i0++a0.drop (i0+1)))
def zae (a0:zkn) (a1:zks):Option (Int×zkn×(List zkb)) :=
 ((zc9 a1.K 0 (wI (((a0.Line.length:Nat):Int) - 1))).bind λ c0 =>
 (if (!c0)=true then
  some (1,a0,a0.fRe)
 else
  (zkk (a1.K.toNat < a0.Line.length) <|
  (zkk (0≤a1.K∧a1.K < ((a0.Line.length:Nat):Int)) <|
  (if (a1.Kind == 6)=true then
   ((zbM a0 a1.K.toNat (⟨(nth a0.Line a1.K.toNat).To,(⟨((nth a0.Line a1.K.toNat).Word).fVe,(((nth a0.Line a1.K.toNat).Word).fTe)⟩:zlF)⟩:zkB) (⟨(nth a0.Line a1.K.toNat).To,(⟨((nth a0.Line a1.K.toNat).Word).fVe,(((nth a0.Line a1.K.toNat).Word).fTe)⟩:zlF)⟩:zkB)).bind λ c1 =>
   ((zcu c1.1).bind λ c2 =>
   some (c2,(⟨a0.fRe,c1.2.Line⟩:zkn),a0.fRe)))
  else
   ((zas a0.Line a1.K.toNat (⟨(nth a0.Line a1.K.toNat).To,(⟨((nth a0.Line a1.K.toNat).Word).fVe,(((nth a0.Line a1.K.toNat).Word).fTe)⟩:zlF)⟩:zkB) a1.K (wI (a1.K+1))).bind λ c3 =>
   (if (a1.Kind == 4)=true then
    (zkk (0≤((nth a0.Line a1.K.toNat).To)∧((nth a0.Line a1.K.toNat).To) < ((a0.fRe.length:Nat):Int)) <|
    ((zaz a0.fRe (((nth a0.Line a1.K.toNat).To).toNat) (⟨((nth a0.Line a1.K.toNat).Word).fVe,(((nth a0.Line a1.K.toNat).Word).fTe)⟩:zlF)).bind λ c4 =>
    (zkk (c4.2.length=a0.fRe.length) <|
    (if (!c4.1)=true then
     some (2,(⟨c4.2,c3⟩:zkn),c4.2)
    else
     some (0,(⟨c4.2,c3⟩:zkn),c4.2)))))
   else
    some (0,(⟨a0.fRe,c3⟩:zkn),a0.fRe))))))))
structure zR where
 t7:Bool
def zb9 (a0:zkn) (a1:zks):Option (Int×zkn×(List zkb)) :=
 (((if (a1.Kind == 1)=true then
   some (⟨true⟩:zR)
  else
   (if (a1.Kind == 2)=true then
    some (⟨true⟩:zR)
   else
    (if (a1.Kind == 3)=true then
     some (⟨true⟩:zR)
    else
     some (⟨(a1.Kind == 7)⟩:zR)))):Option zR).bind λ p0 =>
 (if p0.t7=true then
  ((zaY a0 a1).bind λ c0 =>
  some (c0.1,(⟨c0.2.2,c0.2.1.Line⟩:zkn),c0.2.2))
 else
  (if (a1.Kind == 4)=true then
   ((zae a0 a1).bind λ c1 =>
   some (c1.1,(⟨c1.2.2,c1.2.1.Line⟩:zkn),c1.2.2))
  else
   (if (a1.Kind == 5)=true then
    ((zae a0 a1).bind λ c2 =>
    some (c2.1,(⟨c2.2.2,c2.2.1.Line⟩:zkn),c2.2.2))
   else
    (if (a1.Kind == 6)=true then
     ((zae a0 a1).bind λ c3 =>
     some (c3.1,(⟨c3.2.2,c3.2.1.Line⟩:zkn),c3.2.2))
    else
     some (1,a0,a0.fRe))))))
end Go.TL
namespace Go.TL
structure zb3 where
 t4:Int
 b0_0:(List Int)
 b0_1:Int
 b0_2:Int
structure zcR where
 t4:Int
 b0_0:(List Int)
 b0_1:Int
 b0_2:Int
 c1:(List zks)
structure zgS where
 b0_0:(List Int)
 b0_1:Int
 b0_2:Int
 c1:(List zks)
structure zbN where
 b0_0:(List Int)
 b0_1:Int
 b0_2:Int
 b2_2:Int
def zbl (g0:zcR):Option (zcR⊕zgS) :=
 (if (decide (g0.t4 > 0))=true then
  ((za8 (⟨g0.b0_0,g0.b0_1,g0.b0_2⟩:zkK) ([1,1,1,1,1,2,3,3,4,4,4,5,6,7])).bind λ c0 =>
  ((zk c0.2 2).bind λ c1 =>
  ((za8 c1.2 ([1,1,2,2,2,3,4,5])).bind λ c2 =>
  ((zbg c2.2).bind λ c3 =>
  ((zk c3.2 3).bind λ c4 =>
  ((((zaD c4.2 30).bind λ c5 =>
   (if c5.1=true then
    some (⟨c5.2.code,c5.2.at_,c5.2.seed,6⟩:zbN)
   else
    some (⟨c5.2.code,c5.2.at_,c5.2.seed,c2.1⟩:zbN))):Option zbN).bind λ p0 =>
  ((zaD (⟨p0.b0_0,p0.b0_1,p0.b0_2⟩:zkK) 60).bind λ c6 =>
  (if c6.1=true then
   ((zk c6.2 10).bind λ c7 =>
   ((zk c7.2 4).bind λ c8 =>
   ((zk c8.2 9).bind λ c9 =>
   ((zk c9.2 5).bind λ c10 =>
   (zkk ((g0.c1.length+1) * 48≤140737488355328) <|
   some (.inl ⟨(wI (g0.t4 - 1)),c10.2.code,c10.2.at_,c10.2.seed,(g0.c1++([(⟨(wI (c7.1 - 1)),(wI (c8.1 - 1)),c9.1,(⟨#[65]⟩:ByteArray),(wI (c10.1 - 1))⟩:zks)]))⟩))))))
  else
   (zkk ((g0.c1.length+1) * 48≤140737488355328) <|
   some (.inl ⟨(wI (g0.t4 - 1)),c6.2.code,c6.2.at_,c6.2.seed,(g0.c1++([(⟨c0.1,c1.1,p0.b2_2,c3.1,c4.1⟩:zks)]))⟩))))))))))
 else
  some (.inr (⟨g0.b0_0,g0.b0_1,g0.b0_2,g0.c1⟩)))
def zaZ (a0:zkK):Option ((List zks)×zkK) :=
 ((zk a0 30).bind λ c0 =>
 ((((zaD c0.2 12).bind λ c1 =>
  (if c1.1=true then
   ((zk c1.2 22).bind λ c2 =>
   some (⟨(wI (100+c2.1)),c2.2.code,c2.2.at_,c2.2.seed⟩:zb3))
  else
   some (⟨c0.1,c1.2.code,c1.2.at_,c1.2.seed⟩:zb3))):Option zb3).bind λ p0 =>
 ((zkx (zbl) ⟨p0.t4,p0.b0_0,p0.b0_1,p0.b0_2,[]⟩).bind λ y0 =>
 some (y0.c1,(⟨y0.b0_0,y0.b0_1,y0.b0_2⟩:zkK)))))
structure zdJ where
 t17:Int
 c2:(List Int)
 c3:(List zkb)
 c4:(List zkB)
structure zgv where
 c2:(List Int)
 c3:(List zkb)
 c4:(List zkB)
def zbc (a0:(List zks)) (g0:zdJ):Option (zdJ⊕zgv) :=
 (if (decide (g0.t17 < ((a0.length:Nat):Int)))=true then
  (zkk (0≤g0.t17∧g0.t17 < (a0.length:Int)) <|
  ((zb9 (⟨g0.c3,g0.c4⟩:zkn) (nth a0 g0.t17.toNat)).bind λ c0 =>
  (zkk ((g0.c2.length+1) * 8≤140737488355328) <|
  some (.inl ⟨(wI (g0.t17+1)),(g0.c2++([c0.1])),c0.2.2,c0.2.1.Line⟩))))
 else
  some (.inr (⟨g0.c2,g0.c3,g0.c4⟩)))
def zdz (a0:(List zks)):Option (zkn×(List Int)×Bool) :=
 (if (decide (((a0.length:Nat):Int) > 120))=true then
  some ((⟨[],[]⟩:zkn),[],false)
 else
  ((zgn).bind λ c0 =>
  ((zkx (zbc a0) ⟨0,[],c0.fRe,[]⟩).bind λ y0 =>
  some ((⟨y0.c3,y0.c4⟩:zkn),y0.c2,true))))
def zaV (a0:(List Int)):Option (List zks) :=
 ((zaZ (⟨a0,0,0⟩:zkK)).bind λ c0 =>
 some c0.1)
structure ze0 where
 t22:Bool
structure zei where
 t26:Int
def zaj (a0:zkn) (a1:zkn) (g0:zei):Option (zei⊕(Unit⊕Unit)) :=
 (if (decide (g0.t26 < ((a0.fRe.length:Nat):Int)))=true then
  (zkk (0≤g0.t26∧g0.t26 < (a0.fRe.length:Int)) <|
  (zkk (0≤g0.t26∧g0.t26 < (a1.fRe.length:Int)) <|
  ((zdx (⟨(nth a0.fRe g0.t26.toNat).Id,(nth a0.fRe g0.t26.toNat).fVe,((nth a0.fRe g0.t26.toNat).fTe)⟩:zkb) (⟨(nth a1.fRe g0.t26.toNat).Id,(nth a1.fRe g0.t26.toNat).fVe,((nth a1.fRe g0.t26.toNat).fTe)⟩:zkb)).bind λ c0 =>
  (if (!c0)=true then
   some (.inr (.inl ()))
  else
   some (.inl ⟨(wI (g0.t26+1))⟩)))))
 else
  some (.inr (.inr ())))
structure zej where
 t45:Int
structure zcv where
 t95:Bool
def zaJ (a0:zkn) (a1:zkn) (g0:zej):Option (zej⊕(Unit⊕Unit)) :=
 (if (decide (g0.t45 < ((a0.Line.length:Nat):Int)))=true then
  (((zkk (0≤g0.t45∧g0.t45 < (a0.Line.length:Int)) <|
   (zkk (0≤g0.t45∧g0.t45 < (a1.Line.length:Int)) <|
   (if (((nth a0.Line g0.t45.toNat).To) != ((nth a1.Line g0.t45.toNat).To))=true then
    some (⟨true⟩:zcv)
   else
    (zkk (0≤g0.t45∧g0.t45 < (a0.Line.length:Int)) <|
    (zkk (0≤g0.t45∧g0.t45 < (a1.Line.length:Int)) <|
    (if ((((nth a0.Line g0.t45.toNat).Word).fVe) != (((nth a1.Line g0.t45.toNat).Word).fVe))=true then
     some (⟨true⟩:zcv)
    else
     (zkk (0≤g0.t45∧g0.t45 < (a0.Line.length:Int)) <|
     (zkk (0≤g0.t45∧g0.t45 < (a1.Line.length:Int)) <|
     ((zbV (((nth a0.Line g0.t45.toNat).Word).fTe) (((nth a1.Line g0.t45.toNat).Word).fTe)).bind λ c0 =>
     some (⟨(!c0)⟩:zcv)))))))))):Option zcv).bind λ p0 =>
  (if p0.t95=true then
   some (.inr (.inl ()))
  else
   some (.inl ⟨(wI (g0.t45+1))⟩)))
 else
  some (.inr (.inr ())))
def zbO (a0:zkn) (a1:zkn):Option Bool :=
 (((if (((a0.fRe.length:Nat):Int) != ((a1.fRe.length:Nat):Int))=true then
   some (⟨true⟩:ze0)
  else
   some (⟨(((a0.Line.length:Nat):Int) != ((a1.Line.length:Nat):Int))⟩:ze0)):Option ze0).bind λ p0 =>
 (if p0.t22=true then
  some false
 else
  ((zkx (zaj a0 a1) ⟨0⟩).bind λ y0 =>
  match y0 with
  | .inl p1 =>
   some false
  | .inr p2 =>
   ((zkx (zaJ a0 a1) ⟨0⟩).bind λ y1 =>
   match y1 with
   | .inl p3 =>
    some false
   | .inr p4 =>
    some true))))
structure zkv where
 Upto:Int
 fVe:Int
 deriving DecidableEq,Inhabited
def zfQ (a0:(List zkv)):Option Int :=
 (if (((a0.length:Nat):Int) == 0)=true then
  some 0
 else
  (zkk (0≤(wI (((a0.length:Nat):Int) - 1))∧(wI (((a0.length:Nat):Int) - 1)) < (a0.length:Int)) <|
  some ((nth a0 ((wI (((a0.length:Nat):Int) - 1)).toNat)).Upto)))
def zcm (a0:(List zkv)):Option Int :=
 (if (((a0.length:Nat):Int) == 0)=true then
  some 0
 else
  (zkk (0≤(wI (((a0.length:Nat):Int) - 1))∧(wI (((a0.length:Nat):Int) - 1)) < (a0.length:Int)) <|
  some ((nth a0 ((wI (((a0.length:Nat):Int) - 1)).toNat)).fVe)))
def zbi (a0:(List zkv)):Option (List zkv) :=
 zkk (a0.length * 16≤140737488355328) (some a0)
structure zeE where
 t10:Int
structure zaB where
 t50:Bool
def zbX (a0:(List zkv)) (g0:zeE):Option (zeE⊕(Unit⊕Unit)) :=
 (if (decide (g0.t10 < ((a0.length:Nat):Int)))=true then
  (zkk (0≤g0.t10∧g0.t10 < (a0.length:Int)) <|
  ((((zc9 ((nth a0 g0.t10.toNat).Upto) 1 1000).bind λ c0 =>
   (if (!c0)=true then
    some (⟨true⟩:zaB)
   else
    ((zU ((nth a0 g0.t10.toNat).fVe)).bind λ c1 =>
    (if (!c1)=true then
     some (⟨true⟩:zaB)
    else
     (if (decide (g0.t10 > 0))=true then
      (zkk (0≤(wI (g0.t10 - 1))∧(wI (g0.t10 - 1)) < (a0.length:Int)) <|
      (if (decide (((nth a0 g0.t10.toNat).Upto)≤((nth a0 ((wI (g0.t10 - 1)).toNat)).Upto)))=true then
       some (⟨true⟩:zaB)
      else
       (zkk (0≤(wI (g0.t10 - 1))∧(wI (g0.t10 - 1)) < (a0.length:Int)) <|
       some (⟨(decide (((nth a0 g0.t10.toNat).fVe)≤((nth a0 ((wI (g0.t10 - 1)).toNat)).fVe)))⟩:zaB))))
     else
      some (⟨false⟩:zaB)))))):Option zaB).bind λ p0 =>
  (if p0.t50=true then
   some (.inr (.inl ()))
  else
   some (.inl ⟨(wI (g0.t10+1))⟩))))
 else
  some (.inr (.inr ())))
def zby (a0:(List zkv)):Option Bool :=
 (if (decide (((a0.length:Nat):Int) > 20))=true then
  some false
 else
  ((zkx (zbX a0) ⟨0⟩).bind λ y0 =>
  match y0 with
  | .inl p0 =>
   some false
  | .inr p1 =>
   some true))
structure zdK where
 t24:Bool
structure zfv where
 t35:Bool
def zfp (a0:(List zkv)) (a1:Int) (a2:Int):Option ((List zkv)×Bool) :=
 ((((zfQ a0).bind λ c0 =>
  (if (a1 != (wI (c0+1)))=true then
   some (⟨true⟩:zdK)
  else
   ((zcm a0).bind λ c1 =>
   (if (decide (a2 < c1))=true then
    some (⟨true⟩:zdK)
   else
    ((zU a2).bind λ c2 =>
    some (⟨(!c2)⟩:zdK)))))):Option zdK).bind λ p0 =>
 (if p0.t24=true then
  some ([],false)
 else
  ((zbi a0).bind λ c3 =>
  (((if (decide (((a0.length:Nat):Int) > 0))=true then
    ((zcm a0).bind λ c4 =>
    some (⟨(a2 == c4)⟩:zfv))
   else
    some (⟨false⟩:zfv)):Option zfv).bind λ p1 =>
  (if p1.t35=true then
   (zkk (0≤(wI (((a0.length:Nat):Int) - 1))∧(wI (((a0.length:Nat):Int) - 1)) < ((c3.length:Nat):Int)) <|
   ((zby (c3.set ((wI (((a0.length:Nat):Int) - 1)).toNat) (⟨a1,(nth c3 ((wI (((a0.length:Nat):Int) - 1)).toNat)).fVe⟩:zkv))).bind λ c5 =>
   some ((c3.set ((wI (((a0.length:Nat):Int) - 1)).toNat) (⟨a1,(nth c3 ((wI (((a0.length:Nat):Int) - 1)).toNat)).fVe⟩:zkv)),c5)))
  else
   (zkk ((c3.length+1) * 16≤140737488355328) <|
   ((zby (c3++([(⟨a1,a2⟩:zkv)]))).bind λ c6 =>
   some ((c3++([(⟨a1,a2⟩:zkv)])),c6))))))))
structure zfG where
 t15:Int
 c0:(List zkv)
structure zg8 where
 c0:(List zkv)
structure zfw where
 t34:Bool
def zcP (a0:(List zka)) (g0:zfG):Option (zfG⊕(Unit⊕zg8)) :=
 (if (decide (g0.t15 < ((a0.length:Nat):Int)))=true then
  (zkk (0≤g0.t15∧g0.t15 < (a0.length:Int)) <|
  ((zfp g0.c0 ((nth a0 g0.t15.toNat).Id) ((nth a0 g0.t15.toNat).fVe)).bind λ c0 =>
  (((if (!c0.2)=true then
    some (⟨true⟩:zfw)
   else
    ((zdd (nth a0 g0.t15.toNat)).bind λ c1 =>
    some (⟨(!c1)⟩:zfw))):Option zfw).bind λ p0 =>
  (if p0.t34=true then
   some (.inr (.inl ()))
  else
   some (.inl ⟨(wI (g0.t15+1)),c0.1⟩)))))
 else
  some (.inr (.inr (⟨g0.c0⟩))))
def ze1 (a0:(List zka)):Option ((List zkv)×Bool) :=
 (if (decide (((a0.length:Nat):Int) > 60))=true then
  some ([],false)
 else
  ((zkx (zcP a0) ⟨0,[]⟩).bind λ y0 =>
  match y0 with
  | .inl p0 =>
   some ([],false)
  | .inr p1 =>
   some (p1.c0,true)))
structure zfg where
 t25:Bool
def ze2 (a0:(List zkv)) (a1:Int) (a2:Int):Option (List zkv) :=
 (zkk (a0.length * 16≤140737488355328) <|
 (((if (decide ((wI (((a0.length:Nat):Int) - 1)) ≥ 0))=true then
   (zkk (0≤(wI (((a0.length:Nat):Int) - 1))∧(wI (((a0.length:Nat):Int) - 1)) < ((a0.length:Nat):Int)) <|
   some (⟨(((nth (([])++a0) ((wI (((a0.length:Nat):Int) - 1)).toNat)).fVe) == a2)⟩:zfg))
  else
   some (⟨false⟩:zfg)):Option zfg).bind λ p0 =>
 (if p0.t25=true then
  (zkk (0≤(wI (((a0.length:Nat):Int) - 1))∧(wI (((a0.length:Nat):Int) - 1)) < ((a0.length:Nat):Int)) <|
  some ((([])++a0).set ((wI (((a0.length:Nat):Int) - 1)).toNat) (⟨a1,(nth (([])++a0) ((wI (((a0.length:Nat):Int) - 1)).toNat)).fVe⟩:zkv)))
 else
  (zkk ((a0.length+1) * 16≤140737488355328) <|
  some ((([])++a0)++([(⟨a1,a2⟩:zkv)]))))))
structure zeF where
 t7:Int
structure zaC where
 t47:Bool
def zbY (a0:(List zkv)) (g0:zeF):Option (zeF⊕(Unit⊕Unit)) :=
 (if (decide (g0.t7 < ((a0.length:Nat):Int)))=true then
  (zkk (0≤g0.t7∧g0.t7 < (a0.length:Int)) <|
  ((((z7 ((nth a0 g0.t7.toNat).Upto) 1 1000).bind λ c0 =>
   (if (!c0)=true then
    some (⟨true⟩:zaC)
   else
    ((z7 ((nth a0 g0.t7.toNat).fVe) 0 1000000).bind λ c1 =>
    (if (!c1)=true then
     some (⟨true⟩:zaC)
    else
     (if (decide (g0.t7 > 0))=true then
      (zkk (0≤(wI (g0.t7 - 1))∧(wI (g0.t7 - 1)) < (a0.length:Int)) <|
      (if (decide (((nth a0 ((wI (g0.t7 - 1)).toNat)).Upto) ≥ ((nth a0 g0.t7.toNat).Upto)))=true then
       some (⟨true⟩:zaC)
      else
       (zkk (0≤(wI (g0.t7 - 1))∧(wI (g0.t7 - 1)) < (a0.length:Int)) <|
       some (⟨(decide (((nth a0 ((wI (g0.t7 - 1)).toNat)).fVe) ≥ ((nth a0 g0.t7.toNat).fVe)))⟩:zaC))))
     else
      some (⟨false⟩:zaC)))))):Option zaC).bind λ p0 =>
  (if p0.t47=true then
   some (.inr (.inl ()))
  else
   some (.inl ⟨(wI (g0.t7+1))⟩))))
 else
  some (.inr (.inr ())))
def ze3 (a0:(List zkv)):Option Bool :=
 ((zkx (zbY a0) ⟨0⟩).bind λ y0 =>
 match y0 with
 | .inl p0 =>
  some false
 | .inr p1 =>
  some (decide (((a0.length:Nat):Int)≤20)))
structure zfH where
 t9:Int
 c0:(List zkv)
structure zg9 where
 c0:(List zkv)
structure zca where
 t38:Bool
def zcQ (a0:(List zka)) (g0:zfH):Option (zfH⊕(Unit⊕zg9)) :=
 (if (decide (g0.t9 < ((a0.length:Nat):Int)))=true then
  (zkk (0≤g0.t9∧g0.t9 < (a0.length:Int)) <|
  ((((zdb (nth a0 g0.t9.toNat)).bind λ c0 =>
   (if (!c0)=true then
    some (⟨true⟩:zca)
   else
    (if (((nth a0 g0.t9.toNat).Id) != (wI (g0.t9+1)))=true then
     some (⟨true⟩:zca)
    else
     (if (decide (g0.t9 > 0))=true then
      (zkk (0≤(wI (g0.t9 - 1))∧(wI (g0.t9 - 1)) < (a0.length:Int)) <|
      some (⟨(decide (((nth a0 ((wI (g0.t9 - 1)).toNat)).fVe) > ((nth a0 g0.t9.toNat).fVe)))⟩:zca))
     else
      some (⟨false⟩:zca))))):Option zca).bind λ p0 =>
  (if p0.t38=true then
   some (.inr (.inl ()))
  else
   ((ze2 g0.c0 ((nth a0 g0.t9.toNat).Id) ((nth a0 g0.t9.toNat).fVe)).bind λ c1 =>
   some (.inl ⟨(wI (g0.t9+1)),c1⟩)))))
 else
  some (.inr (.inr (⟨g0.c0⟩))))
structure zfR where
 t53:Bool
def zfS (a0:(List zka)):Option ((List zkv)×Bool) :=
 ((zkx (zcQ a0) ⟨0,[]⟩).bind λ y0 =>
 match y0 with
 | .inl p0 =>
  some ([],false)
 | .inr p1 =>
  (((if (decide (((a0.length:Nat):Int) > 60))=true then
    some (⟨true⟩:zfR)
   else
    ((ze3 p1.c0).bind λ c0 =>
    some (⟨(!c0)⟩:zfR))):Option zfR).bind λ p2 =>
  (if p2.t53=true then
   some ([],false)
  else
   some (p1.c0,true))))
def zdL (a0:zkv) (a1:Int):Option Bool :=
 some (decide (a0.Upto ≥ a1))
structure zu where
 t8:Int
structure zat where
 t4:Int
def zd (a0:(List zkv)) (a1:Int) (g0:zu):Option (zu⊕(zat⊕Unit)) :=
 (if (decide (g0.t8 < ((a0.length:Nat):Int)))=true then
  (zkk (0≤g0.t8∧g0.t8 < (a0.length:Int)) <|
  ((zdL (nth a0 g0.t8.toNat) a1).bind λ c0 =>
  (if c0=true then
   some (.inr (.inl (⟨g0.t8⟩)))
  else
   some (.inl ⟨(wI (g0.t8+1))⟩))))
 else
  some (.inr (.inr ())))
def zD (a0:(List zkv)) (a1:Int):Option Int :=
 ((zkx (zd a0 a1) ⟨0⟩).bind λ y0 =>
 match y0 with
 | .inl p0 =>
  some p0.t4
 | .inr p1 =>
  some (-1))
def zcn (a0:(List zkv)) (a1:Int):Option Int :=
 ((zD a0 a1).bind λ c0 =>
 (zkk (0≤c0∧c0 < (a0.length:Int)) <|
 some ((nth a0 c0.toNat).fVe)))
structure zf4 where
 t5:Int
structure zhp where
 t5:Int
def zdl (a0:(List zkv)) (a1:(List zkv)) (g0:zf4):Option (zf4⊕zhp) :=
 ((zfQ a0).bind λ c0 =>
 ((zfQ a1).bind λ c1 =>
 (if (decide (g0.t5 < (min c0 c1)))=true then
  ((zcn a0 (wI (g0.t5+1))).bind λ c2 =>
  ((zcn a1 (wI (g0.t5+1))).bind λ c3 =>
  (if (c2 == c3)=true then
   some (.inl ⟨(wI (g0.t5+1))⟩)
  else
   some (.inr (⟨g0.t5⟩)))))
 else
  some (.inr (⟨g0.t5⟩)))))
def zgh (a0:(List zkv)) (a1:(List zkv)):Option Int :=
 ((zkx (zdl a0 a1) ⟨0⟩).bind λ y0 =>
 some y0.t5)
structure zgq where
 t14:Bool
def zgE (a0:(List zkv)) (a1:(List zkv)):Option (zkv×Bool) :=
 ((((zby a0).bind λ c0 =>
  (if (!c0)=true then
   some (⟨true⟩:zgq)
  else
   ((zby a1).bind λ c1 =>
   some (⟨(!c1)⟩:zgq)))):Option zgq).bind λ p0 =>
 (if p0.t14=true then
  some ((⟨0,0⟩:zkv),false)
 else
  ((zgh a0 a1).bind λ c2 =>
  (if (c2 == 0)=true then
   some ((⟨0,0⟩:zkv),false)
  else
   ((zcn a0 c2).bind λ c3 =>
   some ((⟨c2,c3⟩:zkv),true))))))
structure zb6 where
 t58:Bool
structure zfh where
 t67:Int
 c1:(List zkd)
structure zet where
 c1:(List zkd)
def zJ (c0:(zkn×(List Int)×Bool)) (g0:zfh):Option (zfh⊕zet) :=
 (if (decide (g0.t67 < ((c0.1.fRe.length:Nat):Int)))=true then
  (zkk (0≤g0.t67∧g0.t67 < (c0.1.fRe.length:Int)) <|
  (zkk ((g0.c1.length+(((nth c0.1.fRe g0.t67.toNat).fTe).fBr).length) * 24≤140737488355328) <|
  some (.inl ⟨(wI (g0.t67+1)),(g0.c1++(((nth c0.1.fRe g0.t67.toNat).fTe).fBr))⟩)))
 else
  some (.inr (⟨g0.c1⟩)))
structure zbP where
 t79:Int
structure zc6 where
 t103:Int
structure zaf where
 t147:Bool
def zaW (g0:zbP) (y0:zet) (c0:((List zkv)×Bool)) (g1:zc6):Option (zc6⊕(Unit⊕Unit)) :=
 (if (decide (g1.t103 < ((g0.t79.toNat:Nat):Int)))=true then
  (zkk (0≤g1.t103∧g1.t103 < ((g0.t79.toNat:Nat):Int)) <|
  (zkk (g1.t103.toNat < y0.c1.length) <|
  ((ze1 ((nth y0.c1 g1.t103.toNat).fEv)).bind λ c1 =>
  ((zgE c0.1 c1.1).bind λ c2 =>
  ((zgf ((nth y0.c1 g0.t79.toNat).fEv) ((nth y0.c1 g1.t103.toNat).fEv)).bind λ c3 =>
  (if (!c3.2)=true then
   some (.inr (.inl ()))
  else
   (((if c0.2=true then
     (if c1.2=true then
      (if (!(c2.2 == (decide (c3.1 > 0))))=true then
       some (⟨true⟩:zaf)
      else
       (if c2.2=true then
        some (⟨(c2.1.Upto != c3.1)⟩:zaf)
       else
        some (⟨false⟩:zaf)))
     else
      some (⟨false⟩:zaf))
    else
     some (⟨false⟩:zaf)):Option zaf).bind λ p0 =>
   (if p0.t147=true then
    some (.inr (.inl ()))
   else
    some (.inl ⟨(wI (g1.t103+1))⟩)))))))))
 else
  some (.inr (.inr ())))
def zaX (y0:zet) (g0:zbP):Option (zbP⊕(Unit⊕Unit)) :=
 (if (decide (g0.t79 < ((y0.c1.length:Nat):Int)))=true then
  (zkk (0≤g0.t79∧g0.t79 < ((y0.c1.length:Nat):Int)) <|
  ((ze1 ((nth y0.c1 g0.t79.toNat).fEv)).bind λ c0 =>
  ((zfS ((nth y0.c1 g0.t79.toNat).fEv)).bind λ c1 =>
  (if (!(c1.2 == c0.2))=true then
   some (.inr (.inl ()))
  else
   (zkk (0≤0∧0≤g0.t79∧g0.t79≤((y0.c1.length:Nat):Int)) <|
   ((zkx (zaW g0 y0 c0) ⟨0⟩).bind λ y1 =>
   match y1 with
   | .inl p0 =>
    some (.inr (.inl ()))
   | .inr p1 =>
    some (.inl ⟨(wI (g0.t79+1))⟩)))))))
 else
  some (.inr (.inr ())))
def zeG (a0:(List Int)):Option Bool :=
 (if (decide (((a0.length:Nat):Int) > 1048576))=true then
  some true
 else
  ((zaV a0).bind λ c0 =>
  ((zdz c0).bind λ c1 =>
  ((zeZ c0).bind λ c2 =>
  (((if (!(c1.2.2 == c2.2.2))=true then
    some (⟨true⟩:zb6)
   else
    ((zfm c1.2.1 c2.2.1).bind λ c3 =>
    (if (!c3)=true then
     some (⟨true⟩:zb6)
    else
     ((zbO c1.1 c2.1).bind λ c4 =>
     some (⟨(!c4)⟩:zb6))))):Option zb6).bind λ p0 =>
  (if p0.t58=true then
   some false
  else
   (if (!c1.2.2)=true then
    some (((c1.2.1.length:Nat):Int) == 0)
   else
    ((zkx (zJ c1) ⟨0,[]⟩).bind λ y0 =>
    ((zkx (zaX y0) ⟨0⟩).bind λ y1 =>
    match y1 with
    | .inl p1 =>
     some false
    | .inr p2 =>
     ((zeU c1.1).bind λ c5 =>
     (if c5=true then
      ((zdg c1.1).bind λ c6 =>
      some c6)
     else
      some false)))))))))))
end Go.TL

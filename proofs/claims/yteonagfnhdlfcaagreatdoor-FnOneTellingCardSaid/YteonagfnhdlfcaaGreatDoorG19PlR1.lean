import Derived.Test.YteonagfnhdlfcaaGreatDoorG0TlCore
import Derived.Test.YteonagfnhdlfcaaGreatDoorG18PlTrim
set_option linter.unusedSimpArgs false
set_option linter.unusedVariables false
noncomputable section
namespace Go.TL
structure zrs where
 Ack:Bool
 No:Int
 Text:ByteArray
 deriving DecidableEq,Inhabited
def z7 (a0:Int) (a1:Int) (a2:Int):Option Bool :=
 (if (decide (a0 ≥ a1))=true then
  some (decide (a0≤a2))
 else
  some false)
def zc9 (a0:Int) (a1:Int) (a2:Int):Option Bool :=
 (if (decide (a0 ≥ a1))=true then
  some (decide (a0≤a2))
 else
  some false)
structure zkK where
 code:(List Int)
 at_:Int
 seed:Int
 deriving DecidableEq,Inhabited
structure zdQ where
 t3:Int
def zbQ (a0:zkK):Option (Int×zkK) :=
 (((if (decide (a0.at_ < ((a0.code.length:Nat):Int)))=true then
   (zkk (0≤a0.at_∧a0.at_ < (a0.code.length:Int)) <|
   some (⟨(wI (nth a0.code a0.at_.toNat))⟩:zdQ))
  else
   some (⟨0⟩:zdQ)):Option zdQ).bind λ p0 =>
 (if (decide ((wI (a0.at_+1))≤((a0.code.length:Nat):Int)))=true then
  some (p0.t3,(⟨a0.code,(wI (a0.at_+1)),(wU ((wU ((wU (a0.seed * 6364136223846793005))+(wU p0.t3)))+1442695040888963407))⟩:zkK))
 else
  some ((wI (wU (zqY 64 (shR 64 (wU ((wU ((wU (a0.seed * 6364136223846793005))+(wU p0.t3)))+1442695040888963407)) 40) 255))),(⟨a0.code,(wI (a0.at_+1)),(wU ((wU ((wU (a0.seed * 6364136223846793005))+(wU p0.t3)))+1442695040888963407))⟩:zkK))))
def zk (a0:zkK) (a1:Int):Option (Int×zkK) :=
 (if (decide (a1≤1))=true then
  some (0,a0)
 else
  ((zbQ a0).bind λ c0 =>
  (if (decide (a1 > 200))=true then
   ((zbQ c0.2).bind λ c1 =>
   (zkk (a1≠0) <|
   some (((wI ((wI (c0.1 * 256))+c1.1)).tmod a1),c1.2)))
  else
   (zkk (a1≠0) <|
   some ((c0.1.tmod a1),c0.2)))))
def zaD (a0:zkK) (a1:Int):Option (Bool×zkK) :=
 ((zk a0 a1).bind λ c0 =>
 some ((c0.1 == 0),c0.2))
structure zBm where
 Now:Int
 Fine:Bool
 deriving DecidableEq,Inhabited
end Go.TL
namespace Go.TL
structure ztb where
 Kind:Int
 K:Int
 Text:ByteArray
 deriving DecidableEq,Inhabited
def za7 (a0:(List ByteArray)):Option (List ByteArray) :=
 zkk (a0.length * 16≤140737488355328) (some a0)
def za8 (a0:zkK) (a1:(List Int)):Option (Int×zkK) :=
 ((zk a0 ((a1.length:Nat):Int)).bind λ c0 =>
 (zkk (0≤c0.1∧c0.1 < ((a1.length:Nat):Int)) <|
 some ((nth a1 c0.1.toNat),c0.2)))
def zdo (a0:zkK) (a1:(List ByteArray)):Option (ByteArray×zkK) :=
 ((zk a0 ((a1.length:Nat):Int)).bind λ c0 =>
 (zkk (0≤c0.1∧c0.1 < ((a1.length:Nat):Int)) <|
 some ((nth a1 c0.1.toNat),c0.2)))
end Go.TL
namespace Go.TL
structure zwU where
 Name:ByteArray
 fVe:Int
 Note:ByteArray
 deriving DecidableEq,Inhabited
structure zfX where
 t3:Int
structure zbo where
 t32:Bool
def zda (a0:ByteArray) (g0:zfX):Option (zfX⊕(Unit⊕Unit)) :=
 (if (decide (g0.t3 < (a0.size:Int)))=true then
  (((zkk (0≤g0.t3∧g0.t3 < (a0.size:Int)) <|
   (if (decide ((bt a0 g0.t3) ≥ 97))=true then
    (zkk (0≤g0.t3∧g0.t3 < (a0.size:Int)) <|
    (if (decide ((bt a0 g0.t3)≤122))=true then
     some (⟨false⟩:zbo)
    else
     (zkk (0≤g0.t3∧g0.t3 < (a0.size:Int)) <|
     (if (decide ((bt a0 g0.t3) ≥ 48))=true then
      (zkk (0≤g0.t3∧g0.t3 < (a0.size:Int)) <|
      some (⟨(!(decide ((bt a0 g0.t3)≤57)))⟩:zbo))
     else
      some (⟨true⟩:zbo)))))
   else
    (zkk (0≤g0.t3∧g0.t3 < (a0.size:Int)) <|
    (if (decide ((bt a0 g0.t3) ≥ 48))=true then
     (zkk (0≤g0.t3∧g0.t3 < (a0.size:Int)) <|
     some (⟨(!(decide ((bt a0 g0.t3)≤57)))⟩:zbo))
    else
     some (⟨true⟩:zbo))))):Option zbo).bind λ p0 =>
  (if p0.t32=true then
   some (.inr (.inl ()))
  else
   some (.inl ⟨(wI (g0.t3+1))⟩)))
 else
  some (.inr (.inr ())))
def zen (a0:ByteArray):Option Bool :=
 ((zkx (zda a0) ⟨0⟩).bind λ y0 =>
 match y0 with
 | .inl p0 =>
  some false
 | .inr p1 =>
  some (decide ((a0.size:Int)≤12)))
def zbB (a0:Int):Option Bool :=
 ((z7 a0 0 1000000).bind λ c0 =>
 some c0)
def zeK (a0:ByteArray) (a1:ByteArray):Option ByteArray :=
 zkk (a0.size≤9223372036854775807∧a1.size < 4294967281∧a1.data.toList.all (λ b=>decide (b.toNat < 128))=true) (some (zuY a0 a1))
def zbj (a0:ByteArray):Option Bool :=
 (if (decide ((a0.size:Int)≤12))=true then
  ((zeK a0 (⟨#[97,98,99,100,101,102,103,104,105,106,107,108,109,110,111,112,113,114,115,116,117,118,119,120,121,122,48,49,50,51,52,53,54,55,56,57]⟩:ByteArray)).bind λ c0 =>
  some (c0.toList == ByteArray.empty.toList))
 else
  some false)
def zU (a0:Int):Option Bool :=
 ((zc9 a0 0 1000000).bind λ c0 =>
 some c0)
def zfk (a0:Int):Option Bool :=
 some (a0 != a0)
def za2 (a0:Int) (a1:Int):Option Int :=
 ((zfk a0).bind λ c0 =>
 ((zfk a1).bind λ c1 =>
 (if c0=true then
  (if c1=true then
   some 0
  else
   some (-1))
 else
  (if c1=true then
   some 1
  else
   (if (decide (a0 < a1))=true then
    some (-1)
   else
    (if (decide (a0 > a1))=true then
     some 1
    else
     some 0))))))
def zaE (a0:ByteArray):Option Bool :=
 some (!(a0.toList == a0.toList))
def zcw (a0:ByteArray) (a1:ByteArray):Option Int :=
 ((zaE a0).bind λ c0 =>
 ((zaE a1).bind λ c1 =>
 (if c0=true then
  (if c1=true then
   some 0
  else
   some (-1))
 else
  (if c1=true then
   some 1
  else
   (if (sLt a0 a1)=true then
    some (-1)
   else
    (if (!(sLt a0 a1 || a0.toList == a1.toList))=true then
     some 1
    else
     some 0))))))
structure zgi where
 t8:Int
structure zhD where
 t2:Int
def zdU (a0:(List Int)) (g0:zgi):Option (zgi⊕(zhD⊕Unit)) :=
 (if (decide (g0.t8 < ((a0.length:Nat):Int)))=true then
  (zkk (0≤g0.t8∧g0.t8 < (a0.length:Int)) <|
  (if ((nth a0 g0.t8.toNat) != 0)=true then
   some (.inr (.inl (⟨(nth a0 g0.t8.toNat)⟩)))
  else
   some (.inl ⟨(wI (g0.t8+1))⟩)))
 else
  some (.inr (.inr ())))
def zfY (a0:(List Int)):Option Int :=
 ((zkx (zdU a0) ⟨0⟩).bind λ y0 =>
 match y0 with
 | .inl p0 =>
  some p0.t2
 | .inr p1 =>
  some 0)
def zfK (a0:Int) (a1:Int):Option Int :=
 (if (decide ((wI ((wI (a0 - (a0.tmod 10)))+a1))≤a0))=true then
  some (wI ((wI ((wI (a0 - (a0.tmod 10)))+a1))+10))
 else
  some (wI ((wI (a0 - (a0.tmod 10)))+a1)))
structure zeo where
 t14:Bool
def zdp (a0:Int) (a1:Int):Option (Int×Bool) :=
 ((((zbB a0).bind λ c0 =>
  (if (!c0)=true then
   some (⟨true⟩:zeo)
  else
   ((z7 a1 0 9).bind λ c1 =>
   some (⟨(!c1)⟩:zeo)))):Option zeo).bind λ p0 =>
 (if p0.t14=true then
  some (0,false)
 else
  ((zfK a0 a1).bind λ c2 =>
  ((zbB c2).bind λ c3 =>
  (if (!c3)=true then
   some (0,false)
  else
   some (c2,true))))))
def zdV (a0:Int):Option Bool :=
 ((zc9 a0 0 9).bind λ c0 =>
 some c0)
structure zep where
 t14:Bool
structure zcp where
 t6:Int
def zdq (a0:Int) (a1:Int):Option (Int×Bool) :=
 ((((zU a0).bind λ c0 =>
  (if (!c0)=true then
   some (⟨true⟩:zep)
  else
   ((zdV a1).bind λ c1 =>
   some (⟨(!c1)⟩:zep)))):Option zep).bind λ p0 =>
 (if p0.t14=true then
  some (0,false)
 else
  (((if (decide ((wI ((wI (a0 - (a0.tmod 10)))+a1))≤a0))=true then
    some (⟨(wI ((wI ((wI (a0 - (a0.tmod 10)))+a1))+10))⟩:zcp)
   else
    some (⟨(wI ((wI (a0 - (a0.tmod 10)))+a1))⟩:zcp)):Option zcp).bind λ p1 =>
  ((zU p1.t6).bind λ c2 =>
  (if (!c2)=true then
   some (0,false)
  else
   some (p1.t6,true))))))
end Go.TL
namespace Go.TL
structure zka where
 Id:Int
 fVe:Int
 Kind:Int
 Name:ByteArray
 deriving DecidableEq,Inhabited
structure zkq where
 fSt:Int
 Next:Int
 fCa:Bool
 Done:Int
 fSi:(List ByteArray)
 fTi:(List ByteArray)
 deriving DecidableEq,Inhabited
def zgj:Option zkq :=
 some (⟨0,1,false,0,[],[]⟩:zkq)
def zdb (a0:zka):Option Bool :=
 ((z7 a0.Id 1 1000).bind λ c0 =>
 (if c0=true then
  ((z7 a0.fVe 0 1000000).bind λ c1 =>
  (if c1=true then
   ((z7 a0.Kind 1 6).bind λ c2 =>
   (if c2=true then
    ((zen a0.Name).bind λ c3 =>
    some c3)
   else
    some false))
  else
   some false))
 else
  some false))
def zgd (a0:zkq):Option zkq :=
 (zkk (a0.fSi.length * 16≤140737488355328) <|
 (zkk (a0.fTi.length * 16≤140737488355328) <|
 some (⟨a0.fSt,a0.Next,a0.fCa,a0.Done,(([])++a0.fSi),(([])++a0.fTi)⟩:zkq)))
structure zgk where
 t9:Int
structure zhE where
 t4:Int
def zdW (a0:(List ByteArray)) (a1:ByteArray) (g0:zgk):Option (zgk⊕(zhE⊕Unit)) :=
 (if (decide (g0.t9 < ((a0.length:Nat):Int)))=true then
  (zkk (0≤g0.t9∧g0.t9 < (a0.length:Int)) <|
  (if ((nth a0 g0.t9.toNat).toList == a1.toList)=true then
   some (.inr (.inl (⟨g0.t9⟩)))
  else
   some (.inl ⟨(wI (g0.t9+1))⟩)))
 else
  some (.inr (.inr ())))
def zbC (a0:(List ByteArray)) (a1:ByteArray):Option Int :=
 ((zkx (zdW a0 a1) ⟨0⟩).bind λ y0 =>
 match y0 with
 | .inl p0 =>
  some p0.t4
 | .inr p1 =>
  some (-1))
structure zgo where
 t6:Bool
 t15:Int
 c0:(List ByteArray)
structure zir where
 t6:Bool
 c0:(List ByteArray)
structure ze7 where
 t28:Bool
def zX (a0:(List ByteArray)) (a1:ByteArray) (g0:zgo):Option (zgo⊕zir) :=
 (if (decide (g0.t15 < ((a0.length:Nat):Int)))=true then
  (zkk (0≤g0.t15∧g0.t15 < (a0.length:Int)) <|
  (if ((nth a0 g0.t15.toNat).toList == a1.toList)=true then
   some (.inl ⟨g0.t6,(wI (g0.t15+1)),g0.c0⟩)
  else
   (((if (!g0.t6)=true then
     some (⟨(!(sLt (nth a0 g0.t15.toNat) a1 || (nth a0 g0.t15.toNat).toList == a1.toList))⟩:ze7)
    else
     some (⟨false⟩:ze7)):Option ze7).bind λ p0 =>
   (if p0.t28=true then
    (zkk ((g0.c0.length+1) * 16≤140737488355328) <|
    (zkk (((g0.c0.length+1)+1) * 16≤140737488355328) <|
    some (.inl ⟨true,(wI (g0.t15+1)),((g0.c0++([a1]))++([(nth a0 g0.t15.toNat)]))⟩)))
   else
    (zkk ((g0.c0.length+1) * 16≤140737488355328) <|
    some (.inl ⟨g0.t6,(wI (g0.t15+1)),(g0.c0++([(nth a0 g0.t15.toNat)]))⟩))))))
 else
  some (.inr (⟨g0.t6,g0.c0⟩)))
def zb0 (a0:(List ByteArray)) (a1:ByteArray):Option (List ByteArray) :=
 ((zbC a0 a1).bind λ c0 =>
 ((zkx (zX a0 a1) ⟨(decide (c0 ≥ 0)),0,[]⟩).bind λ y0 =>
 (if (!y0.t6)=true then
  (zkk ((y0.c0.length+1) * 16≤140737488355328) <|
  some (y0.c0++([a1])))
 else
  some y0.c0)))
structure zcb where
 t11:Int
structure ze8 where
 t23:Int
structure zbD where
 t44:Bool
def zcc (a0:(List ByteArray)) (g0:zcb) (a1:Bool) (g1:ze8):Option (ze8⊕(Unit⊕Unit)) :=
 (if (decide (g1.t23 < (((a0.take g0.t11.toNat).length:Nat):Int)))=true then
  (zkk (0≤g1.t23∧g1.t23 < ((a0.take g0.t11.toNat).length:Int)) <|
  (((if ((nth (a0.take g0.t11.toNat) g1.t23.toNat).toList == (nth a0 g0.t11.toNat).toList)=true then
    some (⟨true⟩:zbD)
   else
    (if a1=true then
     (if (g1.t23 == (wI (g0.t11 - 1)))=true then
      some (⟨(!(sLt (nth (a0.take g0.t11.toNat) g1.t23.toNat) (nth a0 g0.t11.toNat) || (nth (a0.take g0.t11.toNat) g1.t23.toNat).toList == (nth a0 g0.t11.toNat).toList))⟩:zbD)
     else
      some (⟨false⟩:zbD))
    else
     some (⟨false⟩:zbD))):Option zbD).bind λ p0 =>
  (if p0.t44=true then
   some (.inr (.inl ()))
  else
   some (.inl ⟨(wI (g1.t23+1))⟩))))
 else
  some (.inr (.inr ())))
def zcd (a0:(List ByteArray)) (a1:Bool) (g0:zcb):Option (zcb⊕(Unit⊕Unit)) :=
 (if (decide (g0.t11 < ((a0.length:Nat):Int)))=true then
  (zkk (0≤g0.t11∧g0.t11 < (a0.length:Int)) <|
  ((zen (nth a0 g0.t11.toNat)).bind λ c0 =>
  (if (!c0)=true then
   some (.inr (.inl ()))
  else
   (zkk (0≤g0.t11∧g0.t11≤(a0.length:Int)) <|
   ((zkx (zcc a0 g0 a1) ⟨0⟩).bind λ y0 =>
   match y0 with
   | .inl p0 =>
    some (.inr (.inl ()))
   | .inr p1 =>
    some (.inl ⟨(wI (g0.t11+1))⟩))))))
 else
  some (.inr (.inr ())))
def zdX (a0:(List ByteArray)) (a1:Bool):Option Bool :=
 ((zkx (zcd a0 a1) ⟨0⟩).bind λ y0 =>
 match y0 with
 | .inl p0 =>
  some false
 | .inr p1 =>
  some (decide (((a0.length:Nat):Int)≤30)))
structure zaL where
 t30:Bool
def zdc (a0:zkq):Option Bool :=
 ((((z7 a0.Next 1 1001).bind λ c0 =>
  (if (!c0)=true then
   some (⟨true⟩:zaL)
  else
   ((z7 a0.Done 0 1000).bind λ c1 =>
   (if (!c1)=true then
    some (⟨true⟩:zaL)
   else
    ((zdX a0.fSi false).bind λ c2 =>
    (if (!c2)=true then
     some (⟨true⟩:zaL)
    else
     ((zdX a0.fTi true).bind λ c3 =>
     (if (!c3)=true then
      some (⟨true⟩:zaL)
     else
      ((z7 a0.fSt 0 2).bind λ c4 =>
      some (⟨(!c4)⟩:zaL)))))))))):Option zaL).bind λ p0 =>
 (if p0.t30=true then
  some false
 else
  (if (a0.fSt == 0)=true then
   (if (a0.Next == 1)=true then
    (if (!a0.fCa)=true then
     (if (a0.Done == 0)=true then
      (if (((a0.fSi.length:Nat):Int) == 0)=true then
       some (((a0.fTi.length:Nat):Int) == 0)
      else
       some false)
     else
      some false)
    else
     some false)
   else
    some false)
  else
   some (decide (a0.Next > 1)))))
structure za9 where
 t29:Bool
structure zac where
 b0_0:Int
 b0_2:Bool
 b0_3:Int
 c2:(List ByteArray)
 c3:(List ByteArray)
structure zdD where
 t53:Bool
def zb1 (a0:zkq) (a1:zka):Option (zkq×Bool) :=
 ((((zdb a1).bind λ c0 =>
  (if (!c0)=true then
   some (⟨true⟩:za9)
  else
   (if (a1.Id != a0.Next)=true then
    some (⟨true⟩:za9)
   else
    (if (!((a1.Kind == 1) == (a0.fSt == 0)))=true then
     some (⟨true⟩:za9)
    else
     some (⟨(a0.fSt == 2)⟩:za9))))):Option za9).bind λ p0 =>
 (if p0.t29=true then
  some (a0,false)
 else
  ((zgd a0).bind λ c1 =>
  (((if (a1.Kind == 1)=true then
    some (.inl (⟨1,c1.fCa,c1.Done,c1.fSi,c1.fTi⟩:zac))
   else
    (if (a1.Kind == 2)=true then
     ((((zbC c1.fSi a1.Name).bind λ c2 =>
      (if (decide (c2 ≥ 0))=true then
       some (⟨true⟩:zdD)
      else
       some (⟨(((c1.fSi.length:Nat):Int) == 30)⟩:zdD))):Option zdD).bind λ p1 =>
     (if p1.t53=true then
      some (.inr (c1,false))
     else
      (zkk ((c1.fSi.length+1) * 16≤140737488355328) <|
      some (.inl (⟨c1.fSt,c1.fCa,c1.Done,(c1.fSi++([a1.Name])),c1.fTi⟩:zac)))))
    else
     (if (a1.Kind == 3)=true then
      some (.inl (⟨c1.fSt,c1.fCa,(wI (c1.Done+1)),c1.fSi,c1.fTi⟩:zac))
     else
      (if (a1.Kind == 4)=true then
       ((zb0 c1.fTi a1.Name).bind λ c3 =>
       some (.inl (⟨c1.fSt,c1.fCa,c1.Done,c1.fSi,c3⟩:zac)))
      else
       (if (a1.Kind == 5)=true then
        (if c1.fCa=true then
         some (.inr (c1,false))
        else
         some (.inl (⟨c1.fSt,true,c1.Done,c1.fSi,c1.fTi⟩:zac)))
       else
        some (.inl (⟨2,c1.fCa,c1.Done,c1.fSi,[]⟩:zac))))))):Option (zac⊕(zkq×Bool))).bind λ q=>match q with
  | .inl p2 =>
   ((zdc (⟨p2.b0_0,(wI (c1.Next+1)),p2.b0_2,p2.b0_3,p2.c2,p2.c3⟩:zkq)).bind λ c4 =>
   some ((⟨p2.b0_0,(wI (c1.Next+1)),p2.b0_2,p2.b0_3,p2.c2,p2.c3⟩:zkq),c4))
  | .inr v=>some v))))
structure zgB where
 t12:Int
 b1_0:Int
 b1_1:Int
 b1_2:Bool
 b1_3:Int
 b1_4:(List ByteArray)
 b1_5:(List ByteArray)
structure ziK where
 t3:Int
 b0_0:Int
 b0_1:Int
 b0_2:Bool
 b0_3:Int
 b0_4:(List ByteArray)
 b0_5:(List ByteArray)
structure ziL where
 b1_0:Int
 b1_1:Int
 b1_2:Bool
 b1_3:Int
 b1_4:(List ByteArray)
 b1_5:(List ByteArray)
def za3 (a0:(List zka)) (g0:zgB):Option (zgB⊕(ziK⊕ziL)) :=
 (if (decide (g0.t12 < ((a0.length:Nat):Int)))=true then
  (zkk (0≤g0.t12∧g0.t12 < (a0.length:Int)) <|
  ((zb1 (⟨g0.b1_0,g0.b1_1,g0.b1_2,g0.b1_3,g0.b1_4,g0.b1_5⟩:zkq) (nth a0 g0.t12.toNat)).bind λ c0 =>
  (if (!c0.2)=true then
   some (.inr (.inl (⟨g0.t12,g0.b1_0,g0.b1_1,g0.b1_2,g0.b1_3,g0.b1_4,g0.b1_5⟩)))
  else
   some (.inl ⟨(wI (g0.t12+1)),c0.1.fSt,c0.1.Next,c0.1.fCa,c0.1.Done,c0.1.fSi,c0.1.fTi⟩))))
 else
  some (.inr (.inr (⟨g0.b1_0,g0.b1_1,g0.b1_2,g0.b1_3,g0.b1_4,g0.b1_5⟩))))
def zcx (a0:(List zka)):Option (zkq×Int) :=
 ((zgj).bind λ c0 =>
 ((zkx (za3 a0) ⟨0,c0.fSt,c0.Next,c0.fCa,c0.Done,[],[]⟩).bind λ y0 =>
 match y0 with
 | .inl p0 =>
  some ((⟨p0.b0_0,p0.b0_1,p0.b0_2,p0.b0_3,p0.b0_4,p0.b0_5⟩:zkq),p0.t3)
 | .inr p1 =>
  some ((⟨p1.b1_0,p1.b1_1,p1.b1_2,p1.b1_3,p1.b1_4,p1.b1_5⟩:zkq),((a0.length:Nat):Int))))
structure zex where
 t8:Int
structure zeL where
 t26:Bool
def zbR (a0:(List zka)) (g0:zex):Option (zex⊕(Unit⊕Unit)) :=
 (if (decide (g0.t8 < ((a0.length:Nat):Int)))=true then
  (((if (decide (g0.t8 > 0))=true then
    (zkk (0≤(wI (g0.t8 - 1))∧(wI (g0.t8 - 1)) < (a0.length:Int)) <|
    (zkk (0≤g0.t8∧g0.t8 < (a0.length:Int)) <|
    some (⟨(decide (((nth a0 ((wI (g0.t8 - 1)).toNat)).fVe) > ((nth a0 g0.t8.toNat).fVe)))⟩:zeL)))
   else
    some (⟨false⟩:zeL)):Option zeL).bind λ p0 =>
  (if p0.t26=true then
   some (.inr (.inl ()))
  else
   some (.inl ⟨(wI (g0.t8+1))⟩)))
 else
  some (.inr (.inr ())))
def zeM (a0:(List zka)):Option Bool :=
 ((zkx (zbR a0) ⟨0⟩).bind λ y0 =>
 match y0 with
 | .inl p0 =>
  some false
 | .inr p1 =>
  ((zcx a0).bind λ c0 =>
  (if (c0.2 == ((a0.length:Nat):Int))=true then
   some (decide (((a0.length:Nat):Int)≤60))
  else
   some false)))
def zd3 (a0:(List zka)):Option Bool :=
 (if (decide (((a0.length:Nat):Int) > 0))=true then
  ((zeM a0).bind λ c0 =>
  some c0)
 else
  some false)
def zfl (a0:zka) (a1:zka):Option Int :=
 (if (a0.fVe != a1.fVe)=true then
  (if (decide (a0.fVe < a1.fVe))=true then
   some (-1)
  else
   some 1)
 else
  (if (a0.Kind != a1.Kind)=true then
   (if (decide (a0.Kind < a1.Kind))=true then
    some (-1)
   else
    some 1)
  else
   (if (sLt a0.Name a1.Name)=true then
    some (-1)
   else
    (if (!(sLt a0.Name a1.Name || a0.Name.toList == a1.Name.toList))=true then
     some 1
    else
     some 0))))
structure zd4 where
 t6:Int
structure zgC where
 t4:Int
 t5:Int
def zbp (a0:(List zka)) (a1:(List zka)) (g0:zd4):Option (zd4⊕(zgC⊕Unit)) :=
 (if (decide (g0.t6 < ((a0.length:Nat):Int)))=true then
  (if (decide (g0.t6 < ((a1.length:Nat):Int)))=true then
   (zkk (0≤g0.t6∧g0.t6 < (a0.length:Int)) <|
   (zkk (0≤g0.t6∧g0.t6 < (a1.length:Int)) <|
   ((zfl (nth a0 g0.t6.toNat) (nth a1 g0.t6.toNat)).bind λ c0 =>
   (if (c0 != 0)=true then
    some (.inr (.inl (⟨c0,g0.t6⟩)))
   else
    some (.inl ⟨(wI (g0.t6+1))⟩)))))
  else
   some (.inr (.inr ())))
 else
  some (.inr (.inr ())))
def za4 (a0:(List zka)) (a1:(List zka)):Option (Int×Int) :=
 ((zkx (zbp a0 a1) ⟨0⟩).bind λ y0 =>
 match y0 with
 | .inl p0 =>
  some (p0.t4,p0.t5)
 | .inr p1 =>
  (if (decide (((a0.length:Nat):Int) < ((a1.length:Nat):Int)))=true then
   some ((-1),((a0.length:Nat):Int))
  else
   (if (decide (((a0.length:Nat):Int) > ((a1.length:Nat):Int)))=true then
    some (1,((a1.length:Nat):Int))
   else
    some (0,((a0.length:Nat):Int)))))
def zgl:Option zkq :=
 some (⟨0,1,false,0,[],[]⟩:zkq)
def zfy (a0:ByteArray):Option Bool :=
 ((zbj a0).bind λ c0 =>
 some (!c0))
structure zM where
 t8:Int
structure zbd where
 t4:Int
def zi (a0:(List ByteArray)) (g0:zM):Option (zM⊕(zbd⊕Unit)) :=
 (if (decide (g0.t8 < ((a0.length:Nat):Int)))=true then
  (zkk (0≤g0.t8∧g0.t8 < (a0.length:Int)) <|
  ((zfy (nth a0 g0.t8.toNat)).bind λ c0 =>
  (if c0=true then
   some (.inr (.inl (⟨g0.t8⟩)))
  else
   some (.inl ⟨(wI (g0.t8+1))⟩))))
 else
  some (.inr (.inr ())))
def zV (a0:(List ByteArray)):Option Int :=
 ((zkx (zi a0) ⟨0⟩).bind λ y0 =>
 match y0 with
 | .inl p0 =>
  some p0.t4
 | .inr p1 =>
  some (-1))
def zN (a0:(List ByteArray)):Option Bool :=
 ((zV a0).bind λ c0 =>
 some (decide (c0 ≥ 0)))
def zeN (a0:(List ByteArray)) (a1:Int):Option Bool :=
 (if (decide (((a0.length:Nat):Int)≤a1))=true then
  ((zN a0).bind λ c0 =>
  some (!c0))
 else
  some false)
structure zcq where
 t8:Int
structure zfL where
 t4:Int
def zan (a0:(List ByteArray)) (a1:ByteArray) (g0:zcq):Option (zcq⊕(zfL⊕Unit)) :=
 (if (decide (g0.t8 < ((a0.length:Nat):Int)))=true then
  (zkk (0≤g0.t8∧g0.t8 < (a0.length:Int)) <|
  (if (a1.toList == (nth a0 g0.t8.toNat).toList)=true then
   some (.inr (.inl (⟨g0.t8⟩)))
  else
   some (.inl ⟨(wI (g0.t8+1))⟩)))
 else
  some (.inr (.inr ())))
def zdE (a0:(List ByteArray)) (a1:ByteArray):Option Int :=
 ((zkx (zan a0 a1) ⟨0⟩).bind λ y0 =>
 match y0 with
 | .inl p0 =>
  some p0.t4
 | .inr p1 =>
  some (-1))
def zF (a0:(List ByteArray)) (a1:ByteArray):Option Bool :=
 ((zdE a0 a1).bind λ c0 =>
 some (decide (c0 ≥ 0)))
structure ze9 where
 t7:Int
def zce (a0:(List ByteArray)) (g0:ze9):Option (ze9⊕(Unit⊕Unit)) :=
 (if (decide (g0.t7 < ((a0.length:Nat):Int)))=true then
  (zkk (0≤g0.t7∧g0.t7 < (a0.length:Int)) <|
  (zkk (0≤g0.t7∧g0.t7≤(a0.length:Int)) <|
  ((zF (a0.take g0.t7.toNat) (nth a0 g0.t7.toNat)).bind λ c0 =>
  (if c0=true then
   some (.inr (.inl ()))
  else
   some (.inl ⟨(wI (g0.t7+1))⟩)))))
 else
  some (.inr (.inr ())))
def zdY (a0:(List ByteArray)):Option Bool :=
 ((zkx (zce a0) ⟨0⟩).bind λ y0 =>
 match y0 with
 | .inl p0 =>
  some false
 | .inr p1 =>
  some true)
def zcD (a0:ByteArray) (a1:ByteArray):Option Bool :=
 ((zaE a0).bind λ c0 =>
 (if c0=true then
  ((zaE a1).bind λ c1 =>
  (if (!c1)=true then
   some true
  else
   some (sLt a0 a1)))
 else
  some (sLt a0 a1)))
structure zcX where
 t3:Int
def zB (a0:(List ByteArray)) (g0:zcX):Option (zcX⊕(Unit⊕Unit)) :=
 (if (decide (g0.t3 > 0))=true then
  (zkk (0≤g0.t3∧g0.t3 < (a0.length:Int)) <|
  (zkk (0≤(wI (g0.t3 - 1))∧(wI (g0.t3 - 1)) < (a0.length:Int)) <|
  ((zcD (nth a0 g0.t3.toNat) (nth a0 ((wI (g0.t3 - 1)).toNat))).bind λ c0 =>
  (if c0=true then
   some (.inr (.inl ()))
  else
   some (.inl ⟨(wI (g0.t3 - 1))⟩)))))
 else
  some (.inr (.inr ())))
def zbe (a0:(List ByteArray)):Option Bool :=
 ((zkx (zB a0) ⟨(wI (((a0.length:Nat):Int) - 1))⟩).bind λ y0 =>
 match y0 with
 | .inl p0 =>
  some false
 | .inr p1 =>
  some true)
structure zcY where
 t18:Bool
structure zaM where
 t46:Bool
def zbq (a0:zkq):Option Bool :=
 ((((zc9 a0.Next 1 1001).bind λ c0 =>
  (if (!c0)=true then
   some (⟨true⟩:zcY)
  else
   ((zc9 a0.Done 0 1000).bind λ c1 =>
   (if (!c1)=true then
    some (⟨true⟩:zcY)
   else
    ((zc9 a0.fSt 0 2).bind λ c2 =>
    some (⟨(!c2)⟩:zcY)))))):Option zcY).bind λ p0 =>
 (if p0.t18=true then
  some false
 else
  ((((zeN a0.fSi 30).bind λ c3 =>
   (if (!c3)=true then
    some (⟨true⟩:zaM)
   else
    ((zdY a0.fSi).bind λ c4 =>
    (if (!c4)=true then
     some (⟨true⟩:zaM)
    else
     ((zeN a0.fTi 30).bind λ c5 =>
     (if (!c5)=true then
      some (⟨true⟩:zaM)
     else
      ((zbe a0.fTi).bind λ c6 =>
      (if (!c6)=true then
       some (⟨true⟩:zaM)
      else
       ((zdY a0.fTi).bind λ c7 =>
       some (⟨(!c7)⟩:zaM)))))))))):Option zaM).bind λ p1 =>
  (if p1.t46=true then
   some false
  else
   (if (a0.fSt != 0)=true then
    some (decide (a0.Next > 1))
   else
    (if (a0.Next == 1)=true then
     (if (!a0.fCa)=true then
      (if (a0.Done == 0)=true then
       (if (((a0.fSi.length:Nat):Int) == 0)=true then
        some (((a0.fTi.length:Nat):Int) == 0)
       else
        some false)
      else
       some false)
     else
      some false)
    else
     some false))))))
def zal (a0:Int):Option Bool :=
 ((zc9 a0 1 6).bind λ c0 =>
 some c0)
def zdd (a0:zka):Option Bool :=
 ((zc9 a0.Id 1 1000).bind λ c0 =>
 (if c0=true then
  ((zU a0.fVe).bind λ c1 =>
  (if c1=true then
   ((zal a0.Kind).bind λ c2 =>
   (if c2=true then
    ((zbj a0.Name).bind λ c3 =>
    some c3)
   else
    some false))
  else
   some false))
 else
  some false))
def za5 (a0:zkq):Option zkq :=
 ((za7 a0.fSi).bind λ c0 =>
 ((za7 a0.fTi).bind λ c1 =>
 some (⟨a0.fSt,a0.Next,a0.fCa,a0.Done,c0,c1⟩:zkq)))
def zb7 (a0:ByteArray):Option Bool :=
 some (!(a0.toList == a0.toList))
structure zb2 where
 t7:Int
 t8:Int
structure zgA where
 t7:Int
def zx (a0:(List ByteArray)) (a1:ByteArray) (g0:zb2):Option (zb2⊕zgA) :=
 (if (decide (g0.t7 < g0.t8))=true then
  (zkk (0≤(wI (shR 64 (wU (wI (g0.t7+g0.t8))) 1))∧(wI (shR 64 (wU (wI (g0.t7+g0.t8))) 1)) < (a0.length:Int)) <|
  ((zcD (nth a0 ((wI (shR 64 (wU (wI (g0.t7+g0.t8))) 1)).toNat)) a1).bind λ c0 =>
  (if c0=true then
   some (.inl ⟨(wI ((wI (shR 64 (wU (wI (g0.t7+g0.t8))) 1))+1)),g0.t8⟩)
  else
   some (.inl ⟨g0.t7,(wI (shR 64 (wU (wI (g0.t7+g0.t8))) 1))⟩))))
 else
  some (.inr (⟨g0.t7⟩)))
def zam (a0:(List ByteArray)) (a1:ByteArray):Option (Int×Bool) :=
 ((zkx (zx a0 a1) ⟨0,((a0.length:Nat):Int)⟩).bind λ y0 =>
 (if (decide (y0.t7 < ((a0.length:Nat):Int)))=true then
  (zkk (0≤y0.t7∧y0.t7 < (a0.length:Int)) <|
  (if ((nth a0 y0.t7.toNat).toList == a1.toList)=true then
   some (y0.t7,true)
  else
   (zkk (0≤y0.t7∧y0.t7 < (a0.length:Int)) <|
   ((zb7 (nth a0 y0.t7.toNat)).bind λ c0 =>
   (if c0=true then
    ((zb7 a1).bind λ c1 =>
    some (y0.t7,c1))
   else
    some (y0.t7,false))))))
 else
  some (y0.t7,false)))
def zcr (a0:(List ByteArray)) (a1:Int) (a2:Int):Option (List ByteArray) :=
 zkk (0≤a1∧a1≤a2∧a2≤(a0.length:Int)∧a0.length * 16≤140737488355328) (some (a0.take a1.toNat++a0.drop a2.toNat))
def zcs (a0:(List ByteArray)) (a1:Int) (a2:(List ByteArray)):Option (List ByteArray) :=
 zkk (a2.length=1∧0≤a1∧a1≤(a0.length:Int)∧(a0.length+1) * 16≤140737488355328) (some (a0.take a1.toNat++a2++a0.drop a1.toNat))
def zbf (a0:zkq) (a1:ByteArray):Option (Bool×zkq) :=
 ((zam a0.fTi a1).bind λ c0 =>
 (if c0.2=true then
  ((zcr a0.fTi c0.1 (wI (c0.1+1))).bind λ c1 =>
  some (true,(⟨a0.fSt,a0.Next,a0.fCa,a0.Done,a0.fSi,c1⟩:zkq)))
 else
  (if (((a0.fTi.length:Nat):Int) == 30)=true then
   some (false,a0)
  else
   ((zcs a0.fTi c0.1 ([a1])).bind λ c2 =>
   some (true,(⟨a0.fSt,a0.Next,a0.fCa,a0.Done,a0.fSi,c2⟩:zkq))))))
structure zad where
 t32:Bool
structure zbE where
 t54:Bool
def zbr (a0:zkq) (a1:Int) (a2:ByteArray):Option (Bool×zkq) :=
 (((if (decide (a0.Next > 1000))=true then
   some (⟨true⟩:zad)
  else
   (if (!((a1 == 1) == (a0.fSt == 0)))=true then
    some (⟨true⟩:zad)
   else
    (if (a1 != 1)=true then
     some (⟨(a0.fSt != 1)⟩:zad)
    else
     some (⟨false⟩:zad)))):Option zad).bind λ p0 =>
 (if p0.t32=true then
  some (false,a0)
 else
  (if (a1 == 1)=true then
   some (true,(⟨1,(wI (a0.Next+1)),a0.fCa,a0.Done,a0.fSi,a0.fTi⟩:zkq))
  else
   (if (a1 == 2)=true then
    ((((zF a0.fSi a2).bind λ c0 =>
     (if c0=true then
      some (⟨true⟩:zbE)
     else
      some (⟨(((a0.fSi.length:Nat):Int) == 30)⟩:zbE))):Option zbE).bind λ p1 =>
    (if p1.t54=true then
     some (false,a0)
    else
     (zkk ((a0.fSi.length+1) * 16≤140737488355328) <|
     some (true,(⟨a0.fSt,(wI (a0.Next+1)),a0.fCa,a0.Done,(a0.fSi++([a2])),a0.fTi⟩:zkq)))))
   else
    (if (a1 == 3)=true then
     some (true,(⟨a0.fSt,(wI (a0.Next+1)),a0.fCa,(wI (a0.Done+1)),a0.fSi,a0.fTi⟩:zkq))
    else
     (if (a1 == 4)=true then
      ((zbf a0 a2).bind λ c1 =>
      (if (!c1.1)=true then
       some (false,(⟨c1.2.fSt,c1.2.Next,c1.2.fCa,c1.2.Done,a0.fSi,c1.2.fTi⟩:zkq))
      else
       some (true,(⟨c1.2.fSt,(wI (c1.2.Next+1)),c1.2.fCa,c1.2.Done,a0.fSi,c1.2.fTi⟩:zkq))))
     else
      (if (a1 == 5)=true then
       (if a0.fCa=true then
        some (false,a0)
       else
        some (true,(⟨a0.fSt,(wI (a0.Next+1)),true,a0.Done,a0.fSi,a0.fTi⟩:zkq)))
      else
       (if (a1 == 6)=true then
        some (true,(⟨2,(wI (a0.Next+1)),a0.fCa,a0.Done,a0.fSi,[]⟩:zkq))
       else
        some (true,(⟨a0.fSt,(wI (a0.Next+1)),a0.fCa,a0.Done,a0.fSi,a0.fTi⟩:zkq))))))))))
structure zbs where
 t21:Bool
structure zeO where
 t35:Bool
 b1_0:Int
 b1_1:Int
 b1_2:Bool
 b1_3:Int
 c2:(List ByteArray)
 c3:(List ByteArray)
def zd5 (a0:zkq) (a1:zka):Option (zkq×Bool) :=
 ((((zbq a0).bind λ c0 =>
  (if (!c0)=true then
   some (⟨true⟩:zbs)
  else
   ((zdd a1).bind λ c1 =>
   (if (!c1)=true then
    some (⟨true⟩:zbs)
   else
    some (⟨(a1.Id != a0.Next)⟩:zbs))))):Option zbs).bind λ p0 =>
 (if p0.t21=true then
  some ((⟨0,0,false,0,[],[]⟩:zkq),false)
 else
  ((za5 a0).bind λ c2 =>
  ((((zbr c2 a1.Kind a1.Name).bind λ c3 =>
   (if (!c3.1)=true then
    some (⟨true,c3.2.fSt,c3.2.Next,c3.2.fCa,c3.2.Done,c3.2.fSi,c3.2.fTi⟩:zeO)
   else
    ((zbq c3.2).bind λ c4 =>
    some (⟨(!c4),c3.2.fSt,c3.2.Next,c3.2.fCa,c3.2.Done,c3.2.fSi,c3.2.fTi⟩:zeO)))):Option zeO).bind λ p1 =>
  (if p1.t35=true then
   some ((⟨0,0,false,0,[],[]⟩:zkq),false)
  else
   some ((⟨p1.b1_0,p1.b1_1,p1.b1_2,p1.b1_3,p1.c2,p1.c3⟩:zkq),true))))))
structure zfM where
 t12:Int
 b1_0:Int
 b1_1:Int
 b1_2:Bool
 b1_3:Int
 c2:(List ByteArray)
 c3:(List ByteArray)
structure zic where
 t3:Int
 b0_0:Int
 b0_1:Int
 b0_2:Bool
 b0_3:Int
 c1:(List ByteArray)
 c2:(List ByteArray)
structure zid where
 b1_0:Int
 b1_1:Int
 b1_2:Bool
 b1_3:Int
 c2:(List ByteArray)
 c3:(List ByteArray)
def zag (a0:(List zka)) (g0:zfM):Option (zfM⊕(zic⊕zid)) :=
 (if (decide (g0.t12 < ((a0.length:Nat):Int)))=true then
  (zkk (0≤g0.t12∧g0.t12 < (a0.length:Int)) <|
  ((zd5 (⟨g0.b1_0,g0.b1_1,g0.b1_2,g0.b1_3,g0.c2,g0.c3⟩:zkq) (nth a0 g0.t12.toNat)).bind λ c0 =>
  (if (!c0.2)=true then
   some (.inr (.inl (⟨g0.t12,g0.b1_0,g0.b1_1,g0.b1_2,g0.b1_3,g0.c2,g0.c3⟩)))
  else
   some (.inl ⟨(wI (g0.t12+1)),c0.1.fSt,c0.1.Next,c0.1.fCa,c0.1.Done,c0.1.fSi,c0.1.fTi⟩))))
 else
  some (.inr (.inr (⟨g0.b1_0,g0.b1_1,g0.b1_2,g0.b1_3,g0.c2,g0.c3⟩))))
def zcE (a0:(List zka)):Option (zkq×Int) :=
 ((zgl).bind λ c0 =>
 ((zkx (zag a0) ⟨0,c0.fSt,c0.Next,c0.fCa,c0.Done,[],[]⟩).bind λ y0 =>
 match y0 with
 | .inl p0 =>
  some ((⟨p0.b0_0,p0.b0_1,p0.b0_2,p0.b0_3,p0.c1,p0.c2⟩:zkq),p0.t3)
 | .inr p1 =>
  some ((⟨p1.b1_0,p1.b1_1,p1.b1_2,p1.b1_3,p1.c2,p1.c3⟩:zkq),((a0.length:Nat):Int))))
structure zey where
 t12:Int
structure zeP where
 t29:Bool
def zbS (a0:(List zka)) (g0:zey):Option (zey⊕(Unit⊕Unit)) :=
 (if (decide (g0.t12 < ((a0.length:Nat):Int)))=true then
  (zkk (0≤g0.t12∧g0.t12 < (a0.length:Int)) <|
  (((if (decide (g0.t12 > 0))=true then
    (zkk (0≤(wI (g0.t12 - 1))∧(wI (g0.t12 - 1)) < (a0.length:Int)) <|
    some (⟨(decide (((nth a0 g0.t12.toNat).fVe) < ((nth a0 ((wI (g0.t12 - 1)).toNat)).fVe)))⟩:zeP))
   else
    some (⟨false⟩:zeP)):Option zeP).bind λ p0 =>
  (if p0.t29=true then
   some (.inr (.inl ()))
  else
   some (.inl ⟨(wI (g0.t12+1))⟩))))
 else
  some (.inr (.inr ())))
def zcf (a0:(List zka)):Option Bool :=
 (if (decide (((a0.length:Nat):Int) > 60))=true then
  some false
 else
  ((zkx (zbS a0) ⟨0⟩).bind λ y0 =>
  match y0 with
  | .inl p0 =>
   some false
  | .inr p1 =>
   ((zcE a0).bind λ c0 =>
   some (c0.2 == ((a0.length:Nat):Int)))))
structure zfZ where
 t5:Int
structure zhi where
 t5:Int
def zde (a0:(List zka)) (a1:(List zka)) (g0:zfZ):Option (zfZ⊕zhi) :=
 (if (decide (g0.t5 < (min ((a0.length:Nat):Int) ((a1.length:Nat):Int))))=true then
  (zkk (0≤g0.t5∧g0.t5 < (a0.length:Int)) <|
  (zkk (0≤g0.t5∧g0.t5 < (a1.length:Int)) <|
  (if ((((nth a0 g0.t5.toNat).Id) == ((nth a1 g0.t5.toNat).Id)) && ((((nth a0 g0.t5.toNat).fVe) == ((nth a1 g0.t5.toNat).fVe)) && ((((nth a0 g0.t5.toNat).Kind) == ((nth a1 g0.t5.toNat).Kind)) && (((nth a0 g0.t5.toNat).Name).toList == ((nth a1 g0.t5.toNat).Name).toList))))=true then
   some (.inl ⟨(wI (g0.t5+1))⟩)
  else
   some (.inr (⟨g0.t5⟩)))))
 else
  some (.inr (⟨g0.t5⟩)))
def zge (a0:(List zka)) (a1:(List zka)):Option Int :=
 ((zkx (zde a0 a1) ⟨0⟩).bind λ y0 =>
 some y0.t5)
structure zcS where
 t23:Bool
def zgf (a0:(List zka)) (a1:(List zka)):Option (Int×Bool) :=
 (((if (((a0.length:Nat):Int) == 0)=true then
   some (⟨true⟩:zcS)
  else
   (if (((a1.length:Nat):Int) == 0)=true then
    some (⟨true⟩:zcS)
   else
    ((zcf a0).bind λ c0 =>
    (if (!c0)=true then
     some (⟨true⟩:zcS)
    else
     ((zcf a1).bind λ c1 =>
     some (⟨(!c1)⟩:zcS)))))):Option zcS).bind λ p0 =>
 (if p0.t23=true then
  some (0,false)
 else
  ((zge a0 a1).bind λ c2 =>
  some (c2,true))))
def zeQ (a0:(List zka)):Option Bool :=
 (if (decide (((a0.length:Nat):Int) > 0))=true then
  ((zcf a0).bind λ c0 =>
  some c0)
 else
  some false)
def zd6 (a0:zka) (a1:zka):Option Int :=
 ((za2 a0.fVe a1.fVe).bind λ c0 =>
 ((za2 a0.Kind a1.Kind).bind λ c1 =>
 ((zcw a0.Name a1.Name).bind λ c2 =>
 ((zfY ([c0,c1,c2])).bind λ c3 =>
 some c3))))
structure zt where
 t13:Int
structure zar where
 t6:Int
def zc (a0:(List zka)) (a1:(List zka)) (g0:zt):Option (zt⊕(zar⊕Unit)) :=
 (if (decide (g0.t13 < ((a0.length:Nat):Int)))=true then
  (zkk (0≤g0.t13∧g0.t13 < (a0.length:Int)) <|
  (if (decide (g0.t13 ≥ ((a1.length:Nat):Int)))=true then
   some (.inr (.inl (⟨1⟩)))
  else
   (zkk (0≤g0.t13∧g0.t13 < (a1.length:Int)) <|
   ((zd6 (nth a0 g0.t13.toNat) (nth a1 g0.t13.toNat)).bind λ c0 =>
   (if (c0 != 0)=true then
    some (.inr (.inl (⟨c0⟩)))
   else
    some (.inl ⟨(wI (g0.t13+1))⟩))))))
 else
  some (.inr (.inr ())))
def zC (a0:(List zka)) (a1:(List zka)):Option Int :=
 ((zkx (zc a0 a1) ⟨0⟩).bind λ y0 =>
 match y0 with
 | .inl p0 =>
  some p0.t6
 | .inr p1 =>
  (if (decide (((a0.length:Nat):Int) < ((a1.length:Nat):Int)))=true then
   some (-1)
  else
   some 0))
def zbm (a0:(List zka)) (a1:(List zka)):Option Int :=
 ((zC a0 a1).bind λ c0 =>
 some c0)
structure zkd where
 fEv:(List zka)
 deriving DecidableEq,Inhabited
structure zkh where
 fBr:(List zkd)
 deriving DecidableEq,Inhabited
def zaN (a0:(List zka)) (a1:(List zka)):Option Bool :=
 ((za4 a0 a1).bind λ c0 =>
 some (c0.2 == ((a1.length:Nat):Int)))
structure zaO where
 t12:Int
structure zcZ where
 t26:Int
structure zbF where
 t52:Bool
def zaP (a0:zkh) (g0:zaO) (g1:zcZ):Option (zcZ⊕(Unit⊕Unit)) :=
 (if (decide (g1.t26 < (((a0.fBr.take g0.t12.toNat).length:Nat):Int)))=true then
  (zkk (0≤g1.t26∧g1.t26 < ((a0.fBr.take g0.t12.toNat).length:Int)) <|
  ((za4 ((nth (a0.fBr.take g0.t12.toNat) g1.t26.toNat).fEv) ((nth a0.fBr g0.t12.toNat).fEv)).bind λ c0 =>
  (((if (decide (c0.1 ≥ 0))=true then
    some (⟨true⟩:zbF)
   else
    ((zaN ((nth a0.fBr g0.t12.toNat).fEv) ((nth (a0.fBr.take g0.t12.toNat) g1.t26.toNat).fEv)).bind λ c1 =>
    (if c1=true then
     some (⟨true⟩:zbF)
    else
     some (⟨(decide (g1.t26 > g0.t12))⟩:zbF)))):Option zbF).bind λ p0 =>
  (if p0.t52=true then
   some (.inr (.inl ()))
  else
   some (.inl ⟨(wI (g1.t26+1))⟩)))))
 else
  some (.inr (.inr ())))
def zaQ (a0:zkh) (g0:zaO):Option (zaO⊕(Unit⊕Unit)) :=
 (if (decide (g0.t12 < ((a0.fBr.length:Nat):Int)))=true then
  (zkk (0≤g0.t12∧g0.t12 < (a0.fBr.length:Int)) <|
  ((zd3 ((nth a0.fBr g0.t12.toNat).fEv)).bind λ c0 =>
  (if (!c0)=true then
   some (.inr (.inl ()))
  else
   (zkk (0≤g0.t12∧g0.t12≤(a0.fBr.length:Int)) <|
   ((zkx (zaP a0 g0) ⟨0⟩).bind λ y0 =>
   match y0 with
   | .inl p0 =>
    some (.inr (.inl ()))
   | .inr p1 =>
    some (.inl ⟨(wI (g0.t12+1))⟩))))))
 else
  some (.inr (.inr ())))
def zao (a0:zkh):Option Bool :=
 ((zkx (zaQ a0) ⟨0⟩).bind λ y0 =>
 match y0 with
 | .inl p0 =>
  some false
 | .inr p1 =>
  some (decide (((a0.fBr.length:Nat):Int)≤12)))
structure zbk where
 t13:Int
def zZ (a0:(List zka)) (a1:(List zka)) (g0:zbk):Option (zbk⊕(Unit⊕Unit)) :=
 (if (decide (g0.t13 < ((a0.length:Nat):Int)))=true then
  (zkk (0≤g0.t13∧g0.t13 < (a0.length:Int)) <|
  (zkk (0≤g0.t13∧g0.t13 < (a1.length:Int)) <|
  (if (!((((nth a0 g0.t13.toNat).Id) == ((nth a1 g0.t13.toNat).Id)) && ((((nth a0 g0.t13.toNat).fVe) == ((nth a1 g0.t13.toNat).fVe)) && ((((nth a0 g0.t13.toNat).Kind) == ((nth a1 g0.t13.toNat).Kind)) && (((nth a0 g0.t13.toNat).Name).toList == ((nth a1 g0.t13.toNat).Name).toList)))))=true then
   some (.inr (.inl ()))
  else
   some (.inl ⟨(wI (g0.t13+1))⟩))))
 else
  some (.inr (.inr ())))
def zb4 (a0:(List zka)) (a1:(List zka)):Option Bool :=
 (if (((a0.length:Nat):Int) != ((a1.length:Nat):Int))=true then
  some false
 else
  ((zkx (zZ a0 a1) ⟨0⟩).bind λ y0 =>
  match y0 with
  | .inl p0 =>
   some false
  | .inr p1 =>
   some true))
def zeq (a0:(List zka)) (a1:(List zka)):Option Bool :=
 (if (decide (((a0.length:Nat):Int)≤((a1.length:Nat):Int)))=true then
  (zkk (0≤((a0.length:Nat):Int)∧((a0.length:Nat):Int)≤(a1.length:Int)) <|
  ((zb4 a0 (a1.take a0.length)).bind λ c0 =>
  some c0))
 else
  some false)
structure zaR where
 t14:Int
structure zc0 where
 t28:Int
structure zdr where
 t44:Bool
def zaS (a0:zkh) (g0:zaR) (g1:zc0):Option (zc0⊕(Unit⊕Unit)) :=
 (if (decide (g1.t28 < (((a0.fBr.take g0.t14.toNat).length:Nat):Int)))=true then
  (zkk (0≤g1.t28∧g1.t28 < ((a0.fBr.take g0.t14.toNat).length:Int)) <|
  ((((zbm ((nth (a0.fBr.take g0.t14.toNat) g1.t28.toNat).fEv) ((nth a0.fBr g0.t14.toNat).fEv)).bind λ c0 =>
   (if (decide (c0 ≥ 0))=true then
    some (⟨true⟩:zdr)
   else
    ((zeq ((nth (a0.fBr.take g0.t14.toNat) g1.t28.toNat).fEv) ((nth a0.fBr g0.t14.toNat).fEv)).bind λ c1 =>
    some (⟨c1⟩:zdr)))):Option zdr).bind λ p0 =>
  (if p0.t44=true then
   some (.inr (.inl ()))
  else
   some (.inl ⟨(wI (g1.t28+1))⟩))))
 else
  some (.inr (.inr ())))
def zaT (a0:zkh) (g0:zaR):Option (zaR⊕(Unit⊕Unit)) :=
 (if (decide (g0.t14 < ((a0.fBr.length:Nat):Int)))=true then
  (zkk (0≤g0.t14∧g0.t14 < (a0.fBr.length:Int)) <|
  ((zeQ ((nth a0.fBr g0.t14.toNat).fEv)).bind λ c0 =>
  (if (!c0)=true then
   some (.inr (.inl ()))
  else
   (zkk (0≤g0.t14∧g0.t14≤(a0.fBr.length:Int)) <|
   ((zkx (zaS a0 g0) ⟨0⟩).bind λ y0 =>
   match y0 with
   | .inl p0 =>
    some (.inr (.inl ()))
   | .inr p1 =>
    some (.inl ⟨(wI (g0.t14+1))⟩))))))
 else
  some (.inr (.inr ())))
def za0 (a0:zkh):Option Bool :=
 (if (decide (((a0.fBr.length:Nat):Int) > 12))=true then
  some false
 else
  ((zkx (zaT a0) ⟨0⟩).bind λ y0 =>
  match y0 with
  | .inl p0 =>
   some false
  | .inr p1 =>
   some true))
end Go.TL
namespace Go.TL
end Go.TL

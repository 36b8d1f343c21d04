import Derived.Test.YteonagfnhdlfcaaGreatDoorG20PlR3M
import Derived.Test.YteonagfnhdlfcaaGreatDoorG18PlTrim
import Derived.Test.YteonagfnhdlfcaaGreatDoorG28PpOrd
set_option linter.unusedSimpArgs false
set_option linter.unusedVariables false
noncomputable section
namespace Go.TL
structure zgb where
 t15:Int
def zb6 (a0:(List BranchT)) (a1:(List EventT)) (g169:zgb):Option (zgb⊕(Unit⊕Unit)) :=
 (if (decide (g169.t15 < ((a0.length:Nat):Int)))=true then
  (zlf (0≤g169.t15∧g169.t15 < (a0.length:Int)) <|
  ((zaK ((nth a0 g169.t15.toNat).fEv) a1).bind λ c171 =>
  (if c171=true then
   some (.inr (.inl ()))
  else
   some (.inl ⟨(wI (g169.t15+1))⟩))))
 else
  some (.inr (.inr ())))
structure zhb where
 t6:Bool
 t27:Int
 c0:(List BranchT)
structure zjO where
 t6:Bool
 c0:(List BranchT)
structure zf5 where
 t47:Bool
def zdb (a0:(List BranchT)) (a1:(List EventT)) (g175:zhb):Option (zhb⊕zjO) :=
 (if (decide (g175.t27 < ((a0.length:Nat):Int)))=true then
  (zlf (0≤g175.t27∧g175.t27 < (a0.length:Int)) <|
  ((zaK a1 ((nth a0 g175.t27.toNat).fEv)).bind λ c183 =>
  (if c183=true then
   some (.inl ⟨g175.t6,(wI (g175.t27+1)),g175.c0⟩)
  else
   ((zar ((nth a0 g175.t27.toNat).fEv) a1).bind λ c184 =>
   (((if (decide (c184.1 > 0))=true then
     some (⟨(!g175.t6)⟩:zf5)
    else
     some (⟨false⟩:zf5)):Option zf5).bind λ p185 =>
   (if p185.t47=true then
    ((zq a1).bind λ c186 =>
    (zlf ((g175.c0.length+1) * 24≤140737488355328) <|
    ((zq ((nth a0 g175.t27.toNat).fEv)).bind λ c188 =>
    (zlf (((g175.c0.length+1)+1) * 24≤140737488355328) <|
    some (.inl ⟨true,(wI (g175.t27+1)),((g175.c0++[(⟨c186⟩:BranchT)])++[(⟨c188⟩:BranchT)])⟩)))))
   else
    ((zq ((nth a0 g175.t27.toNat).fEv)).bind λ c189 =>
    (zlf ((g175.c0.length+1) * 24≤140737488355328) <|
    some (.inl ⟨g175.t6,(wI (g175.t27+1)),(g175.c0++[(⟨c189⟩:BranchT)])⟩)))))))))
 else
  some (.inr (⟨g175.t6,g175.c0⟩)))
def zgx (a0:(List BranchT)) (a1:(List EventT)):Option (List BranchT) :=
 ((zln (zb6 a0 a1) ⟨0⟩).bind λ y172 =>
 match y172 with
 | .inl p173 =>
  some a0
 | .inr p174 =>
  ((zln (zdb a0 a1) ⟨false,0,[]⟩).bind λ y190 =>
  (if (!y190.t6)=true then
   ((zq a1).bind λ c191 =>
   (zlf ((y190.c0.length+1) * 24≤140737488355328) <|
   some (y190.c0++[(⟨c191⟩:BranchT)])))
  else
   some y190.c0)))
structure zgc where
 t9:Int
 c1:(List BranchT)
structure zhN where
 c1:(List BranchT)
def zdc (a0:TellingsT) (g212:zgc):Option (zgc⊕zhN) :=
 (if (decide (g212.t9 < ((a0.fBr.length:Nat):Int)))=true then
  (zlf (0≤g212.t9∧g212.t9 < (a0.fBr.length:Int)) <|
  ((zq ((nth a0.fBr g212.t9.toNat).fEv)).bind λ c214 =>
  (zlf ((g212.c1.length+1) * 24≤140737488355328) <|
  some (.inl ⟨(wI (g212.t9+1)),(g212.c1++[(⟨c214⟩:BranchT)])⟩))))
 else
  some (.inr (⟨g212.c1⟩)))
def zbt (a0:TellingsT):Option TellingsT :=
 ((zln (zdc a0) ⟨0,[]⟩).bind λ y215 =>
 some (⟨y215.c1⟩:TellingsT))
end Go.TL
namespace Go.TL
def zfP (a0:BranchT) (a1:(List EventT)):Option Bool :=
 ((zeb a1 a0.fEv).bind λ c340 =>
 some c340)
structure zB where
 t8:Int
structure zaB where
 t4:Int
def zg (a0:(List BranchT)) (a1:(List EventT)) (g339:zB):Option (zB⊕(zaB⊕Unit)) :=
 (if (decide (g339.t8 < ((a0.length:Nat):Int)))=true then
  (zlf (0≤g339.t8∧g339.t8 < (a0.length:Int)) <|
  ((zfP (nth a0 g339.t8.toNat) a1).bind λ c342 =>
  (if c342=true then
   some (.inr (.inl (⟨g339.t8⟩)))
  else
   some (.inl ⟨(wI (g339.t8+1))⟩))))
 else
  some (.inr (.inr ())))
def zK (a0:(List BranchT)) (a1:(List EventT)):Option Int :=
 ((zln (zg a0 a1) ⟨0⟩).bind λ y343 =>
 match y343 with
 | .inl p344 =>
  some p344.t4
 | .inr p345 =>
  some (-1))
def zn (a0:(List BranchT)) (a1:(List EventT)):Option Bool :=
 ((zK a0 a1).bind λ c346 =>
 some (decide (c346 ≥ 0)))
def zaX (a0:BranchT) (a1:(List EventT)):Option Bool :=
 ((zeb a0.fEv a1).bind λ c348 =>
 some c348)
def zO (a0:(List BranchT)) (a1:(List EventT)):Option (List BranchT) :=
 zlf (a0.length≤9223372036854775807∧(a0.all λ b=>(zaX b a1).isSome)=true) (some (a0.filter λ b=>!((zaX b a1).getD false)))
def zgD (a0:BranchT) (a1:BranchT):Option Int :=
 ((zbd a0.fEv a1.fEv).bind λ c355 =>
 some c355)
def zS (a0:(List BranchT)):Option (List BranchT) :=
 zlf (a0.length < 4611686018427387904∧(a0.all λ b=>decide (b.fEv.length≤1000))=true∧zv9 brL a0=true) (some (zth brL a0))
def zcg (a0:TellingsT) (a1:(List EventT)):Option TellingsT :=
 ((zY a0).bind λ c351 =>
 ((zn c351.fBr a1).bind λ c352 =>
 (if c352=true then
  some c351
 else
  ((zO c351.fBr a1).bind λ c353 =>
  ((zh a1).bind λ c354 =>
  (zlf ((c353.length+1) * 24≤140737488355328) <|
  ((zS (c353++[(⟨c354⟩:BranchT)])).bind λ c356 =>
  (zlf (c356.length=(c353.length+1)) <|
  some (⟨c356⟩:TellingsT)))))))))
structure zfd where
 t5:(List BranchT)
 t13:Int
structure zhk where
 t5:(List BranchT)
def zb7 (a1:TellingsT) (g425:zfd):Option (zfd⊕zhk) :=
 (if (decide (g425.t13 < ((a1.fBr.length:Nat):Int)))=true then
  (zlf (0≤g425.t13∧g425.t13 < (a1.fBr.length:Int)) <|
  ((zgx g425.t5 ((nth a1.fBr g425.t13.toNat).fEv)).bind λ c427 =>
  some (.inl ⟨c427,(wI (g425.t13+1))⟩)))
 else
  some (.inr (⟨g425.t5⟩)))
def zft (a0:TellingsT) (a1:TellingsT):Option TellingsT :=
 ((zln (zb7 a1) ⟨a0.fBr,0⟩).bind λ y428 =>
 ((zbt (⟨y428.t5⟩:TellingsT)).bind λ c429 =>
 some c429))
structure zdk where
 t14:Bool
def zcn (a0:TellingsT) (a1:TellingsT):Option (TellingsT×Bool) :=
 ((((zao a0).bind λ c422 =>
  (if (!c422)=true then
   some (⟨true⟩:zdk)
  else
   ((zao a1).bind λ c423 =>
   some (⟨(!c423)⟩:zdk)))):Option zdk).bind λ p424 =>
 (if p424.t14=true then
  some ((⟨[]⟩:TellingsT),false)
 else
  ((zft a0 a1).bind λ c431 =>
  ((zao c431).bind λ c432 =>
  (if (!c432)=true then
   some ((⟨[]⟩:TellingsT),false)
  else
   some (c431,true))))))
structure zdl where
 t16:Bool
structure zcH where
 t23:Int
 c2:(List BranchT)
structure zgk where
 c2:(List BranchT)
def zax (a1:TellingsT) (g440:zcH):Option (zcH⊕zgk) :=
 (if (decide (g440.t23 < ((a1.fBr.length:Nat):Int)))=true then
  (zlf (0≤g440.t23∧g440.t23 < (a1.fBr.length:Int)) <|
  ((zcg (⟨g440.c2⟩:TellingsT) ((nth a1.fBr g440.t23.toNat).fEv)).bind λ c442 =>
  some (.inl ⟨(wI (g440.t23+1)),c442.fBr⟩)))
 else
  some (.inr (⟨g440.c2⟩)))
def zco (a0:TellingsT) (a1:TellingsT):Option (TellingsT×Bool) :=
 ((((zaS a0).bind λ c436 =>
  (if (!c436)=true then
   some (⟨true⟩:zdl)
  else
   ((zaS a1).bind λ c437 =>
   some (⟨(!c437)⟩:zdl)))):Option zdl).bind λ p438 =>
 (if p438.t16=true then
  some ((⟨[]⟩:TellingsT),false)
 else
  ((zY a0).bind λ c439 =>
  ((zln (zax a1) ⟨0,c439.fBr⟩).bind λ y443 =>
  (if (decide (((y443.c2.length:Nat):Int) > 12))=true then
   some ((⟨[]⟩:TellingsT),false)
  else
   some ((⟨y443.c2⟩:TellingsT),true))))))
end Go.TL
namespace Go.TL
end Go.TL
namespace Go.TL
def zgE (a0:RegionT):Option RegionT :=
 ((zbt a0.fTe).bind λ c153 =>
 some (⟨a0.Id,a0.fVe,c153⟩:RegionT))
structure zfe where
 t15:Int
def zbe (a0:(List BranchT)) (a1:(List EventT)) (g251:zfe):Option (zfe⊕(Unit⊕Unit)) :=
 (if (decide (g251.t15 < ((a0.length:Nat):Int)))=true then
  (zlf (0≤g251.t15∧g251.t15 < (a0.length:Int)) <|
  ((zaK ((nth a0 g251.t15.toNat).fEv) a1).bind λ c253 =>
  (if c253=true then
   some (.inr (.inl ()))
  else
   some (.inl ⟨(wI (g251.t15+1))⟩))))
 else
  some (.inr (.inr ())))
structure zgH where
 t6:Bool
 t27:Int
 c1:(List BranchT)
structure ziU where
 t6:Bool
 c1:(List BranchT)
structure zff where
 t47:Bool
def zb8 (a0:(List BranchT)) (a1:(List EventT)) (g257:zgH):Option (zgH⊕ziU) :=
 (if (decide (g257.t27 < ((a0.length:Nat):Int)))=true then
  (zlf (0≤g257.t27∧g257.t27 < (a0.length:Int)) <|
  ((zaK a1 ((nth a0 g257.t27.toNat).fEv)).bind λ c265 =>
  (if c265=true then
   some (.inl ⟨g257.t6,(wI (g257.t27+1)),g257.c1⟩)
  else
   ((zar ((nth a0 g257.t27.toNat).fEv) a1).bind λ c266 =>
   (((if (decide (c266.1 > 0))=true then
     some (⟨(!g257.t6)⟩:zff)
    else
     some (⟨false⟩:zff)):Option zff).bind λ p267 =>
   (if p267.t47=true then
    ((zq a1).bind λ c268 =>
    (zlf ((g257.c1.length+1) * 24≤140737488355328) <|
    ((zq ((nth a0 g257.t27.toNat).fEv)).bind λ c270 =>
    (zlf (((g257.c1.length+1)+1) * 24≤140737488355328) <|
    some (.inl ⟨true,(wI (g257.t27+1)),((g257.c1++[(⟨c268⟩:BranchT)])++[(⟨c270⟩:BranchT)])⟩)))))
   else
    ((zq ((nth a0 g257.t27.toNat).fEv)).bind λ c271 =>
    (zlf ((g257.c1.length+1) * 24≤140737488355328) <|
    some (.inl ⟨g257.t6,(wI (g257.t27+1)),(g257.c1++[(⟨c271⟩:BranchT)])⟩)))))))))
 else
  some (.inr (⟨g257.t6,g257.c1⟩)))
def zdQ (a0:(List BranchT)) (a1:(List EventT)):Option (List BranchT) :=
 ((zln (zbe a0 a1) ⟨0⟩).bind λ y254 =>
 match y254 with
 | .inl p255 =>
  some a0
 | .inr p256 =>
  ((zln (zb8 a0 a1) ⟨false,0,[]⟩).bind λ y272 =>
  (if (!y272.t6)=true then
   ((zq a1).bind λ c273 =>
   (zlf ((y272.c1.length+1) * 24≤140737488355328) <|
   some (y272.c1++[(⟨c273⟩:BranchT)])))
  else
   some y272.c1)))
structure zd1 where
 t21:Bool
structure zcp where
 t42:Bool
def zeU (a0:RegionT) (a1:Int) (a2:ByteArray):Option (RegionT×Int) :=
 ((((zaT a1 1 6).bind λ c186 =>
  (if (!c186)=true then
   some (⟨true⟩:zd1)
  else
   ((zea a2).bind λ c187 =>
   some (⟨(!c187)⟩:zd1)))):Option zd1).bind λ p188 =>
 (if p188.t21=true then
  some (a0,1)
 else
  ((zda a0).bind λ c189 =>
  (if (!c189)=true then
   some (a0,2)
  else
   ((zd0 a0).bind λ c191 =>
   ((zci c191).bind λ c192 =>
   (((if (a1 == 2)=true then
     ((zbv c192.1.fSi a2).bind λ c193 =>
     some (⟨(decide (c193 ≥ 0))⟩:zcp))
    else
     some (⟨false⟩:zcp)):Option zcp).bind λ p194 =>
   (if p194.t42=true then
    some (a0,5)
   else
    ((zbQ c192.1 (⟨c192.1.Next,a0.fVe,a1,a2⟩:EventT)).bind λ c195 =>
    (if (!c195.2)=true then
     some (a0,3)
    else
     (if (((c191.length:Nat):Int) == 60)=true then
      some (a0,4)
     else
      ((zq c191).bind λ c196 =>
      (zlf ((c196.length+1) * 40≤140737488355328) <|
      ((zdQ a0.fTe.fBr (c196++([(⟨c192.1.Next,a0.fVe,a1,a2⟩:EventT)]))).bind λ c293 =>
      ((zbt (⟨c293⟩:TellingsT)).bind λ c294 =>
      some ((⟨a0.Id,a0.fVe,c294⟩:RegionT),0))))))))))))))))
structure zd2 where
 t4:Int
 t14:Int
 b0_0:Int
 b0_1:Int
 b0_2:(List BranchT)
structure zg0 where
 t4:Int
 b0_0:Int
 b0_1:Int
 b0_2:(List BranchT)
def zaC (c184:(List ByteArray)) (g185:zd2):Option (zd2⊕zg0) :=
 (if (decide (g185.t14 < ((c184.length:Nat):Int)))=true then
  (zlf (0≤g185.t14∧g185.t14 < ((c184.length:Nat):Int)) <|
  ((zeU (⟨g185.b0_0,g185.b0_1,(⟨g185.b0_2⟩:TellingsT)⟩:RegionT) 2 (nth c184 g185.t14.toNat)).bind λ c296 =>
  (if (c296.2 == 0)=true then
   some (.inl ⟨(wI (g185.t4+1)),(wI (g185.t14+1)),c296.1.Id,c296.1.fVe,c296.1.fTe.fBr⟩)
  else
   some (.inl ⟨g185.t4,(wI (g185.t14+1)),g185.b0_0,g185.b0_1,g185.b0_2⟩))))
 else
  some (.inr (⟨g185.t4,g185.b0_0,g185.b0_1,g185.b0_2⟩)))
def zd3 (a0:RegionT):Option (RegionT×Int) :=
 ((zf4 a0.fTe.fBr).bind λ c184 =>
 ((zln (zaC c184) ⟨0,0,a0.Id,a0.fVe,a0.fTe.fBr⟩).bind λ y297 =>
 some ((⟨y297.b0_0,y297.b0_1,(⟨y297.b0_2⟩:TellingsT)⟩:RegionT),y297.t4)))
structure zbC where
 t25:Bool
structure zbD where
 t38:Bool
def zaD (a0:RegionT) (a1:Int) (a2:ByteArray):Option Int :=
 ((zck a0.fTe).bind λ c506 =>
 ((za2 a0).bind λ c509 =>
 ((zbA c509 a1 a2).bind λ c517 =>
 ((((zai a1).bind λ c518 =>
  (if (!c518)=true then
   some (⟨true⟩:zbC)
  else
   ((zbc a2).bind λ c519 =>
   some (⟨(!c519)⟩:zbC)))):Option zbC).bind λ p520 =>
 (if p520.t25=true then
  some 1
 else
  ((zW a0).bind λ c521 =>
  (if (!c521)=true then
   some 2
  else
   (((if (a1 == 2)=true then
     ((zF c509.fSi a2).bind λ c522 =>
     some (⟨c522⟩:zbD))
    else
     some (⟨false⟩:zbD)):Option zbD).bind λ p523 =>
   (if p523.t38=true then
    some 5
   else
    (if (!c517.1)=true then
     some 3
    else
     (if (((c506.length:Nat):Int) == 60)=true then
      some 4
     else
      ((zh c506).bind λ c524 =>
      (zlf ((c524.length+1) * 40≤140737488355328) <|
      ((zcg a0.fTe (c524++([(⟨c509.Next,a0.fVe,a1,a2⟩:EventT)]))).bind λ c544 =>
      none))))))))))))))
end Go.TL
namespace Go.TL
def zfw (a0:RegionT):Option (WordT×Bool) :=
 ((zad a0).bind λ c146 =>
 (if (!c146)=true then
  some ((⟨0,(⟨[]⟩:TellingsT)⟩:WordT),false)
 else
  ((zbt a0.fTe).bind λ c147 =>
  some ((⟨a0.fVe,c147⟩:WordT),true))))
structure zeV where
 t19:Bool
structure zeW where
 b0_1:Int
def zd4 (a0:RegionT) (a1:WordT):Option (RegionT×Bool) :=
 ((((zad a0).bind λ c306 =>
  (if (!c306)=true then
   some (⟨true⟩:zeV)
  else
   ((zad (⟨0,a1.fVe,a1.fTe⟩:RegionT)).bind λ c307 =>
   some (⟨(!c307)⟩:zeV)))):Option zeV).bind λ p308 =>
 (if p308.t19=true then
  some ((⟨0,0,(⟨[]⟩:TellingsT)⟩:RegionT),false)
 else
  ((zcn a0.fTe a1.fTe).bind λ c309 =>
  (if (!c309.2)=true then
   some ((⟨0,0,(⟨[]⟩:TellingsT)⟩:RegionT),false)
  else
   (((if (decide (a1.fVe > a0.fVe))=true then
     some (⟨a1.fVe⟩:zeW)
    else
     some (⟨a0.fVe⟩:zeW)):Option zeW).bind λ p310 =>
   some ((⟨a0.Id,p310.b0_1,c309.1⟩:RegionT),true))))))
end Go.TL
namespace Go.TL
def zes (a0:WordT):Option WordT :=
 ((zbt a0.fTe).bind λ c227 =>
 some (⟨a0.fVe,c227⟩:WordT))
structure zgd where
 t11:Int
 c3:(List RegionT)
structure zhO where
 c3:(List RegionT)
def zb9 (a0:WorldT) (g222:zgd):Option (zgd⊕zhO) :=
 (if (decide (g222.t11 < ((a0.fRe.length:Nat):Int)))=true then
  (zlf (0≤g222.t11∧g222.t11 < (a0.fRe.length:Int)) <|
  ((zgE (⟨(nth a0.fRe g222.t11.toNat).Id,(nth a0.fRe g222.t11.toNat).fVe,((nth a0.fRe g222.t11.toNat).fTe)⟩:RegionT)).bind λ c224 =>
  (zlf ((g222.c3.length+1) * 40≤140737488355328) <|
  some (.inl ⟨(wI (g222.t11+1)),(g222.c3++([c224]))⟩))))
 else
  some (.inr (⟨g222.c3⟩)))
structure zge where
 t26:Int
 c3:(List SaidT)
structure zhP where
 c3:(List SaidT)
def zdd (a0:WorldT) (g226:zge):Option (zge⊕zhP) :=
 (if (decide (g226.t26 < ((a0.Line.length:Nat):Int)))=true then
  (zlf (0≤g226.t26∧g226.t26 < (a0.Line.length:Int)) <|
  ((zes (⟨((nth a0.Line g226.t26.toNat).Word).fVe,(((nth a0.Line g226.t26.toNat).Word).fTe)⟩:WordT)).bind λ c229 =>
  (zlf ((g226.c3.length+1) * 40≤140737488355328) <|
  some (.inl ⟨(wI (g226.t26+1)),(g226.c3++([(⟨(nth a0.Line g226.t26.toNat).To,c229⟩:SaidT)]))⟩))))
 else
  some (.inr (⟨g226.c3⟩)))
def zec (a0:WorldT):Option WorldT :=
 ((zln (zb9 a0) ⟨0,[]⟩).bind λ y225 =>
 ((zln (zdd a0) ⟨0,[]⟩).bind λ y230 =>
 some (⟨y225.c3,y230.c3⟩:WorldT)))
structure zfz where
 t5:Int
 c2:(List RegionT)
structure zgN where
 t3:Int
 t4:Bool
 c1:(List RegionT)
 c2:(List SaidT)
structure zfA where
 t30:Int
 c4:(List RegionT)
structure zeX where
 c3:(List RegionT)
def zT (g455:zfA):Option (zfA⊕(Unit⊕zeX)) :=
 (if (decide (g455.t30 < 2))=true then
  (zlf (0≤g455.t30∧g455.t30 < 2) <|
  (zlf (0≤(wI (1 - (nth ([1,0]:List Int) g455.t30.toNat)))∧(wI (1 - (nth ([1,0]:List Int) g455.t30.toNat))) < ((g455.c4.length:Nat):Int)) <|
  ((zfw (⟨(nth g455.c4 ((wI (1 - (nth ([1,0]:List Int) g455.t30.toNat))).toNat)).Id,(nth g455.c4 ((wI (1 - (nth ([1,0]:List Int) g455.t30.toNat))).toNat)).fVe,((nth g455.c4 ((wI (1 - (nth ([1,0]:List Int) g455.t30.toNat))).toNat)).fTe)⟩:RegionT)).bind λ c458 =>
  (zlf (0≤(nth ([1,0]:List Int) g455.t30.toNat)∧(nth ([1,0]:List Int) g455.t30.toNat) < ((g455.c4.length:Nat):Int)) <|
  ((zd4 (⟨(nth g455.c4 ((nth ([1,0]:List Int) g455.t30.toNat).toNat)).Id,(nth g455.c4 ((nth ([1,0]:List Int) g455.t30.toNat).toNat)).fVe,((nth g455.c4 ((nth ([1,0]:List Int) g455.t30.toNat).toNat)).fTe)⟩:RegionT) c458.1).bind λ c459 =>
  (if (!c459.2)=true then
   some (.inr (.inl ()))
  else
   (zlf (0≤(nth ([1,0]:List Int) g455.t30.toNat)∧(nth ([1,0]:List Int) g455.t30.toNat) < ((g455.c4.length:Nat):Int)) <|
   some (.inl ⟨(wI (g455.t30+1)),(g455.c4.set ((nth ([1,0]:List Int) g455.t30.toNat).toNat) c459.1)⟩))))))))
 else
  some (.inr (.inr (⟨g455.c4⟩))))
structure zfB where
 t66:Int
 c3:(List RegionT)
structure zif where
 c3:(List RegionT)
def z8 (p462:zeX) (g463:zfB):Option (zfB⊕zif) :=
 (if (decide (g463.t66 < ((p462.c3.length:Nat):Int)))=true then
  (zlf (0≤g463.t66∧g463.t66 < ((g463.c3.length:Nat):Int)) <|
  ((zda (⟨(nth g463.c3 g463.t66.toNat).Id,(nth g463.c3 g463.t66.toNat).fVe,((nth g463.c3 g463.t66.toNat).fTe)⟩:RegionT)).bind λ c466 =>
  (if c466=true then
   ((zd3 (⟨(nth g463.c3 g463.t66.toNat).Id,(nth g463.c3 g463.t66.toNat).fVe,((nth g463.c3 g463.t66.toNat).fTe)⟩:RegionT)).bind λ c467 =>
   (zlf (0≤g463.t66∧g463.t66 < ((g463.c3.length:Nat):Int)) <|
   some (.inl ⟨(wI (g463.t66+1)),(g463.c3.set g463.t66.toNat c467.1)⟩)))
  else
   some (.inl ⟨(wI (g463.t66+1)),g463.c3⟩))))
 else
  some (.inr (⟨g463.c3⟩)))
structure zdG where
 t102:Bool
def zaa (g315:zfz):Option (zfz⊕(zgN⊕Unit)) :=
 (if (decide (g315.t5≤20))=true then
  ((zec (⟨g315.c2,[]⟩:WorldT)).bind λ c454 =>
  ((zln (zT) ⟨0,g315.c2⟩).bind λ y460 =>
  match y460 with
  | .inl p461 =>
   some (.inr (.inl (⟨0,false,[],[]⟩)))
  | .inr p462 =>
   ((zln (z8 p462) ⟨0,p462.c3⟩).bind λ y468 =>
   (((zlf (0 < ((c454.fRe.length:Nat):Int)) <|
    (zlf (0 < ((y468.c3.length:Nat):Int)) <|
    ((zeQ (⟨(nth c454.fRe 0).Id,(nth c454.fRe 0).fVe,((nth c454.fRe 0).fTe)⟩:RegionT) (⟨(nth y468.c3 0).Id,(nth y468.c3 0).fVe,((nth y468.c3 0).fTe)⟩:RegionT)).bind λ c469 =>
    (if c469=true then
     (zlf (1 < ((c454.fRe.length:Nat):Int)) <|
     (zlf (1 < ((y468.c3.length:Nat):Int)) <|
     ((zeQ (⟨(nth c454.fRe 1).Id,(nth c454.fRe 1).fVe,((nth c454.fRe 1).fTe)⟩:RegionT) (⟨(nth y468.c3 1).Id,(nth y468.c3 1).fVe,((nth y468.c3 1).fTe)⟩:RegionT)).bind λ c470 =>
     some (⟨c470⟩:zdG))))
    else
     some (⟨false⟩:zdG))))):Option zdG).bind λ p471 =>
   (if p471.t102=true then
    ((zec (⟨y468.c3,[]⟩:WorldT)).bind λ c472 =>
    some (.inr (.inl (⟨g315.t5,true,c472.fRe,c472.Line⟩))))
   else
    some (.inl ⟨(wI (g315.t5+1)),y468.c3⟩))))))
 else
  some (.inr (.inr ())))
def zdm (a0:WorldT):Option (WorldT×Int×Bool) :=
 ((zeM a0).bind λ c313 =>
 (if (!c313)=true then
  some ((⟨[],[]⟩:WorldT),0,false)
 else
  ((zec a0).bind λ c314 =>
  ((zln (zaa) ⟨1,c314.fRe⟩).bind λ y491 =>
  match y491 with
  | .inl p492 =>
   some ((⟨p492.c1,p492.c2⟩:WorldT),p492.t3,p492.t4)
  | .inr p493 =>
   some ((⟨[],[]⟩:WorldT),0,false)))))
def zgf (a0:SaidT):Option SaidT :=
 ((zY a0.Word.fTe).bind λ c687 =>
 some (⟨a0.To,(⟨a0.Word.fVe,c687⟩:WordT)⟩:SaidT))
structure zd5 where
 t12:Int
 c3:(List RegionT)
structure zg1 where
 c3:(List RegionT)
def zaE (a0:WorldT) (g677:zd5):Option (zd5⊕zg1) :=
 (if (decide (g677.t12 < ((a0.fRe.length:Nat):Int)))=true then
  (zlf (0≤g677.t12∧g677.t12 < (a0.fRe.length:Int)) <|
  ((zfb (⟨(nth a0.fRe g677.t12.toNat).Id,(nth a0.fRe g677.t12.toNat).fVe,((nth a0.fRe g677.t12.toNat).fTe)⟩:RegionT)).bind λ c684 =>
  (zlf ((g677.c3.length+1) * 40≤140737488355328) <|
  some (.inl ⟨(wI (g677.t12+1)),(g677.c3++[c684])⟩))))
 else
  some (.inr (⟨g677.c3⟩)))
structure zd6 where
 t27:Int
 c3:(List SaidT)
structure zg2 where
 c3:(List SaidT)
def zbp (a0:WorldT) (g686:zd6):Option (zd6⊕zg2) :=
 (if (decide (g686.t27 < ((a0.Line.length:Nat):Int)))=true then
  (zlf (0≤g686.t27∧g686.t27 < (a0.Line.length:Int)) <|
  ((zgf (⟨(nth a0.Line g686.t27.toNat).To,(⟨((nth a0.Line g686.t27.toNat).Word).fVe,(((nth a0.Line g686.t27.toNat).Word).fTe)⟩:WordT)⟩:SaidT)).bind λ c689 =>
  (zlf ((g686.c3.length+1) * 40≤140737488355328) <|
  some (.inl ⟨(wI (g686.t27+1)),(g686.c3++[c689])⟩))))
 else
  some (.inr (⟨g686.c3⟩)))
def zcJ (a0:WorldT):Option WorldT :=
 ((zln (zaE a0) ⟨0,[]⟩).bind λ y685 =>
 ((zln (zbp a0) ⟨0,[]⟩).bind λ y690 =>
 some (⟨y685.c3,y690.c3⟩:WorldT)))
def zU (a0:(List RegionT)) (i0:Nat) (a2:WordT):Option (Bool×(List RegionT)) :=
 (zlf (i0 < a0.length) <|
 ((zco ((nth a0 i0).fTe) a2.fTe).bind λ c730 =>
 (if c730.2=true then
  some (c730.2,(a0.set i0 (⟨(nth a0 i0).Id,(max ((nth a0 i0).fVe) a2.fVe),c730.1⟩:RegionT)))
 else
  some (c730.2,(a0.set i0 (⟨(nth a0 i0).Id,(nth a0 i0).fVe,((nth a0 i0).fTe)⟩:RegionT))))))
def zbq (a0:(List RegionT)) (i0:Nat) (f0:RegionT) (a3:Int) (a4:ByteArray):Option (Int×(List RegionT)) :=
 ((zck f0.fTe).bind λ c795 =>
 ((za2 f0).bind λ c796 =>
 ((zbA c796 a3 a4).bind λ c797 =>
 ((zai a3).bind λ c798 =>
 (if (!c798)=true then
  none
 else
  ((zbc a4).bind λ c799 =>
  (if (!c799)=true then
   none
  else
   ((zW f0).bind λ c800 =>
   (if (!c800)=true then
    none
   else
    (if (a3 == 2)=true then
     ((zF c796.fSi a4).bind λ c801 =>
     (if c801=true then
      none
     else
      (if (!c797.1)=true then
       none
      else
       (if (((c795.length:Nat):Int) == 60)=true then
        none
       else
        ((zh c795).bind λ c802 =>
        (zlf ((c802.length+1) * 40≤140737488355328) <|
        ((zcg f0.fTe (c802++([(⟨c796.Next,f0.fVe,a3,a4⟩:EventT)]))).bind λ c803 =>
        some (0,(a0.set i0 (⟨f0.Id,f0.fVe,c803⟩:RegionT))))))))))
    else
     (if (!c797.1)=true then
      none
     else
      (if (((c795.length:Nat):Int) == 60)=true then
       none
      else
       ((zh c795).bind λ c804 =>
       (zlf ((c804.length+1) * 40≤140737488355328) <|
       ((zcg f0.fTe (c804++([(⟨c796.Next,f0.fVe,a3,a4⟩:EventT)]))).bind λ c805 =>
       some (0,(a0.set i0 (⟨f0.Id,f0.fVe,c805⟩:RegionT))))))))))))))))))
structure zbs where
 t3:Int
 t12:Int
 c0:(List RegionT)
structure ze1 where
 t3:Int
 c0:(List RegionT)
def zP (c793:(List ByteArray)) (i0:Nat) (g794:zbs):Option (zbs⊕ze1) :=
 (if (decide (g794.t12 < ((c793.length:Nat):Int)))=true then
  (zlf (0≤g794.t12∧g794.t12 < ((c793.length:Nat):Int)) <|
  (zlf (i0 < g794.c0.length) <|
  (match zaD (⟨(nth g794.c0 i0).Id,(nth g794.c0 i0).fVe,((nth g794.c0 i0).fTe)⟩:RegionT) 2 (nth c793 g794.t12.toNat) with
  | some c808 =>
   (if (c808 == 0)=true then
    some (.inl ⟨(wI (g794.t3+1)),(wI (g794.t12+1)),(g794.c0.set i0 (⟨(nth g794.c0 i0).Id,(nth g794.c0 i0).fVe,((nth g794.c0 i0).fTe)⟩:RegionT))⟩)
   else
    some (.inl ⟨g794.t3,(wI (g794.t12+1)),(g794.c0.set i0 (⟨(nth g794.c0 i0).Id,(nth g794.c0 i0).fVe,((nth g794.c0 i0).fTe)⟩:RegionT))⟩))
  | none =>
   ((zbq g794.c0 i0 (⟨(nth g794.c0 i0).Id,(nth g794.c0 i0).fVe,((nth g794.c0 i0).fTe)⟩:RegionT) 2 (nth c793 g794.t12.toNat)).bind λ c809 =>
   (if (c809.1 == 0)=true then
    some (.inl ⟨(wI (g794.t3+1)),(wI (g794.t12+1)),c809.2⟩)
   else
    some (.inl ⟨g794.t3,(wI (g794.t12+1)),c809.2⟩))))))
 else
  some (.inr (⟨g794.t3,g794.c0⟩)))
def zba (a0:(List RegionT)) (i0:Nat):Option (Int×(List RegionT)) :=
 (zlf (i0 < a0.length) <|
 ((zdj ((nth a0 i0).fTe)).bind λ c793 =>
 ((zln (zP c793 i0) ⟨0,0,(a0.set i0 (⟨(nth a0 i0).Id,(nth a0 i0).fVe,((nth a0 i0).fTe)⟩:RegionT))⟩).bind λ y810 =>
 some (y810.t3,y810.c0))))
structure zag where
 t28:Bool
 c1:(List RegionT)
structure zdn where
 t34:Int
 c1:(List RegionT)
structure zhp where
 c1:(List RegionT)
def zw (p734:zag) (g735:zdn):Option (zdn⊕zhp) :=
 (if (decide (g735.t34 < ((p734.c1.length:Nat):Int)))=true then
  (zlf (0≤g735.t34∧g735.t34 < ((g735.c1.length:Nat):Int)) <|
  ((zW (nth g735.c1 g735.t34.toNat)).bind λ c812 =>
  (if c812=true then
   ((zba g735.c1 g735.t34.toNat).bind λ c813 =>
   (zlf (c813.2.length=g735.c1.length) <|
   some (.inl ⟨(wI (g735.t34+1)),c813.2⟩)))
  else
   some (.inl ⟨(wI (g735.t34+1)),g735.c1⟩))))
 else
  some (.inr (⟨g735.c1⟩)))
def zbr (a0:WorldT):Option (Bool×WorldT×(List RegionT)) :=
 (zlf (0 < ((a0.fRe.length:Nat):Int)) <|
 (zlf (1 < ((a0.fRe.length:Nat):Int)) <|
 ((((zaf (nth a0.fRe 0)).bind λ c729 =>
  ((zU a0.fRe 1 c729).bind λ c731 =>
  (zlf (c731.2.length=a0.fRe.length) <|
  (if (!c731.1)=true then
   some (⟨true,c731.2⟩:zag)
  else
   ((zaf (nth c731.2 1)).bind λ c732 =>
   ((zU c731.2 0 c732).bind λ c733 =>
   (zlf (c733.2.length=c731.2.length) <|
   some (⟨(!c733.1),c733.2⟩:zag)))))))):Option zag).bind λ p734 =>
 (if p734.t28=true then
  some (false,(⟨p734.c1,[]⟩:WorldT),p734.c1)
 else
  ((zln (zw p734) ⟨0,p734.c1⟩).bind λ y814 =>
  some (true,(⟨y814.c1,[]⟩:WorldT),y814.c1))))))
structure zfC where
 t6:Int
 c2:(List RegionT)
structure zgO where
 t3:Int
 t4:Bool
 c1:(List RegionT)
structure zdH where
 t39:Bool
def zab (g696:zfC):Option (zfC⊕(zgO⊕Unit)) :=
 (if (decide (g696.t6≤20))=true then
  ((zcJ (⟨g696.c2,[]⟩:WorldT)).bind λ c828 =>
  ((zbr (⟨g696.c2,[]⟩:WorldT)).bind λ c829 =>
  (if (!c829.1)=true then
   some (.inr (.inl (⟨0,false,[]⟩)))
  else
   (((zlf (0 < ((c828.fRe.length:Nat):Int)) <|
    (zlf (0 < ((c829.2.2.length:Nat):Int)) <|
    ((zb3 (nth c828.fRe 0) (nth c829.2.2 0)).bind λ c830 =>
    (if c830=true then
     (zlf (1 < ((c828.fRe.length:Nat):Int)) <|
     (zlf (1 < ((c829.2.2.length:Nat):Int)) <|
     ((zb3 (nth c828.fRe 1) (nth c829.2.2 1)).bind λ c831 =>
     some (⟨c831⟩:zdH))))
    else
     some (⟨false⟩:zdH))))):Option zdH).bind λ p832 =>
   (if p832.t39=true then
    some (.inr (.inl (⟨g696.t6,true,c829.2.2⟩)))
   else
    some (.inl ⟨(wI (g696.t6+1)),c829.2.2⟩))))))
 else
  some (.inr (.inr ())))
def zca (a0:WorldT):Option (WorldT×Int×Bool) :=
 ((zeO a0).bind λ c676 =>
 (if (!c676)=true then
  some ((⟨[],[]⟩:WorldT),0,false)
 else
  ((zcJ a0).bind λ c695 =>
  ((zln (zab) ⟨1,c695.fRe⟩).bind λ y833 =>
  match y833 with
  | .inl p834 =>
   some ((⟨p834.c1,[]⟩:WorldT),p834.t3,p834.t4)
  | .inr p835 =>
   some ((⟨[],[]⟩:WorldT),0,false)))))
def zdB (g904:Unit):Option (Unit⊕Unit) :=
 some (.inr ())
def zdo (a0:Int):Option Int :=
 ((zln (zdB) ()).bind λ y905 =>
 some a0)
def zcq (a0:WorldT) (a1:Int):Option (Int×(List RegionT)) :=
 ((za4 a0.fRe a1).bind λ c903 =>
 (zlf (c903.2.length=a0.fRe.length) <|
 ((zdo c903.1).bind λ c906 =>
 some (c906,c903.2))))
structure zdC where
 t1:Int
 t5:Int
structure zgP where
 t1:Int
def za6 (a0:(List RegionT)) (g908:zdC):Option (zdC⊕(Unit⊕zgP)) :=
 (if (decide (g908.t5 < ((a0.length:Nat):Int)))=true then
  (zlf (0≤g908.t5∧g908.t5 < (a0.length:Int)) <|
  (if (((nth a0 g908.t5.toNat).Id) != g908.t1)=true then
   some (.inr (.inl ()))
  else
   (zlf (0≤g908.t5∧g908.t5 < (a0.length:Int)) <|
   (if (((nth a0 g908.t5.toNat).fVe) != (wI (g908.t1+1)))=true then
    some (.inr (.inl ()))
   else
    (zlf (0≤g908.t5∧g908.t5 < (a0.length:Int)) <|
    ((zb4 (((nth a0 g908.t5.toNat).fTe).fBr) (wI ((wI (g908.t1+1))+1))).bind λ c922 =>
    (if (decide (c922 < 0))=true then
     some (.inr (.inl ()))
    else
     some (.inl ⟨c922,(wI (g908.t5+1))⟩))))))))
 else
  some (.inr (.inr (⟨g908.t1⟩))))
def zdp (a0:(List RegionT)) (a1:Int):Option Int :=
 ((zln (za6 a0) ⟨a1,0⟩).bind λ y923 =>
 match y923 with
 | .inl p924 =>
  some (-1)
 | .inr p925 =>
  some p925.t1)
structure zgn where
 t1:Int
 t5:Int
structure ziE where
 t1:Int
def zcQ (a0:(List SaidT)) (g927:zgn):Option (zgn⊕(Unit⊕ziE)) :=
 (if (decide (g927.t5 < ((a0.length:Nat):Int)))=true then
  (zlf (0≤g927.t5∧g927.t5 < (a0.length:Int)) <|
  (if (((nth a0 g927.t5.toNat).To) != g927.t1)=true then
   some (.inr (.inl ()))
  else
   (zlf (0≤g927.t5∧g927.t5 < (a0.length:Int)) <|
   (if ((((nth a0 g927.t5.toNat).Word).fVe) != (wI (g927.t1+1)))=true then
    some (.inr (.inl ()))
   else
    (zlf (0≤g927.t5∧g927.t5 < (a0.length:Int)) <|
    ((zb4 ((((nth a0 g927.t5.toNat).Word).fTe).fBr) (wI ((wI (g927.t1+1))+1))).bind λ c929 =>
    (if (decide (c929 < 0))=true then
     some (.inr (.inl ()))
    else
     some (.inl ⟨c929,(wI (g927.t5+1))⟩))))))))
 else
  some (.inr (.inr (⟨g927.t1⟩))))
def zeY (a0:(List SaidT)) (a1:Int):Option Int :=
 ((zln (zcQ a0) ⟨a1,0⟩).bind λ y930 =>
 match y930 with
 | .inl p931 =>
  some (-1)
 | .inr p932 =>
  some p932.t1)
def zde (a0:WorldT) (a1:Int):Option Int :=
 ((zdp a0.fRe a1).bind λ c926 =>
 (if (decide (c926 < 0))=true then
  some (-1)
 else
  ((zeY a0.Line c926).bind λ c933 =>
  (if (decide (c933 < 0))=true then
   some (-1)
  else
   some c933))))
structure zay where
 t50:Bool
structure zZ where
 t76:Bool
structure zaz where
 t108:Bool
def zbU (a0:WorldT):Option Bool :=
 ((zfY a0 1048576).bind λ c32 =>
 (if (decide (c32 < 0))=true then
  some true
 else
  ((zbo a0).bind λ c62 =>
  ((zdm c62).bind λ c494 =>
  ((zbo a0).bind λ c495 =>
  ((zca c495).bind λ c836 =>
  ((((zcj (⟨c836.1.fRe,[]⟩:WorldT) c494.1).bind λ c868 =>
   (if (!c868)=true then
    some (⟨true⟩:zay)
   else
    (if (c836.2.1 != c494.2.1)=true then
     some (⟨true⟩:zay)
    else
     some (⟨(!(c836.2.2 == c494.2.2))⟩:zay)))):Option zay).bind λ p869 =>
  (if p869.t50=true then
   some false
  else
   ((zbo a0).bind λ c870 =>
   ((zcj c495 c870).bind λ c871 =>
   (if (!c871)=true then
    some false
   else
    ((zdy c495 1).bind λ c899 =>
    (zlf (c899.2.1.length=c495.fRe.length) <|
    (zlf (c899.2.2.length=c495.Line.length) <|
    (((if (decide (c899.1 < 0))=true then
      some (⟨true⟩:zZ)
     else
      ((zcj (⟨c836.1.fRe,[]⟩:WorldT) c494.1).bind λ c900 =>
      (if (!c900)=true then
       some (⟨true⟩:zZ)
      else
       (if (c836.2.1 != c494.2.1)=true then
        some (⟨true⟩:zZ)
       else
        some (⟨(!(c836.2.2 == c494.2.2))⟩:zZ))))):Option zZ).bind λ p901 =>
    (if p901.t76=true then
     some false
    else
     ((zcq (⟨c836.1.fRe,[]⟩:WorldT) 1).bind λ c907 =>
     (zlf (c907.2.length=c836.1.fRe.length) <|
     ((zde (⟨c907.2,[]⟩:WorldT) 1).bind λ c934 =>
     (if (decide (c934 < 0))=true then
      some false
     else
      (if (c934 != c907.1)=true then
       some false
      else
       ((zbo a0).bind λ c935 =>
       ((zca c935).bind λ c936 =>
       ((((zcj (⟨c936.1.fRe,[]⟩:WorldT) c494.1).bind λ c937 =>
        (if (!c937)=true then
         some (⟨true⟩:zaz)
        else
         (if (c936.2.1 != c494.2.1)=true then
          some (⟨true⟩:zaz)
         else
          some (⟨(!(c936.2.2 == c494.2.2))⟩:zaz)))):Option zaz).bind λ p938 =>
       (if p938.t108=true then
        some false
       else
        ((zde (⟨c907.2,[]⟩:WorldT) 1).bind λ c939 =>
        (if (decide (c939 < 0))=true then
         some false
        else
         (if (c939 != c907.1)=true then
          some false
         else
          some true))))))))))))))))))))))))))))
end Go.TL

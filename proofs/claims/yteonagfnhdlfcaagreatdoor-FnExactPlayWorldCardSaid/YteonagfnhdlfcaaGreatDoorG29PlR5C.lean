import Derived.Test.YteonagfnhdlfcaaGreatDoorG20PlR3M
import Derived.Test.YteonagfnhdlfcaaGreatDoorG18PlTrim
import Derived.Test.YteonagfnhdlfcaaGreatDoorG28PpOrd
set_option linter.unusedSimpArgs false
set_option linter.unusedVariables false
noncomputable section
namespace Go.TL
structure zfs where
 t15:Int
def zbU (a0:(List BranchT)) (a1:(List EventT)) (g169:zfs):Option (zfs⊕(Unit⊕Unit)) :=
 (if (decide (g169.t15 < ((a0.length:Nat):Int)))=true then
  (zjP (0≤g169.t15∧g169.t15 < (a0.length:Int)) <|
  ((zao ((nth a0 g169.t15.toNat).fEv) a1).bind λ c171 =>
  (if c171=true then
   some (.inr (.inl ()))
  else
   some (.inl ⟨(wI (g169.t15+1))⟩))))
 else
  some (.inr (.inr ())))
structure zgo where
 t6:Bool
 t27:Int
 c0:(List BranchT)
structure ziN where
 t6:Bool
 c0:(List BranchT)
structure zfk where
 t47:Bool
def zcT (a0:(List BranchT)) (a1:(List EventT)) (g175:zgo):Option (zgo⊕ziN) :=
 (if (decide (g175.t27 < ((a0.length:Nat):Int)))=true then
  (zjP (0≤g175.t27∧g175.t27 < (a0.length:Int)) <|
  ((zao a1 ((nth a0 g175.t27.toNat).fEv)).bind λ c183 =>
  (if c183=true then
   some (.inl ⟨g175.t6,(wI (g175.t27+1)),g175.c0⟩)
  else
   ((zaE ((nth a0 g175.t27.toNat).fEv) a1).bind λ c184 =>
   (((if (decide (c184.1 > 0))=true then
     some (⟨(!g175.t6)⟩:zfk)
    else
     some (⟨false⟩:zfk)):Option zfk).bind λ p185 =>
   (if p185.t47=true then
    ((zg a1).bind λ c186 =>
    (zjP ((g175.c0.length+1) * 24≤140737488355328) <|
    ((zg ((nth a0 g175.t27.toNat).fEv)).bind λ c188 =>
    (zjP (((g175.c0.length+1)+1) * 24≤140737488355328) <|
    some (.inl ⟨true,(wI (g175.t27+1)),((g175.c0++[(⟨c186⟩:BranchT)])++[(⟨c188⟩:BranchT)])⟩)))))
   else
    ((zg ((nth a0 g175.t27.toNat).fEv)).bind λ c189 =>
    (zjP ((g175.c0.length+1) * 24≤140737488355328) <|
    some (.inl ⟨g175.t6,(wI (g175.t27+1)),(g175.c0++[(⟨c189⟩:BranchT)])⟩)))))))))
 else
  some (.inr (⟨g175.t6,g175.c0⟩)))
def zfH (a0:(List BranchT)) (a1:(List EventT)):Option (List BranchT) :=
 ((zjZ (zbU a0 a1) ⟨0⟩).bind λ y172 =>
 match y172 with
 | .inl p173 =>
  some a0
 | .inr p174 =>
  ((zjZ (zcT a0 a1) ⟨false,0,[]⟩).bind λ y190 =>
  (if (!y190.t6)=true then
   ((zg a1).bind λ c191 =>
   (zjP ((y190.c0.length+1) * 24≤140737488355328) <|
   some (y190.c0++[(⟨c191⟩:BranchT)])))
  else
   some y190.c0)))
structure zft where
 t9:Int
 c1:(List BranchT)
structure zgS where
 c1:(List BranchT)
def zcU (a0:TellingsT) (g212:zft):Option (zft⊕zgS) :=
 (if (decide (g212.t9 < ((a0.fBr.length:Nat):Int)))=true then
  (zjP (0≤g212.t9∧g212.t9 < (a0.fBr.length:Int)) <|
  ((zg ((nth a0.fBr g212.t9.toNat).fEv)).bind λ c214 =>
  (zjP ((g212.c1.length+1) * 24≤140737488355328) <|
  some (.inl ⟨(wI (g212.t9+1)),(g212.c1++[(⟨c214⟩:BranchT)])⟩))))
 else
  some (.inr (⟨g212.c1⟩)))
def zbc (a0:TellingsT):Option TellingsT :=
 ((zjZ (zcU a0) ⟨0,[]⟩).bind λ y215 =>
 some (⟨y215.c1⟩:TellingsT))
end Go.TL
namespace Go.TL
def ze7 (a0:BranchT) (a1:(List EventT)):Option Bool :=
 ((zdW a1 a0.fEv).bind λ c340 =>
 some c340)
structure zk where
 t8:Int
structure zah where
 t4:Int
def zc (a0:(List BranchT)) (a1:(List EventT)) (g339:zk):Option (zk⊕(zah⊕Unit)) :=
 (if (decide (g339.t8 < ((a0.length:Nat):Int)))=true then
  (zjP (0≤g339.t8∧g339.t8 < (a0.length:Int)) <|
  ((ze7 (nth a0 g339.t8.toNat) a1).bind λ c342 =>
  (if c342=true then
   some (.inr (.inl (⟨g339.t8⟩)))
  else
   some (.inl ⟨(wI (g339.t8+1))⟩))))
 else
  some (.inr (.inr ())))
def zq (a0:(List BranchT)) (a1:(List EventT)):Option Int :=
 ((zjZ (zc a0 a1) ⟨0⟩).bind λ y343 =>
 match y343 with
 | .inl p344 =>
  some p344.t4
 | .inr p345 =>
  some (-1))
def zf (a0:(List BranchT)) (a1:(List EventT)):Option Bool :=
 ((zq a0 a1).bind λ c346 =>
 some (decide (c346 ≥ 0)))
def zaG (a0:BranchT) (a1:(List EventT)):Option Bool :=
 ((zdW a0.fEv a1).bind λ c348 =>
 some c348)
def zv (a0:(List BranchT)) (a1:(List EventT)):Option (List BranchT) :=
 zjP (a0.length≤9223372036854775807∧(a0.all λ b=>(zaG b a1).isSome)=true) (some (a0.filter λ b=>!((zaG b a1).getD false)))
def zfQ (a0:BranchT) (a1:BranchT):Option Int :=
 ((zaX a0.fEv a1.fEv).bind λ c355 =>
 some c355)
def zD (a0:(List BranchT)):Option (List BranchT) :=
 zjP (a0.length < 4611686018427387904∧(a0.all λ b=>decide (b.fEv.length≤1000))=true∧zuS brL a0=true) (some (zrF brL a0))
def zb6 (a0:TellingsT) (a1:(List EventT)):Option TellingsT :=
 ((zP a0).bind λ c351 =>
 ((zf c351.fBr a1).bind λ c352 =>
 (if c352=true then
  some c351
 else
  ((zv c351.fBr a1).bind λ c353 =>
  ((zd a1).bind λ c354 =>
  (zjP ((c353.length+1) * 24≤140737488355328) <|
  ((zD (c353++[(⟨c354⟩:BranchT)])).bind λ c356 =>
  (zjP (c356.length=(c353.length+1)) <|
  some (⟨c356⟩:TellingsT)))))))))
structure zeJ where
 t5:(List BranchT)
 t13:Int
structure zgv where
 t5:(List BranchT)
def zbV (a1:TellingsT) (g425:zeJ):Option (zeJ⊕zgv) :=
 (if (decide (g425.t13 < ((a1.fBr.length:Nat):Int)))=true then
  (zjP (0≤g425.t13∧g425.t13 < (a1.fBr.length:Int)) <|
  ((zfH g425.t5 ((nth a1.fBr g425.t13.toNat).fEv)).bind λ c427 =>
  some (.inl ⟨c427,(wI (g425.t13+1))⟩)))
 else
  some (.inr (⟨g425.t5⟩)))
def zeS (a0:TellingsT) (a1:TellingsT):Option TellingsT :=
 ((zjZ (zbV a1) ⟨a0.fBr,0⟩).bind λ y428 =>
 ((zbc (⟨y428.t5⟩:TellingsT)).bind λ c429 =>
 some c429))
structure zc3 where
 t14:Bool
def zcd (a0:TellingsT) (a1:TellingsT):Option (TellingsT×Bool) :=
 ((((zZ a0).bind λ c422 =>
  (if (!c422)=true then
   some (⟨true⟩:zc3)
  else
   ((zZ a1).bind λ c423 =>
   some (⟨(!c423)⟩:zc3)))):Option zc3).bind λ p424 =>
 (if p424.t14=true then
  some ((⟨[]⟩:TellingsT),false)
 else
  ((zeS a0 a1).bind λ c431 =>
  ((zZ c431).bind λ c432 =>
  (if (!c432)=true then
   some ((⟨[]⟩:TellingsT),false)
  else
   some (c431,true))))))
structure zc4 where
 t16:Bool
structure zcr where
 t23:Int
 c2:(List BranchT)
structure zfz where
 c2:(List BranchT)
def zad (a1:TellingsT) (g440:zcr):Option (zcr⊕zfz) :=
 (if (decide (g440.t23 < ((a1.fBr.length:Nat):Int)))=true then
  (zjP (0≤g440.t23∧g440.t23 < (a1.fBr.length:Int)) <|
  ((zb6 (⟨g440.c2⟩:TellingsT) ((nth a1.fBr g440.t23.toNat).fEv)).bind λ c442 =>
  some (.inl ⟨(wI (g440.t23+1)),c442.fBr⟩)))
 else
  some (.inr (⟨g440.c2⟩)))
def zce (a0:TellingsT) (a1:TellingsT):Option (TellingsT×Bool) :=
 ((((zbs a0).bind λ c436 =>
  (if (!c436)=true then
   some (⟨true⟩:zc4)
  else
   ((zbs a1).bind λ c437 =>
   some (⟨(!c437)⟩:zc4)))):Option zc4).bind λ p438 =>
 (if p438.t16=true then
  some ((⟨[]⟩:TellingsT),false)
 else
  ((zP a0).bind λ c439 =>
  ((zjZ (zad a1) ⟨0,c439.fBr⟩).bind λ y443 =>
  (if (decide (((y443.c2.length:Nat):Int) > 12))=true then
   some ((⟨[]⟩:TellingsT),false)
  else
   some ((⟨y443.c2⟩:TellingsT),true))))))
end Go.TL
namespace Go.TL
end Go.TL
namespace Go.TL
def zdu (a0:RegionT):Option RegionT :=
 ((zbc a0.fTe).bind λ c153 =>
 some (⟨a0.Id,a0.fVe,c153⟩:RegionT))
structure zeK where
 t15:Int
def zaY (a0:(List BranchT)) (a1:(List EventT)) (g251:zeK):Option (zeK⊕(Unit⊕Unit)) :=
 (if (decide (g251.t15 < ((a0.length:Nat):Int)))=true then
  (zjP (0≤g251.t15∧g251.t15 < (a0.length:Int)) <|
  ((zao ((nth a0 g251.t15.toNat).fEv) a1).bind λ c253 =>
  (if c253=true then
   some (.inr (.inl ()))
  else
   some (.inl ⟨(wI (g251.t15+1))⟩))))
 else
  some (.inr (.inr ())))
structure zfU where
 t6:Bool
 t27:Int
 c1:(List BranchT)
structure zh2 where
 t6:Bool
 c1:(List BranchT)
structure zeL where
 t47:Bool
def zbW (a0:(List BranchT)) (a1:(List EventT)) (g257:zfU):Option (zfU⊕zh2) :=
 (if (decide (g257.t27 < ((a0.length:Nat):Int)))=true then
  (zjP (0≤g257.t27∧g257.t27 < (a0.length:Int)) <|
  ((zao a1 ((nth a0 g257.t27.toNat).fEv)).bind λ c265 =>
  (if c265=true then
   some (.inl ⟨g257.t6,(wI (g257.t27+1)),g257.c1⟩)
  else
   ((zaE ((nth a0 g257.t27.toNat).fEv) a1).bind λ c266 =>
   (((if (decide (c266.1 > 0))=true then
     some (⟨(!g257.t6)⟩:zeL)
    else
     some (⟨false⟩:zeL)):Option zeL).bind λ p267 =>
   (if p267.t47=true then
    ((zg a1).bind λ c268 =>
    (zjP ((g257.c1.length+1) * 24≤140737488355328) <|
    ((zg ((nth a0 g257.t27.toNat).fEv)).bind λ c270 =>
    (zjP (((g257.c1.length+1)+1) * 24≤140737488355328) <|
    some (.inl ⟨true,(wI (g257.t27+1)),((g257.c1++[(⟨c268⟩:BranchT)])++[(⟨c270⟩:BranchT)])⟩)))))
   else
    ((zg ((nth a0 g257.t27.toNat).fEv)).bind λ c271 =>
    (zjP ((g257.c1.length+1) * 24≤140737488355328) <|
    some (.inl ⟨g257.t6,(wI (g257.t27+1)),(g257.c1++[(⟨c271⟩:BranchT)])⟩)))))))))
 else
  some (.inr (⟨g257.t6,g257.c1⟩)))
def zdv (a0:(List BranchT)) (a1:(List EventT)):Option (List BranchT) :=
 ((zjZ (zaY a0 a1) ⟨0⟩).bind λ y254 =>
 match y254 with
 | .inl p255 =>
  some a0
 | .inr p256 =>
  ((zjZ (zbW a0 a1) ⟨false,0,[]⟩).bind λ y272 =>
  (if (!y272.t6)=true then
   ((zg a1).bind λ c273 =>
   (zjP ((y272.c1.length+1) * 24≤140737488355328) <|
   some (y272.c1++[(⟨c273⟩:BranchT)])))
  else
   some y272.c1)))
structure zdK where
 t21:Bool
structure zcf where
 t42:Bool
def zc5 (a0:RegionT) (a1:Int) (a2:ByteArray):Option (RegionT×Int) :=
 ((((zN a1 1 6).bind λ c186 =>
  (if (!c186)=true then
   some (⟨true⟩:zdK)
  else
   ((zdT a2).bind λ c187 =>
   some (⟨(!c187)⟩:zdK)))):Option zdK).bind λ p188 =>
 (if p188.t21=true then
  some (a0,1)
 else
  ((zcR a0).bind λ c189 =>
  (if (!c189)=true then
   some (a0,2)
  else
   ((zdH a0).bind λ c191 =>
   ((zca c191).bind λ c192 =>
   (((if (a1 == 2)=true then
     ((zbe c192.1.fSi a2).bind λ c193 =>
     some (⟨(decide (c193 ≥ 0))⟩:zcf))
    else
     some (⟨false⟩:zcf)):Option zcf).bind λ p194 =>
   (if p194.t42=true then
    some (a0,5)
   else
    ((zbB c192.1 (⟨c192.1.Next,a0.fVe,a1,a2⟩:EventT)).bind λ c195 =>
    (if (!c195.2)=true then
     some (a0,3)
    else
     (if (((c191.length:Nat):Int) == 60)=true then
      some (a0,4)
     else
      ((zg c191).bind λ c196 =>
      (zjP ((c196.length+1) * 40≤140737488355328) <|
      ((zdv a0.fTe.fBr (c196++([(⟨c192.1.Next,a0.fVe,a1,a2⟩:EventT)]))).bind λ c293 =>
      ((zbc (⟨c293⟩:TellingsT)).bind λ c294 =>
      some ((⟨a0.Id,a0.fVe,c294⟩:RegionT),0))))))))))))))))
structure zdL where
 t4:Int
 t14:Int
 b0_0:Int
 b0_1:Int
 b0_2:(List BranchT)
structure zga where
 t4:Int
 b0_0:Int
 b0_1:Int
 b0_2:(List BranchT)
def zai (c184:(List ByteArray)) (g185:zdL):Option (zdL⊕zga) :=
 (if (decide (g185.t14 < ((c184.length:Nat):Int)))=true then
  (zjP (0≤g185.t14∧g185.t14 < ((c184.length:Nat):Int)) <|
  ((zc5 (⟨g185.b0_0,g185.b0_1,(⟨g185.b0_2⟩:TellingsT)⟩:RegionT) 2 (nth c184 g185.t14.toNat)).bind λ c296 =>
  (if (c296.2 == 0)=true then
   some (.inl ⟨(wI (g185.t4+1)),(wI (g185.t14+1)),c296.1.Id,c296.1.fVe,c296.1.fTe.fBr⟩)
  else
   some (.inl ⟨g185.t4,(wI (g185.t14+1)),g185.b0_0,g185.b0_1,g185.b0_2⟩))))
 else
  some (.inr (⟨g185.t4,g185.b0_0,g185.b0_1,g185.b0_2⟩)))
def zdM (a0:RegionT):Option (RegionT×Int) :=
 ((zfj a0.fTe.fBr).bind λ c184 =>
 ((zjZ (zai c184) ⟨0,0,a0.Id,a0.fVe,a0.fTe.fBr⟩).bind λ y297 =>
 some ((⟨y297.b0_0,y297.b0_1,(⟨y297.b0_2⟩:TellingsT)⟩:RegionT),y297.t4)))
structure zbl where
 t25:Bool
structure zbm where
 t38:Bool
def zy (a0:RegionT) (a1:Int) (a2:ByteArray):Option Int :=
 ((zcb a0.fTe).bind λ c506 =>
 ((zaO a0).bind λ c509 =>
 ((zbi c509 a1 a2).bind λ c517 =>
 ((((zS a1).bind λ c518 =>
  (if (!c518)=true then
   some (⟨true⟩:zbl)
  else
   ((zaV a2).bind λ c519 =>
   some (⟨(!c519)⟩:zbl)))):Option zbl).bind λ p520 =>
 (if p520.t25=true then
  some 1
 else
  ((zG a0).bind λ c521 =>
  (if (!c521)=true then
   some 2
  else
   (((if (a1 == 2)=true then
     ((zo c509.fSi a2).bind λ c522 =>
     some (⟨c522⟩:zbm))
    else
     some (⟨false⟩:zbm)):Option zbm).bind λ p523 =>
   (if p523.t38=true then
    some 5
   else
    (if (!c517.1)=true then
     some 3
    else
     (if (((c506.length:Nat):Int) == 60)=true then
      some 4
     else
      ((zd c506).bind λ c524 =>
      (zjP ((c524.length+1) * 40≤140737488355328) <|
      ((zb6 a0.fTe (c524++([(⟨c509.Next,a0.fVe,a1,a2⟩:EventT)]))).bind λ c544 =>
      none))))))))))))))
end Go.TL
namespace Go.TL
def zdw (a0:RegionT):Option (RegionT×Bool) :=
 ((zB a0).bind λ c132 =>
 (if (!c132)=true then
  some ((⟨0,0,(⟨[]⟩:TellingsT)⟩:RegionT),false)
 else
  ((zcY a0.fVe a0.Id).bind λ c138 =>
  (if (!c138.2)=true then
   some ((⟨0,0,(⟨[]⟩:TellingsT)⟩:RegionT),false)
  else
   ((zdu a0).bind λ c144 =>
   some ((⟨c144.Id,c138.1,c144.fTe⟩:RegionT),true))))))
structure zev where
 t19:Bool
structure zew where
 b0_1:Int
def zdN (a0:RegionT) (a1:WordT):Option (RegionT×Bool) :=
 ((((zB a0).bind λ c306 =>
  (if (!c306)=true then
   some (⟨true⟩:zev)
  else
   ((zB (⟨0,a1.fVe,a1.fTe⟩:RegionT)).bind λ c307 =>
   some (⟨(!c307)⟩:zev)))):Option zev).bind λ p308 =>
 (if p308.t19=true then
  some ((⟨0,0,(⟨[]⟩:TellingsT)⟩:RegionT),false)
 else
  ((zcd a0.fTe a1.fTe).bind λ c309 =>
  (if (!c309.2)=true then
   some ((⟨0,0,(⟨[]⟩:TellingsT)⟩:RegionT),false)
  else
   (((if (decide (a1.fVe > a0.fVe))=true then
     some (⟨a1.fVe⟩:zew)
    else
     some (⟨a0.fVe⟩:zew)):Option zew).bind λ p310 =>
   some ((⟨a0.Id,p310.b0_1,c309.1⟩:RegionT),true))))))
end Go.TL
namespace Go.TL
def zaA (a0:WordT):Option WordT :=
 ((zbc a0.fTe).bind λ c227 =>
 some (⟨a0.fVe,c227⟩:WordT))
structure zfu where
 t11:Int
 c3:(List RegionT)
structure zgT where
 c3:(List RegionT)
def zbX (a0:WorldT) (g222:zfu):Option (zfu⊕zgT) :=
 (if (decide (g222.t11 < ((a0.fRe.length:Nat):Int)))=true then
  (zjP (0≤g222.t11∧g222.t11 < (a0.fRe.length:Int)) <|
  ((zdu (⟨(nth a0.fRe g222.t11.toNat).Id,(nth a0.fRe g222.t11.toNat).fVe,((nth a0.fRe g222.t11.toNat).fTe)⟩:RegionT)).bind λ c224 =>
  (zjP ((g222.c3.length+1) * 40≤140737488355328) <|
  some (.inl ⟨(wI (g222.t11+1)),(g222.c3++([c224]))⟩))))
 else
  some (.inr (⟨g222.c3⟩)))
structure zfv where
 t26:Int
 c3:(List SaidT)
structure zgU where
 c3:(List SaidT)
def zcV (a0:WorldT) (g226:zfv):Option (zfv⊕zgU) :=
 (if (decide (g226.t26 < ((a0.Line.length:Nat):Int)))=true then
  (zjP (0≤g226.t26∧g226.t26 < (a0.Line.length:Int)) <|
  ((zaA (⟨((nth a0.Line g226.t26.toNat).Word).fVe,(((nth a0.Line g226.t26.toNat).Word).fTe)⟩:WordT)).bind λ c229 =>
  (zjP ((g226.c3.length+1) * 40≤140737488355328) <|
  some (.inl ⟨(wI (g226.t26+1)),(g226.c3++([(⟨(nth a0.Line g226.t26.toNat).To,c229⟩:SaidT)]))⟩))))
 else
  some (.inr (⟨g226.c3⟩)))
def zdY (a0:WorldT):Option WorldT :=
 ((zjZ (zbX a0) ⟨0,[]⟩).bind λ y225 =>
 ((zjZ (zcV a0) ⟨0,[]⟩).bind λ y230 =>
 some (⟨y225.c3,y230.c3⟩:WorldT)))
def zcW (a0:SaidT):Option SaidT :=
 ((zP a0.Word.fTe).bind λ c687 =>
 some (⟨a0.To,(⟨a0.Word.fVe,c687⟩:WordT)⟩:SaidT))
def zae (a0:(List RegionT)) (i0:Nat) (a2:WordT):Option (Bool×(List RegionT)) :=
 (zjP (i0 < a0.length) <|
 ((zce ((nth a0 i0).fTe) a2.fTe).bind λ c730 =>
 (if c730.2=true then
  some (c730.2,(a0.set i0 (⟨(nth a0 i0).Id,(max ((nth a0 i0).fVe) a2.fVe),c730.1⟩:RegionT)))
 else
  some (c730.2,(a0.set i0 (⟨(nth a0 i0).Id,(nth a0 i0).fVe,((nth a0 i0).fTe)⟩:RegionT))))))
def zQ (a0:(List RegionT)) (i0:Nat) (f0:RegionT) (a3:Int) (a4:ByteArray):Option (Int×(List RegionT)) :=
 ((zcb f0.fTe).bind λ c795 =>
 ((zaO f0).bind λ c796 =>
 ((zbi c796 a3 a4).bind λ c797 =>
 ((zS a3).bind λ c798 =>
 (if (!c798)=true then
  none
 else
  ((zaV a4).bind λ c799 =>
  (if (!c799)=true then
   none
  else
   ((zG f0).bind λ c800 =>
   (if (!c800)=true then
    none
   else
    (if (a3 == 2)=true then
     ((zo c796.fSi a4).bind λ c801 =>
     (if c801=true then
      none
     else
      (if (!c797.1)=true then
       none
      else
       (if (((c795.length:Nat):Int) == 60)=true then
        none
       else
        ((zd c795).bind λ c802 =>
        (zjP ((c802.length+1) * 40≤140737488355328) <|
        ((zb6 f0.fTe (c802++([(⟨c796.Next,f0.fVe,a3,a4⟩:EventT)]))).bind λ c803 =>
        some (0,(a0.set i0 (⟨f0.Id,f0.fVe,c803⟩:RegionT))))))))))
    else
     (if (!c797.1)=true then
      none
     else
      (if (((c795.length:Nat):Int) == 60)=true then
       none
      else
       ((zd c795).bind λ c804 =>
       (zjP ((c804.length+1) * 40≤140737488355328) <|
       ((zb6 f0.fTe (c804++([(⟨c796.Next,f0.fVe,a3,a4⟩:EventT)]))).bind λ c805 =>
       some (0,(a0.set i0 (⟨f0.Id,f0.fVe,c805⟩:RegionT))))))))))))))))))
structure zbb where
 t3:Int
 t12:Int
 c0:(List RegionT)
structure zeB where
 t3:Int
 c0:(List RegionT)
def zw (c793:(List ByteArray)) (i0:Nat) (g794:zbb):Option (zbb⊕zeB) :=
 (if (decide (g794.t12 < ((c793.length:Nat):Int)))=true then
  (zjP (0≤g794.t12∧g794.t12 < ((c793.length:Nat):Int)) <|
  (zjP (i0 < g794.c0.length) <|
  (match zy (⟨(nth g794.c0 i0).Id,(nth g794.c0 i0).fVe,((nth g794.c0 i0).fTe)⟩:RegionT) 2 (nth c793 g794.t12.toNat) with
  | some c808 =>
   (if (c808 == 0)=true then
    some (.inl ⟨(wI (g794.t3+1)),(wI (g794.t12+1)),(g794.c0.set i0 (⟨(nth g794.c0 i0).Id,(nth g794.c0 i0).fVe,((nth g794.c0 i0).fTe)⟩:RegionT))⟩)
   else
    some (.inl ⟨g794.t3,(wI (g794.t12+1)),(g794.c0.set i0 (⟨(nth g794.c0 i0).Id,(nth g794.c0 i0).fVe,((nth g794.c0 i0).fTe)⟩:RegionT))⟩))
  | none =>
   ((zQ g794.c0 i0 (⟨(nth g794.c0 i0).Id,(nth g794.c0 i0).fVe,((nth g794.c0 i0).fTe)⟩:RegionT) 2 (nth c793 g794.t12.toNat)).bind λ c809 =>
   (if (c809.1 == 0)=true then
    some (.inl ⟨(wI (g794.t3+1)),(wI (g794.t12+1)),c809.2⟩)
   else
    some (.inl ⟨g794.t3,(wI (g794.t12+1)),c809.2⟩))))))
 else
  some (.inr (⟨g794.t3,g794.c0⟩)))
def zaU (a0:(List RegionT)) (i0:Nat):Option (Int×(List RegionT)) :=
 (zjP (i0 < a0.length) <|
 ((zc2 ((nth a0 i0).fTe)).bind λ c793 =>
 ((zjZ (zw c793 i0) ⟨0,0,(a0.set i0 (⟨(nth a0 i0).Id,(nth a0 i0).fVe,((nth a0 i0).fTe)⟩:RegionT))⟩).bind λ y810 =>
 some (y810.t3,y810.c0))))
structure zdi where
 t1:Int
 t5:Int
structure zfZ where
 t1:Int
def zaQ (a0:(List RegionT)) (g908:zdi):Option (zdi⊕(Unit⊕zfZ)) :=
 (if (decide (g908.t5 < ((a0.length:Nat):Int)))=true then
  (zjP (0≤g908.t5∧g908.t5 < (a0.length:Int)) <|
  (if (((nth a0 g908.t5.toNat).Id) != g908.t1)=true then
   some (.inr (.inl ()))
  else
   (zjP (0≤g908.t5∧g908.t5 < (a0.length:Int)) <|
   (if (((nth a0 g908.t5.toNat).fVe) != (wI (g908.t1+1)))=true then
    some (.inr (.inl ()))
   else
    (zjP (0≤g908.t5∧g908.t5 < (a0.length:Int)) <|
    ((zbS (((nth a0 g908.t5.toNat).fTe).fBr) (wI ((wI (g908.t1+1))+1))).bind λ c922 =>
    (if (decide (c922 < 0))=true then
     some (.inr (.inl ()))
    else
     some (.inl ⟨c922,(wI (g908.t5+1))⟩))))))))
 else
  some (.inr (.inr (⟨g908.t1⟩))))
def zc6 (a0:(List RegionT)) (a1:Int):Option Int :=
 ((zjZ (zaQ a0) ⟨a1,0⟩).bind λ y923 =>
 match y923 with
 | .inl p924 =>
  some (-1)
 | .inr p925 =>
  some p925.t1)
structure zd8 where
 t1:Int
 t5:Int
structure zgg where
 t1:Int
def zbw (a0:(List SaidT)) (g927:zd8):Option (zd8⊕(Unit⊕zgg)) :=
 (if (decide (g927.t5 < ((a0.length:Nat):Int)))=true then
  (zjP (0≤g927.t5∧g927.t5 < (a0.length:Int)) <|
  (if (((nth a0 g927.t5.toNat).To) != g927.t1)=true then
   some (.inr (.inl ()))
  else
   (zjP (0≤g927.t5∧g927.t5 < (a0.length:Int)) <|
   (if ((((nth a0 g927.t5.toNat).Word).fVe) != (wI (g927.t1+1)))=true then
    some (.inr (.inl ()))
   else
    (zjP (0≤g927.t5∧g927.t5 < (a0.length:Int)) <|
    ((zbS ((((nth a0 g927.t5.toNat).Word).fTe).fBr) (wI ((wI (g927.t1+1))+1))).bind λ c929 =>
    (if (decide (c929 < 0))=true then
     some (.inr (.inl ()))
    else
     some (.inl ⟨c929,(wI (g927.t5+1))⟩))))))))
 else
  some (.inr (.inr (⟨g927.t1⟩))))
def zex (a0:(List SaidT)) (a1:Int):Option Int :=
 ((zjZ (zbw a0) ⟨a1,0⟩).bind λ y930 =>
 match y930 with
 | .inl p931 =>
  some (-1)
 | .inr p932 =>
  some p932.t1)
def zbY (a0:WorldT) (a1:Int):Option Int :=
 ((zc6 a0.fRe a1).bind λ c926 =>
 (if (decide (c926 < 0))=true then
  some (-1)
 else
  ((zex a0.Line c926).bind λ c933 =>
  (if (decide (c933 < 0))=true then
   some (-1)
  else
   some c933))))
end Go.TL
namespace Go.TL
structure WorldStepT where
 Kind:Int
 Region:Int
 What:Int
 Name:ByteArray
 K:Int
 deriving DecidableEq,Inhabited
def zc7 (a0:WorldStepT) (a1:Int):Option Int :=
 (if (decide ((wI (a1 - (a0.Name.size:Int))) < 0))=true then
  some (-1)
 else
  some (wI (a1 - (a0.Name.size:Int))))
structure zcL where
 t1:Int
 t5:Int
structure zfJ where
 t1:Int
def zaw (a0:(List WorldStepT)) (g1:zcL):Option (zcL⊕(Unit⊕zfJ)) :=
 (if (decide (g1.t5 < ((a0.length:Nat):Int)))=true then
  (zjP (0≤g1.t5∧g1.t5 < (a0.length:Int)) <|
  ((zc7 (nth a0 g1.t5.toNat) g1.t1).bind λ c3 =>
  (if (decide (c3 < 0))=true then
   some (.inr (.inl ()))
  else
   some (.inl ⟨c3,(wI (g1.t5+1))⟩))))
 else
  some (.inr (.inr (⟨g1.t1⟩))))
def zcy (a0:(List WorldStepT)) (a1:Int):Option Int :=
 (if (decide ((wI (a1 - ((a0.length:Nat):Int))) < 0))=true then
  some (-1)
 else
  ((zjZ (zaw a0) ⟨(wI (a1 - ((a0.length:Nat):Int))),0⟩).bind λ y4 =>
  match y4 with
  | .inl p5 =>
   some (-1)
  | .inr p6 =>
   some p6.t1))
def zbZ (a0:WorldStepT):Option WorldStepT :=
 some a0
structure zcM where
 t4:Int
 c0:(List WorldStepT)
structure zfK where
 c0:(List WorldStepT)
def zax (a0:(List WorldStepT)) (g8:zcM):Option (zcM⊕zfK) :=
 (if (decide (g8.t4 < ((a0.length:Nat):Int)))=true then
  (zjP (0≤g8.t4∧g8.t4 < (a0.length:Int)) <|
  ((zbZ (nth a0 g8.t4.toNat)).bind λ c10 =>
  (zjP (0≤g8.t4∧g8.t4 < ((g8.c0.length:Nat):Int)) <|
  some (.inl ⟨(wI (g8.t4+1)),(g8.c0.set g8.t4.toNat c10)⟩))))
 else
  some (.inr (⟨g8.c0⟩)))
def zaB (a0:(List WorldStepT)):Option (List WorldStepT) :=
 (zjP (0≤((a0.length:Nat):Int)∧((a0.length:Nat):Int) * 48≤281474976710656∧((a0.length:Nat):Int)≤9223372036854775807) <|
 ((zjZ (zax a0) ⟨0,(List.replicate a0.length (⟨0,0,0,ByteArray.empty,0⟩:WorldStepT))⟩).bind λ y11 =>
 some y11.c0))
def zeT (a0:RegionT):Option (WordT×Bool) :=
 ((zB a0).bind λ c356 =>
 (if (!c356)=true then
  some ((⟨0,(⟨[]⟩:TellingsT)⟩:WordT),false)
 else
  ((zbc a0.fTe).bind λ c357 =>
  some ((⟨a0.fVe,c357⟩:WordT),true))))
structure zaf where
 t20:Bool
def zdO (a0:WorldT) (a1:WorldStepT):Option (WorldT×Int×(List RegionT)) :=
 (((if (a1.Kind == 4)=true then
   some (⟨true⟩:zaf)
  else
   (if (a1.Kind == 5)=true then
    some (⟨true⟩:zaf)
   else
    some (⟨(a1.Kind == 6)⟩:zaf))):Option zaf).bind λ p349 =>
 (if p349.t20=true then
  ((zN a1.K 0 (wI (((a0.Line.length:Nat):Int) - 1))).bind λ c350 =>
  (if (!c350)=true then
   some (a0,1,a0.fRe)
  else
   (zjP (0≤a1.K∧a1.K < ((a0.Line.length:Nat):Int)) <|
   (if (a1.Kind == 6)=true then
    (if (((a0.Line.length:Nat):Int) == 20)=true then
     some (a0,1,a0.fRe)
    else
     ((zaA (⟨((nth a0.Line a1.K.toNat).Word).fVe,(((nth a0.Line a1.K.toNat).Word).fTe)⟩:WordT)).bind λ c351 =>
     (zjP ((a0.Line.length+1) * 40≤140737488355328) <|
     some ((⟨a0.fRe,(a0.Line++([(⟨(nth a0.Line a1.K.toNat).To,c351⟩:SaidT)]))⟩:WorldT),0,a0.fRe))))
   else
    (zjP (0≤0∧0≤a1.K∧a1.K≤((a0.Line.length:Nat):Int)) <|
    (zjP (a1.K.toNat * 40≤140737488355328) <|
    (zjP (0≤(wI (a1.K+1))∧(wI (a1.K+1))≤((a0.Line.length:Nat):Int)∧((a0.Line.length:Nat):Int)≤((a0.Line.length:Nat):Int)) <|
    (zjP ((a1.K.toNat+(a0.Line.length - (wI (a1.K+1)).toNat)) * 40≤140737488355328) <|
    (if (a1.Kind == 5)=true then
     some ((⟨a0.fRe,((([])++(a0.Line.take a1.K.toNat))++((a0.Line.drop ((wI (a1.K+1)).toNat)).take (a0.Line.length - (wI (a1.K+1)).toNat)))⟩:WorldT),0,a0.fRe)
    else
     (zjP (0≤((nth a0.Line a1.K.toNat).To)∧((nth a0.Line a1.K.toNat).To) < ((a0.fRe.length:Nat):Int)) <|
     ((zdN (⟨(nth a0.fRe (((nth a0.Line a1.K.toNat).To).toNat)).Id,(nth a0.fRe (((nth a0.Line a1.K.toNat).To).toNat)).fVe,((nth a0.fRe (((nth a0.Line a1.K.toNat).To).toNat)).fTe)⟩:RegionT) (⟨((nth a0.Line a1.K.toNat).Word).fVe,(((nth a0.Line a1.K.toNat).Word).fTe)⟩:WordT)).bind λ c352 =>
     (if (!c352.2)=true then
      some ((⟨a0.fRe,((([])++(a0.Line.take a1.K.toNat))++((a0.Line.drop ((wI (a1.K+1)).toNat)).take (a0.Line.length - (wI (a1.K+1)).toNat)))⟩:WorldT),2,a0.fRe)
     else
      (zjP (0≤((nth a0.Line a1.K.toNat).To)∧((nth a0.Line a1.K.toNat).To) < ((a0.fRe.length:Nat):Int)) <|
      some ((⟨(a0.fRe.set (((nth a0.Line a1.K.toNat).To).toNat) c352.1),((([])++(a0.Line.take a1.K.toNat))++((a0.Line.drop ((wI (a1.K+1)).toNat)).take (a0.Line.length - (wI (a1.K+1)).toNat)))⟩:WorldT),0,(a0.fRe.set (((nth a0.Line a1.K.toNat).To).toNat) c352.1)))))))))))))))
 else
  ((zN a1.Region 0 1).bind λ c353 =>
  (if (!c353)=true then
   some (a0,1,a0.fRe)
  else
   (zjP (0≤a1.Region∧a1.Region < ((a0.fRe.length:Nat):Int)) <|
   (if (a1.Kind == 1)=true then
    ((zc5 (⟨(nth a0.fRe a1.Region.toNat).Id,(nth a0.fRe a1.Region.toNat).fVe,((nth a0.fRe a1.Region.toNat).fTe)⟩:RegionT) a1.What a1.Name).bind λ c354 =>
    (zjP (0≤a1.Region∧a1.Region < ((a0.fRe.length:Nat):Int)) <|
    some ((⟨(a0.fRe.set a1.Region.toNat c354.1),a0.Line⟩:WorldT),c354.2,(a0.fRe.set a1.Region.toNat c354.1))))
   else
    (if (a1.Kind == 2)=true then
     ((zdw (⟨(nth a0.fRe a1.Region.toNat).Id,(nth a0.fRe a1.Region.toNat).fVe,((nth a0.fRe a1.Region.toNat).fTe)⟩:RegionT)).bind λ c355 =>
     (if (!c355.2)=true then
      some (a0,1,a0.fRe)
     else
      (zjP (0≤a1.Region∧a1.Region < ((a0.fRe.length:Nat):Int)) <|
      some ((⟨(a0.fRe.set a1.Region.toNat c355.1),a0.Line⟩:WorldT),0,(a0.fRe.set a1.Region.toNat c355.1)))))
    else
     (if (a1.Kind == 3)=true then
      (if (((a0.Line.length:Nat):Int) == 20)=true then
       some (a0,1,a0.fRe)
      else
       ((zeT (⟨(nth a0.fRe a1.Region.toNat).Id,(nth a0.fRe a1.Region.toNat).fVe,((nth a0.fRe a1.Region.toNat).fTe)⟩:RegionT)).bind λ c358 =>
       (zjP ((a0.Line.length+1) * 40≤140737488355328) <|
       some ((⟨a0.fRe,(a0.Line++([(⟨(wI (1 - a1.Region)),c358.1⟩:SaidT)]))⟩:WorldT),0,a0.fRe))))
     else
      (if (a1.Kind == 7)=true then
       ((zcR (⟨(nth a0.fRe a1.Region.toNat).Id,(nth a0.fRe a1.Region.toNat).fVe,((nth a0.fRe a1.Region.toNat).fTe)⟩:RegionT)).bind λ c359 =>
       (if (!c359)=true then
        some (a0,1,a0.fRe)
       else
        ((zdM (⟨(nth a0.fRe a1.Region.toNat).Id,(nth a0.fRe a1.Region.toNat).fVe,((nth a0.fRe a1.Region.toNat).fTe)⟩:RegionT)).bind λ c391 =>
        (if (c391.2 == 0)=true then
         some (a0,1,a0.fRe)
        else
         (zjP (0≤a1.Region∧a1.Region < ((a0.fRe.length:Nat):Int)) <|
         some ((⟨(a0.fRe.set a1.Region.toNat c391.1),a0.Line⟩:WorldT),0,(a0.fRe.set a1.Region.toNat c391.1)))))))
      else
       some (a0,1,a0.fRe))))))))))
def ze8:Option WorldT :=
 some (⟨[(⟨0,0,(⟨[]⟩:TellingsT)⟩:RegionT),(⟨1,0,(⟨[]⟩:TellingsT)⟩:RegionT)],[]⟩:WorldT)
structure zz where
 t33:Bool
def zc8 (a0:WorldT) (a1:WorldStepT):Option (WorldT×Int) :=
 ((zeq a0).bind λ c406 =>
 (if (!c406)=true then
  some ((⟨[],[]⟩:WorldT),1)
 else
  ((zdY a0).bind λ c407 =>
  ((zdO c407 a1).bind λ c408 =>
  (zjP (c408.2.2.length=c407.fRe.length) <|
  (((if (c408.2.1 != 0)=true then
    (if (c408.2.1 != 2)=true then
     some (⟨true⟩:zz)
    else
     (if (c408.2.1 == 2)=true then
      some (⟨(a1.Kind != 4)⟩:zz)
     else
      some (⟨false⟩:zz)))
   else
    (if (c408.2.1 == 2)=true then
     some (⟨(a1.Kind != 4)⟩:zz)
    else
     some (⟨false⟩:zz))):Option zz).bind λ p409 =>
  (if p409.t33=true then
   ((zdY a0).bind λ c410 =>
   some (c410,c408.2.1))
  else
   some ((⟨c408.2.2,c408.1.Line⟩:WorldT),c408.2.1))))))))
structure zd9 where
 t18:Int
 b1_0:(List RegionT)
 b1_1:(List SaidT)
 c2:(List Int)
structure zgh where
 b1_0:(List RegionT)
 b1_1:(List SaidT)
 c2:(List Int)
def zbx (a0:(List WorldStepT)) (g405:zd9):Option (zd9⊕zgh) :=
 (if (decide (g405.t18 < ((a0.length:Nat):Int)))=true then
  (zjP (0≤g405.t18∧g405.t18 < (a0.length:Int)) <|
  ((zc8 (⟨g405.b1_0,g405.b1_1⟩:WorldT) (nth a0 g405.t18.toNat)).bind λ c412 =>
  (zjP ((g405.c2.length+1) * 8≤140737488355328) <|
  some (.inl ⟨(wI (g405.t18+1)),c412.1.fRe,c412.1.Line,(g405.c2++([c412.2]))⟩))))
 else
  some (.inr (⟨g405.b1_0,g405.b1_1,g405.c2⟩)))
def zey (a0:(List WorldStepT)):Option (WorldT×(List Int)×Bool) :=
 (if (decide (((a0.length:Nat):Int) > 120))=true then
  some ((⟨[],[]⟩:WorldT),[],false)
 else
  ((ze8).bind λ c404 =>
  ((zjZ (zbx a0) ⟨0,c404.fRe,[],[]⟩).bind λ y413 =>
  some ((⟨y413.b1_0,y413.b1_1⟩:WorldT),y413.c2,true))))
structure zb7 where
 t4:Int
 c0:(List WorldStepT)
structure zfl where
 c0:(List WorldStepT)
def zX (a0:(List WorldStepT)) (g415:zb7):Option (zb7⊕zfl) :=
 (if (decide (g415.t4 < ((a0.length:Nat):Int)))=true then
  (zjP (0≤g415.t4∧g415.t4 < (a0.length:Int)) <|
  ((zbZ (nth a0 g415.t4.toNat)).bind λ c417 =>
  (zjP (0≤g415.t4∧g415.t4 < ((g415.c0.length:Nat):Int)) <|
  some (.inl ⟨(wI (g415.t4+1)),(g415.c0.set g415.t4.toNat c417)⟩))))
 else
  some (.inr (⟨g415.c0⟩)))
def zbH (a0:(List WorldStepT)):Option (List WorldStepT) :=
 (zjP (0≤((a0.length:Nat):Int)∧((a0.length:Nat):Int) * 48≤281474976710656∧((a0.length:Nat):Int)≤9223372036854775807) <|
 ((zjZ (zX a0) ⟨0,(List.replicate a0.length (⟨0,0,0,ByteArray.empty,0⟩:WorldStepT))⟩).bind λ y418 =>
 some y418.c0))
def zfR:Option WorldT :=
 some (⟨[(⟨0,0,(⟨[]⟩:TellingsT)⟩:RegionT),(⟨1,0,(⟨[]⟩:TellingsT)⟩:RegionT)],[]⟩:WorldT)
def zbJ (a0:(List RegionT)) (i0:Nat):Option (Bool×(List RegionT)) :=
 (zjP (i0 < a0.length) <|
 (zjP (i0 < a0.length) <|
 ((zcZ ((nth a0 i0).fVe) ((nth a0 i0).Id)).bind λ c608 =>
 (if c608.2=true then
  (zjP (i0 < a0.length) <|
  some (c608.2,(a0.set i0 (⟨(nth a0 i0).Id,c608.1,((nth a0 i0).fTe)⟩:RegionT))))
 else
  some (c608.2,a0)))))
def zb8 (a0:Bool):Option Int :=
 (if a0=true then
  some 0
 else
  some 1)
def zbn (a0:WorldT) (a1:SaidT):Option (Bool×WorldT) :=
 (if (((a0.Line.length:Nat):Int) == 20)=true then
  some (false,a0)
 else
  ((zcW a1).bind λ c667 =>
  (zjP ((a0.Line.length+1) * 40≤140737488355328) <|
  some (true,(⟨a0.fRe,(a0.Line++[c667])⟩:WorldT)))))
def zaz (a0:WorldT) (a1:WorldStepT):Option (Int×WorldT×(List RegionT)) :=
 ((zfe a1.Region).bind λ c661 =>
 (if (!c661)=true then
  some (1,a0,a0.fRe)
 else
  (zjP (0≤a1.Region∧a1.Region < ((a0.fRe.length:Nat):Int)) <|
  (if (a1.Kind == 1)=true then
   (zjP (a1.Region.toNat < a0.fRe.length) <|
   (match zy (⟨(nth a0.fRe a1.Region.toNat).Id,(nth a0.fRe a1.Region.toNat).fVe,((nth a0.fRe a1.Region.toNat).fTe)⟩:RegionT) a1.What a1.Name with
   | some c662 =>
    some (c662,(⟨(a0.fRe.set a1.Region.toNat (⟨(nth a0.fRe a1.Region.toNat).Id,(nth a0.fRe a1.Region.toNat).fVe,((nth a0.fRe a1.Region.toNat).fTe)⟩:RegionT)),a0.Line⟩:WorldT),(a0.fRe.set a1.Region.toNat (⟨(nth a0.fRe a1.Region.toNat).Id,(nth a0.fRe a1.Region.toNat).fVe,((nth a0.fRe a1.Region.toNat).fTe)⟩:RegionT)))
   | none =>
    ((zQ a0.fRe a1.Region.toNat (⟨(nth a0.fRe a1.Region.toNat).Id,(nth a0.fRe a1.Region.toNat).fVe,((nth a0.fRe a1.Region.toNat).fTe)⟩:RegionT) a1.What a1.Name).bind λ c663 =>
    (zjP (c663.2.length=a0.fRe.length) <|
    some (c663.1,(⟨c663.2,a0.Line⟩:WorldT),c663.2)))))
  else
   (if (a1.Kind == 2)=true then
    ((zbJ a0.fRe a1.Region.toNat).bind λ c664 =>
    (zjP (c664.2.length=a0.fRe.length) <|
    ((zb8 c664.1).bind λ c665 =>
    some (c665,(⟨c664.2,a0.Line⟩:WorldT),c664.2))))
   else
    (if (a1.Kind == 3)=true then
     ((zcc (nth a0.fRe a1.Region.toNat)).bind λ c666 =>
     ((zbn a0 (⟨(wI (1 - a1.Region)),c666⟩:SaidT)).bind λ c668 =>
     ((zb8 c668.1).bind λ c669 =>
     some (c669,(⟨a0.fRe,c668.2.Line⟩:WorldT),a0.fRe))))
    else
     ((zG (nth a0.fRe a1.Region.toNat)).bind λ c670 =>
     (if c670=true then
      ((zaU a0.fRe a1.Region.toNat).bind λ c671 =>
      (zjP (c671.2.length=a0.fRe.length) <|
      ((zb8 (decide (c671.1 > 0))).bind λ c672 =>
      some (c672,(⟨c671.2,a0.Line⟩:WorldT),c671.2))))
     else
      ((zb8 false).bind λ c673 =>
      some (c673,a0,a0.fRe))))))))))
def zbo (a0:WorldT) (i2:Nat) (f2:SaidT) (a3:SaidT):Option (Bool×WorldT) :=
 (if (((a0.Line.length:Nat):Int) == 20)=true then
  some (false,(⟨a0.fRe,(a0.Line.set i2 f2)⟩:WorldT))
 else
  ((zcW (⟨a3.To,(⟨a3.Word.fVe,f2.Word.fTe⟩:WordT)⟩:SaidT)).bind λ c677 =>
  (zjP ((a0.Line.length+1) * 40≤140737488355328) <|
  some (true,(⟨a0.fRe,((a0.Line.set i2 f2)++[c677])⟩:WorldT)))))
def zaa (a0:(List SaidT)) (i0:Nat) (f0:SaidT) (a1:Int) (a2:Int):Option (List SaidT) :=
 zjP (i0 < a0.length∧a1=(i0:Int)∧a2=(i0:Int)+1∧a0.length * 40≤140737488355328) (some (a0.take i0++a0.drop (i0+1)))
def zL (a0:WorldT) (a1:WorldStepT):Option (Int×WorldT×(List RegionT)) :=
 ((zdn a1.K 0 (wI (((a0.Line.length:Nat):Int) - 1))).bind λ c676 =>
 (if (!c676)=true then
  some (1,a0,a0.fRe)
 else
  (zjP (a1.K.toNat < a0.Line.length) <|
  (zjP (0≤a1.K∧a1.K < ((a0.Line.length:Nat):Int)) <|
  (if (a1.Kind == 6)=true then
   ((zbo a0 a1.K.toNat (⟨(nth a0.Line a1.K.toNat).To,(⟨((nth a0.Line a1.K.toNat).Word).fVe,(((nth a0.Line a1.K.toNat).Word).fTe)⟩:WordT)⟩:SaidT) (⟨(nth a0.Line a1.K.toNat).To,(⟨((nth a0.Line a1.K.toNat).Word).fVe,(((nth a0.Line a1.K.toNat).Word).fTe)⟩:WordT)⟩:SaidT)).bind λ c678 =>
   ((zb8 c678.1).bind λ c679 =>
   some (c679,(⟨a0.fRe,c678.2.Line⟩:WorldT),a0.fRe)))
  else
   ((zaa a0.Line a1.K.toNat (⟨(nth a0.Line a1.K.toNat).To,(⟨((nth a0.Line a1.K.toNat).Word).fVe,(((nth a0.Line a1.K.toNat).Word).fTe)⟩:WordT)⟩:SaidT) a1.K (wI (a1.K+1))).bind λ c680 =>
   (if (a1.Kind == 4)=true then
    (zjP (0≤((nth a0.Line a1.K.toNat).To)∧((nth a0.Line a1.K.toNat).To) < ((a0.fRe.length:Nat):Int)) <|
    ((zae a0.fRe (((nth a0.Line a1.K.toNat).To).toNat) (⟨((nth a0.Line a1.K.toNat).Word).fVe,(((nth a0.Line a1.K.toNat).Word).fTe)⟩:WordT)).bind λ c726 =>
    (zjP (c726.2.length=a0.fRe.length) <|
    (if (!c726.1)=true then
     some (2,(⟨c726.2,c680⟩:WorldT),c726.2)
    else
     some (0,(⟨c726.2,c680⟩:WorldT),c726.2)))))
   else
    some (0,(⟨a0.fRe,c680⟩:WorldT),a0.fRe))))))))
structure zx where
 t7:Bool
def zbK (a0:WorldT) (a1:WorldStepT):Option (Int×WorldT×(List RegionT)) :=
 (((if (a1.Kind == 1)=true then
   some (⟨true⟩:zx)
  else
   (if (a1.Kind == 2)=true then
    some (⟨true⟩:zx)
   else
    (if (a1.Kind == 3)=true then
     some (⟨true⟩:zx)
    else
     some (⟨(a1.Kind == 7)⟩:zx)))):Option zx).bind λ p660 =>
 (if p660.t7=true then
  ((zaz a0 a1).bind λ c674 =>
  some (c674.1,(⟨c674.2.2,c674.2.1.Line⟩:WorldT),c674.2.2))
 else
  (if (a1.Kind == 4)=true then
   ((zL a0 a1).bind λ c727 =>
   some (c727.1,(⟨c727.2.2,c727.2.1.Line⟩:WorldT),c727.2.2))
  else
   (if (a1.Kind == 5)=true then
    ((zL a0 a1).bind λ c728 =>
    some (c728.1,(⟨c728.2.2,c728.2.1.Line⟩:WorldT),c728.2.2))
   else
    (if (a1.Kind == 6)=true then
     ((zL a0 a1).bind λ c729 =>
     some (c729.1,(⟨c729.2.2,c729.2.1.Line⟩:WorldT),c729.2.2))
    else
     some (1,a0,a0.fRe))))))
structure zea where
 t17:Int
 c2:(List Int)
 c3:(List RegionT)
 c4:(List SaidT)
structure zgi where
 c2:(List Int)
 c3:(List RegionT)
 c4:(List SaidT)
def zby (a0:(List WorldStepT)) (g423:zea):Option (zea⊕zgi) :=
 (if (decide (g423.t17 < ((a0.length:Nat):Int)))=true then
  (zjP (0≤g423.t17∧g423.t17 < (a0.length:Int)) <|
  ((zbK (⟨g423.c3,g423.c4⟩:WorldT) (nth a0 g423.t17.toNat)).bind λ c730 =>
  (zjP ((g423.c2.length+1) * 8≤140737488355328) <|
  some (.inl ⟨(wI (g423.t17+1)),(g423.c2++([c730.1])),c730.2.2,c730.2.1.Line⟩))))
 else
  some (.inr (⟨g423.c2,g423.c3,g423.c4⟩)))
def zcX (a0:(List WorldStepT)):Option (WorldT×(List Int)×Bool) :=
 (if (decide (((a0.length:Nat):Int) > 120))=true then
  some ((⟨[],[]⟩:WorldT),[],false)
 else
  ((zfR).bind λ c422 =>
  ((zjZ (zby a0) ⟨0,[],c422.fRe,[]⟩).bind λ y731 =>
  some ((⟨y731.c3,y731.c4⟩:WorldT),y731.c2,true))))
def zc9 (a0:WorldStepT) (a1:WorldStepT):Option Bool :=
 (if (a0.Kind != a1.Kind)=true then
  some false
 else
  (if (a0.Region != a1.Region)=true then
   some false
  else
   (if (a0.What != a1.What)=true then
    some false
   else
    (if (!(a0.Name.toList == a1.Name.toList))=true then
     some false
    else
     (if (a0.K != a1.K)=true then
      some false
     else
      some true)))))
structure zcN where
 t5:Int
def zay (a0:(List WorldStepT)) (a1:(List WorldStepT)) (g772:zcN):Option (zcN⊕(Unit⊕Unit)) :=
 (if (decide (g772.t5 < ((a0.length:Nat):Int)))=true then
  (zjP (0≤g772.t5∧g772.t5 < (a0.length:Int)) <|
  (zjP (0≤g772.t5∧g772.t5 < (a1.length:Int)) <|
  ((zc9 (nth a0 g772.t5.toNat) (nth a1 g772.t5.toNat)).bind λ c774 =>
  (if (!c774)=true then
   some (.inr (.inl ()))
  else
   some (.inl ⟨(wI (g772.t5+1))⟩)))))
 else
  some (.inr (.inr ())))
def zcz (a0:(List WorldStepT)) (a1:(List WorldStepT)):Option Bool :=
 (if (((a0.length:Nat):Int) != ((a1.length:Nat):Int))=true then
  some false
 else
  ((zjZ (zay a0 a1) ⟨0⟩).bind λ y775 =>
  match y775 with
  | .inl p776 =>
   some false
  | .inr p777 =>
   some true))
structure zbp where
 t1:Int
 t5:Int
 c0:(List WorldStepT)
structure zeU where
 t1:Int
 c0:(List WorldStepT)
def zM (g780:zbp):Option (zbp⊕zeU) :=
 (if (decide (g780.t5 < ((g780.c0.length:Nat):Int)))=true then
  (zjP (0≤g780.t5∧g780.t5 < ((g780.c0.length:Nat):Int)) <|
  (zjP (0≤g780.t5∧g780.t5 < ((g780.c0.length:Nat):Int)) <|
  (zjP (0≤g780.t5∧g780.t5 < ((g780.c0.length:Nat):Int)) <|
  ((zak (wI ((wI ((wI (g780.t1+1))+1))+1))).bind λ c784 =>
  (zjP (0≤g780.t5∧g780.t5 < ((g780.c0.length:Nat):Int)) <|
  (zjP (0≤g780.t5∧g780.t5 < ((g780.c0.length:Nat):Int)) <|
  some (.inl ⟨(wI ((wI ((wI ((wI ((wI (g780.t1+1))+1))+1))+1))+1)),(wI (g780.t5+1)),(g780.c0.set g780.t5.toNat (⟨g780.t1,(wI (g780.t1+1)),(wI ((wI (g780.t1+1))+1)),c784,(wI ((wI ((wI ((wI (g780.t1+1))+1))+1))+1))⟩:WorldStepT))⟩)))))))
 else
  some (.inr (⟨g780.t1,g780.c0⟩)))
def zba (a0:(List WorldStepT)) (a1:Int):Option (Int×(List WorldStepT)) :=
 ((zjZ (zM) ⟨a1,0,a0⟩).bind λ y785 =>
 some (y785.t1,y785.c0))
structure zaH where
 t51:Bool
structure zR where
 t78:Bool
structure zaJ where
 t119:Bool
def zcs (a0:(List WorldStepT)):Option Bool :=
 ((zcy a0 1048576).bind λ c414 =>
 (if (decide (c414 < 0))=true then
  some true
 else
  ((zbH a0).bind λ c419 =>
  ((zey c419).bind λ c420 =>
  ((zaB a0).bind λ c421 =>
  ((zcX c421).bind λ c732 =>
  ((((zc1 c732.1 c420.1).bind λ c764 =>
   (if (!c764)=true then
    some (⟨true⟩:zaH)
   else
    ((zdX c732.2.1 c420.2.1).bind λ c769 =>
    (if (!c769)=true then
     some (⟨true⟩:zaH)
    else
     some (⟨(!(c732.2.2 == c420.2.2))⟩:zaH))))):Option zaH).bind λ p770 =>
  (if p770.t51=true then
   some false
  else
   ((zaB a0).bind λ c771 =>
   ((zcz c421 c771).bind λ c778 =>
   (if (!c778)=true then
    some false
   else
    ((zba c421 1).bind λ c786 =>
    (zjP (c786.2.length=c421.length) <|
    (((if (decide (c786.1 < 0))=true then
      some (⟨true⟩:zR)
     else
      ((zc1 c732.1 c420.1).bind λ c787 =>
      (if (!c787)=true then
       some (⟨true⟩:zR)
      else
       ((zdX c732.2.1 c420.2.1).bind λ c788 =>
       (if (!c788)=true then
        some (⟨true⟩:zR)
       else
        some (⟨(!(c732.2.2 == c420.2.2))⟩:zR)))))):Option zR).bind λ p789 =>
    (if p789.t78=true then
     some false
    else
     ((zdf c732.1 1).bind λ c815 =>
     (zjP (c815.2.1.length=c732.1.fRe.length) <|
     (zjP (c815.2.2.length=c732.1.Line.length) <|
     ((zdE c732.2.1 c815.1).bind λ c819 =>
     (zjP (c819.2.length=c732.2.1.length) <|
     ((zbY (⟨c815.2.1,c815.2.2⟩:WorldT) 1).bind λ c846 =>
     (if (decide (c846 < 0))=true then
      some false
     else
      ((zds c819.2 c846).bind λ c851 =>
      (if (decide (c851 < 0))=true then
       some false
      else
       (if (c851 != c819.1)=true then
        some false
       else
        ((zaB a0).bind λ c852 =>
        ((zcX c852).bind λ c853 =>
        ((((zc1 c853.1 c420.1).bind λ c854 =>
         (if (!c854)=true then
          some (⟨true⟩:zaJ)
         else
          ((zdX c853.2.1 c420.2.1).bind λ c855 =>
          (if (!c855)=true then
           some (⟨true⟩:zaJ)
          else
           some (⟨(!(c853.2.2 == c420.2.2))⟩:zaJ))))):Option zaJ).bind λ p856 =>
        (if p856.t119=true then
         some false
        else
         ((zbY (⟨c815.2.1,c815.2.2⟩:WorldT) 1).bind λ c857 =>
         (if (decide (c857 < 0))=true then
          some false
         else
          ((zds c819.2 c857).bind λ c858 =>
          (if (decide (c858 < 0))=true then
           some false
          else
           (if (c858 != c819.1)=true then
            some false
           else
            some true))))))))))))))))))))))))))))))))))
end Go.TL
namespace Go.TL
structure zBe where
 Upto:Int
 fVe:Int
 deriving DecidableEq,Inhabited
end Go.TL

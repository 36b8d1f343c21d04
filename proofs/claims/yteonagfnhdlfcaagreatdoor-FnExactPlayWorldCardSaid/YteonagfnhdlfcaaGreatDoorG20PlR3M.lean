import Derived.Test.YteonagfnhdlfcaaGreatDoorG19PlR1
import Derived.Test.YteonagfnhdlfcaaGreatDoorG18PlTrim
set_option linter.unusedSimpArgs false
set_option linter.unusedVariables false
noncomputable section
namespace Go.TL
end Go.TL
namespace Go.TL
structure RegionT where
 Id:Int
 fVe:Int
 fTe:TellingsT
 deriving DecidableEq,Inhabited
structure zcj where
 t22:Bool
structure za4 where
 t27:Int
structure zdB where
 t34:Int
def za5 (a0:RegionT) (g137:za4) (g142:zdB):Option (zdB⊕(Unit⊕Unit)) :=
 (if (decide (g142.t34 < ((((nth a0.fTe.fBr g137.t27.toNat).fEv).length:Nat):Int)))=true then
  (zjP (0≤g142.t34∧g142.t34 < (((nth a0.fTe.fBr g137.t27.toNat).fEv).length:Int)) <|
  (if (decide (((nth ((nth a0.fTe.fBr g137.t27.toNat).fEv) g142.t34.toNat).fVe) > a0.fVe))=true then
   some (.inr (.inl ()))
  else
   some (.inl ⟨(wI (g142.t34+1))⟩)))
 else
  some (.inr (.inr ())))
def za6 (a0:RegionT) (g137:za4):Option (za4⊕(Unit⊕Unit)) :=
 (if (decide (g137.t27 < ((a0.fTe.fBr.length:Nat):Int)))=true then
  (zjP (0≤g137.t27∧g137.t27 < (a0.fTe.fBr.length:Int)) <|
  ((zjZ (za5 a0 g137) ⟨0⟩).bind λ y143 =>
  match y143 with
  | .inl p144 =>
   some (.inr (.inl ()))
  | .inr p145 =>
   some (.inl ⟨(wI (g137.t27+1))⟩)))
 else
  some (.inr (.inr ())))
def zB (a0:RegionT):Option Bool :=
 ((((zN a0.Id 0 9).bind λ c32 =>
  (if (!c32)=true then
   some (⟨true⟩:zcj)
  else
   ((zbd a0.fVe).bind λ c34 =>
   (if (!c34)=true then
    some (⟨true⟩:zcj)
   else
    ((zZ a0.fTe).bind λ c135 =>
    some (⟨(!c135)⟩:zcj)))))):Option zcj).bind λ p136 =>
 (if p136.t22=true then
  some false
 else
  ((zjZ (za6 a0) ⟨0⟩).bind λ y146 =>
  match y146 with
  | .inl p147 =>
   some false
  | .inr p148 =>
   some true)))
def zeR (a0:RegionT) (a1:RegionT):Option Bool :=
 (if (a0.Id != a1.Id)=true then
  some false
 else
  (if (a0.fVe != a1.fVe)=true then
   some false
  else
   ((zci a0.fTe a1.fTe).bind λ c329 =>
   (if (!c329)=true then
    some false
   else
    some true))))
def zcR (a0:RegionT):Option Bool :=
 some ((a0.fVe.tmod 10) == a0.Id)
def zG (a0:RegionT):Option Bool :=
 some ((a0.fVe.tmod 10) == a0.Id)
structure WordT where
 fVe:Int
 fTe:TellingsT
 deriving DecidableEq,Inhabited
structure SaidT where
 To:Int
 Word:WordT
 deriving DecidableEq,Inhabited
structure WorldT where
 fRe:(List RegionT)
 Line:(List SaidT)
 deriving DecidableEq,Inhabited
structure zcF where
 t16:Bool
structure zd5 where
 t20:Int
structure zeo where
 t33:Bool
def zbu (a0:WorldT) (g380:zd5):Option (zd5⊕(Unit⊕Unit)) :=
 (if (decide (g380.t20 < ((a0.fRe.length:Nat):Int)))=true then
  (zjP (0≤g380.t20∧g380.t20 < (a0.fRe.length:Int)) <|
  ((((zB (⟨(nth a0.fRe g380.t20.toNat).Id,(nth a0.fRe g380.t20.toNat).fVe,((nth a0.fRe g380.t20.toNat).fTe)⟩:RegionT)).bind λ c383 =>
   (if (!c383)=true then
    some (⟨true⟩:zeo)
   else
    some (⟨(((nth a0.fRe g380.t20.toNat).Id) != g380.t20)⟩:zeo))):Option zeo).bind λ p384 =>
  (if p384.t33=true then
   some (.inr (.inl ()))
  else
   some (.inl ⟨(wI (g380.t20+1))⟩))))
 else
  some (.inr (.inr ())))
structure zd6 where
 t38:Int
structure zep where
 t56:Bool
def zcu (a0:WorldT) (g388:zd6):Option (zd6⊕(Unit⊕Unit)) :=
 (if (decide (g388.t38 < ((a0.Line.length:Nat):Int)))=true then
  (zjP (0≤g388.t38∧g388.t38 < (a0.Line.length:Int)) <|
  ((((zN ((nth a0.Line g388.t38.toNat).To) 0 1).bind λ c392 =>
   (if (!c392)=true then
    some (⟨true⟩:zep)
   else
    ((zB (⟨0,((nth a0.Line g388.t38.toNat).Word).fVe,(((nth a0.Line g388.t38.toNat).Word).fTe)⟩:RegionT)).bind λ c393 =>
    some (⟨(!c393)⟩:zep)))):Option zep).bind λ p394 =>
  (if p394.t56=true then
   some (.inr (.inl ()))
  else
   some (.inl ⟨(wI (g388.t38+1))⟩))))
 else
  some (.inr (.inr ())))
def zeq (a0:WorldT):Option Bool :=
 (((if (((a0.fRe.length:Nat):Int) != 2)=true then
   some (⟨true⟩:zcF)
  else
   some (⟨(decide (((a0.Line.length:Nat):Int) > 20))⟩:zcF)):Option zcF).bind λ p379 =>
 (if p379.t16=true then
  some false
 else
  ((zjZ (zbu a0) ⟨0⟩).bind λ y385 =>
  match y385 with
  | .inl p386 =>
   some false
  | .inr p387 =>
   ((zjZ (zcu a0) ⟨0⟩).bind λ y395 =>
   match y395 with
   | .inl p396 =>
    some false
   | .inr p397 =>
    some true))))
def zfe (a0:Int):Option Bool :=
 ((zdn a0 0 1).bind λ c420 =>
 some c420)
structure zd7 where
 t5:Int
def zbv (a0:(List RegionT)) (a1:(List RegionT)) (g433:zd7):Option (zd7⊕(Unit⊕Unit)) :=
 (if (decide (g433.t5 < ((a0.length:Nat):Int)))=true then
  (zjP (0≤g433.t5∧g433.t5 < (a0.length:Int)) <|
  (zjP (0≤g433.t5∧g433.t5 < (a1.length:Int)) <|
  ((zeR (⟨(nth a0 g433.t5.toNat).Id,(nth a0 g433.t5.toNat).fVe,((nth a0 g433.t5.toNat).fTe)⟩:RegionT) (⟨(nth a1 g433.t5.toNat).Id,(nth a1 g433.t5.toNat).fVe,((nth a1 g433.t5.toNat).fTe)⟩:RegionT)).bind λ c435 =>
  (if (!c435)=true then
   some (.inr (.inl ()))
  else
   some (.inl ⟨(wI (g433.t5+1))⟩)))))
 else
  some (.inr (.inr ())))
def zes (a0:(List RegionT)) (a1:(List RegionT)):Option Bool :=
 (if (((a0.length:Nat):Int) != ((a1.length:Nat):Int))=true then
  some false
 else
  ((zjZ (zbv a0 a1) ⟨0⟩).bind λ y436 =>
  match y436 with
  | .inl p437 =>
   some false
  | .inr p438 =>
   some true))
def zfE (a0:WordT) (a1:WordT):Option Bool :=
 (if (a0.fVe != a1.fVe)=true then
  some false
 else
  ((zci a0.fTe a1.fTe).bind λ c441 =>
  (if (!c441)=true then
   some false
  else
   some true)))
def zfF (a0:SaidT) (a1:SaidT):Option Bool :=
 (if (a0.To != a1.To)=true then
  some false
 else
  ((zfE a0.Word a1.Word).bind λ c442 =>
  (if (!c442)=true then
   some false
  else
   some true)))
structure ze1 where
 t5:Int
def zck (a0:(List SaidT)) (a1:(List SaidT)) (g440:ze1):Option (ze1⊕(Unit⊕Unit)) :=
 (if (decide (g440.t5 < ((a0.length:Nat):Int)))=true then
  (zjP (0≤g440.t5∧g440.t5 < (a0.length:Int)) <|
  (zjP (0≤g440.t5∧g440.t5 < (a1.length:Int)) <|
  ((zfF (⟨(nth a0 g440.t5.toNat).To,(⟨((nth a0 g440.t5.toNat).Word).fVe,(((nth a0 g440.t5.toNat).Word).fTe)⟩:WordT)⟩:SaidT) (⟨(nth a1 g440.t5.toNat).To,(⟨((nth a1 g440.t5.toNat).Word).fVe,(((nth a1 g440.t5.toNat).Word).fTe)⟩:WordT)⟩:SaidT)).bind λ c444 =>
  (if (!c444)=true then
   some (.inr (.inl ()))
  else
   some (.inl ⟨(wI (g440.t5+1))⟩)))))
 else
  some (.inr (.inr ())))
def zff (a0:(List SaidT)) (a1:(List SaidT)):Option Bool :=
 (if (((a0.length:Nat):Int) != ((a1.length:Nat):Int))=true then
  some false
 else
  ((zjZ (zck a0 a1) ⟨0⟩).bind λ y445 =>
  match y445 with
  | .inl p446 =>
   some false
  | .inr p447 =>
   some true))
def zc1 (a0:WorldT) (a1:WorldT):Option Bool :=
 ((zes a0.fRe a1.fRe).bind λ c439 =>
 (if (!c439)=true then
  some false
 else
  ((zff a0.Line a1.Line).bind λ c448 =>
  (if (!c448)=true then
   some false
  else
   some true))))
end Go.TL
namespace Go.TL
end Go.TL
namespace Go.TL
end Go.TL
namespace Go.TL
structure zdC where
 t21:Bool
def zbi (a0:zjV) (a1:Int) (a2:ByteArray):Option (Bool×Bool) :=
 ((((za1 a0).bind λ c207 =>
  (if (!c207)=true then
   some (⟨true⟩:zdC)
  else
   ((zS a1).bind λ c208 =>
   (if (!c208)=true then
    some (⟨true⟩:zdC)
   else
    ((zaV a2).bind λ c209 =>
    some (⟨(!c209)⟩:zdC)))))):Option zdC).bind λ p210 =>
 (if p210.t21=true then
  some (false,false)
 else
  ((zaF a0).bind λ c211 =>
  ((za2 c211 a1 a2).bind λ c212 =>
  (if c212.1=true then
   ((za1 c212.2).bind λ c213 =>
   some (c213,true))
  else
   some (false,true))))))
end Go.TL
namespace Go.TL
structure zBb where
 From:Int
 To:Int
 Many:Int
 deriving DecidableEq,Inhabited
structure zfr where
 t5:Int
def zcS (a0:(List Int)) (a1:(List Int)) (g332:zfr):Option (zfr⊕(Unit⊕Unit)) :=
 (if (decide (g332.t5 < ((a0.length:Nat):Int)))=true then
  (zjP (0≤g332.t5∧g332.t5 < (a0.length:Int)) <|
  (zjP (0≤g332.t5∧g332.t5 < (a1.length:Int)) <|
  (if ((nth a0 g332.t5.toNat) != (nth a1 g332.t5.toNat))=true then
   some (.inr (.inl ()))
  else
   some (.inl ⟨(wI (g332.t5+1))⟩))))
 else
  some (.inr (.inr ())))
def zdX (a0:(List Int)) (a1:(List Int)):Option Bool :=
 (if (((a0.length:Nat):Int) != ((a1.length:Nat):Int))=true then
  some false
 else
  ((zjZ (zcS a0 a1) ⟨0⟩).bind λ y333 =>
  match y333 with
  | .inl p334 =>
   some false
  | .inr p335 =>
   some true))
structure zdD where
 t1:Int
 t5:Int
 c0:(List Int)
structure zf7 where
 t1:Int
 c0:(List Int)
def za7 (g349:zdD):Option (zdD⊕zf7) :=
 (if (decide (g349.t5 < ((g349.c0.length:Nat):Int)))=true then
  (zjP (0≤g349.t5∧g349.t5 < ((g349.c0.length:Nat):Int)) <|
  some (.inl ⟨(wI (g349.t1+1)),(wI (g349.t5+1)),(g349.c0.set g349.t5.toNat g349.t1)⟩))
 else
  some (.inr (⟨g349.t1,g349.c0⟩)))
def zdE (a0:(List Int)) (a1:Int):Option (Int×(List Int)) :=
 ((zjZ (za7) ⟨a1,0,a0⟩).bind λ y350 =>
 some (y350.t1,y350.c0))
structure zeH where
 t1:Int
 t5:Int
structure zgr where
 t1:Int
def zbR (a0:(List Int)) (g360:zeH):Option (zeH⊕(Unit⊕zgr)) :=
 (if (decide (g360.t5 < ((a0.length:Nat):Int)))=true then
  (zjP (0≤g360.t5∧g360.t5 < (a0.length:Int)) <|
  (if ((nth a0 g360.t5.toNat) != g360.t1)=true then
   some (.inr (.inl ()))
  else
   some (.inl ⟨(wI (g360.t1+1)),(wI (g360.t5+1))⟩)))
 else
  some (.inr (.inr (⟨g360.t1⟩))))
def zds (a0:(List Int)) (a1:Int):Option Int :=
 ((zjZ (zbR a0) ⟨a1,0⟩).bind λ y361 =>
 match y361 with
 | .inl p362 =>
  some (-1)
 | .inr p363 =>
  some p363.t1)
end Go.TL
namespace Go.TL
structure zfg where
 t3:Int
 t11:Int
structure zhD where
 t3:Int
structure zcl where
 t55:Bool
def zp (a0:(List BranchT)) (g128:zfg):Option (zfg⊕zhD) :=
 (if (decide (g128.t11 < ((a0.length:Nat):Int)))=true then
  (zjP (0≤g128.t11∧g128.t11 < (a0.length:Int)) <|
  (if (decide (g128.t3 < 0))=true then
   some (.inl ⟨g128.t11,(wI (g128.t11+1))⟩)
  else
   (zjP (0≤g128.t3∧g128.t3 < (a0.length:Int)) <|
   (zjP (0≤(wI (((((nth a0 g128.t11.toNat).fEv).length:Nat):Int) - 1))∧(wI (((((nth a0 g128.t11.toNat).fEv).length:Nat):Int) - 1)) < (((nth a0 g128.t11.toNat).fEv).length:Int)) <|
   (zjP (0≤(wI (((((nth a0 g128.t3.toNat).fEv).length:Nat):Int) - 1))∧(wI (((((nth a0 g128.t3.toNat).fEv).length:Nat):Int) - 1)) < (((nth a0 g128.t3.toNat).fEv).length:Int)) <|
   (((if (decide (((nth ((nth a0 g128.t11.toNat).fEv) ((wI (((((nth a0 g128.t11.toNat).fEv).length:Nat):Int) - 1)).toNat)).fVe) > ((nth ((nth a0 g128.t3.toNat).fEv) ((wI (((((nth a0 g128.t3.toNat).fEv).length:Nat):Int) - 1)).toNat)).fVe)))=true then
     some (⟨true⟩:zcl)
    else
     (if (((nth ((nth a0 g128.t11.toNat).fEv) ((wI (((((nth a0 g128.t11.toNat).fEv).length:Nat):Int) - 1)).toNat)).fVe) == ((nth ((nth a0 g128.t3.toNat).fEv) ((wI (((((nth a0 g128.t3.toNat).fEv).length:Nat):Int) - 1)).toNat)).fVe))=true then
      some (⟨(decide (((((nth a0 g128.t11.toNat).fEv).length:Nat):Int) ≥ ((((nth a0 g128.t3.toNat).fEv).length:Nat):Int)))⟩:zcl)
     else
      some (⟨false⟩:zcl))):Option zcl).bind λ p129 =>
   (if p129.t55=true then
    some (.inl ⟨g128.t11,(wI (g128.t11+1))⟩)
   else
    some (.inl ⟨g128.t3,(wI (g128.t11+1))⟩))))))))
 else
  some (.inr (⟨g128.t3⟩)))
def zcm (a0:(List BranchT)):Option Int :=
 ((zjZ (zp a0) ⟨(-1),0⟩).bind λ y130 =>
 some y130.t3)
def zg (a0:(List EventT)):Option (List EventT) :=
 (zjP (a0.length * 40≤140737488355328) <|
 some (([])++a0))
def zet (a0:(List EventT)):Option Int :=
 (zjP (0≤(wI (((a0.length:Nat):Int) - 1))∧(wI (((a0.length:Nat):Int) - 1)) < (a0.length:Int)) <|
 some ((nth a0 ((wI (((a0.length:Nat):Int) - 1)).toNat)).fVe))
def zcn (a0:BranchT) (a1:BranchT):Option Int :=
 ((zet a0.fEv).bind λ c275 =>
 ((zet a1.fEv).bind λ c276 =>
 ((zaC c275 c276).bind λ c277 =>
 ((zaC ((a0.fEv.length:Nat):Int) ((a1.fEv.length:Nat):Int)).bind λ c278 =>
 ((zaX a0.fEv a1.fEv).bind λ c279 =>
 ((zfq ([c277,c278,c279])).bind λ c280 =>
 some c280))))))
structure zH where
 t6:Int
 b1_0:(List EventT)
structure zdk where
 b1_0:(List EventT)
def za (a0:(List BranchT)) (g274:zH):Option (zH⊕zdk) :=
 (if (decide (g274.t6 < ((a0.length:Nat):Int)))=true then
  (zjP (0≤g274.t6∧g274.t6 < (a0.length:Int)) <|
  ((zcn (nth a0 g274.t6.toNat) (⟨g274.b1_0⟩:BranchT)).bind λ c282 =>
  (if (decide (c282 > 0))=true then
   (zjP (0≤g274.t6∧g274.t6 < (a0.length:Int)) <|
   some (.inl ⟨(wI (g274.t6+1)),(nth a0 g274.t6.toNat).fEv⟩))
  else
   some (.inl ⟨(wI (g274.t6+1)),g274.b1_0⟩))))
 else
  some (.inr (⟨g274.b1_0⟩)))
def zh (a0:(List BranchT)):Option BranchT :=
 (((if (decide (((a0.length:Nat):Int) < 1))=true then
   none
  else
   some (():Unit)):Option Unit).bind λ p273 =>
 (zjP (0 < (a0.length:Int)) <|
 ((zjZ (za a0) ⟨1,(nth a0 0).fEv⟩).bind λ y283 =>
 some (⟨y283.b1_0⟩:BranchT))))
def zcb (a0:TellingsT):Option (List EventT) :=
 (if (((a0.fBr.length:Nat):Int) == 0)=true then
  some ([])
 else
  ((zh a0.fBr).bind λ c284 =>
  some c284.fEv))
def zd (a0:(List EventT)):Option (List EventT) :=
 zjP (a0.length * 40≤140737488355328) (some a0)
structure zb4 where
 t1:Int
 t5:Int
 c0:(List BranchT)
structure zfh where
 t1:Int
 c0:(List BranchT)
def zV (g309:zb4):Option (zb4⊕zfh) :=
 (if (decide (g309.t5 < ((g309.c0.length:Nat):Int)))=true then
  (zjP (g309.t5.toNat < g309.c0.length) <|
  (zjP (0≤g309.t5∧g309.t5 < ((g309.c0.length:Nat):Int)) <|
  ((zct ((nth g309.c0 g309.t5.toNat).fEv) g309.t1).bind λ c317 =>
  (zjP (c317.2.length=((nth g309.c0 g309.t5.toNat).fEv).length) <|
  some (.inl ⟨c317.1,(wI (g309.t5+1)),(g309.c0.set g309.t5.toNat (⟨c317.2⟩:BranchT))⟩)))))
 else
  some (.inr (⟨g309.t1,g309.c0⟩)))
def zaM (a0:(List BranchT)) (a1:Int):Option (Int×(List BranchT)) :=
 ((zjZ (zV) ⟨a1,0,a0⟩).bind λ y318 =>
 some (y318.t1,y318.c0))
structure zdF where
 t1:Int
 t5:Int
structure zf8 where
 t1:Int
def za8 (a0:(List EventT)) (g324:zdF):Option (zdF⊕(Unit⊕zf8)) :=
 (if (decide (g324.t5 < ((a0.length:Nat):Int)))=true then
  (zjP (0≤g324.t5∧g324.t5 < (a0.length:Int)) <|
  (if (((nth a0 g324.t5.toNat).Id) != g324.t1)=true then
   some (.inr (.inl ()))
  else
   (zjP (0≤g324.t5∧g324.t5 < (a0.length:Int)) <|
   (if (((nth a0 g324.t5.toNat).fVe) != (wI (g324.t1+1)))=true then
    some (.inr (.inl ()))
   else
    (zjP (0≤g324.t5∧g324.t5 < (a0.length:Int)) <|
    (if (((nth a0 g324.t5.toNat).Kind) != (wI ((wI (g324.t1+1))+1)))=true then
     some (.inr (.inl ()))
    else
     (zjP (0≤g324.t5∧g324.t5 < (a0.length:Int)) <|
     ((zak (wI ((wI ((wI (g324.t1+1))+1))+1))).bind λ c326 =>
     (if (!(((nth a0 g324.t5.toNat).Name).toList == c326.toList))=true then
      some (.inr (.inl ()))
     else
      some (.inl ⟨(wI ((wI ((wI ((wI (g324.t1+1))+1))+1))+1)),(wI (g324.t5+1))⟩))))))))))
 else
  some (.inr (.inr (⟨g324.t1⟩))))
def zdG (a0:(List EventT)) (a1:Int):Option Int :=
 ((zjZ (za8 a0) ⟨a1,0⟩).bind λ y327 =>
 match y327 with
 | .inl p328 =>
  some (-1)
 | .inr p329 =>
  some p329.t1)
structure zco where
 t10:Int
 c2:(List BranchT)
structure zfy where
 c2:(List BranchT)
def zac (a0:TellingsT) (g397:zco):Option (zco⊕zfy) :=
 (if (decide (g397.t10 < ((a0.fBr.length:Nat):Int)))=true then
  (zjP (0≤g397.t10∧g397.t10 < (a0.fBr.length:Int)) <|
  ((zd ((nth a0.fBr g397.t10.toNat).fEv)).bind λ c399 =>
  (zjP ((g397.c2.length+1) * 24≤140737488355328) <|
  some (.inl ⟨(wI (g397.t10+1)),(g397.c2++[(⟨c399⟩:BranchT)])⟩))))
 else
  some (.inr (⟨g397.c2⟩)))
def zP (a0:TellingsT):Option TellingsT :=
 ((zjZ (zac a0) ⟨0,[]⟩).bind λ y400 =>
 some (⟨y400.c2⟩:TellingsT))
def zcc (a0:RegionT):Option WordT :=
 ((zP a0.fTe).bind λ c401 =>
 some (⟨a0.fVe,c401⟩:WordT))
structure zde where
 t1:Int
 t5:Int
structure zfW where
 t1:Int
def zaN (a0:(List BranchT)) (g416:zde):Option (zde⊕(Unit⊕zfW)) :=
 (if (decide (g416.t5 < ((a0.length:Nat):Int)))=true then
  (zjP (0≤g416.t5∧g416.t5 < (a0.length:Int)) <|
  ((zdG ((nth a0 g416.t5.toNat).fEv) g416.t1).bind λ c418 =>
  (if (decide (c418 < 0))=true then
   some (.inr (.inl ()))
  else
   some (.inl ⟨c418,(wI (g416.t5+1))⟩))))
 else
  some (.inr (.inr (⟨g416.t1⟩))))
def zbS (a0:(List BranchT)) (a1:Int):Option Int :=
 ((zjZ (zaN a0) ⟨a1,0⟩).bind λ y419 =>
 match y419 with
 | .inl p420 =>
  some (-1)
 | .inr p421 =>
  some p421.t1)
def zdH (a0:RegionT):Option (List EventT) :=
 ((zcm a0.fTe.fBr).bind λ c433 =>
 (if (decide (c433 < 0))=true then
  some ([])
 else
  (zjP (0≤c433∧c433 < (a0.fTe.fBr.length:Int)) <|
  some ((nth a0.fTe.fBr c433.toNat).fEv))))
def zaO (a0:RegionT):Option zjV :=
 ((zcb a0.fTe).bind λ c440 =>
 ((zch c440).bind λ c441 =>
 some c441.1))
structure zb5 where
 t1:Int
 t5:Int
 c0:(List RegionT)
structure zfi where
 t1:Int
 c0:(List RegionT)
def zW (g647:zb5):Option (zb5⊕zfi) :=
 (if (decide (g647.t5 < ((g647.c0.length:Nat):Int)))=true then
  (zjP (g647.t5.toNat < g647.c0.length) <|
  (zjP (0≤g647.t5∧g647.t5 < ((g647.c0.length:Nat):Int)) <|
  (zjP (0≤g647.t5∧g647.t5 < ((g647.c0.length:Nat):Int)) <|
  (zjP (0≤g647.t5∧g647.t5 < ((g647.c0.length:Nat):Int)) <|
  ((zaM (((nth g647.c0 g647.t5.toNat).fTe).fBr) (wI ((wI (g647.t1+1))+1))).bind λ c649 =>
  (zjP (c649.2.length=(((nth g647.c0 g647.t5.toNat).fTe).fBr).length) <|
  some (.inl ⟨c649.1,(wI (g647.t5+1)),(g647.c0.set g647.t5.toNat (⟨g647.t1,(wI (g647.t1+1)),(⟨c649.2⟩:TellingsT)⟩:RegionT))⟩)))))))
 else
  some (.inr (⟨g647.t1,g647.c0⟩)))
def zbG (a0:(List RegionT)) (a1:Int):Option (Int×(List RegionT)) :=
 ((zjZ (zW) ⟨a1,0,a0⟩).bind λ y650 =>
 some (y650.t1,y650.c0))
structure zcG where
 t1:Int
 t5:Int
 c0:(List SaidT)
structure zfG where
 t1:Int
 c0:(List SaidT)
def zav (g654:zcG):Option (zcG⊕zfG) :=
 (if (decide (g654.t5 < ((g654.c0.length:Nat):Int)))=true then
  (zjP (g654.t5.toNat < g654.c0.length) <|
  (zjP (0≤g654.t5∧g654.t5 < ((g654.c0.length:Nat):Int)) <|
  (zjP (0≤g654.t5∧g654.t5 < ((g654.c0.length:Nat):Int)) <|
  (zjP (0≤g654.t5∧g654.t5 < ((g654.c0.length:Nat):Int)) <|
  ((zaM ((((nth g654.c0 g654.t5.toNat).Word).fTe).fBr) (wI ((wI (g654.t1+1))+1))).bind λ c656 =>
  (zjP (c656.2.length=((((nth g654.c0 g654.t5.toNat).Word).fTe).fBr).length) <|
  some (.inl ⟨c656.1,(wI (g654.t5+1)),(g654.c0.set g654.t5.toNat (⟨g654.t1,(⟨(wI (g654.t1+1)),(⟨c656.2⟩:TellingsT)⟩:WordT)⟩:SaidT))⟩)))))))
 else
  some (.inr (⟨g654.t1,g654.c0⟩)))
def zcv (a0:(List SaidT)) (a1:Int):Option (Int×(List SaidT)) :=
 ((zjZ (zav) ⟨a1,0,a0⟩).bind λ y657 =>
 some (y657.t1,y657.c0))
def zdf (a0:WorldT) (a1:Int):Option (Int×(List RegionT)×(List SaidT)) :=
 ((zbG a0.fRe a1).bind λ c651 =>
 (zjP (c651.2.length=a0.fRe.length) <|
 ((zcv a0.Line c651.1).bind λ c658 =>
 (zjP (c658.2.length=a0.Line.length) <|
 some (c658.1,c651.2,c658.2)))))
end Go.TL
namespace Go.TL
structure ze2 where
 t28:Int
 c1:(List ByteArray)
structure zgD where
 c0:(List ByteArray)
structure ze3 where
 t41:Int
 c1:(List ByteArray)
structure zgE where
 c1:(List ByteArray)
structure zeX where
 t55:Bool
def zbj (c145:(zjV×Int)) (c132:(zjV×Int)) (g146:ze3):Option (ze3⊕zgE) :=
 (if (decide (g146.t41 < ((c145.1.fSi.length:Nat):Int)))=true then
  (zjP (0≤g146.t41∧g146.t41 < (c145.1.fSi.length:Int)) <|
  ((((zbe c132.1.fSi (nth c145.1.fSi g146.t41.toNat)).bind λ c151 =>
   (if (decide (c151 < 0))=true then
    ((zbe g146.c1 (nth c145.1.fSi g146.t41.toNat)).bind λ c152 =>
    some (⟨(decide (c152 < 0))⟩:zeX))
   else
    some (⟨false⟩:zeX))):Option zeX).bind λ p153 =>
  (if p153.t55=true then
   ((zbA g146.c1 (nth c145.1.fSi g146.t41.toNat)).bind λ c154 =>
   some (.inl ⟨(wI (g146.t41+1)),c154⟩))
  else
   some (.inl ⟨(wI (g146.t41+1)),g146.c1⟩))))
 else
  some (.inr (⟨g146.c1⟩)))
def zcp (a0:(List BranchT)) (c132:(zjV×Int)) (g133:ze2):Option (ze2⊕zgD) :=
 (if (decide (g133.t28 < ((a0.length:Nat):Int)))=true then
  (zjP (0≤g133.t28∧g133.t28 < (a0.length:Int)) <|
  ((zca ((nth a0 g133.t28.toNat).fEv)).bind λ c145 =>
  ((zjZ (zbj c145 c132) ⟨0,g133.c1⟩).bind λ y155 =>
  some (.inl ⟨(wI (g133.t28+1)),y155.c1⟩))))
 else
  some (.inr (⟨g133.c1⟩)))
def zfj (a0:(List BranchT)):Option (List ByteArray) :=
 ((zcm a0).bind λ c131 =>
 (if (decide (c131 < 0))=true then
  some ([])
 else
  (zjP (0≤c131∧c131 < (a0.length:Int)) <|
  ((zca ((nth a0 c131.toNat).fEv)).bind λ c132 =>
  ((zjZ (zcp a0 c132) ⟨0,[]⟩).bind λ y156 =>
  some y156.c0)))))
structure ze4 where
 t9:Int
 c0:(List ByteArray)
structure zgF where
 c0:(List ByteArray)
def zcq (a0:(List EventT)) (g309:ze4):Option (ze4⊕zgF) :=
 (if (decide (g309.t9 < ((a0.length:Nat):Int)))=true then
  (zjP (0≤g309.t9∧g309.t9 < (a0.length:Int)) <|
  (if (((nth a0 g309.t9.toNat).Kind) == 2)=true then
   (zjP ((g309.c0.length+1) * 16≤140737488355328) <|
   some (.inl ⟨(wI (g309.t9+1)),(g309.c0++([(nth a0 g309.t9.toNat).Name]))⟩))
  else
   some (.inl ⟨(wI (g309.t9+1)),g309.c0⟩)))
 else
  some (.inr (⟨g309.c0⟩)))
def zeu (a0:(List EventT)):Option (List ByteArray) :=
 ((zjZ (zcq a0) ⟨0,[]⟩).bind λ y310 =>
 some y310.c0)
def zcH (a0:(List ByteArray)):Option (List ByteArray) :=
 zjP (a0.length < 4611686018427387904) (some (znG a0))
def zbE (a0:(List ByteArray)):Option (List ByteArray) :=
 zjP (a0.length≤9223372036854775807) (some (zmb a0))
structure zdg where
 t16:Int
 c1:(List ByteArray)
structure zfX where
 c0:(List ByteArray)
structure zdh where
 t24:Int
 c1:(List ByteArray)
structure zfY where
 c1:(List ByteArray)
def z7 (c318:(List ByteArray)) (c311:(List ByteArray)) (g319:zdh):Option (zdh⊕zfY) :=
 (if (decide (g319.t24 < ((c318.length:Nat):Int)))=true then
  (zjP (0≤g319.t24∧g319.t24 < ((c318.length:Nat):Int)) <|
  ((zo c311 (nth c318 g319.t24.toNat)).bind λ c321 =>
  (if (!c321)=true then
   (zjP ((g319.c1.length+1) * 16≤140737488355328) <|
   some (.inl ⟨(wI (g319.t24+1)),(g319.c1++([(nth c318 g319.t24.toNat)]))⟩))
  else
   some (.inl ⟨(wI (g319.t24+1)),g319.c1⟩))))
 else
  some (.inr (⟨g319.c1⟩)))
def zaP (a0:TellingsT) (c311:(List ByteArray)) (g312:zdg):Option (zdg⊕zfX) :=
 (if (decide (g312.t16 < ((a0.fBr.length:Nat):Int)))=true then
  (zjP (0≤g312.t16∧g312.t16 < (a0.fBr.length:Int)) <|
  ((zeu ((nth a0.fBr g312.t16.toNat).fEv)).bind λ c318 =>
  ((zjZ (z7 c318 c311) ⟨0,g312.c1⟩).bind λ y322 =>
  some (.inl ⟨(wI (g312.t16+1)),y322.c1⟩))))
 else
  some (.inr (⟨g312.c1⟩)))
def zc2 (a0:TellingsT):Option (List ByteArray) :=
 ((zcb a0).bind λ c308 =>
 ((zeu c308).bind λ c311 =>
 ((zjZ (zaP a0 c311) ⟨0,[]⟩).bind λ y323 =>
 ((zcH y323.c0).bind λ c324 =>
 (zjP (c324.length=y323.c0.length) <|
 ((zbE c324).bind λ c325 =>
 some c325))))))
end Go.TL

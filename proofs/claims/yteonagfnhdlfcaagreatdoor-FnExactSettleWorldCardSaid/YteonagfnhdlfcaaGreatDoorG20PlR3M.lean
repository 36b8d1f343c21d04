import Derived.Test.YteonagfnhdlfcaaGreatDoorG19PlR1
import Derived.Test.YteonagfnhdlfcaaGreatDoorG18PlTrim
set_option linter.unusedSimpArgs false
set_option linter.unusedVariables false
noncomputable section
namespace Go.TL
end Go.TL
namespace Go.TL
structure RegionT where
 Id:Int
 fVe:Int
 fTe:TellingsT
 deriving DecidableEq,Inhabited
def zfp (a0:RegionT) (a1:Int):Option Int :=
 ((zct a0.fTe a1).bind λ c15 =>
 (if (decide (c15 < 0))=true then
  some (-1)
 else
  some c15))
def zfq (a0:RegionT):Option RegionT :=
 ((zcu a0.fTe).bind λ c30 =>
 some (⟨a0.Id,a0.fVe,c30⟩:RegionT))
structure zcw where
 t22:Bool
structure zbk where
 t27:Int
structure zdW where
 t34:Int
def zbl (a0:RegionT) (g137:zbk) (g142:zdW):Option (zdW⊕(Unit⊕Unit)) :=
 (if (decide (g142.t34 < ((((nth a0.fTe.fBr g137.t27.toNat).fEv).length:Nat):Int)))=true then
  (zlf (0≤g142.t34∧g142.t34 < (((nth a0.fTe.fBr g137.t27.toNat).fEv).length:Int)) <|
  (if (decide (((nth ((nth a0.fTe.fBr g137.t27.toNat).fEv) g142.t34.toNat).fVe) > a0.fVe))=true then
   some (.inr (.inl ()))
  else
   some (.inl ⟨(wI (g142.t34+1))⟩)))
 else
  some (.inr (.inr ())))
def zbm (a0:RegionT) (g137:zbk):Option (zbk⊕(Unit⊕Unit)) :=
 (if (decide (g137.t27 < ((a0.fTe.fBr.length:Nat):Int)))=true then
  (zlf (0≤g137.t27∧g137.t27 < (a0.fTe.fBr.length:Int)) <|
  ((zln (zbl a0 g137) ⟨0⟩).bind λ y143 =>
  match y143 with
  | .inl p144 =>
   some (.inr (.inl ()))
  | .inr p145 =>
   some (.inl ⟨(wI (g137.t27+1))⟩)))
 else
  some (.inr (.inr ())))
def zad (a0:RegionT):Option Bool :=
 ((((zaT a0.Id 0 9).bind λ c32 =>
  (if (!c32)=true then
   some (⟨true⟩:zcw)
  else
   ((zfE a0.fVe).bind λ c34 =>
   (if (!c34)=true then
    some (⟨true⟩:zcw)
   else
    ((zao a0.fTe).bind λ c135 =>
    some (⟨(!c135)⟩:zcw)))))):Option zcw).bind λ p136 =>
 (if p136.t22=true then
  some false
 else
  ((zln (zbm a0) ⟨0⟩).bind λ y146 =>
  match y146 with
  | .inl p147 =>
   some false
  | .inr p148 =>
   some true)))
def zdv (a0:EventT) (a1:Int):Option Bool :=
 some (decide (a0.fVe > a1))
structure zt where
 t8:Int
structure zap where
 t4:Int
def zc (a0:(List EventT)) (a1:Int) (g297:zt):Option (zt⊕(zap⊕Unit)) :=
 (if (decide (g297.t8 < ((a0.length:Nat):Int)))=true then
  (zlf (0≤g297.t8∧g297.t8 < (a0.length:Int)) <|
  ((zdv (nth a0 g297.t8.toNat) a1).bind λ c299 =>
  (if c299=true then
   some (.inr (.inl (⟨g297.t8⟩)))
  else
   some (.inl ⟨(wI (g297.t8+1))⟩))))
 else
  some (.inr (.inr ())))
def zA (a0:(List EventT)) (a1:Int):Option Int :=
 ((zln (zc a0 a1) ⟨0⟩).bind λ y300 =>
 match y300 with
 | .inl p301 =>
  some p301.t4
 | .inr p302 =>
  some (-1))
def zj (a0:(List EventT)) (a1:Int):Option Bool :=
 ((zA a0 a1).bind λ c303 =>
 some (decide (c303 ≥ 0)))
def zfa (a0:BranchT) (a1:Int):Option Bool :=
 ((zj a0.fEv a1).bind λ c304 =>
 some c304)
structure zx where
 t8:Int
structure zau where
 t4:Int
def ze (a0:(List BranchT)) (a1:Int) (g296:zx):Option (zx⊕(zau⊕Unit)) :=
 (if (decide (g296.t8 < ((a0.length:Nat):Int)))=true then
  (zlf (0≤g296.t8∧g296.t8 < (a0.length:Int)) <|
  ((zfa (nth a0 g296.t8.toNat) a1).bind λ c306 =>
  (if c306=true then
   some (.inr (.inl (⟨g296.t8⟩)))
  else
   some (.inl ⟨(wI (g296.t8+1))⟩))))
 else
  some (.inr (.inr ())))
def zG (a0:(List BranchT)) (a1:Int):Option Int :=
 ((zln (ze a0 a1) ⟨0⟩).bind λ y307 =>
 match y307 with
 | .inl p308 =>
  some p308.t4
 | .inr p309 =>
  some (-1))
def zk (a0:(List BranchT)) (a1:Int):Option Bool :=
 ((zG a0 a1).bind λ c310 =>
 some (decide (c310 ≥ 0)))
structure zgm where
 t12:Bool
def zfv (a0:Int) (a1:TellingsT):Option Bool :=
 ((((zc8 a0).bind λ c154 =>
  (if (!c154)=true then
   some (⟨true⟩:zgm)
  else
   ((zaS a1).bind λ c294 =>
   some (⟨(!c294)⟩:zgm)))):Option zgm).bind λ p295 =>
 (if p295.t12=true then
  some false
 else
  ((zk a1.fBr a0).bind λ c311 =>
  some (!c311))))
def zcx (a0:RegionT):Option Bool :=
 ((zgz a0.Id).bind λ c152 =>
 (if c152=true then
  ((zfv a0.fVe a0.fTe).bind λ c312 =>
  some c312)
 else
  some false))
def zfr (a0:RegionT) (a1:RegionT):Option Bool :=
 (if (a0.Id != a1.Id)=true then
  some false
 else
  (if (a0.fVe != a1.fVe)=true then
   some false
  else
   ((zcv a0.fTe a1.fTe).bind λ c329 =>
   (if (!c329)=true then
    some false
   else
    some true))))
def zda (a0:RegionT):Option Bool :=
 some ((a0.fVe.tmod 10) == a0.Id)
def zW (a0:RegionT):Option Bool :=
 some ((a0.fVe.tmod 10) == a0.Id)
structure WordT where
 fVe:Int
 fTe:TellingsT
 deriving DecidableEq,Inhabited
structure SaidT where
 To:Int
 Word:WordT
 deriving DecidableEq,Inhabited
structure WorldT where
 fRe:(List RegionT)
 Line:(List SaidT)
 deriving DecidableEq,Inhabited
structure zel where
 t1:Int
 t5:Int
structure zg8 where
 t1:Int
def zbL (a0:(List RegionT)) (g343:zel):Option (zel⊕(Unit⊕zg8)) :=
 (if (decide (g343.t5 < ((a0.length:Nat):Int)))=true then
  (zlf (0≤g343.t5∧g343.t5 < (a0.length:Int)) <|
  ((zfp (⟨(nth a0 g343.t5.toNat).Id,(nth a0 g343.t5.toNat).fVe,((nth a0 g343.t5.toNat).fTe)⟩:RegionT) g343.t1).bind λ c345 =>
  (if (decide (c345 < 0))=true then
   some (.inr (.inl ()))
  else
   some (.inl ⟨c345,(wI (g343.t5+1))⟩))))
 else
  some (.inr (.inr (⟨g343.t1⟩))))
def zeJ (a0:(List RegionT)) (a1:Int):Option Int :=
 (if (decide ((wI (a1 - ((a0.length:Nat):Int))) < 0))=true then
  some (-1)
 else
  ((zln (zbL a0) ⟨(wI (a1 - ((a0.length:Nat):Int))),0⟩).bind λ y346 =>
  match y346 with
  | .inl p347 =>
   some (-1)
  | .inr p348 =>
   some p348.t1))
def zgr (a0:WordT) (a1:Int):Option Int :=
 ((zct a0.fTe a1).bind λ c351 =>
 (if (decide (c351 < 0))=true then
  some (-1)
 else
  some c351))
def zgs (a0:SaidT) (a1:Int):Option Int :=
 ((zgr a0.Word a1).bind λ c352 =>
 (if (decide (c352 < 0))=true then
  some (-1)
 else
  some c352))
structure zfG where
 t1:Int
 t5:Int
structure zhu where
 t1:Int
def zcy (a0:(List SaidT)) (g350:zfG):Option (zfG⊕(Unit⊕zhu)) :=
 (if (decide (g350.t5 < ((a0.length:Nat):Int)))=true then
  (zlf (0≤g350.t5∧g350.t5 < (a0.length:Int)) <|
  ((zgs (⟨(nth a0 g350.t5.toNat).To,(⟨((nth a0 g350.t5.toNat).Word).fVe,(((nth a0 g350.t5.toNat).Word).fTe)⟩:WordT)⟩:SaidT) g350.t1).bind λ c354 =>
  (if (decide (c354 < 0))=true then
   some (.inr (.inl ()))
  else
   some (.inl ⟨c354,(wI (g350.t5+1))⟩))))
 else
  some (.inr (.inr (⟨g350.t1⟩))))
def zfX (a0:(List SaidT)) (a1:Int):Option Int :=
 (if (decide ((wI (a1 - ((a0.length:Nat):Int))) < 0))=true then
  some (-1)
 else
  ((zln (zcy a0) ⟨(wI (a1 - ((a0.length:Nat):Int))),0⟩).bind λ y355 =>
  match y355 with
  | .inl p356 =>
   some (-1)
  | .inr p357 =>
   some p357.t1))
def zfY (a0:WorldT) (a1:Int):Option Int :=
 ((zeJ a0.fRe a1).bind λ c349 =>
 (if (decide (c349 < 0))=true then
  some (-1)
 else
  ((zfX a0.Line c349).bind λ c358 =>
  (if (decide (c358 < 0))=true then
   some (-1)
  else
   some c358))))
def zgt (a0:WordT):Option WordT :=
 ((zcu a0.fTe).bind λ c369 =>
 some (⟨a0.fVe,c369⟩:WordT))
def zfs (a0:SaidT):Option SaidT :=
 ((zgt a0.Word).bind λ c373 =>
 some (⟨a0.To,c373⟩:SaidT))
structure zfH where
 t4:Int
 c0:(List SaidT)
structure zhv where
 c0:(List SaidT)
def zcz (a0:(List SaidT)) (g372:zfH):Option (zfH⊕zhv) :=
 (if (decide (g372.t4 < ((a0.length:Nat):Int)))=true then
  (zlf (0≤g372.t4∧g372.t4 < (a0.length:Int)) <|
  ((zfs (⟨(nth a0 g372.t4.toNat).To,(⟨((nth a0 g372.t4.toNat).Word).fVe,(((nth a0 g372.t4.toNat).Word).fTe)⟩:WordT)⟩:SaidT)).bind λ c375 =>
  (zlf (0≤g372.t4∧g372.t4 < ((g372.c0.length:Nat):Int)) <|
  some (.inl ⟨(wI (g372.t4+1)),(g372.c0.set g372.t4.toNat c375)⟩))))
 else
  some (.inr (⟨g372.c0⟩)))
def zfZ (a0:(List SaidT)):Option (List SaidT) :=
 (zlf (0≤((a0.length:Nat):Int)∧((a0.length:Nat):Int) * 40≤281474976710656∧((a0.length:Nat):Int)≤9223372036854775807) <|
 ((zln (zcz a0) ⟨0,(List.replicate a0.length (⟨0,(⟨0,(⟨[]⟩:TellingsT)⟩:WordT)⟩:SaidT))⟩).bind λ y376 =>
 some y376.c0))
structure zc0 where
 t16:Bool
structure zem where
 t20:Int
structure zeK where
 t33:Bool
def zbM (a0:WorldT) (g380:zem):Option (zem⊕(Unit⊕Unit)) :=
 (if (decide (g380.t20 < ((a0.fRe.length:Nat):Int)))=true then
  (zlf (0≤g380.t20∧g380.t20 < (a0.fRe.length:Int)) <|
  ((((zad (⟨(nth a0.fRe g380.t20.toNat).Id,(nth a0.fRe g380.t20.toNat).fVe,((nth a0.fRe g380.t20.toNat).fTe)⟩:RegionT)).bind λ c383 =>
   (if (!c383)=true then
    some (⟨true⟩:zeK)
   else
    some (⟨(((nth a0.fRe g380.t20.toNat).Id) != g380.t20)⟩:zeK))):Option zeK).bind λ p384 =>
  (if p384.t33=true then
   some (.inr (.inl ()))
  else
   some (.inl ⟨(wI (g380.t20+1))⟩))))
 else
  some (.inr (.inr ())))
structure zen where
 t38:Int
structure zeL where
 t56:Bool
def zcL (a0:WorldT) (g388:zen):Option (zen⊕(Unit⊕Unit)) :=
 (if (decide (g388.t38 < ((a0.Line.length:Nat):Int)))=true then
  (zlf (0≤g388.t38∧g388.t38 < (a0.Line.length:Int)) <|
  ((((zaT ((nth a0.Line g388.t38.toNat).To) 0 1).bind λ c392 =>
   (if (!c392)=true then
    some (⟨true⟩:zeL)
   else
    ((zad (⟨0,((nth a0.Line g388.t38.toNat).Word).fVe,(((nth a0.Line g388.t38.toNat).Word).fTe)⟩:RegionT)).bind λ c393 =>
    some (⟨(!c393)⟩:zeL)))):Option zeL).bind λ p394 =>
  (if p394.t56=true then
   some (.inr (.inl ()))
  else
   some (.inl ⟨(wI (g388.t38+1))⟩))))
 else
  some (.inr (.inr ())))
def zeM (a0:WorldT):Option Bool :=
 (((if (((a0.fRe.length:Nat):Int) != 2)=true then
   some (⟨true⟩:zc0)
  else
   some (⟨(decide (((a0.Line.length:Nat):Int) > 20))⟩:zc0)):Option zc0).bind λ p379 =>
 (if p379.t16=true then
  some false
 else
  ((zln (zbM a0) ⟨0⟩).bind λ y385 =>
  match y385 with
  | .inl p386 =>
   some false
  | .inr p387 =>
   ((zln (zcL a0) ⟨0⟩).bind λ y395 =>
   match y395 with
   | .inl p396 =>
    some false
   | .inr p397 =>
    some true))))
def zgY (a0:Int):Option Bool :=
 ((zeu a0 0 1).bind λ c420 =>
 some c420)
def zeo (a0:SaidT):Option Bool :=
 ((zgY a0.To).bind λ c421 =>
 (if (!c421)=true then
  some true
 else
  ((zfv a0.Word.fVe a0.Word.fTe).bind λ c422 =>
  some (!c422))))
structure zy where
 t8:Int
structure zav where
 t4:Int
def zf (a0:(List SaidT)) (g419:zy):Option (zy⊕(zav⊕Unit)) :=
 (if (decide (g419.t8 < ((a0.length:Nat):Int)))=true then
  (zlf (0≤g419.t8∧g419.t8 < (a0.length:Int)) <|
  ((zeo (⟨(nth a0 g419.t8.toNat).To,(⟨((nth a0 g419.t8.toNat).Word).fVe,(((nth a0 g419.t8.toNat).Word).fTe)⟩:WordT)⟩:SaidT)).bind λ c424 =>
  (if c424=true then
   some (.inr (.inl (⟨g419.t8⟩)))
  else
   some (.inl ⟨(wI (g419.t8+1))⟩))))
 else
  some (.inr (.inr ())))
def zH (a0:(List SaidT)):Option Int :=
 ((zln (zf a0) ⟨0⟩).bind λ y425 =>
 match y425 with
 | .inl p426 =>
  some p426.t4
 | .inr p427 =>
  some (-1))
def zm (a0:(List SaidT)):Option Bool :=
 ((zH a0).bind λ c428 =>
 some (decide (c428 ≥ 0)))
structure zc1 where
 t14:Bool
structure zep where
 t18:Int
structure zeN where
 t31:Bool
def zbN (a0:WorldT) (g411:zep):Option (zep⊕(Unit⊕Unit)) :=
 (if (decide (g411.t18 < ((a0.fRe.length:Nat):Int)))=true then
  (zlf (0≤g411.t18∧g411.t18 < (a0.fRe.length:Int)) <|
  (((if (((nth a0.fRe g411.t18.toNat).Id) != g411.t18)=true then
    some (⟨true⟩:zeN)
   else
    ((zcx (⟨(nth a0.fRe g411.t18.toNat).Id,(nth a0.fRe g411.t18.toNat).fVe,((nth a0.fRe g411.t18.toNat).fTe)⟩:RegionT)).bind λ c414 =>
    some (⟨(!c414)⟩:zeN))):Option zeN).bind λ p415 =>
  (if p415.t31=true then
   some (.inr (.inl ()))
  else
   some (.inl ⟨(wI (g411.t18+1))⟩))))
 else
  some (.inr (.inr ())))
def zeO (a0:WorldT):Option Bool :=
 (((if (((a0.fRe.length:Nat):Int) != 2)=true then
   some (⟨true⟩:zc1)
  else
   some (⟨(decide (((a0.Line.length:Nat):Int) > 20))⟩:zc1)):Option zc1).bind λ p410 =>
 (if p410.t14=true then
  some false
 else
  ((zln (zbN a0) ⟨0⟩).bind λ y416 =>
  match y416 with
  | .inl p417 =>
   some false
  | .inr p418 =>
   ((zm a0.Line).bind λ c429 =>
   some (!c429)))))
structure zeq where
 t5:Int
def zbO (a0:(List RegionT)) (a1:(List RegionT)) (g433:zeq):Option (zeq⊕(Unit⊕Unit)) :=
 (if (decide (g433.t5 < ((a0.length:Nat):Int)))=true then
  (zlf (0≤g433.t5∧g433.t5 < (a0.length:Int)) <|
  (zlf (0≤g433.t5∧g433.t5 < (a1.length:Int)) <|
  ((zfr (⟨(nth a0 g433.t5.toNat).Id,(nth a0 g433.t5.toNat).fVe,((nth a0 g433.t5.toNat).fTe)⟩:RegionT) (⟨(nth a1 g433.t5.toNat).Id,(nth a1 g433.t5.toNat).fVe,((nth a1 g433.t5.toNat).fTe)⟩:RegionT)).bind λ c435 =>
  (if (!c435)=true then
   some (.inr (.inl ()))
  else
   some (.inl ⟨(wI (g433.t5+1))⟩)))))
 else
  some (.inr (.inr ())))
def zeP (a0:(List RegionT)) (a1:(List RegionT)):Option Bool :=
 (if (((a0.length:Nat):Int) != ((a1.length:Nat):Int))=true then
  some false
 else
  ((zln (zbO a0 a1) ⟨0⟩).bind λ y436 =>
  match y436 with
  | .inl p437 =>
   some false
  | .inr p438 =>
   some true))
def zgu (a0:WordT) (a1:WordT):Option Bool :=
 (if (a0.fVe != a1.fVe)=true then
  some false
 else
  ((zcv a0.fTe a1.fTe).bind λ c441 =>
  (if (!c441)=true then
   some false
  else
   some true)))
def zgv (a0:SaidT) (a1:SaidT):Option Bool :=
 (if (a0.To != a1.To)=true then
  some false
 else
  ((zgu a0.Word a1.Word).bind λ c442 =>
  (if (!c442)=true then
   some false
  else
   some true)))
structure zfJ where
 t5:Int
def zcA (a0:(List SaidT)) (a1:(List SaidT)) (g440:zfJ):Option (zfJ⊕(Unit⊕Unit)) :=
 (if (decide (g440.t5 < ((a0.length:Nat):Int)))=true then
  (zlf (0≤g440.t5∧g440.t5 < (a0.length:Int)) <|
  (zlf (0≤g440.t5∧g440.t5 < (a1.length:Int)) <|
  ((zgv (⟨(nth a0 g440.t5.toNat).To,(⟨((nth a0 g440.t5.toNat).Word).fVe,(((nth a0 g440.t5.toNat).Word).fTe)⟩:WordT)⟩:SaidT) (⟨(nth a1 g440.t5.toNat).To,(⟨((nth a1 g440.t5.toNat).Word).fVe,(((nth a1 g440.t5.toNat).Word).fTe)⟩:WordT)⟩:SaidT)).bind λ c444 =>
  (if (!c444)=true then
   some (.inr (.inl ()))
  else
   some (.inl ⟨(wI (g440.t5+1))⟩)))))
 else
  some (.inr (.inr ())))
def zf0 (a0:(List SaidT)) (a1:(List SaidT)):Option Bool :=
 (if (((a0.length:Nat):Int) != ((a1.length:Nat):Int))=true then
  some false
 else
  ((zln (zcA a0 a1) ⟨0⟩).bind λ y445 =>
  match y445 with
  | .inl p446 =>
   some false
  | .inr p447 =>
   some true))
def zcj (a0:WorldT) (a1:WorldT):Option Bool :=
 ((zeP a0.fRe a1.fRe).bind λ c439 =>
 (if (!c439)=true then
  some false
 else
  ((zf0 a0.Line a1.Line).bind λ c448 =>
  (if (!c448)=true then
   some false
  else
   some true))))
structure zbS where
 t18:Int
def zah (a0:TellingsT) (a1:TellingsT) (g453:zbS):Option (zbS⊕(Unit⊕Unit)) :=
 (if (decide (g453.t18 < ((a0.fBr.length:Nat):Int)))=true then
  (zlf (0≤g453.t18∧g453.t18 < (a0.fBr.length:Int)) <|
  (zlf (0≤g453.t18∧g453.t18 < (a1.fBr.length:Int)) <|
  ((zar ((nth a0.fBr g453.t18.toNat).fEv) ((nth a1.fBr g453.t18.toNat).fEv)).bind λ c455 =>
  (if (c455.1 != 0)=true then
   some (.inr (.inl ()))
  else
   some (.inl ⟨(wI (g453.t18+1))⟩)))))
 else
  some (.inr (.inr ())))
def zbz (a0:TellingsT) (a1:TellingsT):Option Bool :=
 (if (((a0.fBr.length:Nat):Int) != ((a1.fBr.length:Nat):Int))=true then
  some false
 else
  ((zln (zah a0 a1) ⟨0⟩).bind λ y456 =>
  match y456 with
  | .inl p457 =>
   some false
  | .inr p458 =>
   some true))
def zeQ (a0:RegionT) (a1:RegionT):Option Bool :=
 (if (a0.fVe == a1.fVe)=true then
  ((zbz a0.fTe a1.fTe).bind λ c459 =>
  some c459)
 else
  some false)
def zc2 (a0:BranchT) (a1:BranchT):Option Bool :=
 ((zV a0.fEv a1.fEv).bind λ c465 =>
 some c465)
structure zp where
 t17:Int
def za (a0:(List BranchT)) (a1:(List BranchT)) (g464:zp):Option (zp⊕(Unit⊕Unit)) :=
 (if (decide (g464.t17 < ((a0.length:Nat):Int)))=true then
  (zlf (0≤g464.t17∧g464.t17 < (a0.length:Int)) <|
  (zlf (0≤g464.t17∧g464.t17 < (a1.length:Int)) <|
  ((zc2 (nth a0 g464.t17.toNat) (nth a1 g464.t17.toNat)).bind λ c467 =>
  (if (!c467)=true then
   some (.inr (.inl ()))
  else
   some (.inl ⟨(wI (g464.t17+1))⟩)))))
 else
  some (.inr (.inr ())))
def zu (a0:(List BranchT)) (a1:(List BranchT)):Option Bool :=
 (if (((a0.length:Nat):Int) != ((a1.length:Nat):Int))=true then
  some false
 else
  ((zln (za a0 a1) ⟨0⟩).bind λ y468 =>
  match y468 with
  | .inl p469 =>
   some false
  | .inr p470 =>
   some true))
def zcM (a0:TellingsT) (a1:TellingsT):Option Bool :=
 ((zu a0.fBr a1.fBr).bind λ c471 =>
 some c471)
def zb3 (a0:RegionT) (a1:RegionT):Option Bool :=
 (if (a0.fVe == a1.fVe)=true then
  ((zcM a0.fTe a1.fTe).bind λ c472 =>
  some c472)
 else
  some false)
end Go.TL
namespace Go.TL
end Go.TL
namespace Go.TL
end Go.TL
namespace Go.TL
structure zdX where
 t21:Bool
def zbA (a0:zlm) (a1:Int) (a2:ByteArray):Option (Bool×Bool) :=
 ((((zbh a0).bind λ c207 =>
  (if (!c207)=true then
   some (⟨true⟩:zdX)
  else
   ((zai a1).bind λ c208 =>
   (if (!c208)=true then
    some (⟨true⟩:zdX)
   else
    ((zbc a2).bind λ c209 =>
    some (⟨(!c209)⟩:zdX)))))):Option zdX).bind λ p210 =>
 (if p210.t21=true then
  some (false,false)
 else
  ((zaW a0).bind λ c211 =>
  ((zbi c211 a1 a2).bind λ c212 =>
  (if c212.1=true then
   ((zbh c212.2).bind λ c213 =>
   some (c213,true))
  else
   some (false,true))))))
end Go.TL
namespace Go.TL
structure zB5 where
 From:Int
 To:Int
 Many:Int
 deriving DecidableEq,Inhabited
end Go.TL
namespace Go.TL
structure zf1 where
 t3:Int
 t11:Int
structure zis where
 t3:Int
structure zcB where
 t55:Bool
def zJ (a0:(List BranchT)) (g128:zf1):Option (zf1⊕zis) :=
 (if (decide (g128.t11 < ((a0.length:Nat):Int)))=true then
  (zlf (0≤g128.t11∧g128.t11 < (a0.length:Int)) <|
  (if (decide (g128.t3 < 0))=true then
   some (.inl ⟨g128.t11,(wI (g128.t11+1))⟩)
  else
   (zlf (0≤g128.t3∧g128.t3 < (a0.length:Int)) <|
   (zlf (0≤(wI (((((nth a0 g128.t11.toNat).fEv).length:Nat):Int) - 1))∧(wI (((((nth a0 g128.t11.toNat).fEv).length:Nat):Int) - 1)) < (((nth a0 g128.t11.toNat).fEv).length:Int)) <|
   (zlf (0≤(wI (((((nth a0 g128.t3.toNat).fEv).length:Nat):Int) - 1))∧(wI (((((nth a0 g128.t3.toNat).fEv).length:Nat):Int) - 1)) < (((nth a0 g128.t3.toNat).fEv).length:Int)) <|
   (((if (decide (((nth ((nth a0 g128.t11.toNat).fEv) ((wI (((((nth a0 g128.t11.toNat).fEv).length:Nat):Int) - 1)).toNat)).fVe) > ((nth ((nth a0 g128.t3.toNat).fEv) ((wI (((((nth a0 g128.t3.toNat).fEv).length:Nat):Int) - 1)).toNat)).fVe)))=true then
     some (⟨true⟩:zcB)
    else
     (if (((nth ((nth a0 g128.t11.toNat).fEv) ((wI (((((nth a0 g128.t11.toNat).fEv).length:Nat):Int) - 1)).toNat)).fVe) == ((nth ((nth a0 g128.t3.toNat).fEv) ((wI (((((nth a0 g128.t3.toNat).fEv).length:Nat):Int) - 1)).toNat)).fVe))=true then
      some (⟨(decide (((((nth a0 g128.t11.toNat).fEv).length:Nat):Int) ≥ ((((nth a0 g128.t3.toNat).fEv).length:Nat):Int)))⟩:zcB)
     else
      some (⟨false⟩:zcB))):Option zcB).bind λ p129 =>
   (if p129.t55=true then
    some (.inl ⟨g128.t11,(wI (g128.t11+1))⟩)
   else
    some (.inl ⟨g128.t3,(wI (g128.t11+1))⟩))))))))
 else
  some (.inr (⟨g128.t3⟩)))
def zcC (a0:(List BranchT)):Option Int :=
 ((zln (zJ a0) ⟨(-1),0⟩).bind λ y130 =>
 some y130.t3)
def zq (a0:(List EventT)):Option (List EventT) :=
 (zlf (a0.length * 40≤140737488355328) <|
 some (([])++a0))
def zeR (a0:(List EventT)):Option Int :=
 (zlf (0≤(wI (((a0.length:Nat):Int) - 1))∧(wI (((a0.length:Nat):Int) - 1)) < (a0.length:Int)) <|
 some ((nth a0 ((wI (((a0.length:Nat):Int) - 1)).toNat)).fVe))
def zcD (a0:BranchT) (a1:BranchT):Option Int :=
 ((zeR a0.fEv).bind λ c275 =>
 ((zeR a1.fEv).bind λ c276 =>
 ((zaU c275 c276).bind λ c277 =>
 ((zaU ((a0.fEv.length:Nat):Int) ((a1.fEv.length:Nat):Int)).bind λ c278 =>
 ((zbd a0.fEv a1.fEv).bind λ c279 =>
 ((zga ([c277,c278,c279])).bind λ c280 =>
 some c280))))))
structure zX where
 t6:Int
 b1_0:(List EventT)
structure zdE where
 b1_0:(List EventT)
def zb (a0:(List BranchT)) (g274:zX):Option (zX⊕zdE) :=
 (if (decide (g274.t6 < ((a0.length:Nat):Int)))=true then
  (zlf (0≤g274.t6∧g274.t6 < (a0.length:Int)) <|
  ((zcD (nth a0 g274.t6.toNat) (⟨g274.b1_0⟩:BranchT)).bind λ c282 =>
  (if (decide (c282 > 0))=true then
   (zlf (0≤g274.t6∧g274.t6 < (a0.length:Int)) <|
   some (.inl ⟨(wI (g274.t6+1)),(nth a0 g274.t6.toNat).fEv⟩))
  else
   some (.inl ⟨(wI (g274.t6+1)),g274.b1_0⟩))))
 else
  some (.inr (⟨g274.b1_0⟩)))
def zr (a0:(List BranchT)):Option BranchT :=
 (((if (decide (((a0.length:Nat):Int) < 1))=true then
   none
  else
   some (():Unit)):Option Unit).bind λ p273 =>
 (zlf (0 < (a0.length:Int)) <|
 ((zln (zb a0) ⟨1,(nth a0 0).fEv⟩).bind λ y283 =>
 some (⟨y283.b1_0⟩:BranchT))))
def zck (a0:TellingsT):Option (List EventT) :=
 (if (((a0.fBr.length:Nat):Int) == 0)=true then
  some ([])
 else
  ((zr a0.fBr).bind λ c284 =>
  some c284.fEv))
def zh (a0:(List EventT)):Option (List EventT) :=
 zlf (a0.length * 40≤140737488355328) (some a0)
structure zce where
 t1:Int
 t5:Int
 c0:(List BranchT)
structure zf2 where
 t1:Int
 c0:(List BranchT)
def zam (g309:zce):Option (zce⊕zf2) :=
 (if (decide (g309.t5 < ((g309.c0.length:Nat):Int)))=true then
  (zlf (g309.t5.toNat < g309.c0.length) <|
  (zlf (0≤g309.t5∧g309.t5 < ((g309.c0.length:Nat):Int)) <|
  ((zcK ((nth g309.c0 g309.t5.toNat).fEv) g309.t1).bind λ c317 =>
  (zlf (c317.2.length=((nth g309.c0 g309.t5.toNat).fEv).length) <|
  some (.inl ⟨c317.1,(wI (g309.t5+1)),(g309.c0.set g309.t5.toNat (⟨c317.2⟩:BranchT))⟩)))))
 else
  some (.inr (⟨g309.t1,g309.c0⟩)))
def za0 (a0:(List BranchT)) (a1:Int):Option (Int×(List BranchT)) :=
 ((zln (zam) ⟨a1,0,a0⟩).bind λ y318 =>
 some (y318.t1,y318.c0))
structure zdY where
 t1:Int
 t5:Int
structure zgZ where
 t1:Int
def zbn (a0:(List EventT)) (g324:zdY):Option (zdY⊕(Unit⊕zgZ)) :=
 (if (decide (g324.t5 < ((a0.length:Nat):Int)))=true then
  (zlf (0≤g324.t5∧g324.t5 < (a0.length:Int)) <|
  (if (((nth a0 g324.t5.toNat).Id) != g324.t1)=true then
   some (.inr (.inl ()))
  else
   (zlf (0≤g324.t5∧g324.t5 < (a0.length:Int)) <|
   (if (((nth a0 g324.t5.toNat).fVe) != (wI (g324.t1+1)))=true then
    some (.inr (.inl ()))
   else
    (zlf (0≤g324.t5∧g324.t5 < (a0.length:Int)) <|
    (if (((nth a0 g324.t5.toNat).Kind) != (wI ((wI (g324.t1+1))+1)))=true then
     some (.inr (.inl ()))
    else
     (zlf (0≤g324.t5∧g324.t5 < (a0.length:Int)) <|
     ((zbb (wI ((wI ((wI (g324.t1+1))+1))+1))).bind λ c326 =>
     (if (!(((nth a0 g324.t5.toNat).Name).toList == c326.toList))=true then
      some (.inr (.inl ()))
     else
      some (.inl ⟨(wI ((wI ((wI ((wI (g324.t1+1))+1))+1))+1)),(wI (g324.t5+1))⟩))))))))))
 else
  some (.inr (.inr (⟨g324.t1⟩))))
def zdZ (a0:(List EventT)) (a1:Int):Option Int :=
 ((zln (zbn a0) ⟨a1,0⟩).bind λ y327 =>
 match y327 with
 | .inl p328 =>
  some (-1)
 | .inr p329 =>
  some p329.t1)
structure zcE where
 t10:Int
 c2:(List BranchT)
structure zgj where
 c2:(List BranchT)
def zaw (a0:TellingsT) (g397:zcE):Option (zcE⊕zgj) :=
 (if (decide (g397.t10 < ((a0.fBr.length:Nat):Int)))=true then
  (zlf (0≤g397.t10∧g397.t10 < (a0.fBr.length:Int)) <|
  ((zh ((nth a0.fBr g397.t10.toNat).fEv)).bind λ c399 =>
  (zlf ((g397.c2.length+1) * 24≤140737488355328) <|
  some (.inl ⟨(wI (g397.t10+1)),(g397.c2++[(⟨c399⟩:BranchT)])⟩))))
 else
  some (.inr (⟨g397.c2⟩)))
def zY (a0:TellingsT):Option TellingsT :=
 ((zln (zaw a0) ⟨0,[]⟩).bind λ y400 =>
 some (⟨y400.c2⟩:TellingsT))
def zaf (a0:RegionT):Option WordT :=
 ((zY a0.fTe).bind λ c401 =>
 some (⟨a0.fVe,c401⟩:WordT))
structure zdw where
 t1:Int
 t5:Int
structure zgJ where
 t1:Int
def za1 (a0:(List BranchT)) (g416:zdw):Option (zdw⊕(Unit⊕zgJ)) :=
 (if (decide (g416.t5 < ((a0.length:Nat):Int)))=true then
  (zlf (0≤g416.t5∧g416.t5 < (a0.length:Int)) <|
  ((zdZ ((nth a0 g416.t5.toNat).fEv) g416.t1).bind λ c418 =>
  (if (decide (c418 < 0))=true then
   some (.inr (.inl ()))
  else
   some (.inl ⟨c418,(wI (g416.t5+1))⟩))))
 else
  some (.inr (.inr (⟨g416.t1⟩))))
def zb4 (a0:(List BranchT)) (a1:Int):Option Int :=
 ((zln (za1 a0) ⟨a1,0⟩).bind λ y419 =>
 match y419 with
 | .inl p420 =>
  some (-1)
 | .inr p421 =>
  some p421.t1)
def zd0 (a0:RegionT):Option (List EventT) :=
 ((zcC a0.fTe.fBr).bind λ c433 =>
 (if (decide (c433 < 0))=true then
  some ([])
 else
  (zlf (0≤c433∧c433 < (a0.fTe.fBr.length:Int)) <|
  some ((nth a0.fTe.fBr c433.toNat).fEv))))
def za2 (a0:RegionT):Option zlm :=
 ((zck a0.fTe).bind λ c440 =>
 ((zcs c440).bind λ c441 =>
 some c441.1))
def zfb (a0:RegionT):Option RegionT :=
 ((zY a0.fTe).bind λ c498 =>
 some (⟨a0.Id,a0.fVe,c498⟩:RegionT))
structure zdx where
 t4:Int
 c0:(List RegionT)
structure zgK where
 c0:(List RegionT)
def za3 (a0:(List RegionT)) (g544:zdx):Option (zdx⊕zgK) :=
 (if (decide (g544.t4 < ((a0.length:Nat):Int)))=true then
  (zlf (0≤g544.t4∧g544.t4 < (a0.length:Int)) <|
  ((zfq (⟨(nth a0 g544.t4.toNat).Id,(nth a0 g544.t4.toNat).fVe,((nth a0 g544.t4.toNat).fTe)⟩:RegionT)).bind λ c546 =>
  (zlf (0≤g544.t4∧g544.t4 < ((g544.c0.length:Nat):Int)) <|
  some (.inl ⟨(wI (g544.t4+1)),(g544.c0.set g544.t4.toNat c546)⟩))))
 else
  some (.inr (⟨g544.c0⟩)))
def zdi (a0:(List RegionT)):Option (List RegionT) :=
 (zlf (0≤((a0.length:Nat):Int)∧((a0.length:Nat):Int) * 40≤281474976710656∧((a0.length:Nat):Int)≤9223372036854775807) <|
 ((zln (za3 a0) ⟨0,(List.replicate a0.length (⟨0,0,(⟨[]⟩:TellingsT)⟩:RegionT))⟩).bind λ y547 =>
 some y547.c0))
def zbo (a0:WorldT):Option WorldT :=
 ((zdi a0.fRe).bind λ c556 =>
 ((zfZ a0.Line).bind λ c557 =>
 some (⟨c556,c557⟩:WorldT)))
structure zcf where
 t1:Int
 t5:Int
 c0:(List RegionT)
structure zf3 where
 t1:Int
 c0:(List RegionT)
def zan (g647:zcf):Option (zcf⊕zf3) :=
 (if (decide (g647.t5 < ((g647.c0.length:Nat):Int)))=true then
  (zlf (g647.t5.toNat < g647.c0.length) <|
  (zlf (0≤g647.t5∧g647.t5 < ((g647.c0.length:Nat):Int)) <|
  (zlf (0≤g647.t5∧g647.t5 < ((g647.c0.length:Nat):Int)) <|
  (zlf (0≤g647.t5∧g647.t5 < ((g647.c0.length:Nat):Int)) <|
  ((za0 (((nth g647.c0 g647.t5.toNat).fTe).fBr) (wI ((wI (g647.t1+1))+1))).bind λ c649 =>
  (zlf (c649.2.length=(((nth g647.c0 g647.t5.toNat).fTe).fBr).length) <|
  some (.inl ⟨c649.1,(wI (g647.t5+1)),(g647.c0.set g647.t5.toNat (⟨g647.t1,(wI (g647.t1+1)),(⟨c649.2⟩:TellingsT)⟩:RegionT))⟩)))))))
 else
  some (.inr (⟨g647.t1,g647.c0⟩)))
def za4 (a0:(List RegionT)) (a1:Int):Option (Int×(List RegionT)) :=
 ((zln (zan) ⟨a1,0,a0⟩).bind λ y650 =>
 some (y650.t1,y650.c0))
structure zc3 where
 t1:Int
 t5:Int
 c0:(List SaidT)
structure zgw where
 t1:Int
 c0:(List SaidT)
def zaR (g654:zc3):Option (zc3⊕zgw) :=
 (if (decide (g654.t5 < ((g654.c0.length:Nat):Int)))=true then
  (zlf (g654.t5.toNat < g654.c0.length) <|
  (zlf (0≤g654.t5∧g654.t5 < ((g654.c0.length:Nat):Int)) <|
  (zlf (0≤g654.t5∧g654.t5 < ((g654.c0.length:Nat):Int)) <|
  (zlf (0≤g654.t5∧g654.t5 < ((g654.c0.length:Nat):Int)) <|
  ((za0 ((((nth g654.c0 g654.t5.toNat).Word).fTe).fBr) (wI ((wI (g654.t1+1))+1))).bind λ c656 =>
  (zlf (c656.2.length=((((nth g654.c0 g654.t5.toNat).Word).fTe).fBr).length) <|
  some (.inl ⟨c656.1,(wI (g654.t5+1)),(g654.c0.set g654.t5.toNat (⟨g654.t1,(⟨(wI (g654.t1+1)),(⟨c656.2⟩:TellingsT)⟩:WordT)⟩:SaidT))⟩)))))))
 else
  some (.inr (⟨g654.t1,g654.c0⟩)))
def zcN (a0:(List SaidT)) (a1:Int):Option (Int×(List SaidT)) :=
 ((zln (zaR) ⟨a1,0,a0⟩).bind λ y657 =>
 some (y657.t1,y657.c0))
def zdy (a0:WorldT) (a1:Int):Option (Int×(List RegionT)×(List SaidT)) :=
 ((za4 a0.fRe a1).bind λ c651 =>
 (zlf (c651.2.length=a0.fRe.length) <|
 ((zcN a0.Line c651.1).bind λ c658 =>
 (zlf (c658.2.length=a0.Line.length) <|
 some (c658.1,c651.2,c658.2)))))
end Go.TL
namespace Go.TL
structure zfK where
 t28:Int
 c1:(List ByteArray)
structure zhw where
 c0:(List ByteArray)
structure zfL where
 t41:Int
 c1:(List ByteArray)
structure zhx where
 c1:(List ByteArray)
structure zfx where
 t55:Bool
def zbB (c145:(zlm×Int)) (c132:(zlm×Int)) (g146:zfL):Option (zfL⊕zhx) :=
 (if (decide (g146.t41 < ((c145.1.fSi.length:Nat):Int)))=true then
  (zlf (0≤g146.t41∧g146.t41 < (c145.1.fSi.length:Int)) <|
  ((((zbv c132.1.fSi (nth c145.1.fSi g146.t41.toNat)).bind λ c151 =>
   (if (decide (c151 < 0))=true then
    ((zbv g146.c1 (nth c145.1.fSi g146.t41.toNat)).bind λ c152 =>
    some (⟨(decide (c152 < 0))⟩:zfx))
   else
    some (⟨false⟩:zfx))):Option zfx).bind λ p153 =>
  (if p153.t55=true then
   ((zbP g146.c1 (nth c145.1.fSi g146.t41.toNat)).bind λ c154 =>
   some (.inl ⟨(wI (g146.t41+1)),c154⟩))
  else
   some (.inl ⟨(wI (g146.t41+1)),g146.c1⟩))))
 else
  some (.inr (⟨g146.c1⟩)))
def zcF (a0:(List BranchT)) (c132:(zlm×Int)) (g133:zfK):Option (zfK⊕zhw) :=
 (if (decide (g133.t28 < ((a0.length:Nat):Int)))=true then
  (zlf (0≤g133.t28∧g133.t28 < (a0.length:Int)) <|
  ((zci ((nth a0 g133.t28.toNat).fEv)).bind λ c145 =>
  ((zln (zbB c145 c132) ⟨0,g133.c1⟩).bind λ y155 =>
  some (.inl ⟨(wI (g133.t28+1)),y155.c1⟩))))
 else
  some (.inr (⟨g133.c1⟩)))
def zf4 (a0:(List BranchT)):Option (List ByteArray) :=
 ((zcC a0).bind λ c131 =>
 (if (decide (c131 < 0))=true then
  some ([])
 else
  (zlf (0≤c131∧c131 < (a0.length:Int)) <|
  ((zci ((nth a0 c131.toNat).fEv)).bind λ c132 =>
  ((zln (zcF a0 c132) ⟨0,[]⟩).bind λ y156 =>
  some y156.c0)))))
structure zfM where
 t9:Int
 c0:(List ByteArray)
structure zhy where
 c0:(List ByteArray)
def zcG (a0:(List EventT)) (g309:zfM):Option (zfM⊕zhy) :=
 (if (decide (g309.t9 < ((a0.length:Nat):Int)))=true then
  (zlf (0≤g309.t9∧g309.t9 < (a0.length:Int)) <|
  (if (((nth a0 g309.t9.toNat).Kind) == 2)=true then
   (zlf ((g309.c0.length+1) * 16≤140737488355328) <|
   some (.inl ⟨(wI (g309.t9+1)),(g309.c0++([(nth a0 g309.t9.toNat).Name]))⟩))
  else
   some (.inl ⟨(wI (g309.t9+1)),g309.c0⟩)))
 else
  some (.inr (⟨g309.c0⟩)))
def zeS (a0:(List EventT)):Option (List ByteArray) :=
 ((zln (zcG a0) ⟨0,[]⟩).bind λ y310 =>
 some y310.c0)
def zc4 (a0:(List ByteArray)):Option (List ByteArray) :=
 zlf (a0.length < 4611686018427387904) (some (zpb a0))
def zbT (a0:(List ByteArray)):Option (List ByteArray) :=
 zlf (a0.length≤9223372036854775807) (some (znJ a0))
structure zdz where
 t16:Int
 c1:(List ByteArray)
structure zgL where
 c0:(List ByteArray)
structure zdA where
 t24:Int
 c1:(List ByteArray)
structure zgM where
 c1:(List ByteArray)
def zaq (c318:(List ByteArray)) (c311:(List ByteArray)) (g319:zdA):Option (zdA⊕zgM) :=
 (if (decide (g319.t24 < ((c318.length:Nat):Int)))=true then
  (zlf (0≤g319.t24∧g319.t24 < ((c318.length:Nat):Int)) <|
  ((zF c311 (nth c318 g319.t24.toNat)).bind λ c321 =>
  (if (!c321)=true then
   (zlf ((g319.c1.length+1) * 16≤140737488355328) <|
   some (.inl ⟨(wI (g319.t24+1)),(g319.c1++([(nth c318 g319.t24.toNat)]))⟩))
  else
   some (.inl ⟨(wI (g319.t24+1)),g319.c1⟩))))
 else
  some (.inr (⟨g319.c1⟩)))
def za5 (a0:TellingsT) (c311:(List ByteArray)) (g312:zdz):Option (zdz⊕zgL) :=
 (if (decide (g312.t16 < ((a0.fBr.length:Nat):Int)))=true then
  (zlf (0≤g312.t16∧g312.t16 < (a0.fBr.length:Int)) <|
  ((zeS ((nth a0.fBr g312.t16.toNat).fEv)).bind λ c318 =>
  ((zln (zaq c318 c311) ⟨0,g312.c1⟩).bind λ y322 =>
  some (.inl ⟨(wI (g312.t16+1)),y322.c1⟩))))
 else
  some (.inr (⟨g312.c1⟩)))
def zdj (a0:TellingsT):Option (List ByteArray) :=
 ((zck a0).bind λ c308 =>
 ((zeS c308).bind λ c311 =>
 ((zln (za5 a0 c311) ⟨0,[]⟩).bind λ y323 =>
 ((zc4 y323.c0).bind λ c324 =>
 (zlf (c324.length=y323.c0.length) <|
 ((zbT c324).bind λ c325 =>
 some c325))))))
end Go.TL

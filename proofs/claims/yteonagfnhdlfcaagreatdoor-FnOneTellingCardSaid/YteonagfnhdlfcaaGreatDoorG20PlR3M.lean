import Derived.Test.YteonagfnhdlfcaaGreatDoorG19PlR1
import Derived.Test.YteonagfnhdlfcaaGreatDoorG18PlTrim
set_option linter.unusedSimpArgs false
set_option linter.unusedVariables false
noncomputable section
namespace Go.TL
end Go.TL
namespace Go.TL
structure zkb where
 Id:Int
 fVe:Int
 fTe:zkh
 deriving DecidableEq,Inhabited
structure zcF where
 t22:Bool
structure zbt where
 t27:Int
structure zd7 where
 t34:Int
def zbu (a0:zkb) (g0:zbt) (g1:zd7):Option (zd7⊕(Unit⊕Unit)) :=
 (if (decide (g1.t34 < ((((nth a0.fTe.fBr g0.t27.toNat).fEv).length:Nat):Int)))=true then
  (zkk (0≤g1.t34∧g1.t34 < (((nth a0.fTe.fBr g0.t27.toNat).fEv).length:Int)) <|
  (if (decide (((nth ((nth a0.fTe.fBr g0.t27.toNat).fEv) g1.t34.toNat).fVe) > a0.fVe))=true then
   some (.inr (.inl ()))
  else
   some (.inl ⟨(wI (g1.t34+1))⟩)))
 else
  some (.inr (.inr ())))
def zbv (a0:zkb) (g0:zbt):Option (zbt⊕(Unit⊕Unit)) :=
 (if (decide (g0.t27 < ((a0.fTe.fBr.length:Nat):Int)))=true then
  (zkk (0≤g0.t27∧g0.t27 < (a0.fTe.fBr.length:Int)) <|
  ((zkx (zbu a0 g0) ⟨0⟩).bind λ y0 =>
  match y0 with
  | .inl p0 =>
   some (.inr (.inl ()))
  | .inr p1 =>
   some (.inl ⟨(wI (g0.t27+1))⟩)))
 else
  some (.inr (.inr ())))
def zW (a0:zkb):Option Bool :=
 ((((z7 a0.Id 0 9).bind λ c0 =>
  (if (!c0)=true then
   some (⟨true⟩:zcF)
  else
   ((zbB a0.fVe).bind λ c1 =>
   (if (!c1)=true then
    some (⟨true⟩:zcF)
   else
    ((zao a0.fTe).bind λ c2 =>
    some (⟨(!c2)⟩:zcF)))))):Option zcF).bind λ p0 =>
 (if p0.t22=true then
  some false
 else
  ((zkx (zbv a0) ⟨0⟩).bind λ y0 =>
  match y0 with
  | .inl p1 =>
   some false
  | .inr p2 =>
   some true)))
def zdF (a0:zka) (a1:Int):Option Bool :=
 some (decide (a0.fVe > a1))
structure zr where
 t8:Int
structure zap where
 t4:Int
def zb (a0:(List zka)) (a1:Int) (g0:zr):Option (zr⊕(zap⊕Unit)) :=
 (if (decide (g0.t8 < ((a0.length:Nat):Int)))=true then
  (zkk (0≤g0.t8∧g0.t8 < (a0.length:Int)) <|
  ((zdF (nth a0 g0.t8.toNat) a1).bind λ c0 =>
  (if c0=true then
   some (.inr (.inl (⟨g0.t8⟩)))
  else
   some (.inl ⟨(wI (g0.t8+1))⟩))))
 else
  some (.inr (.inr ())))
def zy (a0:(List zka)) (a1:Int):Option Int :=
 ((zkx (zb a0 a1) ⟨0⟩).bind λ y0 =>
 match y0 with
 | .inl p0 =>
  some p0.t4
 | .inr p1 =>
  some (-1))
def zj (a0:(List zka)) (a1:Int):Option Bool :=
 ((zy a0 a1).bind λ c0 =>
 some (decide (c0 ≥ 0)))
def zfa (a0:zkd) (a1:Int):Option Bool :=
 ((zj a0.fEv a1).bind λ c0 =>
 some c0)
structure zv where
 t8:Int
structure zav where
 t4:Int
def ze (a0:(List zkd)) (a1:Int) (g0:zv):Option (zv⊕(zav⊕Unit)) :=
 (if (decide (g0.t8 < ((a0.length:Nat):Int)))=true then
  (zkk (0≤g0.t8∧g0.t8 < (a0.length:Int)) <|
  ((zfa (nth a0 g0.t8.toNat) a1).bind λ c0 =>
  (if c0=true then
   some (.inr (.inl (⟨g0.t8⟩)))
  else
   some (.inl ⟨(wI (g0.t8+1))⟩))))
 else
  some (.inr (.inr ())))
def zG (a0:(List zkd)) (a1:Int):Option Int :=
 ((zkx (ze a0 a1) ⟨0⟩).bind λ y0 =>
 match y0 with
 | .inl p0 =>
  some p0.t4
 | .inr p1 =>
  some (-1))
def zm (a0:(List zkd)) (a1:Int):Option Bool :=
 ((zG a0 a1).bind λ c0 =>
 some (decide (c0 ≥ 0)))
structure zf9 where
 t12:Bool
def zfs (a0:Int) (a1:zkh):Option Bool :=
 ((((zU a0).bind λ c0 =>
  (if (!c0)=true then
   some (⟨true⟩:zf9)
  else
   ((za0 a1).bind λ c1 =>
   some (⟨(!c1)⟩:zf9)))):Option zf9).bind λ p0 =>
 (if p0.t12=true then
  some false
 else
  ((zm a1.fBr a0).bind λ c2 =>
  some (!c2))))
def zcG (a0:zkb):Option Bool :=
 ((zdV a0.Id).bind λ c0 =>
 (if c0=true then
  ((zfs a0.fVe a0.fTe).bind λ c1 =>
  some c1)
 else
  some false))
def zdf (a0:zkb):Option Bool :=
 some ((a0.fVe.tmod 10) == a0.Id)
def z8 (a0:zkb):Option Bool :=
 some ((a0.fVe.tmod 10) == a0.Id)
structure zlF where
 fVe:Int
 fTe:zkh
 deriving DecidableEq,Inhabited
structure zkB where
 To:Int
 Word:zlF
 deriving DecidableEq,Inhabited
structure zkn where
 fRe:(List zkb)
 Line:(List zkB)
 deriving DecidableEq,Inhabited
structure zc1 where
 t16:Bool
structure zez where
 t20:Int
structure zeR where
 t33:Bool
def zbT (a0:zkn) (g0:zez):Option (zez⊕(Unit⊕Unit)) :=
 (if (decide (g0.t20 < ((a0.fRe.length:Nat):Int)))=true then
  (zkk (0≤g0.t20∧g0.t20 < (a0.fRe.length:Int)) <|
  ((((zW (⟨(nth a0.fRe g0.t20.toNat).Id,(nth a0.fRe g0.t20.toNat).fVe,((nth a0.fRe g0.t20.toNat).fTe)⟩:zkb)).bind λ c0 =>
   (if (!c0)=true then
    some (⟨true⟩:zeR)
   else
    some (⟨(((nth a0.fRe g0.t20.toNat).Id) != g0.t20)⟩:zeR))):Option zeR).bind λ p0 =>
  (if p0.t33=true then
   some (.inr (.inl ()))
  else
   some (.inl ⟨(wI (g0.t20+1))⟩))))
 else
  some (.inr (.inr ())))
structure zeA where
 t38:Int
structure zeS where
 t56:Bool
def zcT (a0:zkn) (g0:zeA):Option (zeA⊕(Unit⊕Unit)) :=
 (if (decide (g0.t38 < ((a0.Line.length:Nat):Int)))=true then
  (zkk (0≤g0.t38∧g0.t38 < (a0.Line.length:Int)) <|
  ((((z7 ((nth a0.Line g0.t38.toNat).To) 0 1).bind λ c0 =>
   (if (!c0)=true then
    some (⟨true⟩:zeS)
   else
    ((zW (⟨0,((nth a0.Line g0.t38.toNat).Word).fVe,(((nth a0.Line g0.t38.toNat).Word).fTe)⟩:zkb)).bind λ c1 =>
    some (⟨(!c1)⟩:zeS)))):Option zeS).bind λ p0 =>
  (if p0.t56=true then
   some (.inr (.inl ()))
  else
   some (.inl ⟨(wI (g0.t38+1))⟩))))
 else
  some (.inr (.inr ())))
def zdg (a0:zkn):Option Bool :=
 (((if (((a0.fRe.length:Nat):Int) != 2)=true then
   some (⟨true⟩:zc1)
  else
   some (⟨(decide (((a0.Line.length:Nat):Int) > 20))⟩:zc1)):Option zc1).bind λ p0 =>
 (if p0.t16=true then
  some false
 else
  ((zkx (zbT a0) ⟨0⟩).bind λ y0 =>
  match y0 with
  | .inl p1 =>
   some false
  | .inr p2 =>
   ((zkx (zcT a0) ⟨0⟩).bind λ y1 =>
   match y1 with
   | .inl p3 =>
    some false
   | .inr p4 =>
    some true))))
def zds (a0:Int):Option Bool :=
 ((zc9 a0 0 1).bind λ c0 =>
 some c0)
def zeB (a0:zkB):Option Bool :=
 ((zds a0.To).bind λ c0 =>
 (if (!c0)=true then
  some true
 else
  ((zfs a0.Word.fVe a0.Word.fTe).bind λ c1 =>
  some (!c1))))
structure zw where
 t8:Int
structure zaw where
 t4:Int
def zf (a0:(List zkB)) (g0:zw):Option (zw⊕(zaw⊕Unit)) :=
 (if (decide (g0.t8 < ((a0.length:Nat):Int)))=true then
  (zkk (0≤g0.t8∧g0.t8 < (a0.length:Int)) <|
  ((zeB (⟨(nth a0 g0.t8.toNat).To,(⟨((nth a0 g0.t8.toNat).Word).fVe,(((nth a0 g0.t8.toNat).Word).fTe)⟩:zlF)⟩:zkB)).bind λ c0 =>
  (if c0=true then
   some (.inr (.inl (⟨g0.t8⟩)))
  else
   some (.inl ⟨(wI (g0.t8+1))⟩))))
 else
  some (.inr (.inr ())))
def zH (a0:(List zkB)):Option Int :=
 ((zkx (zf a0) ⟨0⟩).bind λ y0 =>
 match y0 with
 | .inl p0 =>
  some p0.t4
 | .inr p1 =>
  some (-1))
def zn (a0:(List zkB)):Option Bool :=
 ((zH a0).bind λ c0 =>
 some (decide (c0 ≥ 0)))
structure zc2 where
 t14:Bool
structure zeC where
 t18:Int
structure zeT where
 t31:Bool
def zbU (a0:zkn) (g0:zeC):Option (zeC⊕(Unit⊕Unit)) :=
 (if (decide (g0.t18 < ((a0.fRe.length:Nat):Int)))=true then
  (zkk (0≤g0.t18∧g0.t18 < (a0.fRe.length:Int)) <|
  (((if (((nth a0.fRe g0.t18.toNat).Id) != g0.t18)=true then
    some (⟨true⟩:zeT)
   else
    ((zcG (⟨(nth a0.fRe g0.t18.toNat).Id,(nth a0.fRe g0.t18.toNat).fVe,((nth a0.fRe g0.t18.toNat).fTe)⟩:zkb)).bind λ c0 =>
    some (⟨(!c0)⟩:zeT))):Option zeT).bind λ p0 =>
  (if p0.t31=true then
   some (.inr (.inl ()))
  else
   some (.inl ⟨(wI (g0.t18+1))⟩))))
 else
  some (.inr (.inr ())))
def zeU (a0:zkn):Option Bool :=
 (((if (((a0.fRe.length:Nat):Int) != 2)=true then
   some (⟨true⟩:zc2)
  else
   some (⟨(decide (((a0.Line.length:Nat):Int) > 20))⟩:zc2)):Option zc2).bind λ p0 =>
 (if p0.t14=true then
  some false
 else
  ((zkx (zbU a0) ⟨0⟩).bind λ y0 =>
  match y0 with
  | .inl p1 =>
   some false
  | .inr p2 =>
   ((zn a0.Line).bind λ c0 =>
   some (!c0)))))
end Go.TL
namespace Go.TL
end Go.TL
namespace Go.TL
end Go.TL
namespace Go.TL
def zbg (a0:zkK):Option (ByteArray×zkK) :=
 ((zdo a0 ([(⟨#[97]⟩:ByteArray),(⟨#[98]⟩:ByteArray),(⟨#[99]⟩:ByteArray),(⟨#[112,97,121]⟩:ByteArray),(⟨#[115,104,105,112]⟩:ByteArray),(⟨#[115,49]⟩:ByteArray),(⟨#[115,50]⟩:ByteArray)])).bind λ c0 =>
 some (c0.1,c0.2))
structure zd8 where
 t21:Bool
def zbG (a0:zkq) (a1:Int) (a2:ByteArray):Option (Bool×Bool) :=
 ((((zbq a0).bind λ c0 =>
  (if (!c0)=true then
   some (⟨true⟩:zd8)
  else
   ((zal a1).bind λ c1 =>
   (if (!c1)=true then
    some (⟨true⟩:zd8)
   else
    ((zbj a2).bind λ c2 =>
    some (⟨(!c2)⟩:zd8)))))):Option zd8).bind λ p0 =>
 (if p0.t21=true then
  some (false,false)
 else
  ((za5 a0).bind λ c3 =>
  ((zbr c3 a1 a2).bind λ c4 =>
  (if c4.1=true then
   ((zbq c4.2).bind λ c5 =>
   some (c5,true))
  else
   some (false,true))))))
end Go.TL
namespace Go.TL
structure zBn where
 From:Int
 To:Int
 Many:Int
 deriving DecidableEq,Inhabited
structure zfb where
 t13:Int
def zcg (a0:(List Int)) (a1:(List Int)) (g0:zfb):Option (zfb⊕(Unit⊕Unit)) :=
 (if (decide (g0.t13 < ((a0.length:Nat):Int)))=true then
  (zkk (0≤g0.t13∧g0.t13 < (a0.length:Int)) <|
  (zkk (0≤g0.t13∧g0.t13 < (a1.length:Int)) <|
  (if ((nth a0 g0.t13.toNat) != (nth a1 g0.t13.toNat))=true then
   some (.inr (.inl ()))
  else
   some (.inl ⟨(wI (g0.t13+1))⟩))))
 else
  some (.inr (.inr ())))
def zfm (a0:(List Int)) (a1:(List Int)):Option Bool :=
 (if (((a0.length:Nat):Int) != ((a1.length:Nat):Int))=true then
  some false
 else
  ((zkx (zcg a0 a1) ⟨0⟩).bind λ y0 =>
  match y0 with
  | .inl p0 =>
   some false
  | .inr p1 =>
   some true))
end Go.TL
namespace Go.TL
structure zfN where
 t3:Int
 t11:Int
structure zie where
 t3:Int
structure zcH where
 t55:Bool
def zK (a0:(List zkd)) (g0:zfN):Option (zfN⊕zie) :=
 (if (decide (g0.t11 < ((a0.length:Nat):Int)))=true then
  (zkk (0≤g0.t11∧g0.t11 < (a0.length:Int)) <|
  (if (decide (g0.t3 < 0))=true then
   some (.inl ⟨g0.t11,(wI (g0.t11+1))⟩)
  else
   (zkk (0≤g0.t3∧g0.t3 < (a0.length:Int)) <|
   (zkk (0≤(wI (((((nth a0 g0.t11.toNat).fEv).length:Nat):Int) - 1))∧(wI (((((nth a0 g0.t11.toNat).fEv).length:Nat):Int) - 1)) < (((nth a0 g0.t11.toNat).fEv).length:Int)) <|
   (zkk (0≤(wI (((((nth a0 g0.t3.toNat).fEv).length:Nat):Int) - 1))∧(wI (((((nth a0 g0.t3.toNat).fEv).length:Nat):Int) - 1)) < (((nth a0 g0.t3.toNat).fEv).length:Int)) <|
   (((if (decide (((nth ((nth a0 g0.t11.toNat).fEv) ((wI (((((nth a0 g0.t11.toNat).fEv).length:Nat):Int) - 1)).toNat)).fVe) > ((nth ((nth a0 g0.t3.toNat).fEv) ((wI (((((nth a0 g0.t3.toNat).fEv).length:Nat):Int) - 1)).toNat)).fVe)))=true then
     some (⟨true⟩:zcH)
    else
     (if (((nth ((nth a0 g0.t11.toNat).fEv) ((wI (((((nth a0 g0.t11.toNat).fEv).length:Nat):Int) - 1)).toNat)).fVe) == ((nth ((nth a0 g0.t3.toNat).fEv) ((wI (((((nth a0 g0.t3.toNat).fEv).length:Nat):Int) - 1)).toNat)).fVe))=true then
      some (⟨(decide (((((nth a0 g0.t11.toNat).fEv).length:Nat):Int) ≥ ((((nth a0 g0.t3.toNat).fEv).length:Nat):Int)))⟩:zcH)
     else
      some (⟨false⟩:zcH))):Option zcH).bind λ p0 =>
   (if p0.t55=true then
    some (.inl ⟨g0.t11,(wI (g0.t11+1))⟩)
   else
    some (.inl ⟨g0.t3,(wI (g0.t11+1))⟩))))))))
 else
  some (.inr (⟨g0.t3⟩)))
def zcJ (a0:(List zkd)):Option Int :=
 ((zkx (zK a0) ⟨(-1),0⟩).bind λ y0 =>
 some y0.t3)
def zp (a0:(List zka)):Option (List zka) :=
 (zkk (a0.length * 40≤140737488355328) <|
 some (([])++a0))
def zeV (a0:(List zka)):Option Int :=
 (zkk (0≤(wI (((a0.length:Nat):Int) - 1))∧(wI (((a0.length:Nat):Int) - 1)) < (a0.length:Int)) <|
 some ((nth a0 ((wI (((a0.length:Nat):Int) - 1)).toNat)).fVe))
def zcK (a0:zkd) (a1:zkd):Option Int :=
 ((zeV a0.fEv).bind λ c0 =>
 ((zeV a1.fEv).bind λ c1 =>
 ((za2 c0 c1).bind λ c2 =>
 ((za2 ((a0.fEv.length:Nat):Int) ((a1.fEv.length:Nat):Int)).bind λ c3 =>
 ((zbm a0.fEv a1.fEv).bind λ c4 =>
 ((zfY ([c2,c3,c4])).bind λ c5 =>
 some c5))))))
structure zaa where
 t6:Int
 b1_0:(List zka)
structure zdN where
 b1_0:(List zka)
def za (a0:(List zkd)) (g0:zaa):Option (zaa⊕zdN) :=
 (if (decide (g0.t6 < ((a0.length:Nat):Int)))=true then
  (zkk (0≤g0.t6∧g0.t6 < (a0.length:Int)) <|
  ((zcK (nth a0 g0.t6.toNat) (⟨g0.b1_0⟩:zkd)).bind λ c0 =>
  (if (decide (c0 > 0))=true then
   (zkk (0≤g0.t6∧g0.t6 < (a0.length:Int)) <|
   some (.inl ⟨(wI (g0.t6+1)),(nth a0 g0.t6.toNat).fEv⟩))
  else
   some (.inl ⟨(wI (g0.t6+1)),g0.b1_0⟩))))
 else
  some (.inr (⟨g0.b1_0⟩)))
def zq (a0:(List zkd)):Option zkd :=
 (((if (decide (((a0.length:Nat):Int) < 1))=true then
   none
  else
   some (():Unit)):Option Unit).bind λ p0 =>
 (zkk (0 < (a0.length:Int)) <|
 ((zkx (za a0) ⟨1,(nth a0 0).fEv⟩).bind λ y0 =>
 some (⟨y0.b1_0⟩:zkd))))
def zcy (a0:zkh):Option (List zka) :=
 (if (((a0.fBr.length:Nat):Int) == 0)=true then
  some ([])
 else
  ((zq a0.fBr).bind λ c0 =>
  some c0.fEv))
def zh (a0:(List zka)):Option (List zka) :=
 zkk (a0.length * 40≤140737488355328) (some a0)
structure zcL where
 t10:Int
 c2:(List zkd)
structure zf7 where
 c2:(List zkd)
def zax (a0:zkh) (g0:zcL):Option (zcL⊕zf7) :=
 (if (decide (g0.t10 < ((a0.fBr.length:Nat):Int)))=true then
  (zkk (0≤g0.t10∧g0.t10 < (a0.fBr.length:Int)) <|
  ((zh ((nth a0.fBr g0.t10.toNat).fEv)).bind λ c0 =>
  (zkk ((g0.c2.length+1) * 24≤140737488355328) <|
  some (.inl ⟨(wI (g0.t10+1)),(g0.c2++[(⟨c0⟩:zkd)])⟩))))
 else
  some (.inr (⟨g0.c2⟩)))
def zah (a0:zkh):Option zkh :=
 ((zkx (zax a0) ⟨0,[]⟩).bind λ y0 =>
 some (⟨y0.c2⟩:zkh))
def zcz (a0:zkb):Option zlF :=
 ((zah a0.fTe).bind λ c0 =>
 some (⟨a0.fVe,c0⟩:zlF))
def zd9 (a0:zkb):Option (List zka) :=
 ((zcJ a0.fTe.fBr).bind λ c0 =>
 (if (decide (c0 < 0))=true then
  some ([])
 else
  (zkk (0≤c0∧c0 < (a0.fTe.fBr.length:Int)) <|
  some ((nth a0.fTe.fBr c0.toNat).fEv))))
def zba (a0:zkb):Option zkq :=
 ((zcy a0.fTe).bind λ c0 =>
 ((zcE c0).bind λ c1 =>
 some c1.1))
end Go.TL
namespace Go.TL
structure zfz where
 t28:Int
 c1:(List ByteArray)
structure zg2 where
 c0:(List ByteArray)
structure zfA where
 t41:Int
 c1:(List ByteArray)
structure zg3 where
 c1:(List ByteArray)
structure zft where
 t55:Bool
def zbH (c0:(zkq×Int)) (c1:(zkq×Int)) (g0:zfA):Option (zfA⊕zg3) :=
 (if (decide (g0.t41 < ((c0.1.fSi.length:Nat):Int)))=true then
  (zkk (0≤g0.t41∧g0.t41 < (c0.1.fSi.length:Int)) <|
  ((((zbC c1.1.fSi (nth c0.1.fSi g0.t41.toNat)).bind λ c2 =>
   (if (decide (c2 < 0))=true then
    ((zbC g0.c1 (nth c0.1.fSi g0.t41.toNat)).bind λ c3 =>
    some (⟨(decide (c3 < 0))⟩:zft))
   else
    some (⟨false⟩:zft))):Option zft).bind λ p0 =>
  (if p0.t55=true then
   ((zb0 g0.c1 (nth c0.1.fSi g0.t41.toNat)).bind λ c4 =>
   some (.inl ⟨(wI (g0.t41+1)),c4⟩))
  else
   some (.inl ⟨(wI (g0.t41+1)),g0.c1⟩))))
 else
  some (.inr (⟨g0.c1⟩)))
def zcM (a0:(List zkd)) (c0:(zkq×Int)) (g0:zfz):Option (zfz⊕zg2) :=
 (if (decide (g0.t28 < ((a0.length:Nat):Int)))=true then
  (zkk (0≤g0.t28∧g0.t28 < (a0.length:Int)) <|
  ((zcx ((nth a0 g0.t28.toNat).fEv)).bind λ c1 =>
  ((zkx (zbH c1 c0) ⟨0,g0.c1⟩).bind λ y0 =>
  some (.inl ⟨(wI (g0.t28+1)),y0.c1⟩))))
 else
  some (.inr (⟨g0.c1⟩)))
def zfO (a0:(List zkd)):Option (List ByteArray) :=
 ((zcJ a0).bind λ c0 =>
 (if (decide (c0 < 0))=true then
  some ([])
 else
  (zkk (0≤c0∧c0 < (a0.length:Int)) <|
  ((zcx ((nth a0 c0.toNat).fEv)).bind λ c1 =>
  ((zkx (zcM a0 c1) ⟨0,[]⟩).bind λ y0 =>
  some y0.c0)))))
structure zfB where
 t9:Int
 c0:(List ByteArray)
structure zg4 where
 c0:(List ByteArray)
def zcN (a0:(List zka)) (g0:zfB):Option (zfB⊕zg4) :=
 (if (decide (g0.t9 < ((a0.length:Nat):Int)))=true then
  (zkk (0≤g0.t9∧g0.t9 < (a0.length:Int)) <|
  (if (((nth a0 g0.t9.toNat).Kind) == 2)=true then
   (zkk ((g0.c0.length+1) * 16≤140737488355328) <|
   some (.inl ⟨(wI (g0.t9+1)),(g0.c0++([(nth a0 g0.t9.toNat).Name]))⟩))
  else
   some (.inl ⟨(wI (g0.t9+1)),g0.c0⟩)))
 else
  some (.inr (⟨g0.c0⟩)))
def zeW (a0:(List zka)):Option (List ByteArray) :=
 ((zkx (zcN a0) ⟨0,[]⟩).bind λ y0 =>
 some y0.c0)
def zc3 (a0:(List ByteArray)):Option (List ByteArray) :=
 zkk (a0.length < 4611686018427387904) (some (zod a0))
def zb5 (a0:(List ByteArray)):Option (List ByteArray) :=
 zkk (a0.length≤9223372036854775807) (some (zmH a0))
structure zdG where
 t16:Int
 c1:(List ByteArray)
structure zgt where
 c0:(List ByteArray)
structure zdH where
 t24:Int
 c1:(List ByteArray)
structure zgu where
 c1:(List ByteArray)
def zaq (c0:(List ByteArray)) (c1:(List ByteArray)) (g0:zdH):Option (zdH⊕zgu) :=
 (if (decide (g0.t24 < ((c0.length:Nat):Int)))=true then
  (zkk (0≤g0.t24∧g0.t24 < ((c0.length:Nat):Int)) <|
  ((zF c1 (nth c0 g0.t24.toNat)).bind λ c2 =>
  (if (!c2)=true then
   (zkk ((g0.c1.length+1) * 16≤140737488355328) <|
   some (.inl ⟨(wI (g0.t24+1)),(g0.c1++([(nth c0 g0.t24.toNat)]))⟩))
  else
   some (.inl ⟨(wI (g0.t24+1)),g0.c1⟩))))
 else
  some (.inr (⟨g0.c1⟩)))
def zbb (a0:zkh) (c0:(List ByteArray)) (g0:zdG):Option (zdG⊕zgt) :=
 (if (decide (g0.t16 < ((a0.fBr.length:Nat):Int)))=true then
  (zkk (0≤g0.t16∧g0.t16 < (a0.fBr.length:Int)) <|
  ((zeW ((nth a0.fBr g0.t16.toNat).fEv)).bind λ c1 =>
  ((zkx (zaq c1 c0) ⟨0,g0.c1⟩).bind λ y0 =>
  some (.inl ⟨(wI (g0.t16+1)),y0.c1⟩))))
 else
  some (.inr (⟨g0.c1⟩)))
def zdt (a0:zkh):Option (List ByteArray) :=
 ((zcy a0).bind λ c0 =>
 ((zeW c0).bind λ c1 =>
 ((zkx (zbb a0 c1) ⟨0,[]⟩).bind λ y0 =>
 ((zc3 y0.c0).bind λ c2 =>
 (zkk (c2.length=y0.c0.length) <|
 ((zb5 c2).bind λ c3 =>
 some c3))))))
end Go.TL

import Derived.Test.YteonagfnhdlfcaaGreatDoorG46PpAddS
open List renaming length_append → qM
open Int renaming toNat_natCast → qa
open Nat renaming le_refl → qb
set_option linter.unusedSimpArgs false
set_option linter.unusedVariables false
noncomputable section
set_option maxRecDepth 4000
namespace Go.TL
theorem zj1 {l:List zks} (hl:∀ s∈l,zk9 s):zdz l=some (ztx l):=by
 unfold zdz ztx
 by_cases h:l.length > 120
 ·rw [if_pos h]
  exact if_pos (by rw [decide_eq_true_eq];omega)
 rw [if_neg h]
 refine (if_neg (by rw [decide_eq_true_eq];omega)).trans ?_
 have e0:zgn=some zz9:=rfl
 refine zke e0 ?_
 have key:=zkZ (step:=zbc l) (λ i (c:zkn×List Int)=>(⟨i,c.2,c.1.fRe,c.1.Line⟩:zdJ)) l.length (λ i=>zny l i) (λ c=>(⟨c.2,c.1.fRe,c.1.Line⟩:zgv)) (λ i hi=>?_) ?_
 ·rw [zpN] at key
  refine zke key ?_
  rfl
 ·obtain ⟨h1,h2⟩:=zo9 hl i (by omega)
  have e1:=wS (i:=i) (by omega)
  unfold zbc
  simp only [qa,e1]
  refine (if_pos (by rw [decide_eq_true_eq];omega)).trans ?_
  refine (zj9 (by omega) _).trans ?_
  refine zke (zj4 h1 (hl _ (zkJ hi))) ?_
  rw [znU hi]
  exact zj9 (by omega) _
 ·unfold zbc
  exact if_neg (by simp)
theorem zvA {w:zkn} (g:GW w):zbO w w=some true:=by
 have hl:=g.len
 have hL:=g.line
 unfold zbO
 refine zke (x:=⟨false⟩) ?_ ?_
 ·refine (if_neg (by simp)).trans ?_
  simp
 refine (if_neg (by simp)).trans ?_
 have k1:=zkZ (step:=zaj w w) (λ i (_:Unit)=>(⟨i⟩:zei)) w.fRe.length (λ _=>()) (λ _=>(.inr ():Unit⊕Unit)) (λ i hi=>?_) ?_
 ·refine zke k1 ?_
  have k2:=zkZ (step:=zaJ w w) (λ i (_:Unit)=>(⟨i⟩:zej)) w.Line.length (λ _=>()) (λ _=>(.inr ():Unit⊕Unit)) (λ i hi=>?_) ?_
  ·exact zke k2 rfl
  ·have e1:=wS (i:=i) (by omega)
   have hm:zrj (nth w.Line i).Word.fTe.fBr:=znj (zmB (t:=(nth w.Line i).Word.fTe) (zkV (g.said _ (zkJ hi)).2.1))
   unfold zaJ
   simp only [qa,e1]
   refine (if_pos (by rw [decide_eq_true_eq];omega)).trans ?_
   refine zke (x:=⟨false⟩) ?_ rfl
   refine (zj9 (by omega) _).trans ?_
   refine (zj9 (by omega) _).trans ?_
   refine (if_neg (by simp)).trans ?_
   refine (zj9 (by omega) _).trans ?_
   refine (zj9 (by omega) _).trans ?_
   refine (if_neg (by simp)).trans ?_
   refine (zj9 (by omega) _).trans ?_
   refine (zj9 (by omega) _).trans ?_
   exact zke (zoG _ hm) rfl
  ·unfold zaJ
   exact if_neg (by simp)
 ·have e1:=wS (i:=i) (by omega)
  unfold zaj
  simp only [qa,e1]
  refine (if_pos (by rw [decide_eq_true_eq];omega)).trans ?_
  refine (zj9 (by omega) _).trans ?_
  refine (zj9 (by omega) _).trans ?_
  refine zke (zsr (nth w.fRe i) (zug (g.reg i (by omega)).1)) ?_
  rfl
 ·unfold zaj
  exact if_neg (by simp)
theorem zty (a:List Int) (h:a.length≤1000):zfm a a=some true:=by
 unfold zfm
 refine (if_neg (by simp)).trans ?_
 have key:=zkZ (step:=zcg a a) (λ i (_:Unit)=>(⟨i⟩:zfb)) a.length (λ _=>()) (λ _=>(.inr ():Unit⊕Unit)) (λ i hi=>?_) ?_
 ·exact zke key rfl
 ·have e1:=wS (i:=i) (by omega)
  unfold zcg
  simp only [qa,e1]
  refine (if_pos (by rw [decide_eq_true_eq];omega)).trans ?_
  refine (zj9 (by omega) _).trans ?_
  refine (zj9 (by omega) _).trans ?_
  exact if_neg (by simp)
 ·unfold zcg
  exact if_neg (by simp)
def zmM (w:zkn):List zkd:=(nth w.fRe 0).fTe.fBr++(nth w.fRe 1).fTe.fBr
theorem zyn {w:zkn} (g:GW w) (c:List Int) (b:Bool):zkx (zJ (w,c,b)) ⟨0,[]⟩=some ⟨zmM w⟩:=by
 have hl:=g.len
 have m0:=zla (zkV (g.reg 0 (by omega)).1.1)
 have m1:=zla (zkV (g.reg 1 (by omega)).1.1)
 have h0:zJ (w,c,b) ⟨0,[]⟩=some (.inl ⟨1,(nth w.fRe 0).fTe.fBr⟩):=by
  unfold zJ
  refine (if_pos (by rw [decide_eq_true_eq];show (0:Int) < (w.fRe.length:Int);omega)).trans ?_
  refine (zj9 (by show (0:Int)≤0∧(0:Int) < (w.fRe.length:Int);omega) _).trans ?_
  refine (zj9 (by simp;omega) _).trans ?_
  rfl
 have h1:zJ (w,c,b) ⟨1,(nth w.fRe 0).fTe.fBr⟩=some (.inl ⟨2,zmM w⟩):=by
  unfold zJ
  refine (if_pos (by rw [decide_eq_true_eq];show (1:Int) < (w.fRe.length:Int);omega)).trans ?_
  refine (zj9 (by show (0:Int)≤1∧(1:Int) < (w.fRe.length:Int);omega) _).trans ?_
  refine (zj9 (by show ((nth w.fRe 0).fTe.fBr.length+(nth w.fRe 1).fTe.fBr.length) * 24≤_;omega) _).trans ?_
  rfl
 have h2:zJ (w,c,b) ⟨2,zmM w⟩=some (.inr ⟨zmM w⟩):=by
  unfold zJ
  exact if_neg (by rw [decide_eq_true_eq];show ¬ ((2:Int) < (w.fRe.length:Int));omega)
 rw [zlQ h0,zlQ h1]
 exact zk3 h2
theorem zB4 {w:zkn} (o:zrm w) {b:zkd} (hb:b∈zmM w):∃ x y,One x y w.Line∧∀ c∈zmM w,inO x y w.Line c.fEv:=by
 obtain ⟨x,y,e,h⟩:=o
 refine ⟨x,y,h,λ c hc=>?_⟩
 unfold zmM at hc
 rw [e] at hc
 rcases List.mem_append.1 hc with hc | hc
 ·exact .inl hc
 ·exact .inr (.inl hc)
theorem zxd {w:zkn} (g:GW w):(zmM w).length≤24:=by
 have m0:=zla (zkV (g.reg 0 (by omega)).1.1)
 have m1:=zla (zkV (g.reg 1 (by omega)).1.1)
 unfold zmM
 rw [qM]
 omega
theorem zww {w:zkn} (g:GW w) {b:zkd} (hb:b∈zmM w):zlC b.fEv=true∧zkP b.fEv=true∧zls b.fEv:=by
 have key:∀ i,i < 2→b∈(nth w.fRe i).fTe.fBr→zlC b.fEv=true∧zkP b.fEv=true∧zls b.fEv:=λ i hi h=>by
  have hr:=(g.reg i hi).1
  have ht:=(zk4 (zkV hr.1)).1 _ h
  exact ⟨ht,zkL ht,hr.2.2.2.2 _ h⟩
 unfold zmM at hb
 rcases List.mem_append.1 hb with hb | hb
 ·exact key 0 (by omega) hb
 ·exact key 1 (by omega) hb
theorem zyo {w:zkn} (g:GW w) (o:zrm w) {i:Nat} (hi:i < (zmM w).length):zkx (zaW ⟨(i:Int)⟩ ⟨zmM w⟩ (itD (nth (zmM w) i).fEv)) ⟨0⟩=some (.inr ()):=by
 have h24:=zxd g
 obtain ⟨x,y,h1,hin⟩:=zB4 o (zkJ hi)
 obtain ⟨ta,ha,oa⟩:=zww g (zkJ hi)
 have la:=zk8 ha
 have key:=zkZ (step:=zaW ⟨(i:Int)⟩ ⟨zmM w⟩ (itD (nth (zmM w) i).fEv)) (λ j (_:Unit)=>(⟨j⟩:zc6)) i (λ _=>()) (λ _=>(.inr ():Unit⊕Unit)) (λ j hj=>?_) ?_
 ·exact key
 ·have hjl:j < (zmM w).length:=by omega
  obtain ⟨tb,hb,ob⟩:=zww g (zkJ hjl)
  have lb:=zk8 hb
  have e1:=wS (i:=j) (by omega)
  obtain ⟨ia,ja⟩:=zxc ha
  obtain ⟨ib,jb⟩:=zxc hb
  unfold zaW
  simp only [qa,e1]
  refine (if_pos (by rw [decide_eq_true_eq];omega)).trans ?_
  refine (zj9 (by omega) _).trans ?_
  refine (zj9 hjl _).trans ?_
  refine zke (zhR hb) ?_
  refine zke (zjU ia ib ha hb (by split<;>omega) (by split<;>omega) ja jb) ?_
  refine zke (zjE _ _ oa ob) ?_
  have ep:zwX (nth (zmM w) i).fEv (nth (zmM w) j).fEv=((((zk7 (nth (zmM w) i).fEv (nth (zmM w) j).fEv).2:Nat):Int),true):=by
   unfold zwX
   rw [ta,tb]
   rfl
  rw [ep]
  refine (if_neg (by simp)).trans ?_
  refine zke (x:=⟨false⟩) ?_ rfl
  cases h2:(itD (nth (zmM w) i).fEv).2
  ·rfl
  refine (if_pos rfl).trans ?_
  cases h3:(itD (nth (zmM w) j).fEv).2
  ·rfl
  refine (if_pos rfl).trans ?_
  rw [if_pos rfl,if_pos rfl]
  have hc:=h1.com (hin _ (zkJ hi)) (hin _ (zkJ hjl))
  unfold zB3
  rw [hc]
  by_cases h0:(zk7 (nth (zmM w) i).fEv (nth (zmM w) j).fEv).2=0
  ·rw [if_pos h0,h0]
   rfl
  ·rw [if_neg h0]
   refine (if_neg (by simp;omega)).trans ?_
   refine (if_pos rfl).trans ?_
   simp
 ·unfold zaW
  exact if_neg (by simp)
theorem zyp {w:zkn} (g:GW w) (o:zrm w):zkx (zaX ⟨zmM w⟩) ⟨0⟩=some (.inr ()):=by
 have h24:=zxd g
 have key:=zkZ (step:=zaX ⟨zmM w⟩) (λ j (_:Unit)=>(⟨j⟩:zbP)) (zmM w).length (λ _=>()) (λ _=>(.inr ():Unit⊕Unit)) (λ i hi=>?_) ?_
 ·exact key
 ·obtain ⟨ta,ha,oa⟩:=zww g (zkJ hi)
  have e1:=wS (i:=i) (by omega)
  unfold zaX
  simp only [qa,e1]
  refine (if_pos (by rw [decide_eq_true_eq];omega)).trans ?_
  refine (zj9 (by omega) _).trans ?_
  refine zke (zhR ha) ?_
  refine zke (zjA ha oa) ?_
  refine (if_neg (by simp)).trans ?_
  refine (zj9 (by omega) _).trans ?_
  refine zke (zyo g o hi) ?_
  rfl
 ·unfold zaX
  exact if_neg (by simp)
theorem zyq (code:List Int) (h:∀ y∈code,0≤y∧y≤255):zeG code=some true:=by
 unfold zeG
 by_cases hl:code.length > 1048576
 ·exact if_pos (by rw [decide_eq_true_eq];omega)
 refine (if_neg (by rw [decide_eq_true_eq];omega)).trans ?_
 obtain ⟨l,el,hs⟩:=zAc h
 refine zke el ?_
 refine zke (zj1 hs) ?_
 refine zke (zj5 hs) ?_
 by_cases h120:l.length > 120
 ·have e:ztx l=(⟨[],[]⟩,[],false):=if_pos h120
  rw [e]
  refine zke (x:=⟨false⟩) ?_ ?_
  ·refine (if_neg (by simp)).trans ?_
   refine zke (zty [] (by simp)) ?_
   refine (if_neg (by simp)).trans ?_
   have ew:zbO ⟨[],[]⟩ ⟨[],[]⟩=some true:=by
    unfold zbO
    refine zke (x:=⟨false⟩) rfl ?_
    refine (if_neg (by simp)).trans ?_
    have a1:zkx (zaj ⟨[],[]⟩ ⟨[],[]⟩) ⟨0⟩=some (.inr ()):=zk3 (by unfold zaj;exact if_neg (by simp))
    refine zke a1 ?_
    have a2:zkx (zaJ ⟨[],[]⟩ ⟨[],[]⟩) ⟨0⟩=some (.inr ()):=zk3 (by unfold zaJ;exact if_neg (by simp))
    exact zke a2 rfl
   exact zke ew rfl
  ·rfl
 ·have e:ztx l=((zrd l).1,(zrd l).2,true):=if_neg h120
  obtain ⟨g,hc⟩:=zo9 hs l.length (qb _)
  have o:=zvz hs l.length (qb _)
  rw [zpN] at g hc o
  rw [e]
  refine zke (x:=⟨false⟩) ?_ ?_
  ·refine (if_neg (by simp)).trans ?_
   refine zke (zty (zrd l).2 (by omega)) ?_
   refine (if_neg (by simp)).trans ?_
   exact zke (zvA g) rfl
  ·refine (if_neg (by simp)).trans ?_
   refine (if_neg (by simp)).trans ?_
   refine zke (zyn g _ _) ?_
   refine zke (zyp g o) ?_
   refine zke ((ziQ _ g.good.2).trans (by rw [g.good.1])) ?_
   refine (if_pos rfl).trans ?_
   exact zke ((zg7 _ g.good.2).trans (by rw [g.good.1])) rfl
end Go.TL

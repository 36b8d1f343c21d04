import Derived.Test.YteonagfnhdlfcaaGreatDoorG24PpR2D
import Derived.Test.YteonagfnhdlfcaaGreatDoorG19PlR1
open List renaming length_set → qL, length_append → qM, length_cons → qP, length_nil → qQ, length_take → qe, length_drop → qg, length_singleton → qh, drop_eq_getElem_cons → qi, getElem_of_mem → qj, mem_append → qn, mem_of_mem_take → qr, mem_of_mem_drop → qt, mem_singleton → qu, nil_append → qv
open Option renaming bind_some → qa
open Int renaming toNat_natCast → qb, lt_irrefl → qw, ofNat_lt → qz
open Bool renaming false_eq_true → qc, and_eq_true → qd, eq_iff_iff → qf, not_true → qk, true_and → ql, false_or → qm, not_eq_true → qo, or_eq_true → qp, not_false → qq, true_or → qx
open Nat renaming lt_or_ge → qy
set_option linter.unusedSimpArgs false
set_option linter.unusedVariables false
noncomputable section
set_option maxRecDepth 4000
namespace Go.TL
def zrM (x:EventT):Prop:=zlV x.Id∧zlV x.fVe∧zlV x.Kind∧zn1 x.Name
def zpF (x:EventT):Prop:=zqd x.Id∧zqd x.fVe∧zqd x.Kind∧zBG x.Name
theorem zuY {x:EventT} (h:zrM x):zpF x:=⟨zmd h.1,zmd h.2.1,zmd h.2.2.1,zwU h.2.2.2⟩
def zlt (x:(List EventT)):Prop:=x.length≤9223372036854775807∧∀ y∈x,zrM y
def zqe (x:(List EventT)):Prop:=x.length≤9223372036854775807∧∀ y∈x,zpF y
theorem ztU {x:(List EventT)} (h:zlt x):zqe x:=⟨h.1,λ y hy=>zuY (h.2 y hy)⟩
theorem zi2 (a b:EventT) (ha:zpF a):zfd a b=some (decide (a=b)):=by
 unfold zpF at ha
 unfold zfd
 obtain ⟨x0,x1,x2,x3⟩:=a
 obtain ⟨y0,y1,y2,y3⟩:=b
 simp only [sEq,qa,EventT.mk.injEq]
 by_cases h0:x0=y0
 rotate_left
 ·simp [h0]
 by_cases h1:x1=y1
 rotate_left
 ·simp [h1]
 by_cases h2:x2=y2
 rotate_left
 ·simp [h2]
 by_cases h3:x3=y3
 rotate_left
 ·simp [h3]
 simp [h0,h1,h2,h3]
theorem ziG (a b:(List EventT)) (ha:zqe a):zeP a b=some (decide (a=b)):=by
 obtain ⟨ha1,ha2⟩:=ha
 unfold zeP
 by_cases hl:a.length=b.length
 ·rw [if_neg (by simp [hl])]
  have key:=zoK (step:=zbQ a b) (λ i=>(⟨i⟩:zeG)) a b hl (λ i hi=>?_) ?_
  ·rw [key];by_cases h:a=b<;>simp [h]
  ·have hm:=ha2 _ (zks hi)
   unfold zbQ
   simp (disch:=omega) only [decide_eq_true_eq,if_pos,zjL,qb,zj0]
   rw [zi2 _ _ hm];simp only [qa]
   by_cases h:nth a i=nth b i<;>simp [h]
  ·unfold zbQ
   rw [if_neg (by simp)]
 ·rw [if_pos (by simp;omega)]
  simp [show a≠b from λ h=>hl (by rw [h])]
def zs0 (x:BranchT):Prop:=zlt x.fEv
def zoL (x:BranchT):Prop:=zqe x.fEv
theorem ztV {x:BranchT} (h:zs0 x):zoL x:=ztU h
def zmk (x:(List BranchT)):Prop:=x.length≤9223372036854775807∧∀ y∈x,zs0 y
def zpi (x:(List BranchT)):Prop:=x.length≤9223372036854775807∧∀ y∈x,zoL y
theorem zsu {x:(List BranchT)} (h:zmk x):zpi x:=⟨h.1,λ y hy=>ztV (h.2 y hy)⟩
def zkz (x:TellingsT):Prop:=zmk x.fBr
def zmx (x:TellingsT):Prop:=zpi x.fBr
theorem zoy {x:TellingsT} (h:zkz x):zmx x:=zsu h
theorem ziH (a b:BranchT) (ha:zoL a):zeQ a b=some (decide (a=b)):=by
 unfold zoL at ha
 unfold zeQ
 rw [ziG _ _ (ha)]
 obtain ⟨x0⟩:=a
 obtain ⟨y0⟩:=b
 simp only [sEq,qa,BranchT.mk.injEq]
 by_cases h0:x0=y0
 rotate_left
 ·simp [h0]
 simp [h0]
theorem zig (a b:(List BranchT)) (ha:zpi a):zen a b=some (decide (a=b)):=by
 obtain ⟨ha1,ha2⟩:=ha
 unfold zen
 by_cases hl:a.length=b.length
 ·rw [if_neg (by simp [hl])]
  have key:=zoK (step:=zbt a b) (λ i=>(⟨i⟩:zd4)) a b hl (λ i hi=>?_) ?_
  ·rw [key];by_cases h:a=b<;>simp [h]
  ·have hm:=ha2 _ (zks hi)
   unfold zbt
   simp (disch:=omega) only [decide_eq_true_eq,if_pos,zjL,qb,zj0]
   rw [ziH _ _ hm];simp only [qa]
   by_cases h:nth a i=nth b i<;>simp [h]
  ·unfold zbt
   rw [if_neg (by simp)]
 ·rw [if_pos (by simp;omega)]
  simp [show a≠b from λ h=>hl (by rw [h])]
theorem zgs (a b:TellingsT) (ha:zmx a):zci a b=some (decide (a=b)):=by
 unfold zmx at ha
 unfold zci
 rw [zig _ _ (ha)]
 obtain ⟨x0⟩:=a
 obtain ⟨y0⟩:=b
 simp only [sEq,qa,TellingsT.mk.injEq]
 by_cases h0:x0=y0
 rotate_left
 ·simp [h0]
 simp [h0]
end Go.TL
namespace Go.TL
theorem zs2:∀ a b:List UInt8,zkx a b=true∨a=b∨zkx b a=true
 | [],[]=>.inr (.inl rfl)
 | [],_ :: _=>.inl rfl
 | _ :: _,[]=>.inr (.inr rfl)
 | x :: r,y :: q=>by
  simp only [zkx,qp,qd,decide_eq_true_eq,beq_iff_eq,List.cons.injEq]
  rcases Nat.lt_trichotomy x.toNat y.toNat with h | h | h
  ·exact .inl (.inl (UInt8.lt_iff_toNat_lt.2 h))
  ·have e:x=y:=UInt8.toNat_inj.1 h
   subst e
   rcases zs2 r q with h | h | h
   ·exact .inl (.inr ⟨rfl,h⟩)
   ·exact .inr (.inl ⟨rfl,h⟩)
   ·exact .inr (.inr (.inr ⟨rfl,h⟩))
  ·exact .inr (.inr (.inl (UInt8.lt_iff_toNat_lt.2 h)))
theorem zkQ (a:ByteArray):sLt a a=false:=zpE _
theorem zml {a b c:ByteArray} (h1:sLt a b=true) (h2:sLt b c=true):sLt a c=true:=zqC _ _ _ h1 h2
theorem zmy {a b:ByteArray} (h:sLt a b=true):sLt b a=false:=by
 cases h2:sLt b a with
 | false=>rfl
 | true=>have:=zml h h2;rw [zkQ] at this;cases this
theorem zn2 (a b:ByteArray):sLt a b=true∨a=b∨sLt b a=true:=by
 rcases zs2 a.toList b.toList with h | h | h
 ·exact .inl h
 ·exact .inr (.inl (zsW h))
 ·exact .inr (.inr h)
theorem sGt (a b:ByteArray):(!(sLt a b || a.toList == b.toList))=sLt b a:=by
 rw [sEq]
 rcases zn2 a b with h | h | h
 ·simp [h,zmy h]
 ·subst h;simp [zkQ]
 ·have hn:a≠b:=λ e=>by subst e;rw [zkQ] at h;cases h
  simp [h,zmy h,hn]
def zkt (l:List ByteArray) (s:ByteArray):Bool:=l.any λ x=>decide (x=s)
theorem znJ {l:List ByteArray} {s:ByteArray}:zkt l s=true↔s∈l:=by
 unfold zkt
 rw [List.any_eq_true]
 exact ⟨λ ⟨x,h1,h2⟩=>by rw [decide_eq_true_eq] at h2;rw [← h2];exact h1,λ h=>⟨s,h,by simp⟩⟩
def atS (l:List ByteArray) (s:ByteArray):Option Nat:=zlH (λ i=>decide (nth l i=s)) l.length
theorem zrN (l:List ByteArray) (s:ByteArray):(atS l s).isSome=zkt l s:=znH l λ x=>decide (x=s)
theorem zjw (l:List ByteArray) (s:ByteArray) (hl:l.length≤9223372036854775807):zbe l s=some (match atS l s with | some i=>(i:Int) | none=>-1):=by
 unfold zbe
 have key:=zlU (step:=zdp l s) (λ i=>(⟨i⟩:zfO)) l.length (λ i=>decide (nth l i=s)) (λ i=>(.inl ⟨i⟩:zg8⊕Unit)) (.inr ()) (λ i hi hv=>?_) ?_
 ·rw [key]
  unfold atS
  cases zlH (λ i=>decide (nth l i=s)) l.length<;>rfl
 ·unfold zdp
  simp (disch:=omega) only [decide_eq_true_eq,if_pos,zjL,qb,zj0,qa,sEq]
  by_cases h:nth l i=s
  ·rw [if_pos h,if_pos h]
  ·rw [if_neg h,if_neg h];rfl
 ·unfold zdp
  rw [if_neg (by simp)]
theorem zdt (l:List ByteArray) (s:ByteArray) (hl:l.length≤9223372036854775807):∃ k,zbe l s=some k∧decide (k ≥ 0)=zkt l s:=by
 refine ⟨_,zjw l s hl,?_⟩
 rw [← zrN]
 cases atS l s with
 | none=>rfl
 | some i=>simp
theorem zme (l:List ByteArray) (s:ByteArray) (hl:l.length≤9223372036854775807):zo l s=some (zkt l s):=by
 unfold zo zdd
 have key:=zlU (step:=zU l s) (λ i=>(⟨i⟩:zb1)) l.length (λ i=>decide (nth l i=s)) (λ i=>(.inl ⟨i⟩:zfb⊕Unit)) (.inr ()) (λ i hi hv=>?_) ?_
 ·rw [key,← zrN]
  unfold atS
  cases zlH (λ i=>decide (nth l i=s)) l.length<;>simp
 ·unfold zU
  simp (disch:=omega) only [decide_eq_true_eq,if_pos,zjL,qb,zj0,qa,sEq]
  by_cases h:nth l i=s
  ·rw [if_pos h.symm,if_pos h]
  ·rw [if_neg (λ e=>h e.symm),if_neg h];rfl
 ·unfold zU
  rw [if_neg (by simp)]
theorem zmz {α:Type} [Inhabited α] {l:List α} {i k:Nat} (h:k < i):nth (l.take i) k=nth l k:=by
 unfold nth
 rw [List.getD_eq_getElem?_getD,List.getD_eq_getElem?_getD,List.getElem?_take_of_lt h]
def okL (r:Bool) (l:List ByteArray):Bool :=
 decide (l.length≤30) && zmw (λ i=>zkO (nth l i) && zmw (λ k=>!decide (nth l k=nth l i) && (!r || !decide (k+1=i) || !sLt (nth l i) (nth l k))) i) l.length
theorem zgP (r:Bool) (l:List ByteArray) (hl:zrK l):zdq l r=some (okL r l):=by
 have h1:=hl.1
 unfold zdq okL
 have key:=zk9 (step:=zbO l r) (λ i=>(⟨i⟩:zbM)) l.length (λ i=>zkO (nth l i) && zmw (λ k=>!decide (nth l k=nth l i) && (!r || !decide (k+1=i) || !sLt (nth l i) (nth l k))) i) (.inr ():Unit⊕Unit) (.inl ()) (λ i hi hv=>?_) (λ _=>?_)
 ·rw [key]
  have hsz:decide (((l.length:Nat):Int)≤30)=decide (l.length≤30):=by congr 1;apply propext;omega
  cases zmw (λ i=>zkO (nth l i) && zmw (λ k=>!decide (nth l k=nth l i) && (!r || !decide (k+1=i) || !sLt (nth l i) (nth l k))) i) l.length
  ·simp
  ·simp [hsz]
 ·have hm:zn1 (nth l i):=hl.2 _ (zks hi)
  unfold zbO
  rw [if_pos (by simp;omega),zjL (by simp;omega)]
  simp only [qb]
  rw [zgm _ hm]
  simp only [qa]
  cases hn:zkO (nth l i)
  ·simp
  have ht:(l.take i).length=i:=by rw [qe];omega
  rw [if_neg (by simp),zjL (by simp;omega)]
  have key2:=zk9 (step:=zbN l (⟨(i:Int)⟩:zbM) r) (λ k=>(⟨k⟩:zeE)) i (λ k=>!decide (nth l k=nth l i) && (!r || !decide (k+1=i) || !sLt (nth l i) (nth l k))) (.inr ():Unit⊕Unit) (.inl ()) (λ k hk _=>?_) (λ _=>?_)
  ·rw [key2,ql]
   cases zmw (λ k=>!decide (nth l k=nth l i) && (!r || !decide (k+1=i) || !sLt (nth l i) (nth l k))) i
   ·simp
   ·simp (disch:=omega) [zj0]
  ·unfold zbN
   simp only [qb,ht]
   rw [if_pos (by simp;omega),zjL (by omega)]
   simp (disch:=omega) only [zmz hk,sGt,zj0]
   rw [sEq]
   have ek:(((k:Int)) == (i:Int) - 1)=decide (k+1=i):=by
    rw [qf,beq_iff_eq,decide_eq_true_eq];omega
   rw [ek]
   by_cases he:nth l k=nth l i
   ·simp [he]
   ·cases r
    ·simp [he]
    ·by_cases h2:k+1=i
     ·cases h3:sLt (nth l i) (nth l k)<;>(simp [he,h2,h3];try omega)
     ·simp [he,h2]
  ·unfold zbN
   simp only [qb,ht]
   rw [if_neg (by simp)]
 ·unfold zbO
  rw [if_neg (by simp)]
theorem zg9 (l:List ByteArray) (hl:l.length≤9223372036854775807):zeh l 30=some (decide (l.length≤30) && l.all zkO):=by
 unfold zeh
 by_cases h:l.length≤30
 rotate_left
 ·rw [if_neg (by simp;omega)];simp [h]
 rw [if_pos (by simp;omega)]
 unfold zt zA
 have key:=zlU (step:=ze l) (λ i=>(⟨i⟩:zr)) l.length (λ i=>!zkO (nth l i)) (λ i=>(.inl ⟨i⟩:zaR⊕Unit)) (.inr ()) (λ i hi hv=>?_) ?_
 ·rw [key]
  have e:=znH l λ x=>!zkO x
  have e2:(l.any λ x=>!zkO x)=!l.all zkO:=by
   rw [qf];simp
  rw [e2] at e
  cases hf:zlH (λ i=>!zkO (nth l i)) l.length with
  | none=>rw [hf] at e;simp at e;simp [h];exact e
  | some i=>rw [hf] at e;simp at e;simp [h];exact e
 ·unfold ze ze0
  simp (disch:=omega) only [decide_eq_true_eq,if_pos,zjL,qb,zj0,qa,zbT]
  cases zkO (nth l i)<;>rfl
 ·unfold ze
  rw [if_neg (by simp)]
def zuZ (l:List ByteArray):Bool:=zmw (λ i=>!zkt (l.take i) (nth l i)) l.length
theorem zgQ (l:List ByteArray) (hl:l.length≤9223372036854775807):zdr l=some (zuZ l):=by
 unfold zdr zuZ
 have key:=zk9 (step:=zbP l) (λ i=>(⟨i⟩:zeF)) l.length (λ i=>!zkt (l.take i) (nth l i)) (.inr ():Unit⊕Unit) (.inl ()) (λ i hi hv=>?_) (λ _=>?_)
 ·rw [key]
  cases zmw (λ i=>!zkt (l.take i) (nth l i)) l.length<;>simp
 ·unfold zbP
  rw [if_pos (by simp;omega),zjL (by simp;omega),zjL (by simp;omega)]
  simp only [qb]
  rw [zme _ _ (by rw [qe];omega)]
  simp only [qa]
  rw [zj0 (by omega)]
  cases zkt (l.take i) (nth l i)<;>rfl
 ·unfold zbP
  rw [if_neg (by simp)]
theorem zrO (a b:ByteArray):zcg a b=some (sLt a b):=by
 unfold zcg zag
 simp
def zrP (l:List ByteArray):Bool:=zmw (λ i=>decide (i=0) || !sLt (nth l i) (nth l (i - 1))) l.length
theorem ziJ (l:List ByteArray) (hl:l.length≤9223372036854775807):zaS l=some (zrP l):=by
 have key:∀ m:Nat,m < l.length→(∀ j,m < j→j < l.length→(decide (j=0) || !sLt (nth l j) (nth l (j - 1)))=true)→zjZ (zm l) ⟨(m:Int)⟩=some (if zrP l=true then .inr () else .inl ()):=by
  intro m
  induction m with
  | zero =>
   intro hm hv
   have hs:zrP l=true:=zkU.2 λ i hi=>by
    by_cases h0:i=0
    ·simp [h0]
    ·exact hv i (by omega) hi
   rw [zkl (r:=.inr ()) (by unfold zm;rw [if_neg (by simp)]),if_pos hs]
  | succ m ih =>
   intro hm hv
   have h1:zm l ⟨((m+1:Nat):Int)⟩=some (if sLt (nth l (m+1)) (nth l m)=true then .inr (.inl ()) else .inl ⟨(m:Int)⟩):=by
    unfold zm
    have e:wI (((m+1:Nat):Int) - 1)=(m:Int):=by rw [zj0 (by omega)];omega
    simp only [e,qb]
    rw [if_pos (by simp),zjL (by omega),zjL (by omega),zrO]
    simp only [qa]
    split<;>rfl
   by_cases hc:sLt (nth l (m+1)) (nth l m)=true
   ·rw [if_pos hc] at h1
    have hs:¬ zrP l=true:=λ h=>by
     have:=zkU.1 h (m+1) hm
     simp [hc] at this
    rw [zkl h1,if_neg hs]
   ·rw [if_neg hc] at h1
    rw [zkX h1]
    exact ih (by omega) λ j hj hjl=>by
     by_cases e:j=m+1
     ·subst e;simp at hc;simp [hc]
     ·exact hv j (by omega) hjl
 unfold zaS
 rcases Nat.eq_zero_or_pos l.length with h0 | h0
 ·have hs:zrP l=true:=zkU.2 λ i hi=>by omega
  rw [h0]
  have e:wI (((0:Nat):Int) - 1)=-1:=by rw [zj0 (by omega)];rfl
  rw [e,zkl (r:=.inr ()) (by unfold zm;rw [if_neg (by decide)]),hs]
  rfl
 ·have e:wI (((l.length:Nat):Int) - 1)=((l.length - 1:Nat):Int):=by rw [zj0 (by omega)];omega
  rw [e,key (l.length - 1) (by omega) λ j hj hjl=>by omega]
  cases zrP l<;>rfl
theorem zs3 (l:List ByteArray):okL false l=((decide (l.length≤30) && l.all zkO) && zuZ l):=by
 unfold okL zuZ
 rw [← zpC l zkO,qf]
 simp only [qd,zkU,qq,qx,and_true,Bool.not_eq_true',← qo,znJ,decide_eq_true_eq]
 constructor
 ·rintro ⟨h1,h2⟩
  refine ⟨⟨h1,λ i hi=>(h2 i hi).1⟩,λ i hi hm=>?_⟩
  obtain ⟨k,hk,e⟩:=qj hm
  rw [qe] at hk
  rw [← zkj (by rw [qe];omega),zmz (by omega)] at e
  exact (h2 i hi).2 k (by omega) e
 ·rintro ⟨⟨h1,h2⟩,h3⟩
  refine ⟨h1,λ i hi=>⟨h2 i hi,λ k hk e=>h3 i hi ?_⟩⟩
  rw [← e,← zmz hk]
  exact zks (by rw [qe];omega)
theorem zy6 (l:List ByteArray):okL true l=(((decide (l.length≤30) && l.all zkO) && zrP l) && zuZ l):=by
 have e:okL true l=(okL false l && zrP l):=by
  unfold okL zrP
  rw [qf]
  simp only [qd,zkU,qq,qx,and_true,qk,qm,qp]
  constructor
  ·rintro ⟨h1,h2⟩
   refine ⟨⟨h1,λ i hi=>⟨(h2 i hi).1,λ k hk=>((h2 i hi).2 k hk).1⟩⟩,λ i hi=>?_⟩
   by_cases h0:i=0
   ·exact .inl (by simp [h0])
   ·have:=((h2 i hi).2 (i - 1) (by omega)).2
    rw [decide_eq_true (by omega:i - 1+1=i)] at this
    exact .inr (by simpa using this)
  ·rintro ⟨⟨h1,h2⟩,h3⟩
   refine ⟨h1,λ i hi=>⟨(h2 i hi).1,λ k hk=>⟨(h2 i hi).2 k hk,?_⟩⟩⟩
   by_cases h0:k+1=i
   ·have:=h3 i hi
    subst h0
    simpa using this
   ·exact .inl (by simp [h0])
 rw [e,zs3]
 cases decide (l.length≤30)<;>cases l.all zkO<;>cases zuZ l<;>cases zrP l<;>rfl
def zlj (s:zjV):Bool:=decide (1≤s.Next∧s.Next≤1001) && decide (0≤s.Done∧s.Done≤1000) && decide (0≤s.fSt∧s.fSt≤2) && okL false s.fSi && okL true s.fTi &&
 (if s.fSt=0 then decide (s.Next=1) && !s.fCa && decide (s.Done=0) && decide (s.fSi=[]) && decide (s.fTi=[]) else decide (1 < s.Next))
theorem zCe (l:List ByteArray):(((l.length:Nat):Int) == 0)=decide (l=[]):=by
 cases l<;>simp
 omega
theorem zih (s:zjV) (h1:zrK s.fSi) (h2:zrK s.fTi):zcQ s=some (zlj s):=by
 unfold zcQ zlj
 simp only [zbk,zgP _ _ h1,zgP _ _ h2,qa,zCe]
 generalize decide (1≤s.Next∧s.Next≤1001)=b1
 generalize decide (0≤s.Done∧s.Done≤1000)=b2
 generalize decide (0≤s.fSt∧s.fSt≤2)=b3
 generalize okL false s.fSi=b4
 generalize okL true s.fTi=b5
 cases b1<;>cases b2<;>cases b3<;>cases b4<;>cases b5<;>simp
 by_cases h0:s.fSt=0
 ·by_cases hn:s.Next=1
  ·by_cases hd:s.Done=0<;>cases s.fCa<;>by_cases hs:s.fSi=[]<;>simp [h0,hn,hd,hs]
  ·simp [h0,hn]
 ·simp [h0]
theorem zcw (s:zjV) (h1:s.fSi.length≤9223372036854775807) (h2:s.fTi.length≤9223372036854775807):za1 s=some (zlj s):=by
 unfold za1 zlj
 rw [zs3,zy6]
 simp only [zcJ,zg9 _ h1,zg9 _ h2,zgQ _ h1,zgQ _ h2,ziJ _ h2,qa,zCe]
 generalize decide (1≤s.Next∧s.Next≤1001)=b1
 generalize decide (0≤s.Done∧s.Done≤1000)=b2
 generalize decide (0≤s.fSt∧s.fSt≤2)=b3
 generalize (decide (s.fSi.length≤30) && s.fSi.all zkO)=b4
 generalize (decide (s.fTi.length≤30) && s.fTi.all zkO)=b5
 generalize zuZ s.fSi=b6
 generalize zuZ s.fTi=b7
 generalize zrP s.fTi=b8
 cases b1
 ·simp
 cases b2
 ·simp
 cases b3
 ·simp
 cases b4
 ·simp
 cases b6
 ·simp
 cases b5
 ·simp
 cases b8
 ·simp
 cases b7
 ·simp
 simp
 by_cases h0:s.fSt=0
 ·by_cases hn:s.Next=1
  ·by_cases hd:s.Done=0<;>cases s.fCa<;>by_cases hs:s.fSi=[]<;>simp [h0,hn,hd,hs]
  ·simp [h0,hn]
 ·simp [h0]
end Go.TL
namespace Go.TL
theorem zkM {r:Bool} {l:List ByteArray} (h:okL r l=true):l.length≤30:=by
 unfold okL at h
 simp only [qd,decide_eq_true_eq] at h
 exact h.1
theorem zAx {r:Bool} {l:List ByteArray} (h:okL r l=true) {x:ByteArray} (hx:x∈l):x.size≤12:=by
 unfold okL at h
 simp only [qd,zkU] at h
 obtain ⟨i,hi,rfl⟩:=qj hx
 have:=(h.2 i hi).1
 rw [zkj hi] at this
 unfold zkO at this
 simp only [qd,decide_eq_true_eq] at this
 exact this.1
theorem zv3 {r:Bool} {l:List ByteArray} (h:okL r l=true):zrK l:=by
 have:=zkM h
 exact ⟨by omega,λ y hy=>by have:=zAx h hy;show y.size≤_;omega⟩
theorem zq2 {l:List ByteArray} (h:okL true l=true):∀ (j i:Nat),i < j→j < l.length→sLt (nth l i) (nth l j)=true:=by
 unfold okL at h
 simp only [qd,zkU,qk,qm,qp,Bool.not_eq_true',decide_eq_false_iff_not] at h
 intro j
 induction j with
 | zero=>intro i hi;omega
 | succ j ih =>
  intro i hi hj
  have hd:=(h.2 (j+1) hj).2 j (by omega)
  have hs:sLt (nth l j) (nth l (j+1))=true:=by
   rcases zn2 (nth l j) (nth l (j+1)) with h1 | h1 | h1
   ·exact h1
   ·exact absurd h1 hd.1
   ·rcases hd.2 with h2 | h2
    ·exact absurd rfl h2
    ·rw [h2] at h1;cases h1
  by_cases e:i=j
  ·rw [e];exact hs
  ·exact zml (ih i (by omega) (by omega)) hs
def zmM (l:List ByteArray) (x:ByteArray):List ByteArray :=
 if zkt l x=true then l.filter (λ y=>!decide (y=x)) else l.takeWhile (λ y=>sLt y x)++x :: l.dropWhile (λ y=>sLt y x)
def zl3 (x:ByteArray):List ByteArray→Bool→List ByteArray→Bool×List ByteArray
 | [],p,c=>(p,c)
 | y :: r,p,c=>if y=x then zl3 x r p c else if (!p && sLt x y)=true then zl3 x r true (c++[x]++[y]) else zl3 x r p (c++[y])
set_option maxHeartbeats 1000000 in
theorem zv4 (l:List ByteArray) (x:ByteArray) (hl:l.length≤30):∀ (r:List ByteArray) (i:Nat) (p:Bool) (c:List ByteArray),l.drop i=r→i≤l.length→c.length≤2 * i →
  zjZ (zC l x) ⟨p,(i:Int),c⟩=some ⟨(zl3 x r p c).1,(zl3 x r p c).2⟩:=by
 intro r
 induction r with
 | nil =>
  intro i p c hd hi hc
  have hi':i=l.length:=by
   have:=congrArg List.length hd
   rw [qg,qQ] at this
   omega
  subst hi'
  exact zkl (by unfold zC;rw [if_neg (by simp)];rfl)
 | cons y r ih =>
  intro i p c hd hi hc
  have hlt:i < l.length:=by
   have:=congrArg List.length hd
   rw [qg,qP] at this
   omega
  have hy:nth l i=y:=by
   rw [zkj hlt]
   have:=qi hlt
   rw [hd] at this
   exact (List.cons.inj this).1.symm
  have hr:l.drop (i+1)=r:=by
   have:=qi hlt
   rw [hd] at this
   exact (List.cons.inj this).2.symm
  have hstep:zC l x ⟨p,(i:Int),c⟩=some (.inl (if y=x then ⟨p,((i+1:Nat):Int),c⟩ else if (!p && sLt x y)=true then ⟨true,((i+1:Nat):Int),c++[x]++[y]⟩ else ⟨p,((i+1:Nat):Int),c++[y]⟩)):=by
   unfold zC
   have e1:wI ((i:Int)+1)=((i+1:Nat):Int):=by rw [zj0 (by omega)];omega
   simp only [qb,hy,e1,sGt]
   rw [if_pos (by simp;omega),zjL (by omega),sEq]
   by_cases he:y=x
   ·rw [if_pos (by simp [he]),if_pos he]
   ·rw [if_neg (by simp [he]),if_neg he]
    have hg1:(c.length+1) * 16≤140737488355328:=by omega
    have hg2:(c.length+1+1) * 16≤140737488355328:=by omega
    cases p
    ·cases h:sLt x y
     ·simp [zjL hg1]
     ·simp [zjL hg1,zjL hg2]
    ·simp [zjL hg1]
  rw [zkX hstep]
  unfold zl3
  by_cases he:y=x
  ·rw [if_pos he,if_pos he];exact ih (i+1) p c hr (by omega) (by omega)
  ·rw [if_neg he,if_neg he]
   split
   ·exact ih (i+1) true _ hr (by omega) (by simp only [qM,qh];omega)
   ·exact ih (i+1) p _ hr (by omega) (by simp only [qM,qh];omega)
theorem zmY (x:ByteArray):∀ (r c:List ByteArray),zl3 x r true c=(true,c++r.filter λ y=>!decide (y=x))
 | [],c=>by simp [zl3]
 | y :: r,c=>by
  unfold zl3
  by_cases he:y=x
  ·rw [if_pos he,zmY x r c];simp [he]
  ·rw [if_neg he,if_neg (by simp),zmY x r];simp [he]
theorem zqf {x:ByteArray} {r:List ByteArray} (h:x∉r):(r.filter λ y=>!decide (y=x))=r:=by
 rw [List.filter_eq_self]
 intro y hy
 simp only [Bool.not_eq_true',decide_eq_false_iff_not]
 intro e;subst e;exact h hy
theorem zoz (x:ByteArray):∀ (r c:List ByteArray),x∉r →
  (if (!(zl3 x r false c).1)=true then (zl3 x r false c).2++[x] else (zl3 x r false c).2)=c++(r.takeWhile (λ y=>sLt y x)++x :: r.dropWhile λ y=>sLt y x)
 | [],c,_=>by simp [zl3]
 | y :: r,c,h=>by
  have hne:y≠x:=λ e=>h (by simp [e])
  have hr:x∉r:=λ e=>h (List.mem_cons_of_mem _ e)
  unfold zl3
  rw [if_neg hne]
  rcases zn2 y x with h1 | h1 | h1
  ·have h2:=zmy h1
   have e:(!false && sLt x y)=false:=by simp [h2]
   simp only [e,qc,if_false]
   rw [zoz x r (c++[y]) hr]
   simp [h1]
  ·exact absurd h1 hne
  ·have h2:=zmy h1
   have e:(!false && sLt x y)=true:=by simp [h1]
   simp only [e,if_true]
   rw [zmY,zqf hr]
   simp [h2]
theorem znK (x:ByteArray):∀ (r c:List ByteArray) (p:Bool),(zl3 x r p c).2.length≤c.length+2 * r.length
 | [],c,p=>by simp [zl3]
 | y :: r,c,p=>by
  unfold zl3
  split
  ·have:=znK x r c p;simp only [qP];omega
  ·split
   ·have:=znK x r (c++[x]++[y]) true;simp only [qP,qM,qQ] at this ⊢;omega
   ·have:=znK x r (c++[y]) p;simp only [qP,qM,qQ] at this ⊢;omega
theorem ziK (l:List ByteArray) (x:ByteArray) (hl:l.length≤30):zbA l x=some (zmM l x):=by
 unfold zbA zmM
 obtain ⟨k,hk,hp⟩:=zdt l x (by omega)
 rw [hk]
 simp only [qa]
 rw [hp]
 have:=zv4 l x hl l 0 (zkt l x) [] rfl (by omega) (by simp)
 rw [show ((0:Nat):Int)=0 from rfl] at this
 rw [this]
 simp only [qa]
 have hlen:=znK x l [] (zkt l x)
 simp only [qQ,Nat.zero_add] at hlen
 rw [zjL (by omega)]
 cases h:zkt l x
 ·have hm:x∉l:=λ e=>by rw [znJ.2 e] at h;cases h
  have:=zoz x l [] hm
  simp only [qv] at this
  simp only [qc,if_false]
  rw [← this]
  split<;>rfl
 ·rw [zmY]
  simp
theorem zAy {a b:Nat} (h:a+b≤100):wI (shR 64 (wU (wI ((a:Int)+(b:Int)))) 1)=(((a+b) / 2:Nat):Int):=by
 have e0:wI ((a:Int)+(b:Int))=(a:Int)+(b:Int):=zj0 (by omega)
 have e1:wU ((a:Int)+(b:Int))=(a:Int)+(b:Int):=zBW (by omega)
 rw [e0,e1]
 unfold shR
 have e:(min (1:Int).toNat 64)=1:=rfl
 rw [e]
 have:(((a:Int)+(b:Int)).fdiv (2 ^ 1))=(((a+b) / 2:Nat):Int):=by
  rw [Int.fdiv_eq_ediv_of_nonneg _ (by decide)]
  omega
 rw [this,zj0 (by omega)]
theorem zu0 (l:List ByteArray) (x:ByteArray) (hl:l.length≤30) (hs:okL true l=true):∀ (n lo hi:Nat),hi - lo=n→lo≤hi→hi≤l.length→(∀ j,j < lo→sLt (nth l j) x=true)→(∀ j,hi≤j→j < l.length→sLt (nth l j) x=false) →
  ∃ k:Nat,zjZ (zj l x) ⟨(lo:Int),(hi:Int)⟩=some ⟨(k:Int)⟩∧k≤l.length∧(∀ j:Nat,j < k→sLt (nth l j) x=true)∧∀ j,k≤j→j < l.length→sLt (nth l j) x=false:=by
 intro n
 induction n using Nat.strongRecOn with
 | _ n ih =>
  intro lo hi hn hle hhi h1 h2
  by_cases hlt:lo < hi
  ·have hstep:zj l x ⟨(lo:Int),(hi:Int)⟩=some (.inl (if sLt (nth l ((lo+hi) / 2)) x=true then ⟨(((lo+hi) / 2+1:Nat):Int),(hi:Int)⟩ else ⟨(lo:Int),(((lo+hi) / 2:Nat):Int)⟩)):=by
    unfold zj
    simp only [zAy (show lo+hi≤100 by omega),qb]
    rw [if_pos (by simp;omega),zjL (by omega),zrO]
    simp only [qa]
    rw [zj0 (n:=(((lo+hi) / 2:Nat):Int)+1) (by omega)]
    split<;>rfl
   have hmid:(lo+hi) / 2 < l.length:=by omega
   rw [zkX hstep]
   by_cases hc:sLt (nth l ((lo+hi) / 2)) x=true
   ·rw [if_pos hc]
    refine ih _ (by omega) ((lo+hi) / 2+1) hi rfl (by omega) hhi (λ j hj=>?_) h2
    by_cases e:j=(lo+hi) / 2
    ·rw [e];exact hc
    ·exact zml (zq2 hs _ j (by omega) hmid) hc
   ·rw [if_neg hc]
    refine ih _ (by omega) lo ((lo+hi) / 2) rfl (by omega) (by omega) h1 (λ j hj hjl=>?_)
    by_cases e:j=(lo+hi) / 2
    ·rw [e];simpa using hc
    ·cases h:sLt (nth l j) x with
     | false=>rfl
     | true=>exact absurd (zml (zq2 hs j ((lo+hi) / 2) (by omega) hjl) h) hc
  ·have e:lo=hi:=by omega
   subst e
   refine ⟨lo,zkl ?_,hhi,h1,h2⟩
   unfold zj
   rw [if_neg (by simp)]
theorem zrQ {p:ByteArray→Bool}:∀ {l:List ByteArray} {k:Nat},k≤l.length→(∀ j,j < k→p (nth l j)=true)→(∀ j,k≤j→j < l.length→p (nth l j)=false)→l.takeWhile p=l.take k∧l.dropWhile p=l.drop k
 | [],k,hk,h1,h2=>by simp
 | y :: r,0,hk,h1,h2=>by
  have:=h2 0 (by omega) (by simp)
  have e:nth (y :: r) 0=y:=rfl
  rw [e] at this
  simp [this]
 | y :: r,k+1,hk,h1,h2=>by
  have:=h1 0 (by omega)
  have e:nth (y :: r) 0=y:=rfl
  rw [e] at this
  obtain ⟨h3,h4⟩:=zrQ (p:=p) (l:=r) (k:=k) (by simpa using hk) (λ j hj=>h1 (j+1) (by omega)) (λ j hj hl=>h2 (j+1) (by omega) (by simpa using hl))
  simp [this,h3,h4]
theorem zoM (l:List ByteArray) (x:ByteArray) (hs:okL true l=true):∃ k:Nat,zT l x=some ((k:Int),zkt l x)∧k≤l.length∧(zkt l x=true→k < l.length) ∧
  zmM l x=if zkt l x=true then l.take k++l.drop (k+1) else l.take k++[x]++l.drop k:=by
 have hl:=zkM hs
 obtain ⟨k,hk,hkl,h1,h2⟩:=zu0 l x hl hs l.length 0 l.length (by omega) (by omega) (Nat.le_refl _) (λ j hj=>by omega) (λ j hj hj2=>by omega)
 obtain ⟨e1,e2⟩:=zrQ (p:=λ y=>sLt y x) hkl h1 h2
 have hx:zkt l x=true↔k < l.length∧nth l k=x:=by
  rw [znJ]
  constructor
  ·intro hm
   obtain ⟨m,hm1,rfl⟩:=qj hm
   have hnm:nth l m=l[m]:=zkj hm1
   have hmk:k≤m:=by
    rcases qy m k with h | h
    ·have:=h1 m h;rw [hnm,zkQ] at this;cases this
    ·exact h
   have:k=m:=by
    rcases qy k m with h | h
    ·have h3:=zq2 hs m k h hm1
     rw [hnm] at h3
     have h4:=h2 k (Nat.le_refl _) (by omega)
     rw [h4] at h3;cases h3
    ·omega
   subst this
   exact ⟨hm1,hnm⟩
  ·rintro ⟨h3,h4⟩
   rw [← h4];exact zks h3
 refine ⟨k,?_,hkl,λ h=>(hx.1 h).1,?_⟩
 ·unfold zT
  rw [show (0:Int)=((0:Nat):Int) from rfl,hk]
  simp only [qa,qb]
  by_cases h3:k < l.length
  ·rw [if_pos (by simp;omega),zjL (by omega),sEq]
   by_cases h4:nth l k=x
   ·rw [if_pos (by simp [h4]),hx.2 ⟨h3,h4⟩]
   ·rw [if_neg (by simp [h4]),zjL (by omega)]
    have hf:zkt l x=false:=by
     cases h:zkt l x with
     | false=>rfl
     | true=>exact absurd (hx.1 h).2 h4
    unfold zbF
    simp [hf]
  ·rw [if_neg (by simp;omega)]
   have hf:zkt l x=false:=by
    cases h:zkt l x with
    | false=>rfl
    | true=>exact absurd (hx.1 h).1 h3
   rw [hf]
 ·unfold zmM
  by_cases h:zkt l x=true
  ·rw [if_pos h,if_pos h]
   obtain ⟨h3,h4⟩:=hx.1 h
   have hl2:l=l.take k++x :: l.drop (k+1):=by
    rw [zkj h3] at h4
    conv=>lhs;rw [← List.take_append_drop k l,qi h3,h4]
   have hn1:x∉l.take k:=λ hm=>by
    obtain ⟨j,hj,e⟩:=qj hm
    rw [qe] at hj
    rw [← zkj (by rw [qe];omega),zmz (by omega)] at e
    have:=h1 j (by omega)
    rw [e,zkQ] at this;cases this
   have hn2:x∉l.drop (k+1):=λ hm=>by
    obtain ⟨j,hj,e⟩:=qj hm
    rw [qg] at hj
    rw [List.getElem_drop,← zkj (by omega)] at e
    have:=zq2 hs (k+1+j) k (by omega) (by omega)
    rw [e,h4,zkQ] at this;cases this
   conv=>lhs;rw [hl2]
   rw [List.filter_append,List.filter_cons_of_neg (by simp),zqf hn1,zqf hn2]
  ·rw [if_neg h,if_neg h,e1,e2,List.append_assoc,List.singleton_append]
end Go.TL
namespace Go.TL
def evP (e:EventT):Bool:=decide (1≤e.Id∧e.Id≤1000) && zst e.fVe && decide (1≤e.Kind∧e.Kind≤6) && zkO e.Name
theorem zii (e:EventT) (h:zn1 e.Name):zee e=some (evP e):=by
 unfold zee evP zst
 simp only [zbk,zgm _ h,qa]
 cases decide (1≤e.Id∧e.Id≤1000)<;>cases decide (0≤e.fVe∧e.fVe≤1000000)<;>cases decide (1≤e.Kind∧e.Kind≤6)<;>simp
theorem zij (e:EventT):zei e=some (evP e):=by
 unfold zei zbL zS evP zst
 simp only [zcJ,zbT,qa]
 cases decide (1≤e.Id∧e.Id≤1000)<;>cases decide (0≤e.fVe∧e.fVe≤1000000)<;>cases decide (1≤e.Kind∧e.Kind≤6)<;>simp
def zqP (s:zjV) (e:EventT):Bool:=evP e && decide (e.Id=s.Next) && decide (e.Kind=1↔s.fSt=0) && !decide (s.fSt=2)
def zm3 (s:zjV) (e:EventT):Option zjV :=
 if e.Kind=1 then some ⟨1,s.Next+1,s.fCa,s.Done,s.fSi,s.fTi⟩
 else if e.Kind=2 then (if (zkt s.fSi e.Name || decide (s.fSi.length=30))=true then none else some ⟨s.fSt,s.Next+1,s.fCa,s.Done,s.fSi++[e.Name],s.fTi⟩)
 else if e.Kind=3 then some ⟨s.fSt,s.Next+1,s.fCa,s.Done+1,s.fSi,s.fTi⟩
 else if e.Kind=4 then some ⟨s.fSt,s.Next+1,s.fCa,s.Done,s.fSi,zmM s.fTi e.Name⟩
 else if e.Kind=5 then (if s.fCa=true then none else some ⟨s.fSt,s.Next+1,true,s.Done,s.fSi,s.fTi⟩)
 else some ⟨2,s.Next+1,s.fCa,s.Done,s.fSi,[]⟩
def zkf (s:zjV) (e:EventT):Option zjV:=if zqP s e=true then (zm3 s e).bind (λ t=>if zlj t=true then some t else none) else none
theorem zlD {s:zjV} (h:zlj s=true):(1≤s.Next∧s.Next≤1001)∧(0≤s.Done∧s.Done≤1000)∧(0≤s.fSt∧s.fSt≤2)∧okL false s.fSi=true∧okL true s.fTi=true:=by
 unfold zlj at h
 simp only [qd,decide_eq_true_eq] at h
 exact ⟨h.1.1.1.1.1,h.1.1.1.1.2,h.1.1.1.2,h.1.1.2,h.1.2⟩
theorem zy7 {l:List ByteArray} {x:ByteArray} (h:okL true l=true) (hx:zn1 x):zrK (zmM l x):=by
 obtain ⟨k,_,hk,_,he⟩:=zoM l x h
 have hl:=zkM h
 have ho:=zv3 h
 rw [he]
 split
 ·refine ⟨by rw [qM,qe,qg];omega,λ y hy=>?_⟩
  rw [qn] at hy
  rcases hy with hy | hy
  ·exact ho.2 y (qr hy)
  ·exact ho.2 y (qt hy)
 ·refine ⟨by rw [qM,qM,qe,qg,qh];omega,λ y hy=>?_⟩
  rw [qn,qn,qu] at hy
  rcases hy with (hy | hy) | hy
  ·exact ho.2 y (qr hy)
  ·rw [hy];exact hx
  ·exact ho.2 y (qt hy)
theorem zgR (s:zjV) (e:EventT) (hs:zlj s=true) (he:zn1 e.Name):∃ r,zbB s e=some r∧zkf s e=if r.2=true then some r.1 else none:=by
 obtain ⟨hN,hD,hS,hl1,hl2⟩:=zlD hs
 have n1:=zkM hl1
 have n2:=zkM hl2
 have o1:=zv3 hl1
 have o2:=zv3 hl2
 have hJ:(if (!evP e)=true then some (⟨true⟩:zaL) else if (e.Id != s.Next)=true then some ⟨true⟩ else if (!((e.Kind == 1) == (s.fSt == 0)))=true then some ⟨true⟩ else some ⟨(s.fSt == 2)⟩)=some ⟨!zqP s e⟩:=by
  unfold zqP
  cases evP e
  ·simp
  rw [show (e.Kind == 1)=decide (e.Kind=1) from rfl,show (s.fSt == 0)=decide (s.fSt=0) from rfl]
  by_cases h1:e.Id=s.Next
  ·by_cases h2:e.Kind=1<;>by_cases h3:s.fSt=0<;>by_cases h4:s.fSt=2<;>simp [h1,h2,h3,h4]
  ·simp [h1]
 unfold zbB
 rw [zii e he]
 simp only [qa]
 rw [hJ]
 simp only [qa]
 unfold zkf
 by_cases hm:zqP s e=true
 rotate_left
 ·exact ⟨(s,false),by simp [hm],by simp [hm]⟩
 rw [if_pos hm,hm]
 simp only [qk,qc,if_false]
 have hown:zfC s=some s:=by
  unfold zfC
  rw [zjL (by omega),zjL (by omega)]
  simp only [qv]
 rw [hown]
 simp only [qa,beq_iff_eq]
 have hw:wI (s.Next+1)=s.Next+1:=zj0 (by omega)
 have hw2:wI (s.Done+1)=s.Done+1:=zj0 (by omega)
 have hk:1≤e.Kind∧e.Kind≤6:=by
  unfold zqP evP at hm
  simp only [qd,decide_eq_true_eq] at hm
  exact hm.1.1.1.1.2
 have fin:∀ (t:zjV),zrK t.fSi→zrK t.fTi→∃ r,(Option.bind (zcQ t) λ c73=>some (t,c73))=some r∧(Option.bind (some t) λ t=>if zlj t=true then some t else none)=if r.2=true then some r.1 else none :=
  λ t h1 h2=>⟨_,by rw [zih t h1 h2];rfl,by rfl⟩
 unfold zm3
 rw [hw]
 by_cases h1:e.Kind=1
 ·rw [if_pos h1,if_pos h1];simp only [qa];exact fin ⟨1,s.Next+1,s.fCa,s.Done,s.fSi,s.fTi⟩ o1 o2
 by_cases h2:e.Kind=2
 ·rw [if_neg h1,if_pos h2,if_neg h1,if_pos h2]
  obtain ⟨k,hk,hp⟩:=zdt s.fSi e.Name (by omega)
  rw [hk]
  simp only [qa,hp]
  have hJ2:(if zkt s.fSi e.Name=true then some (⟨true⟩:zdc) else some ⟨(((s.fSi.length:Nat):Int) == 30)⟩)=some ⟨zkt s.fSi e.Name || decide (s.fSi.length=30)⟩:=by
   cases zkt s.fSi e.Name
   ·simp only [qc,if_false,qm]
    congr 2
    rw [qf,beq_iff_eq,decide_eq_true_eq];omega
   ·simp
  rw [hJ2]
  simp only [qa]
  cases hb:(zkt s.fSi e.Name || decide (s.fSi.length=30))
  ·simp only [qc,if_false]
   rw [zjL (by omega)]
   simp only [qa]
   exact fin ⟨s.fSt,s.Next+1,s.fCa,s.Done,s.fSi++[e.Name],s.fTi⟩ ⟨by simp only [qM,qh];omega,λ y hy=>by
    rw [qn,qu] at hy
    rcases hy with hy | hy
    ·exact o1.2 y hy
    ·rw [hy];exact he⟩ o2
  ·exact ⟨(s,false),by simp,by simp⟩
 by_cases h3:e.Kind=3
 ·rw [if_neg h1,if_neg h2,if_pos h3,if_neg h1,if_neg h2,if_pos h3]
  simp only [qa,hw2]
  exact fin ⟨s.fSt,s.Next+1,s.fCa,s.Done+1,s.fSi,s.fTi⟩ o1 o2
 by_cases h4:e.Kind=4
 ·rw [if_neg h1,if_neg h2,if_neg h3,if_pos h4,if_neg h1,if_neg h2,if_neg h3,if_pos h4,ziK _ _ n2]
  simp only [qa]
  exact fin ⟨s.fSt,s.Next+1,s.fCa,s.Done,s.fSi,zmM s.fTi e.Name⟩ o1 (zy7 hl2 he)
 by_cases h5:e.Kind=5
 ·rw [if_neg h1,if_neg h2,if_neg h3,if_neg h4,if_pos h5,if_neg h1,if_neg h2,if_neg h3,if_neg h4,if_pos h5]
  cases hb:s.fCa
  ·simp only [qc,if_false,qa]
   exact fin ⟨s.fSt,s.Next+1,true,s.Done,s.fSi,s.fTi⟩ o1 o2
  ·exact ⟨(s,false),by simp,by simp⟩
 ·rw [if_neg h1,if_neg h2,if_neg h3,if_neg h4,if_neg h5,if_neg h1,if_neg h2,if_neg h3,if_neg h4,if_neg h5]
  simp only [qa]
  exact fin ⟨2,s.Next+1,s.fCa,s.Done,s.fSi,[]⟩ o1 ⟨by simp,λ y hy=>by simp at hy⟩
theorem zik (s:zjV) (x:ByteArray) (h:okL true s.fTi=true):∃ r,zaT s x=some r ∧
  (r.1=true→r.2=⟨s.fSt,s.Next,s.fCa,s.Done,s.fSi,zmM s.fTi x⟩)∧(r.1=false→zkt s.fTi x=false∧s.fTi.length=30):=by
 obtain ⟨k,hk,hkl,hlt,he⟩:=zoM s.fTi x h
 have hl:=zkM h
 unfold zaT
 rw [hk]
 simp only [qa]
 cases hb:zkt s.fTi x
 ·simp only [qc,if_false]
  by_cases h30:s.fTi.length=30
  ·rw [if_pos (by simp;omega)]
   exact ⟨_,rfl,λ h=>(by cases h),λ _=>⟨by simp,h30⟩⟩
  ·rw [if_neg (by simp;omega)]
   unfold zb3
   rw [zjL ⟨rfl,by omega,by omega,by omega⟩]
   simp only [qa,qb]
   refine ⟨_,rfl,λ _=>?_,λ h=>by cases h⟩
   rw [he,hb]
   simp
 ·simp only [if_true]
  have hk1:=hlt hb
  have e1:wI ((k:Int)+1)=((k+1:Nat):Int):=by rw [zj0 (by omega)];omega
  unfold zb2
  rw [e1,zjL ⟨by omega,by omega,by omega,by omega⟩]
  simp only [qa,qb]
  refine ⟨_,rfl,λ _=>?_,λ h=>by cases h⟩
  rw [he,hb]
  simp
theorem zhM (s:zjV) (e:EventT) (hs:zlj s=true) (hev:evP e=true) (hid:e.Id=s.Next):∃ r,za2 s e.Kind e.Name=some r ∧
  (r.1=true→zqP s e=true∧zm3 s e=some r.2)∧(r.1=false→zkf s e=none):=by
 obtain ⟨hN,hD,hS,hl1,hl2⟩:=zlD hs
 have n1:=zkM hl1
 have n2:=zkM hl2
 have hk:(1≤e.Id∧e.Id≤1000)∧1≤e.Kind∧e.Kind≤6:=by
  unfold evP at hev
  simp only [qd,decide_eq_true_eq] at hev
  exact ⟨hev.1.1.1,hev.1.2⟩
 have hJ:(if decide (s.Next > 1000)=true then some (⟨true⟩:zK) else if (!((e.Kind == 1) == (s.fSt == 0)))=true then some ⟨true⟩ else if (e.Kind != 1)=true then some ⟨(s.fSt != 1)⟩ else some ⟨false⟩)=some ⟨!zqP s e⟩:=by
  unfold zqP
  rw [hev,if_neg (by simp;omega),show (e.Kind == 1)=decide (e.Kind=1) from rfl,show (s.fSt == 0)=decide (s.fSt=0) from rfl]
  by_cases h2:e.Kind=1
  ·by_cases h3:s.fSt=0
   ·simp [hid,h2,h3]
   ·simp [hid,h2,h3]
  ·by_cases h3:s.fSt=0
   ·simp [hid,h2,h3]
   ·by_cases h4:s.fSt=2
    ·simp [hid,h2,h3,h4]
    ·have:s.fSt=1:=by omega
     simp [hid,h2,h3,this]
 unfold za2
 rw [hJ]
 simp only [qa]
 by_cases hm:zqP s e=true
 rotate_left
 ·refine ⟨(false,s),by simp [hm],λ h=>(by cases h),λ _=>by unfold zkf;rw [if_neg hm]⟩
 have hno:zm3 s e=none→zkf s e=none:=λ h=>by unfold zkf;rw [if_pos hm,h];rfl
 rw [hm]
 simp only [qk,qc,if_false,beq_iff_eq]
 have hw:wI (s.Next+1)=s.Next+1:=zj0 (by omega)
 have hw2:wI (s.Done+1)=s.Done+1:=zj0 (by omega)
 rw [hw,hw2]
 by_cases h1:e.Kind=1
 ·rw [if_pos h1];exact ⟨_,rfl,λ _=>⟨trivial,by unfold zm3;rw [if_pos h1]⟩,λ h=>by cases h⟩
 by_cases h2:e.Kind=2
 ·rw [if_neg h1,if_pos h2,zme _ _ (by omega)]
  have hJ2:(if zkt s.fSi e.Name=true then some (⟨true⟩:zbg) else some ⟨(((s.fSi.length:Nat):Int) == 30)⟩)=some ⟨zkt s.fSi e.Name || decide (s.fSi.length=30)⟩:=by
   cases zkt s.fSi e.Name
   ·simp only [qc,if_false,qm]
    congr 2
    rw [qf,beq_iff_eq,decide_eq_true_eq];omega
   ·simp
  simp only [qa,hJ2]
  cases hb:(zkt s.fSi e.Name || decide (s.fSi.length=30))
  ·simp only [qc,if_false]
   rw [zjL (by omega)]
   exact ⟨_,rfl,λ _=>⟨trivial,by unfold zm3;rw [if_neg h1,if_pos h2,hb];rfl⟩,λ h=>by cases h⟩
  ·simp only [if_true]
   exact ⟨_,rfl,λ h=>(by cases h),λ _=>hno (by unfold zm3;rw [if_neg h1,if_pos h2,hb];rfl)⟩
 by_cases h3:e.Kind=3
 ·rw [if_neg h1,if_neg h2,if_pos h3];exact ⟨_,rfl,λ _=>⟨trivial,by unfold zm3;rw [if_neg h1,if_neg h2,if_pos h3]⟩,λ h=>by cases h⟩
 by_cases h4:e.Kind=4
 ·rw [if_neg h1,if_neg h2,if_neg h3,if_pos h4]
  obtain ⟨r,hr,ht,hf⟩:=zik s e.Name hl2
  rw [hr]
  simp only [qa]
  cases hb:r.1
  ·simp only [qq,if_true]
   refine ⟨_,rfl,λ h=>(by cases h),λ _=>?_⟩
   unfold zkf
   rw [if_pos hm]
   unfold zm3
   rw [if_neg h1,if_neg h2,if_neg h3,if_pos h4]
   simp only [qa]
   obtain ⟨f1,f2⟩:=hf hb
   have hbad:¬ zlj ⟨s.fSt,s.Next+1,s.fCa,s.Done,s.fSi,zmM s.fTi e.Name⟩=true:=λ h=>by
    have h1:=zkM (zlD h).2.2.2.2
    obtain ⟨k,_,hk,_,he⟩:=zoM s.fTi e.Name hl2
    simp only at h1
    rw [he,f1] at h1
    simp only [qc,if_false,qM,qe,qg,qh] at h1
    omega
   rw [if_neg hbad]
  ·simp only [qk,qc,if_false]
   rw [ht hb]
   simp only [hw]
   exact ⟨_,rfl,λ _=>⟨trivial,by unfold zm3;rw [if_neg h1,if_neg h2,if_neg h3,if_pos h4]⟩,λ h=>by cases h⟩
 by_cases h5:e.Kind=5
 ·rw [if_neg h1,if_neg h2,if_neg h3,if_neg h4,if_pos h5]
  cases hb:s.fCa
  ·simp only [qc,if_false]
   exact ⟨_,rfl,λ _=>⟨trivial,by unfold zm3;rw [if_neg h1,if_neg h2,if_neg h3,if_neg h4,if_pos h5,hb];rfl⟩,λ h=>by cases h⟩
  ·simp only [if_true]
   exact ⟨_,rfl,λ h=>(by cases h),λ _=>hno (by unfold zm3;rw [if_neg h1,if_neg h2,if_neg h3,if_neg h4,if_pos h5,hb];rfl)⟩
 ·have h6:e.Kind=6:=by omega
  rw [if_neg h1,if_neg h2,if_neg h3,if_neg h4,if_neg h5,if_pos h6]
  exact ⟨_,rfl,λ _=>⟨trivial,by unfold zm3;rw [if_neg h1,if_neg h2,if_neg h3,if_neg h4,if_neg h5]⟩,λ h=>by cases h⟩
def zBd:zjV:=⟨0,0,false,0,[],[]⟩
theorem zxF {l:List ByteArray} {x:ByteArray} (h:okL true l=true):(zmM l x).length≤31:=by
 obtain ⟨k,_,hk,_,he⟩:=zoM l x h
 have hl:=zkM h
 rw [he]
 split
 ·rw [qM,qe,qg];omega
 ·rw [qM,qM,qe,qg,qh];omega
theorem zu1 {s t:zjV} {e:EventT} (hs:zlj s=true) (h:zm3 s e=some t):t.fSi.length≤31∧t.fTi.length≤31:=by
 obtain ⟨hN,hD,hS,hl1,hl2⟩:=zlD hs
 have n1:=zkM hl1
 have n2:=zkM hl2
 have n3:=zxF (x:=e.Name) hl2
 unfold zm3 at h
 split at h
 ·cases h;simp only;omega
 split at h
 ·split at h
  ·cases h
  ·cases h;simp only [qM,qh];omega
 split at h
 ·cases h;simp only;omega
 split at h
 ·cases h;simp only;omega
 split at h
 ·split at h
  ·cases h
  ·cases h;simp only;omega
 ·cases h;simp only [qQ];omega
theorem zhZ (s:zjV) (e:EventT) (h1:s.fSi.length≤9223372036854775807) (h2:s.fTi.length≤9223372036854775807) :
  zdz s e=some (if zlj s=true then (match zkf s e with | some t=>(t,true) | none=>(zBd,false)) else (zBd,false)):=by
 unfold zdz
 rw [zcw s h1 h2,zij]
 simp only [qa]
 by_cases hs:zlj s=true
 rotate_left
 ·simp [hs];rfl
 obtain ⟨hN,hD,hS,hl1,hl2⟩:=zlD hs
 have n1:=zkM hl1
 have n2:=zkM hl2
 rw [hs]
 simp only [qk,qc,if_false,if_true]
 by_cases hev:evP e=true
 rotate_left
 ·have:zkf s e=none:=by unfold zkf zqP;simp [hev]
  simp [hev,this];rfl
 by_cases hid:e.Id=s.Next
 rotate_left
 ·have:zkf s e=none:=by unfold zkf zqP;simp [hid]
  simp [hev,hid,this];rfl
 have hJ:(if (!evP e)=true then some (⟨true⟩:za3) else some ⟨(e.Id != s.Next)⟩)=some ⟨false⟩:=by simp [hev,hid]
 rw [hJ]
 have hcl:zaF s=some s:=by
  unfold zaF zaK
  rw [zjL (by omega),zjL (by omega)]
  rfl
 simp only [qa,qc,if_false,hcl]
 obtain ⟨r,hr,ht,hf⟩:=zhM s e hs hev hid
 rw [hr]
 simp only [qa]
 cases hb:r.1
 ·simp [hf hb];rfl
 ·obtain ⟨g1,g2⟩:=ht hb
  have hlen:=zu1 hs g2
  simp only [qk,qc,if_false]
  rw [zcw r.2 (by omega) (by omega)]
  have ha:zkf s e=if zlj r.2=true then some r.2 else none:=by unfold zkf;rw [if_pos g1,g2];rfl
  rw [ha]
  simp only [qa]
  cases hg:zlj r.2
  ·simp;rfl
  ·simp
theorem zoA {s t:zjV} {e:EventT} (h:zkf s e=some t):zlj t=true:=by
 unfold zkf at h
 split at h
 ·cases ho:zm3 s e with
  | none=>rw [ho] at h;cases h
  | some u =>
   rw [ho] at h
   simp only [qa] at h
   split at h
   ·cases h;assumption
   ·cases h
 ·cases h
def zkV:List EventT→zjV→Nat→zjV×Nat
 | [],s,n=>(s,n)
 | e :: r,s,n=>match zkf s e with
  | some t=>zkV r t (n+1)
  | none=>(s,n)
def zqQ:zjV:=⟨0,1,false,0,[],[]⟩
theorem zqg:zlj zqQ=true:=by
 have h:∀ r,okL r []=true:=λ r=>by unfold okL;simp [zmw]
 unfold zlj zqQ
 simp only [h]
 decide
def zkq (l:List EventT):zjV×Nat:=zkV l zqQ 0
theorem zoN {α:Type} [Inhabited α] {l r:List α} {y:α} {i:Nat} (hd:l.drop i=y :: r):i < l.length∧nth l i=y∧l.drop (i+1)=r:=by
 have hlt:i < l.length:=by
  have:=congrArg List.length hd
  rw [qg,qP] at this
  omega
 have:=qi hlt
 rw [hd] at this
 exact ⟨hlt,by rw [zkj hlt];exact (List.cons.inj this).1.symm,(List.cons.inj this).2.symm⟩
theorem zpG {α:Type} {l:List α} {i:Nat} (hd:l.drop i=[]) (hi:i≤l.length):i=l.length:=by
 have:=congrArg List.length hd
 rw [qg,qQ] at this
 omega
theorem zjj (l:List EventT) (hl:l.length≤9223372036854775807):∀ (r:List EventT) (i:Nat) (s:zjV),l.drop i=r→i≤l.length→zlj s=true →
  ∃ y,zjZ (zO l) ⟨(i:Int),s.fSt,s.Next,s.fCa,s.Done,s.fSi,s.fTi⟩=some y∧(match y with
   | .inl p180=>some ((⟨p180.b0_0,p180.b0_1,p180.b0_2,p180.b0_3,p180.c1,p180.c2⟩:zjV),p180.t3)
   | .inr p181=>some ((⟨p181.b1_0,p181.b1_1,p181.b1_2,p181.b1_3,p181.c2,p181.c3⟩:zjV),((l.length:Nat):Int)))=some ((zkV r s i).1,(((zkV r s i).2:Nat):Int)):=by
 intro r
 induction r with
 | nil =>
  intro i s hd hi hs
  have hi':=zpG hd hi
  subst hi'
  refine ⟨_,zkl (by unfold zO;rw [if_neg (by simp)]),rfl⟩
 | cons e r ih =>
  intro i s hd hi hs
  obtain ⟨hlt,hy,hr⟩:=zoN hd
  have n:=zlD hs
  have n1:=zkM n.2.2.2.1
  have n2:=zkM n.2.2.2.2
  have hstep:zO l ⟨(i:Int),s.fSt,s.Next,s.fCa,s.Done,s.fSi,s.fTi⟩=some (match zkf s e with
    | some t=>.inl ⟨((i+1:Nat):Int),t.fSt,t.Next,t.fCa,t.Done,t.fSi,t.fTi⟩
    | none=>.inr (.inl ⟨(i:Int),s.fSt,s.Next,s.fCa,s.Done,s.fSi,s.fTi⟩)):=by
   unfold zO
   have e1:wI ((i:Int)+1)=((i+1:Nat):Int):=by rw [zj0 (by omega)];omega
   simp only [qb,hy,e1]
   rw [if_pos (by simp;omega),zjL (by omega),zhZ _ _ (by simp only;omega) (by simp only;omega)]
   have hs':zlj ⟨s.fSt,s.Next,s.fCa,s.Done,s.fSi,s.fTi⟩=true:=hs
   simp only [qa]
   rw [if_pos hs']
   cases zkf s e<;>rfl
  unfold zkV
  cases ha:zkf s e with
  | some t =>
   rw [ha] at hstep
   rw [zkX hstep]
   exact ih (i+1) t hr (by omega) (zoA ha)
  | none =>
   rw [ha] at hstep
   exact ⟨_,zkl hstep,rfl⟩
theorem zgt (l:List EventT) (hl:l.length≤9223372036854775807):zch l=some ((zkq l).1,(((zkq l).2:Nat):Int)):=by
 unfold zch zfP
 simp only [qa]
 obtain ⟨y,hy,he⟩:=zjj l hl l 0 zqQ rfl (by omega) zqg
 have hy':zjZ (zO l) ⟨0,0,1,false,0,[],[]⟩=some y:=hy
 rw [hy']
 exact he
theorem zjk (l:List EventT) (hl:zlt l):∀ (r:List EventT) (i:Nat) (s:zjV),l.drop i=r→i≤l.length→zlj s=true →
  ∃ y,zjZ (zaD l) ⟨(i:Int),s.fSt,s.Next,s.fCa,s.Done,s.fSi,s.fTi⟩=some y∧(match y with
   | .inl p77=>some ((⟨p77.b0_0,p77.b0_1,p77.b0_2,p77.b0_3,p77.b0_4,p77.b0_5⟩:zjV),p77.t3)
   | .inr p78=>some ((⟨p78.b1_0,p78.b1_1,p78.b1_2,p78.b1_3,p78.b1_4,p78.b1_5⟩:zjV),((l.length:Nat):Int)))=some ((zkV r s i).1,(((zkV r s i).2:Nat):Int)):=by
 have hl1:=hl.1
 intro r
 induction r with
 | nil =>
  intro i s hd hi hs
  have hi':=zpG hd hi
  subst hi'
  refine ⟨_,zkl (by unfold zaD;rw [if_neg (by simp)]),rfl⟩
 | cons e r ih =>
  intro i s hd hi hs
  obtain ⟨hlt,hy,hr⟩:=zoN hd
  have hne:zn1 e.Name:=by rw [← hy];exact (hl.2 _ (zks hlt)).2.2.2
  obtain ⟨q,hq,ha⟩:=zgR s e hs hne
  have hstep:zaD l ⟨(i:Int),s.fSt,s.Next,s.fCa,s.Done,s.fSi,s.fTi⟩=some (match zkf s e with
    | some t=>.inl ⟨((i+1:Nat):Int),t.fSt,t.Next,t.fCa,t.Done,t.fSi,t.fTi⟩
    | none=>.inr (.inl ⟨(i:Int),s.fSt,s.Next,s.fCa,s.Done,s.fSi,s.fTi⟩)):=by
   unfold zaD
   have e1:wI ((i:Int)+1)=((i+1:Nat):Int):=by rw [zj0 (by omega)];omega
   simp only [qb,hy,e1]
   rw [if_pos (by simp;omega),zjL (by omega)]
   have hq':zbB ⟨s.fSt,s.Next,s.fCa,s.Done,s.fSi,s.fTi⟩ e=some q:=hq
   rw [hq',ha]
   simp only [qa]
   cases q.2<;>rfl
  unfold zkV
  cases hb:zkf s e with
  | some t =>
   rw [hb] at hstep
   rw [zkX hstep]
   exact ih (i+1) t hr (by omega) (zoA hb)
  | none =>
   rw [hb] at hstep
   exact ⟨_,zkl hstep,rfl⟩
theorem ze5 (l:List EventT) (hl:zlt l):zca l=some ((zkq l).1,(((zkq l).2:Nat):Int)):=by
 unfold zca zfN
 simp only [qa]
 obtain ⟨y,hy,he⟩:=zjk l hl l 0 zqQ rfl (by omega) zqg
 have hy':zjZ (zaD l) ⟨0,0,1,false,0,[],[]⟩=some y:=hy
 rw [hy']
 exact he
end Go.TL
namespace Go.TL
theorem zrR:∀ (r:List EventT) (s:zjV) (n:Nat),zlj s=true→zlj (zkV r s n).1=true
 | [],s,n,h=>h
 | e :: r,s,n,h=>by
  unfold zkV
  cases ha:zkf s e with
  | some t=>exact zrR r t (n+1) (zoA ha)
  | none=>exact h
theorem zn3 (l:List EventT):zlj (zkq l).1=true:=zrR l zqQ 0 zqg
theorem zqh (l:List EventT):(zkq l).1.fSi.length≤30∧(zkq l).1.fTi.length≤30:=by
 have:=zlD (zn3 l)
 exact ⟨zkM this.2.2.2.1,zkM this.2.2.2.2⟩
def zv5 (l:List EventT):Bool:=zmw (λ i=>decide (i=0) || !decide ((nth l i).fVe < (nth l (i - 1)).fVe)) l.length
def zkP (l:List EventT):Bool:=zv5 l && decide ((zkq l).2=l.length) && decide (l.length≤60)
theorem zil (l:List EventT) (hl:l.length≤9223372036854775807):zel l=some (zkP l):=by
 unfold zel zkP
 by_cases h:l.length≤60
 rotate_left
 ·rw [if_pos (by simp;omega)];simp [h]
 rw [if_neg (by simp;omega)]
 have key:=zk9 (step:=zbr l) (λ i=>(⟨i⟩:zd3)) l.length (λ i=>decide (i=0) || !decide ((nth l i).fVe < (nth l (i - 1)).fVe)) (.inr ():Unit⊕Unit) (.inl ()) (λ i hi hv=>?_) (λ _=>?_)
 ·rw [key]
  unfold zv5
  cases zmw (λ i=>decide (i=0) || !decide ((nth l i).fVe < (nth l (i - 1)).fVe)) l.length
  ·simp
  ·simp only [if_true,qa]
   rw [zgt l hl]
   simp only [qa,ql,decide_eq_true h,Bool.and_true]
   congr 1
   rw [qf,beq_iff_eq,decide_eq_true_eq];omega
 ·unfold zbr
  have e1:wI ((i:Int)+1)=((i+1:Nat):Int):=by rw [zj0 (by omega)];omega
  dsimp only
  rw [if_pos (by simp;omega),e1,zjL (by omega)]
  by_cases h0:i=0
  ·subst h0
   simp
  ·have e2:wI ((i:Int) - 1)=((i - 1:Nat):Int):=by rw [zj0 (by omega)];omega
   rw [if_pos (by simp;omega),e2,zjL (by omega)]
   simp only [qa,qb,decide_eq_false h0,qm]
   cases decide ((nth l i).fVe < (nth l (i - 1)).fVe)<;>rfl
 ·unfold zbr
  rw [if_neg (by simp)]
theorem zim (l:List EventT) (hl:zlt l):zeg l=some (zkP l):=by
 have hl1:=hl.1
 unfold zeg zkP
 have key:=zk9 (step:=zbq l) (λ i=>(⟨i⟩:zd2)) l.length (λ i=>decide (i=0) || !decide ((nth l i).fVe < (nth l (i - 1)).fVe)) (.inr ():Unit⊕Unit) (.inl ()) (λ i hi hv=>?_) (λ _=>?_)
 ·rw [key]
  unfold zv5
  cases zmw (λ i=>decide (i=0) || !decide ((nth l i).fVe < (nth l (i - 1)).fVe)) l.length
  ·simp
  ·simp only [if_true,qa]
   rw [ze5 l hl]
   simp only [qa,ql]
   have e1:((((zkq l).2:Nat):Int) == ((l.length:Nat):Int))=decide ((zkq l).2=l.length):=by
    rw [qf,beq_iff_eq,decide_eq_true_eq];omega
   have e2:decide (((l.length:Nat):Int)≤60)=decide (l.length≤60):=by congr 1;apply propext;omega
   rw [e1,e2]
   cases decide ((zkq l).2=l.length)<;>rfl
 ·unfold zbq
  have e1:wI ((i:Int)+1)=((i+1:Nat):Int):=by rw [zj0 (by omega)];omega
  dsimp only
  rw [if_pos (by simp;omega),e1]
  by_cases h0:i=0
  ·subst h0
   simp
  ·have e2:wI ((i:Int) - 1)=((i - 1:Nat):Int):=by rw [zj0 (by omega)];omega
   rw [if_pos (by simp;omega),e2,zjL (by omega),zjL (by omega)]
   simp only [qa,qb,decide_eq_false h0,qm,gt_iff_lt]
   cases decide ((nth l i).fVe < (nth l (i - 1)).fVe)<;>rfl
 ·unfold zbq
  rw [if_neg (by simp)]
def znt (k:Int):EventT:=⟨k,k+1,k+2,zwV (k+3)⟩
theorem zrS (l:List EventT) (k:Int) (hk:0≤k) (hl:l.length≤1099511627776) (hb:k+((4 * l.length:Nat):Int)≤1152921504606846976) :
  zct l k=some (k+((4 * l.length:Nat):Int),zmc znt 4 k l.length):=by
 unfold zct
 have key:=zqc (step:=zan) (λ i k l=>(⟨k,i,l⟩:zcC)) 4 znt l.length 1152921504606846976 (λ k l=>(⟨k,l⟩:zfD)) (λ i k l' hi hl' h0 h1=>?_) (λ k l' hl'=>?_) k l rfl hk hb
 ·rw [key];rfl
 ·unfold zan
  have e1:wI (k+1)=k+1:=zj0 (by omega)
  have e2:wI (k+1+1)=k+2:=by rw [zj0 (by omega)];omega
  have e3:wI (k+2+1)=k+3:=by rw [zj0 (by omega)];omega
  have e4:wI (k+3+1)=k+4:=by rw [zj0 (by omega)];omega
  have e5:wI ((i:Int)+1)=((i+1:Nat):Int):=by rw [zj0 (by omega)];omega
  simp only [e1,e2,e3,e4,e5]
  rw [if_pos (by simp;omega),zow (k+3) (by omega) (by omega)]
  simp (disch:=omega) only [qa,zjL,qb,nth_set_same,List.set_set,qL]
  rfl
 ·unfold zan
  rw [if_neg (by simp;omega)]
end Go.TL
namespace Go.TL
def evC (a b:EventT):Int:=if a.fVe≠b.fVe then (if a.fVe < b.fVe then -1 else 1) else if a.Kind≠b.Kind then (if a.Kind < b.Kind then -1 else 1) else if sLt a.Name b.Name=true then -1 else if sLt b.Name a.Name=true then 1 else 0
theorem ziL (a b:EventT):zeO a b=some (evC a b):=by
 unfold zeO evC
 rw [sGt]
 by_cases h1:a.fVe=b.fVe
 ·by_cases h2:a.Kind=b.Kind
  ·simp only [h1,h2,bne_self_eq_false,qc,if_false,ne_eq,not_true_eq_false]
   split
   ·rfl
   ·split<;>rfl
  ·have hb:(a.Kind != b.Kind)=true:=by simp [h2]
   simp only [h1,hb,bne_self_eq_false,qc,if_false,if_true,ne_eq,not_true_eq_false,h2,not_false_eq_true,decide_eq_true_eq]
   split<;>rfl
 ·have hb:(a.fVe != b.fVe)=true:=by simp [h1]
  simp only [hb,if_true,ne_eq,h1,not_false_eq_true,decide_eq_true_eq]
  split<;>rfl
theorem zy8 (a b c:Int):zfq [a,b,c]=some (if a≠0 then a else if b≠0 then b else c):=by
 unfold zfq
 have key:=zlU (step:=zdo [a,b,c]) (λ i=>(⟨i⟩:zfL)) 3 (λ i=>decide (nth [a,b,c] i≠0)) (λ i=>(.inl ⟨nth [a,b,c] i⟩:zg7⊕Unit)) (.inr ()) (λ i hi hv=>?_) ?_
 ·rw [key]
  have n0:nth [a,b,c] 0=a:=rfl
  have n1:nth [a,b,c] 1=b:=rfl
  have n2:nth [a,b,c] 2=c:=rfl
  by_cases ha:a=0
  ·by_cases hb:b=0
   ·by_cases hc:c=0
    ·rw [zn0 (λ j hj=>by
      have:j=0∨j=1∨j=2:=by omega
      rcases this with rfl | rfl | rfl
      ·rw [n0];simp [ha]
      ·rw [n1];simp [hb]
      ·rw [n2];simp [hc])]
     simp [ha,hb,hc]
    ·rw [zmj (i:=2) (by omega) (by rw [n2];simp [hc]) (λ j hj=>by
      have:j=0∨j=1:=by omega
      rcases this with rfl | rfl
      ·rw [n0];simp [ha]
      ·rw [n1];simp [hb])]
     simp only [qa]
     rw [n2,if_neg (by simp [ha]),if_neg (by simp [hb])]
   ·rw [zmj (i:=1) (by omega) (by rw [n1];simp [hb]) (λ j hj=>by
     have:j=0:=by omega
     subst this;rw [n0];simp [ha])]
    simp only [qa]
    rw [n1,if_neg (by simp [ha]),if_pos hb]
  ·rw [zmj (i:=0) (by omega) (by rw [n0];simp [ha]) (λ j hj=>by omega)]
   simp [ha,n0]
 ·unfold zdo
  have hl:([a,b,c]:List Int).length=3:=rfl
  simp (disch:=omega) only [hl,decide_eq_true_eq,if_pos,zjL,qb,zj0]
  by_cases h:nth [a,b,c] i=0
  ·rw [if_neg (by simp [h]),if_neg (by simp [h])];rfl
  ·rw [if_pos (by simp [h]),if_pos (by simp [h])]
 ·unfold zdo
  rw [if_neg (by simp)]
theorem zh0 (a b:EventT):zdA a b=some (evC a b):=by
 unfold zdA
 simp only [zi1,zjv,qa,zy8]
 congr 1
 unfold evC zuX zBL
 by_cases h1:a.fVe < b.fVe
 ·have:¬ a.fVe=b.fVe:=by omega
  simp [h1,this]
 ·by_cases h2:b.fVe < a.fVe
  ·have:¬ a.fVe=b.fVe:=by omega
   simp [h1,h2,this]
  ·have h3:a.fVe=b.fVe:=by omega
   simp only [h3,qw,if_false,ne_eq,not_true_eq_false]
   by_cases k1:a.Kind < b.Kind
   ·have:¬ a.Kind=b.Kind:=by omega
    simp [k1,this]
   ·by_cases k2:b.Kind < a.Kind
    ·have:¬ a.Kind=b.Kind:=by omega
     simp [k1,k2,this]
    ·have k3:a.Kind=b.Kind:=by omega
     simp only [k3,qw,if_false,ne_eq,not_true_eq_false]
     rcases zn2 a.Name b.Name with h | h | h
     ·simp [h]
     ·simp [h,zkQ]
     ·have hn:a.Name≠b.Name:=λ e=>by rw [e,zkQ] at h;cases h
      simp [h,zmy h,hn]
theorem znL (a b:EventT):evC a b=0↔a.fVe=b.fVe∧a.Kind=b.Kind∧a.Name=b.Name:=by
 unfold evC
 by_cases h1:a.fVe=b.fVe
 ·by_cases h2:a.Kind=b.Kind
  ·rcases zn2 a.Name b.Name with h | h | h
   ·have hn:a.Name≠b.Name:=λ e=>by rw [e,zkQ] at h;cases h
    simp [h1,h2,h,hn]
   ·simp [h1,h2,h,zkQ]
   ·have hn:a.Name≠b.Name:=λ e=>by rw [e,zkQ] at h;cases h
    simp [h1,h2,h,zmy h,hn]
  ·simp only [h1,h2,ne_eq,not_true_eq_false,if_false,not_false_eq_true,if_true,false_and,and_false,iff_false]
   split<;>decide
 ·simp only [h1,ne_eq,not_false_eq_true,if_true,false_and,iff_false]
  split<;>decide
def zlE (a b:List EventT):Option Nat:=zlH (λ i=>decide (evC (nth a i) (nth b i)≠0)) (min a.length b.length)
def zkR (a b:List EventT):Int×Nat:=match zlE a b with
 | some i=>(evC (nth a i) (nth b i),i)
 | none=>if a.length < b.length then (-1,a.length) else if b.length < a.length then (1,b.length) else (0,a.length)
theorem zdJ (a b:List EventT) (ha:a.length≤9223372036854775807) (hb:b.length≤9223372036854775807):zaE a b=some ((zkR a b).1,(((zkR a b).2:Nat):Int)):=by
 unfold zaE
 have key:=zlU (step:=za0 a b) (λ i=>(⟨i⟩:zdy)) (min a.length b.length) (λ i=>decide (evC (nth a i) (nth b i)≠0)) (λ i=>(.inl ⟨evC (nth a i) (nth b i),i⟩:zf6⊕Unit)) (.inr ()) (λ i hi hv=>?_) ?_
 ·rw [key]
  unfold zkR zlE
  cases zlH (λ i=>decide (evC (nth a i) (nth b i)≠0)) (min a.length b.length) with
  | some i=>rfl
  | none =>
   simp only [qa,decide_eq_true_eq,qz,gt_iff_lt]
   split
   ·rfl
   ·split<;>rfl
 ·unfold za0
  dsimp only
  rw [if_pos (by simp;omega),if_pos (by simp;omega),zjL (by omega),zjL (by omega),ziL]
  simp only [qa,qb]
  have e1:wI ((i:Int)+1)=((i+1:Nat):Int):=by rw [zj0 (by omega)];omega
  rw [e1]
  by_cases h:evC (nth a i) (nth b i)=0
  ·rw [if_neg (by simp [h]),if_neg (by simp [h])]
  ·rw [if_pos (by simp [h]),if_pos (by simp [h])]
 ·unfold za0
  dsimp only
  by_cases h:a.length≤b.length
  ·rw [if_neg (by simp;omega)]
  ·rw [if_pos (by simp;omega),if_neg (by simp;omega)]
theorem zeY (a b:List EventT) (ha:a.length≤9223372036854775807) (hb:b.length≤9223372036854775807):zaX a b=some (zkR a b).1:=by
 unfold zaX zn
 have key:=zlU (step:=zb a b) (λ i=>(⟨i⟩:zi)) (min a.length b.length) (λ i=>decide (evC (nth a i) (nth b i)≠0))
  (λ i=>(.inl ⟨evC (nth a i) (nth b i)⟩:z8⊕Unit)) (if b.length < a.length then .inl ⟨1⟩ else .inr ()) (λ i hi hv=>?_) ?_
 ·rw [key]
  unfold zkR zlE
  cases zlH (λ i=>decide (evC (nth a i) (nth b i)≠0)) (min a.length b.length) with
  | some i=>rfl
  | none =>
   simp only [qa]
   by_cases h1:b.length < a.length
   ·have h2:¬ a.length < b.length:=by omega
    simp only [h1,h2,if_true,if_false,qa]
   ·simp only [h1,if_false,decide_eq_true_eq,qz]
    split<;>rfl
 ·unfold zb
  dsimp only
  rw [if_pos (by simp;omega),zjL (by omega),if_neg (by simp;omega),zjL (by omega),zh0]
  simp only [qa,qb]
  have e1:wI ((i:Int)+1)=((i+1:Nat):Int):=by rw [zj0 (by omega)];omega
  rw [e1]
  by_cases h:evC (nth a i) (nth b i)=0
  ·rw [if_neg (by simp [h]),if_neg (by simp [h])]
  ·rw [if_pos (by simp [h]),if_pos (by simp [h])]
 ·unfold zb
  dsimp only
  by_cases h:b.length < a.length
  ·rw [if_pos (by simp;omega),zjL (by omega),if_pos (by simp;omega),if_pos h]
  ·rw [if_neg (by simp;omega),if_neg h]
def zly (l:List EventT):Bool:=decide (0 < l.length) && zkP l
theorem zh1 (l:List EventT) (hl:zlt l):zdx l=some (zly l):=by
 unfold zdx zly
 by_cases h:0 < l.length
 ·rw [if_pos (decide_eq_true (show ((l.length:Nat):Int) > 0 by omega)),zim l hl];simp [h]
 ·rw [if_neg (by rw [decide_eq_true_eq];omega)];simp [h]
theorem zin (l:List EventT) (hl:l.length≤9223372036854775807):zem l=some (zly l):=by
 unfold zem zly
 by_cases h:0 < l.length
 ·rw [if_pos (decide_eq_true (show ((l.length:Nat):Int) > 0 by omega)),zil l hl];simp [h]
 ·rw [if_neg (by rw [decide_eq_true_eq];omega)];simp [h]
theorem zxG {s t:zjV} {e:EventT} (h:zm3 s e=some t):t.Next=s.Next+1:=by
 unfold zm3 at h
 split at h
 ·cases h;rfl
 split at h
 ·split at h
  ·cases h
  ·cases h;rfl
 split at h
 ·cases h;rfl
 split at h
 ·cases h;rfl
 split at h
 ·split at h
  ·cases h
  ·cases h;rfl
 ·cases h;rfl
theorem zqD {s t:zjV} {e:EventT} (h:zkf s e=some t):e.Id=s.Next∧t.Next=s.Next+1:=by
 unfold zkf at h
 split at h
 ·rename_i hm
  unfold zqP at hm
  simp only [qd,decide_eq_true_eq] at hm
  cases ho:zm3 s e with
  | none=>rw [ho] at h;cases h
  | some u =>
   rw [ho] at h
   simp only [qa] at h
   split at h
   ·cases h;exact ⟨hm.1.1.2,zxG ho⟩
   ·cases h
 ·cases h
theorem zs4:∀ (r:List EventT) (s:zjV) (n:Nat),(zkV r s n).2=n+r.length→∀ j,j < r.length→(nth r j).Id=s.Next+(j:Int)
 | [],s,n,_,j,hj=>by simp at hj
 | e :: r,s,n,h,j,hj=>by
  unfold zkV at h
  cases ha:zkf s e with
  | none=>rw [ha] at h;simp only [qP] at h;omega
  | some t =>
   rw [ha] at h
   obtain ⟨h1,h2⟩:=zqD ha
   cases j with
   | zero=>show e.Id=_;rw [h1];simp
   | succ j =>
    have:=zs4 r t (n+1) (by simp only [qP] at h;omega) j (by simpa using hj)
    show (nth r j).Id=_
    rw [this,h2];omega
theorem zu2 {l:List EventT} (h:zkP l=true) {i:Nat} (hi:i < l.length):(nth l i).Id=1+(i:Int):=by
 unfold zkP at h
 simp only [qd,decide_eq_true_eq] at h
 exact zs4 l zqQ 0 (by have:=h.1.2;unfold zkq at this;omega) i hi
theorem zkh {l:List EventT} (h:zly l=true):zkP l=true:=by
 unfold zly at h
 simp only [qd] at h
 exact h.2
theorem zlu {l:List EventT} (h:zkP l=true):l.length≤60:=by
 unfold zkP at h
 simp only [qd,decide_eq_true_eq] at h
 exact h.2
theorem zqi {a b:List EventT} (ha:zkP a=true) (hb:zkP b=true) {i:Nat} (h1:i < a.length) (h2:i < b.length):nth a i=nth b i↔evC (nth a i) (nth b i)=0:=by
 rw [znL]
 constructor
 ·intro e;rw [e];exact ⟨rfl,rfl,rfl⟩
 ·rintro ⟨e1,e2,e3⟩
  have i1:=zu2 ha h1
  have i2:=zu2 hb h2
  have e0:(nth a i).Id=(nth b i).Id:=by rw [i1,i2]
  revert e0 e1 e2 e3
  cases nth a i;cases nth b i
  simp only
  rintro rfl rfl rfl rfl
  rfl
theorem zEy (x y:EventT):((x.Id == y.Id) && ((x.fVe == y.fVe) && ((x.Kind == y.Kind) && (x.Name.toList == y.Name.toList))))=decide (x=y):=by
 rw [sEq,qf]
 simp only [qd,beq_iff_eq,decide_eq_true_eq]
 cases x;cases y
 simp
theorem zu3 (a b:List EventT):(zkR a b).2=match zlE a b with | some i=>i | none=>min a.length b.length:=by
 unfold zkR
 cases zlE a b with
 | some i=>rfl
 | none =>
  simp only
  split
  ·simp only;omega
  ·split<;>(simp only;omega)
end Go.TL
namespace Go.TL
def zkp (c b:List EventT):Bool:=decide ((zkR b c).2=c.length)
theorem zcx (b c:List EventT) (hb:b.length≤9223372036854775807) (hc:c.length≤9223372036854775807):zao b c=some (zkp c b):=by
 unfold zao zkp
 rw [zdJ _ _ hb hc]
 simp only [qa]
 congr 1
 rw [qf,beq_iff_eq,decide_eq_true_eq];omega
theorem zpH {p:Nat→Bool} {n i:Nat} (h:zlH p n=some i):i < n∧p i=true∧∀ j,j < i→p j=false:=by
 unfold zlH at h
 rw [List.find?_range_eq_some] at h
 exact ⟨by simpa using h.2.1,h.1,λ j hj=>by have:=h.2.2 j hj;simpa using this⟩
theorem zrT {p:Nat→Bool} {n:Nat} (h:zlH p n=none):∀ j,j < n→p j=false:=by
 unfold zlH at h
 rw [List.find?_eq_none] at h
 intro j hj
 have:=h j (List.mem_range.2 hj)
 simpa using this
theorem zoB {c b:List EventT} (hc:zkP c=true) (hb:zkP b=true):zkp c b=true↔c.length≤b.length∧∀ i,i < c.length→nth c i=nth b i:=by
 unfold zkp
 rw [decide_eq_true_eq,zu3]
 unfold zlE
 cases hf:zlH (λ i=>decide (evC (nth b i) (nth c i)≠0)) (min b.length c.length) with
 | some i =>
  obtain ⟨h1,h2,h3⟩:=zpH hf
  simp only [ne_eq,decide_not,Bool.not_eq_true',decide_eq_false_iff_not] at h2
  simp only
  constructor
  ·intro h;omega
  ·rintro ⟨h4,h5⟩
   exact absurd ((zqi hb hc (i:=i) (by omega) (by omega)).1 (h5 i (by omega)).symm) h2
 | none =>
  have h1:=zrT hf
  simp only
  constructor
  ·intro h
   refine ⟨by omega,λ i hi=>?_⟩
   have:=h1 i (by omega)
   simp only [ne_eq,decide_not,Bool.not_eq_false',decide_eq_true_eq] at this
   exact ((zqi hb hc (i:=i) (by omega) (by omega)).2 this).symm
  ·rintro ⟨h4,_⟩;omega
theorem zgn (c b:List EventT) (hc:zkP c=true) (hb:zkP b=true):zdW c b=some (zkp c b):=by
 have h1:=zlu hc
 have h2:=zlu hb
 unfold zdW
 by_cases h:c.length≤b.length
 rotate_left
 ·have:zkp c b=false:=by
   cases e:zkp c b with
   | false=>rfl
   | true=>exact absurd ((zoB hc hb).1 e).1 h
  rw [if_neg (by rw [decide_eq_true_eq];omega),this]
 rw [if_pos (by rw [decide_eq_true_eq];omega),zjL (by omega)]
 unfold zbD
 have ht:(b.take c.length).length=c.length:=by rw [qe];omega
 rw [if_neg (by rw [ht];simp)]
 have key:=zk9 (step:=zF c (b.take c.length)) (λ i=>(⟨i⟩:zaW)) c.length (λ i=>decide (nth c i=nth b i)) (.inr ():Unit⊕Unit) (.inl ()) (λ i hi hv=>?_) (λ _=>?_)
 ·rw [key]
  have e:zmw (λ i=>decide (nth c i=nth b i)) c.length=zkp c b:=by
   rw [qf,zkU,zoB hc hb]
   simp only [decide_eq_true_eq]
   exact ⟨λ h'=>⟨h,h'⟩,λ h'=>h'.2⟩
  rw [e]
  cases zkp c b<;>simp
 ·unfold zF
  dsimp only
  rw [if_pos (by rw [decide_eq_true_eq];omega),zjL (by omega),zjL (by rw [ht];omega),qb,zEy,zmz hi]
  have e1:wI ((i:Int)+1)=((i+1:Nat):Int):=by rw [zj0 (by omega)];omega
  rw [e1]
  cases decide (nth c i=nth b i)<;>rfl
 ·unfold zF
  dsimp only
  rw [if_neg (by rw [decide_eq_true_eq];omega)]
def zkA (t:TellingsT):Bool:=decide (t.fBr.length≤12) && zmw (λ i=>zly (nth t.fBr i).fEv && zmw (λ k=>decide ((zkR (nth t.fBr k).fEv (nth t.fBr i).fEv).1 < 0) && !zkp (nth t.fBr k).fEv (nth t.fBr i).fEv) i) t.fBr.length
theorem zcK (t:TellingsT) (ht:zkz t):zZ t=some (zkA t):=by
 have h1:t.fBr.length≤9223372036854775807:=ht.1
 have hev:∀ i,i < t.fBr.length→zlt (nth t.fBr i).fEv:=λ i hi=>ht.2 _ (zks hi)
 unfold zZ zkA
 have key:=zk9 (step:=zar t) (λ i=>(⟨i⟩:zap)) t.fBr.length
  (λ i=>zly (nth t.fBr i).fEv && zmw (λ k=>decide ((zkR (nth t.fBr k).fEv (nth t.fBr i).fEv).1 < 0) && !zkp (nth t.fBr k).fEv (nth t.fBr i).fEv) i) (.inr ():Unit⊕Unit) (.inl ()) (λ i hi hv=>?_) (λ _=>?_)
 ·rw [key]
  have e2:decide (((t.fBr.length:Nat):Int)≤12)=decide (t.fBr.length≤12):=by congr 1;apply propext;omega
  split
  ·rename_i h;rw [h];simp [e2]
  ·rename_i h;simp only [qo] at h;rw [h];simp
 ·unfold zar
  dsimp only
  rw [if_pos (by rw [decide_eq_true_eq];omega),zjL (by omega),qb,zh1 _ (hev i hi)]
  simp only [qa]
  cases hn:zly (nth t.fBr i).fEv
  ·simp
  have ht':(t.fBr.take i).length=i:=by rw [qe];omega
  rw [if_neg (by simp),zjL (by omega)]
  have key2:=zk9 (step:=zaq t (⟨(i:Int)⟩:zap)) (λ k=>(⟨k⟩:zcD)) i (λ k=>decide ((zkR (nth t.fBr k).fEv (nth t.fBr i).fEv).1 < 0) && !zkp (nth t.fBr k).fEv (nth t.fBr i).fEv) (.inr ():Unit⊕Unit) (.inl ()) (λ k hk _=>?_) (λ _=>?_)
  ·rw [key2,ql]
   have e1:wI ((i:Int)+1)=((i+1:Nat):Int):=by rw [zj0 (by omega)];omega
   rw [e1]
   split<;>rfl
  ·unfold zaq
   simp only [qb,ht']
   rw [if_pos (by rw [decide_eq_true_eq];omega),zjL (by omega),zmz hk,zdJ _ _ (hev k (by omega)).1 (hev i hi).1,zcx _ _ (hev i hi).1 (hev k (by omega)).1]
   have e1:wI ((k:Int)+1)=((k+1:Nat):Int):=by rw [zj0 (by omega)];omega
   simp only [qa,e1]
   by_cases hc:(zkR (nth t.fBr k).fEv (nth t.fBr i).fEv).1 < 0
   ·rw [if_neg (by rw [decide_eq_true_eq];omega),decide_eq_true hc]
    cases zkp (nth t.fBr k).fEv (nth t.fBr i).fEv
    ·have:¬ ((k:Int) > (i:Int)):=by omega
     simp [this]
    ·simp
   ·rw [if_pos (by rw [decide_eq_true_eq];omega),decide_eq_false hc]
    simp
  ·unfold zaq
   simp only [qb,ht']
   rw [if_neg (by simp)]
 ·unfold zar
  rw [if_neg (by simp)]
theorem zf9 (t:TellingsT) (ht:zkz t):zbs t=some (zkA t):=by
 have h1:t.fBr.length≤9223372036854775807:=ht.1
 have hev:∀ i,i < t.fBr.length→zlt (nth t.fBr i).fEv:=λ i hi=>ht.2 _ (zks hi)
 unfold zbs zkA
 by_cases h12:t.fBr.length≤12
 rotate_left
 ·rw [if_pos (by rw [decide_eq_true_eq];omega)];simp [h12]
 rw [if_neg (by rw [decide_eq_true_eq];omega),decide_eq_true h12,ql]
 have key:=zk9 (step:=zau t) (λ i=>(⟨i⟩:zas)) t.fBr.length
  (λ i=>zly (nth t.fBr i).fEv && zmw (λ k=>decide ((zkR (nth t.fBr k).fEv (nth t.fBr i).fEv).1 < 0) && !zkp (nth t.fBr k).fEv (nth t.fBr i).fEv) i) (.inr ():Unit⊕Unit) (.inl ()) (λ i hi hv=>?_) (λ _=>?_)
 ·rw [key]
  split
  ·rename_i h;rw [h];rfl
  ·rename_i h;simp only [qo] at h;rw [h];rfl
 ·unfold zau
  dsimp only
  rw [if_pos (by rw [decide_eq_true_eq];omega),zjL (by omega),qb,zin _ (hev i hi).1]
  simp only [qa]
  cases hn:zly (nth t.fBr i).fEv
  ·simp
  have ht':(t.fBr.take i).length=i:=by rw [qe];omega
  rw [if_neg (by simp),zjL (by omega)]
  have key2:=zk9 (step:=zat t (⟨(i:Int)⟩:zas)) (λ k=>(⟨k⟩:zcE)) i (λ k=>decide ((zkR (nth t.fBr k).fEv (nth t.fBr i).fEv).1 < 0) && !zkp (nth t.fBr k).fEv (nth t.fBr i).fEv) (.inr ():Unit⊕Unit) (.inl ()) (λ k hk _=>?_) (λ _=>?_)
  ·rw [key2,ql]
   have e1:wI ((i:Int)+1)=((i+1:Nat):Int):=by rw [zj0 (by omega)];omega
   rw [e1]
   split<;>rfl
  ·have hk':zly (nth t.fBr k).fEv=true:=by
    have:=hv k hk
    simp only [qd] at this
    exact this.1
   unfold zat
   simp only [qb,ht']
   rw [if_pos (by rw [decide_eq_true_eq];omega),zjL (by omega),zmz hk,zeY _ _ (hev k (by omega)).1 (hev i hi).1,zgn _ _ (zkh hk') (zkh hn)]
   have e1:wI ((k:Int)+1)=((k+1:Nat):Int):=by rw [zj0 (by omega)];omega
   simp only [qa,e1]
   by_cases hc:(zkR (nth t.fBr k).fEv (nth t.fBr i).fEv).1 < 0
   ·rw [if_neg (by rw [decide_eq_true_eq];omega),decide_eq_true hc]
    cases zkp (nth t.fBr k).fEv (nth t.fBr i).fEv<;>simp
   ·rw [if_pos (by rw [decide_eq_true_eq];omega),decide_eq_false hc]
    simp
  ·unfold zat
   simp only [qb,ht']
   rw [if_neg (by simp)]
 ·unfold zau
  rw [if_neg (by simp)]
end Go.TL
namespace Go.TL
theorem zmm {t:TellingsT} (h:zkA t=true) {i:Nat} (hi:i < t.fBr.length):zly (nth t.fBr i).fEv=true:=by
 unfold zkA at h
 simp only [qd,zkU] at h
 exact (h.2 i hi).1
theorem zkH {t:TellingsT} (h:zkA t=true):t.fBr.length≤12:=by
 unfold zkA at h
 simp only [qd,decide_eq_true_eq] at h
 exact h.1
end Go.TL

import Derived.Test.YteonagfnhdlfcaaGreatDoorG24PpR2D
import Derived.Test.YteonagfnhdlfcaaGreatDoorG19PlR1
open List renaming length_set → qL, length_append → qM, length_cons → qP, length_nil → qQ, length_take → qe, length_drop → qg, length_singleton → qh, drop_eq_getElem_cons → qi, getElem_of_mem → qj, mem_append → qn, mem_of_mem_take → qr, mem_of_mem_drop → qt, mem_singleton → qu, nil_append → qv
open Option renaming bind_some → qa
open Int renaming toNat_natCast → qb, lt_irrefl → qw
open Bool renaming false_eq_true → qc, and_eq_true → qd, eq_iff_iff → qf, not_true → qk, true_and → ql, false_or → qm, not_eq_true → qo, or_eq_true → qp, not_false → qq, true_or → qy
open Nat renaming le_trans → qx, lt_or_ge → qz
set_option linter.unusedSimpArgs false
set_option linter.unusedVariables false
noncomputable section
set_option maxRecDepth 4000
namespace Go.TL
def zot (x:EventT):Prop:=zoV x.Id∧zoV x.fVe∧zoV x.Kind∧zqy x.Name
def znb (x:EventT):Nat:=zos x.Id+zos x.fVe+zos x.Kind+zB6 x.Name
def zrk (x:EventT):Prop:=zwb x.Id∧zwb x.fVe∧zwb x.Kind∧zC4 x.Name
theorem zwf {x:EventT} (h:zot x):zrk x:=⟨zpx h.1,zpx h.2.1,zpx h.2.2.1,zBx h.2.2.2⟩
theorem zj7 (a:EventT) (n:Int) (ha:zot a) (h0:0≤n) (h1:n≤4611686018427387904):zfS a n=some (szr (znb a) n):=by
 unfold zfS
 unfold zot at ha
 unfold znb
 have z_Id:zos a.Id=0:=zqX _
 rw [z_Id]
 have z_Version:zos a.fVe=0:=zqX _
 rw [z_Version]
 have z_Kind:zos a.Kind=0:=zqX _
 rw [z_Kind]
 have q0:a.Name.size≤9223372036854775807:=ha.2.2.2
 have z0:zB6 a.Name=a.Name.size:=rfl
 rw [z0,zls (by omega)]
 have e0:szr a.Name.size (n)=if (a.Name.size:Int)≤n then n - (a.Name.size:Int) else -1:=rfl
 by_cases c0:(a.Name.size:Int)≤n
 rotate_left
 ·rw [if_pos (by simp;omega)];unfold szr;rw [if_neg (by omega)]
 rw [if_neg (by simp;omega)]
 unfold szr;rw [if_pos (by omega)]
 congr 1;omega
def zmB (x:(List EventT)):Prop:=x.length≤9223372036854775807∧∀ y∈x,zot y
def zmJ (x:(List EventT)):Nat:=x.length+znt (x.map znb)
def zrP (x:(List EventT)):Prop:=x.length≤9223372036854775807∧∀ y∈x,zrk y
theorem zvd {x:(List EventT)} (h:zmB x):zrP x:=⟨h.1,λ y hy=>zwf (h.2 y hy)⟩
theorem zjB (a:(List EventT)) (n:Int) (ha:zmB a) (h0:0≤n) (h1:n≤4611686018427387904):zfj a n=some (szr (zmJ a) n):=by
 obtain ⟨ha1,ha2⟩:=ha
 unfold zfj
 rw [zls (by omega)]
 by_cases hc:n - ((a.length:Nat):Int) < 0
 ·rw [if_pos (decide_eq_true hc)]
  unfold szr zmJ
  rw [if_neg (by omega)]
 ·rw [if_neg (by simpa using hc)]
  have key:=zsE (step:=zbW a) (λ i s=>(⟨s,i⟩:ze4)) a znb n (λ s=>(.inr ⟨s⟩:Unit⊕zhd)) (.inl ()) (λ i s hi hs=>?_) (λ s hs=>?_) (n - ((a.length:Nat):Int)) ⟨by omega,by omega⟩
  ·rw [key]
   unfold szr zmJ
   by_cases h:(znt (a.map znb):Int)≤n - ((a.length:Nat):Int)
   ·rw [if_pos h,if_pos (by omega)];simp only [qa];congr 1;omega
   ·rw [if_neg h,if_neg (by omega)];rfl
  ·have hm:=ha2 _ (zlJ hi)
   unfold zbW
   simp (disch:=omega) only [decide_eq_true_eq,if_pos,zlb,qb,zls]
   rw [zj7 _ _ hm (by omega) (by omega)]
   simp only [qa]
   unfold szr
   by_cases h:(znb (nth a i):Int)≤s
   ·rw [if_pos h,if_pos h,if_neg (by omega)];rfl
   ·rw [if_neg h,if_neg h,if_pos (by omega)]
  ·unfold zbW
   rw [if_neg (by simp)]
theorem zj8 (a:EventT) (ha:znb a≤4194304):zfT a=some a:=by
 unfold znb at ha
 unfold zfT
 all_goals rfl
theorem zjC (a:(List EventT)) (ha:zmJ a≤4194304):zfk a=some a:=by
 unfold zmJ at ha
 unfold zfk
 rw [zlb (by omega)]
 have key:=zqg (step:=zbX a) (λ i l=>(⟨i,l⟩:ze5)) a (λ x=>x) (λ l=>(⟨l⟩:zhe)) (λ i l hi hl=>?_) (λ l hl=>?_) (List.replicate a.length (⟨0,0,0,ByteArray.empty⟩:EventT)) (by simp)
 ·rw [key];simp
 ·unfold zbX
  have hm:znb (nth a i)≤4194304:=qx (zpc znb (zlJ hi)) (by omega)
  simp (disch:=omega) only [decide_eq_true_eq,if_pos,zlb,qb,zls]
  rw [zj8 _ hm]
  simp (disch:=omega) only [qa,zlb]
  rfl
 ·unfold zbX
  rw [if_neg (by simp)]
theorem zj9 (a b:EventT) (ha:zrk a):zfW a b=some (decide (a=b)):=by
 unfold zrk at ha
 unfold zfW
 obtain ⟨x0,x1,x2,x3⟩:=a
 obtain ⟨y0,y1,y2,y3⟩:=b
 simp only [sEq,qa,EventT.mk.injEq]
 by_cases h0:x0=y0
 rotate_left
 ·simp [h0]
 by_cases h1:x1=y1
 rotate_left
 ·simp [h1]
 by_cases h2:x2=y2
 rotate_left
 ·simp [h2]
 by_cases h3:x3=y3
 rotate_left
 ·simp [h3]
 simp [h0,h1,h2,h3]
theorem zjD (a b:(List EventT)) (ha:zrP a):zfm a b=some (decide (a=b)):=by
 obtain ⟨ha1,ha2⟩:=ha
 unfold zfm
 by_cases hl:a.length=b.length
 ·rw [if_neg (by simp [hl])]
  have key:=zsD (step:=zb2 a b) (λ i=>(⟨i⟩:ze9)) a b hl (λ i hi=>?_) ?_
  ·rw [key];by_cases h:a=b<;>simp [h]
  ·have hm:=ha2 _ (zlJ hi)
   unfold zb2
   simp (disch:=omega) only [decide_eq_true_eq,if_pos,zlb,qb,zls]
   rw [zj9 _ _ hm];simp only [qa]
   by_cases h:nth a i=nth b i<;>simp [h]
  ·unfold zb2
   rw [if_neg (by simp)]
 ·rw [if_pos (by simp;omega)]
  simp [show a≠b from λ h=>hl (by rw [h])]
def zol (x:BranchT):Prop:=zmB x.fEv
def zmm (x:BranchT):Nat:=zmJ x.fEv
def zqh (x:BranchT):Prop:=zrP x.fEv
theorem zve {x:BranchT} (h:zol x):zqh x:=zvd h
theorem zjE (a:BranchT) (n:Int) (ha:zol a) (h0:0≤n) (h1:n≤4611686018427387904):zfn a n=some (szr (zmm a) n):=by
 unfold zfn
 unfold zol at ha
 unfold zmm
 rw [zjB _ _ (ha) (by omega) (by omega)]
 simp only [qa]
 by_cases c0:(zmJ a.fEv:Int)≤n
 rotate_left
 ·have e:szr (zmJ a.fEv) n=-1:=by unfold szr;rw [if_neg c0]
  rw [e,if_pos (by decide)]
  try (unfold szr;rw [if_neg (by omega)])
 have e0:szr (zmJ a.fEv) n=n - (zmJ a.fEv:Int):=by unfold szr;rw [if_pos c0]
 rw [e0,if_neg (by simp;omega)]
 try (unfold szr;rw [if_pos (by omega)])
 try (congr 1;omega)
def znn (x:(List BranchT)):Prop:=x.length≤9223372036854775807∧∀ y∈x,zol y
def zmr (x:(List BranchT)):Nat:=x.length+znt (x.map zmm)
def zqY (x:(List BranchT)):Prop:=x.length≤9223372036854775807∧∀ y∈x,zqh y
theorem ztZ {x:(List BranchT)} (h:znn x):zqY x:=⟨h.1,λ y hy=>zve (h.2 y hy)⟩
theorem zi7 (a:(List BranchT)) (n:Int) (ha:znn a) (h0:0≤n) (h1:n≤4611686018427387904):zeF a n=some (szr (zmr a) n):=by
 obtain ⟨ha1,ha2⟩:=ha
 unfold zeF
 rw [zls (by omega)]
 by_cases hc:n - ((a.length:Nat):Int) < 0
 ·rw [if_pos (decide_eq_true hc)]
  unfold szr zmr
  rw [if_neg (by omega)]
 ·rw [if_neg (by simpa using hc)]
  have key:=zsE (step:=zbH a) (λ i s=>(⟨s,i⟩:zei)) a zmm n (λ s=>(.inr ⟨s⟩:Unit⊕zg6)) (.inl ()) (λ i s hi hs=>?_) (λ s hs=>?_) (n - ((a.length:Nat):Int)) ⟨by omega,by omega⟩
  ·rw [key]
   unfold szr zmr
   by_cases h:(znt (a.map zmm):Int)≤n - ((a.length:Nat):Int)
   ·rw [if_pos h,if_pos (by omega)];simp only [qa];congr 1;omega
   ·rw [if_neg h,if_neg (by omega)];rfl
  ·have hm:=ha2 _ (zlJ hi)
   unfold zbH
   simp (disch:=omega) only [decide_eq_true_eq,if_pos,zlb,qb,zls]
   rw [zjE _ _ hm (by omega) (by omega)]
   simp only [qa]
   unfold szr
   by_cases h:(zmm (nth a i):Int)≤s
   ·rw [if_pos h,if_pos h,if_neg (by omega)];rfl
   ·rw [if_neg h,if_neg h,if_pos (by omega)]
  ·unfold zbH
   rw [if_neg (by simp)]
def zlF (x:TellingsT):Prop:=znn x.fBr
def zlO (x:TellingsT):Nat:=zmr x.fBr
def zn4 (x:TellingsT):Prop:=zqY x.fBr
theorem zp3 {x:TellingsT} (h:zlF x):zn4 x:=ztZ h
theorem zhf (a:TellingsT) (n:Int) (ha:zlF a) (h0:0≤n) (h1:n≤4611686018427387904):zct a n=some (szr (zlO a) n):=by
 unfold zct
 unfold zlF at ha
 unfold zlO
 rw [zi7 _ _ (ha) (by omega) (by omega)]
 simp only [qa]
 by_cases c0:(zmr a.fBr:Int)≤n
 rotate_left
 ·have e:szr (zmr a.fBr) n=-1:=by unfold szr;rw [if_neg c0]
  rw [e,if_pos (by decide)]
  try (unfold szr;rw [if_neg (by omega)])
 have e0:szr (zmr a.fBr) n=n - (zmr a.fBr:Int):=by unfold szr;rw [if_pos c0]
 rw [e0,if_neg (by simp;omega)]
 try (unfold szr;rw [if_pos (by omega)])
 try (congr 1;omega)
theorem ziP (a:BranchT) (ha:zmm a≤4194304):zdV a=some a:=by
 unfold zmm at ha
 unfold zdV
 rw [zjC _ (by omega)]
 simp only [qa]
 all_goals rfl
theorem zi8 (a:(List BranchT)) (ha:zmr a≤4194304):zeG a=some a:=by
 unfold zmr at ha
 unfold zeG
 rw [zlb (by omega)]
 have key:=zqg (step:=zbJ a) (λ i l=>(⟨i,l⟩:zej)) a (λ x=>x) (λ l=>(⟨l⟩:zg7)) (λ i l hi hl=>?_) (λ l hl=>?_) (List.replicate a.length (⟨[]⟩:BranchT)) (by simp)
 ·rw [key];simp
 ·unfold zbJ
  have hm:zmm (nth a i)≤4194304:=qx (zpc zmm (zlJ hi)) (by omega)
  simp (disch:=omega) only [decide_eq_true_eq,if_pos,zlb,qb,zls]
  rw [ziP _ hm]
  simp (disch:=omega) only [qa,zlb]
  rfl
 ·unfold zbJ
  rw [if_neg (by simp)]
theorem zhg (a:TellingsT) (ha:zlO a≤4194304):zcu a=some a:=by
 unfold zlO at ha
 unfold zcu
 rw [zi8 _ (by omega)]
 simp only [qa]
 all_goals rfl
theorem zjF (a b:BranchT) (ha:zqh a):zfo a b=some (decide (a=b)):=by
 unfold zqh at ha
 unfold zfo
 rw [zjD _ _ (ha)]
 obtain ⟨x0⟩:=a
 obtain ⟨y0⟩:=b
 simp only [sEq,qa,BranchT.mk.injEq]
 by_cases h0:x0=y0
 rotate_left
 ·simp [h0]
 simp [h0]
theorem zi9 (a b:(List BranchT)) (ha:zqY a):zeH a b=some (decide (a=b)):=by
 obtain ⟨ha1,ha2⟩:=ha
 unfold zeH
 by_cases hl:a.length=b.length
 ·rw [if_neg (by simp [hl])]
  have key:=zsD (step:=zbK a b) (λ i=>(⟨i⟩:zek)) a b hl (λ i hi=>?_) ?_
  ·rw [key];by_cases h:a=b<;>simp [h]
  ·have hm:=ha2 _ (zlJ hi)
   unfold zbK
   simp (disch:=omega) only [decide_eq_true_eq,if_pos,zlb,qb,zls]
   rw [zjF _ _ hm];simp only [qa]
   by_cases h:nth a i=nth b i<;>simp [h]
  ·unfold zbK
   rw [if_neg (by simp)]
 ·rw [if_pos (by simp;omega)]
  simp [show a≠b from λ h=>hl (by rw [h])]
theorem zhh (a b:TellingsT) (ha:zn4 a):zcv a b=some (decide (a=b)):=by
 unfold zn4 at ha
 unfold zcv
 rw [zi9 _ _ (ha)]
 obtain ⟨x0⟩:=a
 obtain ⟨y0⟩:=b
 simp only [sEq,qa,TellingsT.mk.injEq]
 by_cases h0:x0=y0
 rotate_left
 ·simp [h0]
 simp [h0]
end Go.TL
namespace Go.TL
theorem zuq:∀ a b:List UInt8,zl6 a b=true∨a=b∨zl6 b a=true
 | [],[]=>.inr (.inl rfl)
 | [],_ :: _=>.inl rfl
 | _ :: _,[]=>.inr (.inr rfl)
 | x :: r,y :: q=>by
  simp only [zl6,qp,qd,decide_eq_true_eq,beq_iff_eq,List.cons.injEq]
  rcases Nat.lt_trichotomy x.toNat y.toNat with h | h | h
  ·exact .inl (.inl (UInt8.lt_iff_toNat_lt.2 h))
  ·have e:x=y:=UInt8.toNat_inj.1 h
   subst e
   rcases zuq r q with h | h | h
   ·exact .inl (.inr ⟨rfl,h⟩)
   ·exact .inr (.inl ⟨rfl,h⟩)
   ·exact .inr (.inr (.inr ⟨rfl,h⟩))
  ·exact .inr (.inr (.inl (UInt8.lt_iff_toNat_lt.2 h)))
theorem zmn (a:ByteArray):sLt a a=false:=zrj _
theorem znQ {a b c:ByteArray} (h1:sLt a b=true) (h2:sLt b c=true):sLt a c=true:=zsf _ _ _ h1 h2
theorem zn5 {a b:ByteArray} (h:sLt a b=true):sLt b a=false:=by
 cases h2:sLt b a with
 | false=>rfl
 | true=>have:=znQ h h2;rw [zmn] at this;cases this
theorem zpy (a b:ByteArray):sLt a b=true∨a=b∨sLt b a=true:=by
 rcases zuq a.toList b.toList with h | h | h
 ·exact .inl h
 ·exact .inr (.inl (zun h))
 ·exact .inr (.inr h)
theorem sGt (a b:ByteArray):(!(sLt a b || a.toList == b.toList))=sLt b a:=by
 rw [sEq]
 rcases zpy a b with h | h | h
 ·simp [h,zn5 h]
 ·subst h;simp [zmn]
 ·have hn:a≠b:=λ e=>by subst e;rw [zmn] at h;cases h
  simp [h,zn5 h,hn]
def zl3 (l:List ByteArray) (s:ByteArray):Bool:=l.any λ x=>decide (x=s)
theorem zpd {l:List ByteArray} {s:ByteArray}:zl3 l s=true↔s∈l:=by
 unfold zl3
 rw [List.any_eq_true]
 exact ⟨λ ⟨x,h1,h2⟩=>by rw [decide_eq_true_eq] at h2;rw [← h2];exact h1,λ h=>⟨s,h,by simp⟩⟩
def atS (l:List ByteArray) (s:ByteArray):Option Nat:=zm2 (λ i=>decide (nth l i=s)) l.length
theorem ztm (l:List ByteArray) (s:ByteArray):(atS l s).isSome=zl3 l s:=znC l λ x=>decide (x=s)
theorem zkT (l:List ByteArray) (s:ByteArray) (hl:l.length≤9223372036854775807):zbv l s=some (match atS l s with | some i=>(i:Int) | none=>-1):=by
 unfold zbv
 have key:=zmN (step:=zdM l s) (λ i=>(⟨i⟩:zgB)) l.length (λ i=>decide (nth l i=s)) (λ i=>(.inl ⟨i⟩:zh0⊕Unit)) (.inr ()) (λ i hi hv=>?_) ?_
 ·rw [key]
  unfold atS
  cases zm2 (λ i=>decide (nth l i=s)) l.length<;>rfl
 ·unfold zdM
  simp (disch:=omega) only [decide_eq_true_eq,if_pos,zlb,qb,zls,qa,sEq]
  by_cases h:nth l i=s
  ·rw [if_pos h,if_pos h]
  ·rw [if_neg h,if_neg h];rfl
 ·unfold zdM
  rw [if_neg (by simp)]
theorem zdP (l:List ByteArray) (s:ByteArray) (hl:l.length≤9223372036854775807):∃ k,zbv l s=some k∧decide (k ≥ 0)=zl3 l s:=by
 refine ⟨_,zkT l s hl,?_⟩
 rw [← ztm]
 cases atS l s with
 | none=>rfl
 | some i=>simp
theorem znL (l:List ByteArray) (s:ByteArray) (hl:l.length≤9223372036854775807):zF l s=some (zl3 l s):=by
 unfold zF zdu
 have key:=zmN (step:=zal l s) (λ i=>(⟨i⟩:zcb)) l.length (λ i=>decide (nth l i=s)) (λ i=>(.inl ⟨i⟩:zfU⊕Unit)) (.inr ()) (λ i hi hv=>?_) ?_
 ·rw [key,← ztm]
  unfold atS
  cases zm2 (λ i=>decide (nth l i=s)) l.length<;>simp
 ·unfold zal
  simp (disch:=omega) only [decide_eq_true_eq,if_pos,zlb,qb,zls,qa,sEq]
  by_cases h:nth l i=s
  ·rw [if_pos h.symm,if_pos h]
  ·rw [if_neg (λ e=>h e.symm),if_neg h];rfl
 ·unfold zal
  rw [if_neg (by simp)]
theorem zn6 {α:Type} [Inhabited α] {l:List α} {i k:Nat} (h:k < i):nth (l.take i) k=nth l k:=by
 unfold nth
 rw [List.getD_eq_getElem?_getD,List.getD_eq_getElem?_getD,List.getElem?_take_of_lt h]
def okL (r:Bool) (l:List ByteArray):Bool :=
 decide (l.length≤30) && znK (λ i=>zmk (nth l i) && znK (λ k=>!decide (nth l k=nth l i) && (!r || !decide (k+1=i) || !sLt (nth l i) (nth l k))) i) l.length
theorem zhK (r:Bool) (l:List ByteArray) (hl:ztk l):zdN l r=some (okL r l):=by
 have h1:=hl.1
 unfold zdN okL
 have key:=zmg (step:=zb0 l r) (λ i=>(⟨i⟩:zbY)) l.length (λ i=>zmk (nth l i) && znK (λ k=>!decide (nth l k=nth l i) && (!r || !decide (k+1=i) || !sLt (nth l i) (nth l k))) i) (.inr ():Unit⊕Unit) (.inl ()) (λ i hi hv=>?_) (λ _=>?_)
 ·rw [key]
  have hsz:decide (((l.length:Nat):Int)≤30)=decide (l.length≤30):=by congr 1;apply propext;omega
  cases znK (λ i=>zmk (nth l i) && znK (λ k=>!decide (nth l k=nth l i) && (!r || !decide (k+1=i) || !sLt (nth l i) (nth l k))) i) l.length
  ·simp
  ·simp [hsz]
 ·have hm:zqy (nth l i):=hl.2 _ (zlJ hi)
  unfold zb0
  rw [if_pos (by simp;omega),zlb (by simp;omega)]
  simp only [qb]
  rw [zg9 _ hm]
  simp only [qa]
  cases hn:zmk (nth l i)
  ·simp
  have ht:(l.take i).length=i:=by rw [qe];omega
  rw [if_neg (by simp),zlb (by simp;omega)]
  have key2:=zmg (step:=zbZ l (⟨(i:Int)⟩:zbY) r) (λ k=>(⟨k⟩:ze7)) i (λ k=>!decide (nth l k=nth l i) && (!r || !decide (k+1=i) || !sLt (nth l i) (nth l k))) (.inr ():Unit⊕Unit) (.inl ()) (λ k hk _=>?_) (λ _=>?_)
  ·rw [key2,ql]
   cases znK (λ k=>!decide (nth l k=nth l i) && (!r || !decide (k+1=i) || !sLt (nth l i) (nth l k))) i
   ·simp
   ·simp (disch:=omega) [zls]
  ·unfold zbZ
   simp only [qb,ht]
   rw [if_pos (by simp;omega),zlb (by omega)]
   simp (disch:=omega) only [zn6 hk,sGt,zls]
   rw [sEq]
   have ek:(((k:Int)) == (i:Int) - 1)=decide (k+1=i):=by
    rw [qf,beq_iff_eq,decide_eq_true_eq];omega
   rw [ek]
   by_cases he:nth l k=nth l i
   ·simp [he]
   ·cases r
    ·simp [he]
    ·by_cases h2:k+1=i
     ·cases h3:sLt (nth l i) (nth l k)<;>(simp [he,h2,h3];try omega)
     ·simp [he,h2]
  ·unfold zbZ
   simp only [qb,ht]
   rw [if_neg (by simp)]
 ·unfold zb0
  rw [if_neg (by simp)]
theorem zh1 (l:List ByteArray) (hl:l.length≤9223372036854775807):zez l 30=some (decide (l.length≤30) && l.all zmk):=by
 unfold zez
 by_cases h:l.length≤30
 rotate_left
 ·rw [if_neg (by simp;omega)];simp [h]
 rw [if_pos (by simp;omega)]
 unfold zM zQ
 have key:=zmN (step:=zi l) (λ i=>(⟨i⟩:zL)) l.length (λ i=>!zmk (nth l i)) (λ i=>(.inl ⟨i⟩:za7⊕Unit)) (.inr ()) (λ i hi hv=>?_) ?_
 ·rw [key]
  have e:=znC l λ x=>!zmk x
  have e2:(l.any λ x=>!zmk x)=!l.all zmk:=by
   rw [qf];simp
  rw [e2] at e
  cases hf:zm2 (λ i=>!zmk (nth l i)) l.length with
  | none=>rw [hf] at e;simp at e;simp [h];exact e
  | some i=>rw [hf] at e;simp at e;simp [h];exact e
 ·unfold zi zfF
  simp (disch:=omega) only [decide_eq_true_eq,if_pos,zlb,qb,zls,qa,zb5]
  cases zmk (nth l i)<;>rfl
 ·unfold zi
  rw [if_neg (by simp)]
def zwg (l:List ByteArray):Bool:=znK (λ i=>!zl3 (l.take i) (nth l i)) l.length
theorem zhL (l:List ByteArray) (hl:l.length≤9223372036854775807):zdO l=some (zwg l):=by
 unfold zdO zwg
 have key:=zmg (step:=zb1 l) (λ i=>(⟨i⟩:ze8)) l.length (λ i=>!zl3 (l.take i) (nth l i)) (.inr ():Unit⊕Unit) (.inl ()) (λ i hi hv=>?_) (λ _=>?_)
 ·rw [key]
  cases znK (λ i=>!zl3 (l.take i) (nth l i)) l.length<;>simp
 ·unfold zb1
  rw [if_pos (by simp;omega),zlb (by simp;omega),zlb (by simp;omega)]
  simp only [qb]
  rw [znL _ _ (by rw [qe];omega)]
  simp only [qa]
  rw [zls (by omega)]
  cases zl3 (l.take i) (nth l i)<;>rfl
 ·unfold zb1
  rw [if_neg (by simp)]
theorem ztn (a b:ByteArray):zcr a b=some (sLt a b):=by
 unfold zcr zaA
 simp
def zto (l:List ByteArray):Bool:=znK (λ i=>decide (i=0) || !sLt (nth l i) (nth l (i - 1))) l.length
theorem zjG (l:List ByteArray) (hl:l.length≤9223372036854775807):za8 l=some (zto l):=by
 have key:∀ m:Nat,m < l.length→(∀ j,m < j→j < l.length→(decide (j=0) || !sLt (nth l j) (nth l (j - 1)))=true)→zln (zC l) ⟨(m:Int)⟩=some (if zto l=true then .inr () else .inl ()):=by
  intro m
  induction m with
  | zero =>
   intro hm hv
   have hs:zto l=true:=zmf.2 λ i hi=>by
    by_cases h0:i=0
    ·simp [h0]
    ·exact hv i (by omega) hi
   rw [zly (r:=.inr ()) (by unfold zC;rw [if_neg (by simp)]),if_pos hs]
  | succ m ih =>
   intro hm hv
   have h1:zC l ⟨((m+1:Nat):Int)⟩=some (if sLt (nth l (m+1)) (nth l m)=true then .inr (.inl ()) else .inl ⟨(m:Int)⟩):=by
    unfold zC
    have e:wI (((m+1:Nat):Int) - 1)=(m:Int):=by rw [zls (by omega)];omega
    simp only [e,qb]
    rw [if_pos (by simp),zlb (by omega),zlb (by omega),ztn]
    simp only [qa]
    split<;>rfl
   by_cases hc:sLt (nth l (m+1)) (nth l m)=true
   ·rw [if_pos hc] at h1
    have hs:¬ zto l=true:=λ h=>by
     have:=zmf.1 h (m+1) hm
     simp [hc] at this
    rw [zly h1,if_neg hs]
   ·rw [if_neg hc] at h1
    rw [zl4 h1]
    exact ih (by omega) λ j hj hjl=>by
     by_cases e:j=m+1
     ·subst e;simp at hc;simp [hc]
     ·exact hv j (by omega) hjl
 unfold za8
 rcases Nat.eq_zero_or_pos l.length with h0 | h0
 ·have hs:zto l=true:=zmf.2 λ i hi=>by omega
  rw [h0]
  have e:wI (((0:Nat):Int) - 1)=-1:=by rw [zls (by omega)];rfl
  rw [e,zly (r:=.inr ()) (by unfold zC;rw [if_neg (by decide)]),hs]
  rfl
 ·have e:wI (((l.length:Nat):Int) - 1)=((l.length - 1:Nat):Int):=by rw [zls (by omega)];omega
  rw [e,key (l.length - 1) (by omega) λ j hj hjl=>by omega]
  cases zto l<;>rfl
theorem zur (l:List ByteArray):okL false l=((decide (l.length≤30) && l.all zmk) && zwg l):=by
 unfold okL zwg
 rw [← zri l zmk,qf]
 simp only [qd,zmf,qq,qy,and_true,Bool.not_eq_true',← qo,zpd,decide_eq_true_eq]
 constructor
 ·rintro ⟨h1,h2⟩
  refine ⟨⟨h1,λ i hi=>(h2 i hi).1⟩,λ i hi hm=>?_⟩
  obtain ⟨k,hk,e⟩:=qj hm
  rw [qe] at hk
  rw [← zlT (by rw [qe];omega),zn6 (by omega)] at e
  exact (h2 i hi).2 k (by omega) e
 ·rintro ⟨⟨h1,h2⟩,h3⟩
  refine ⟨h1,λ i hi=>⟨h2 i hi,λ k hk e=>h3 i hi ?_⟩⟩
  rw [← e,← zn6 hk]
  exact zlJ (by rw [qe];omega)
theorem zAg (l:List ByteArray):okL true l=(((decide (l.length≤30) && l.all zmk) && zto l) && zwg l):=by
 have e:okL true l=(okL false l && zto l):=by
  unfold okL zto
  rw [qf]
  simp only [qd,zmf,qq,qy,and_true,qk,qm,qp]
  constructor
  ·rintro ⟨h1,h2⟩
   refine ⟨⟨h1,λ i hi=>⟨(h2 i hi).1,λ k hk=>((h2 i hi).2 k hk).1⟩⟩,λ i hi=>?_⟩
   by_cases h0:i=0
   ·exact .inl (by simp [h0])
   ·have:=((h2 i hi).2 (i - 1) (by omega)).2
    rw [decide_eq_true (by omega:i - 1+1=i)] at this
    exact .inr (by simpa using this)
  ·rintro ⟨⟨h1,h2⟩,h3⟩
   refine ⟨h1,λ i hi=>⟨(h2 i hi).1,λ k hk=>⟨(h2 i hi).2 k hk,?_⟩⟩⟩
   by_cases h0:k+1=i
   ·have:=h3 i hi
    subst h0
    simpa using this
   ·exact .inl (by simp [h0])
 rw [e,zur]
 cases decide (l.length≤30)<;>cases l.all zmk<;>cases zwg l<;>cases zto l<;>rfl
def zmU (s:zlm):Bool:=decide (1≤s.Next∧s.Next≤1001) && decide (0≤s.Done∧s.Done≤1000) && decide (0≤s.fSt∧s.fSt≤2) && okL false s.fSi && okL true s.fTi &&
 (if s.fSt=0 then decide (s.Next=1) && !s.fCa && decide (s.Done=0) && decide (s.fSi=[]) && decide (s.fTi=[]) else decide (1 < s.Next))
theorem zC5 (l:List ByteArray):(((l.length:Nat):Int) == 0)=decide (l=[]):=by
 cases l<;>simp
 omega
theorem zja (s:zlm) (h1:ztk s.fSi) (h2:ztk s.fTi):zc9 s=some (zmU s):=by
 unfold zc9 zmU
 simp only [zeT,zhK _ _ h1,zhK _ _ h2,qa,zC5]
 generalize decide (1≤s.Next∧s.Next≤1001)=b1
 generalize decide (0≤s.Done∧s.Done≤1000)=b2
 generalize decide (0≤s.fSt∧s.fSt≤2)=b3
 generalize okL false s.fSi=b4
 generalize okL true s.fTi=b5
 cases b1<;>cases b2<;>cases b3<;>cases b4<;>cases b5<;>simp
 by_cases h0:s.fSt=0
 ·by_cases hn:s.Next=1
  ·by_cases hd:s.Done=0<;>cases s.fCa<;>by_cases hs:s.fSi=[]<;>simp [h0,hn,hd,hs]
  ·simp [h0,hn]
 ·simp [h0]
theorem zcO (s:zlm) (h1:s.fSi.length≤9223372036854775807) (h2:s.fTi.length≤9223372036854775807):zbh s=some (zmU s):=by
 unfold zbh zmU
 rw [zur,zAg]
 simp only [zc5,zh1 _ h1,zh1 _ h2,zhL _ h1,zhL _ h2,zjG _ h2,qa,zC5]
 generalize decide (1≤s.Next∧s.Next≤1001)=b1
 generalize decide (0≤s.Done∧s.Done≤1000)=b2
 generalize decide (0≤s.fSt∧s.fSt≤2)=b3
 generalize (decide (s.fSi.length≤30) && s.fSi.all zmk)=b4
 generalize (decide (s.fTi.length≤30) && s.fTi.all zmk)=b5
 generalize zwg s.fSi=b6
 generalize zwg s.fTi=b7
 generalize zto s.fTi=b8
 cases b1
 ·simp
 cases b2
 ·simp
 cases b3
 ·simp
 cases b4
 ·simp
 cases b6
 ·simp
 cases b5
 ·simp
 cases b8
 ·simp
 cases b7
 ·simp
 simp
 by_cases h0:s.fSt=0
 ·by_cases hn:s.Next=1
  ·by_cases hd:s.Done=0<;>cases s.fCa<;>by_cases hs:s.fSi=[]<;>simp [h0,hn,hd,hs]
  ·simp [h0,hn]
 ·simp [h0]
end Go.TL
namespace Go.TL
theorem zmj {r:Bool} {l:List ByteArray} (h:okL r l=true):l.length≤30:=by
 unfold okL at h
 simp only [qd,decide_eq_true_eq] at h
 exact h.1
theorem zBy {r:Bool} {l:List ByteArray} (h:okL r l=true) {x:ByteArray} (hx:x∈l):x.size≤12:=by
 unfold okL at h
 simp only [qd,zmf] at h
 obtain ⟨i,hi,rfl⟩:=qj hx
 have:=(h.2 i hi).1
 rw [zlT hi] at this
 unfold zmk at this
 simp only [qd,decide_eq_true_eq] at this
 exact this.1
theorem zxh {r:Bool} {l:List ByteArray} (h:okL r l=true):ztk l:=by
 have:=zmj h
 exact ⟨by omega,λ y hy=>by have:=zBy h hy;show y.size≤_;omega⟩
theorem zsF {l:List ByteArray} (h:okL true l=true):∀ (j i:Nat),i < j→j < l.length→sLt (nth l i) (nth l j)=true:=by
 unfold okL at h
 simp only [qd,zmf,qk,qm,qp,Bool.not_eq_true',decide_eq_false_iff_not] at h
 intro j
 induction j with
 | zero=>intro i hi;omega
 | succ j ih =>
  intro i hi hj
  have hd:=(h.2 (j+1) hj).2 j (by omega)
  have hs:sLt (nth l j) (nth l (j+1))=true:=by
   rcases zpy (nth l j) (nth l (j+1)) with h1 | h1 | h1
   ·exact h1
   ·exact absurd h1 hd.1
   ·rcases hd.2 with h2 | h2
    ·exact absurd rfl h2
    ·rw [h2] at h1;cases h1
  by_cases e:i=j
  ·rw [e];exact hs
  ·exact znQ (ih i (by omega) (by omega)) hs
def zoe (l:List ByteArray) (x:ByteArray):List ByteArray :=
 if zl3 l x=true then l.filter (λ y=>!decide (y=x)) else l.takeWhile (λ y=>sLt y x)++x :: l.dropWhile (λ y=>sLt y x)
def znD (x:ByteArray):List ByteArray→Bool→List ByteArray→Bool×List ByteArray
 | [],p,c=>(p,c)
 | y :: r,p,c=>if y=x then znD x r p c else if (!p && sLt x y)=true then znD x r true (c++[x]++[y]) else znD x r p (c++[y])
set_option maxHeartbeats 1000000 in
theorem zxi (l:List ByteArray) (x:ByteArray) (hl:l.length≤30):∀ (r:List ByteArray) (i:Nat) (p:Bool) (c:List ByteArray),l.drop i=r→i≤l.length→c.length≤2 * i →
  zln (zR l x) ⟨p,(i:Int),c⟩=some ⟨(znD x r p c).1,(znD x r p c).2⟩:=by
 intro r
 induction r with
 | nil =>
  intro i p c hd hi hc
  have hi':i=l.length:=by
   have:=congrArg List.length hd
   rw [qg,qQ] at this
   omega
  subst hi'
  exact zly (by unfold zR;rw [if_neg (by simp)];rfl)
 | cons y r ih =>
  intro i p c hd hi hc
  have hlt:i < l.length:=by
   have:=congrArg List.length hd
   rw [qg,qP] at this
   omega
  have hy:nth l i=y:=by
   rw [zlT hlt]
   have:=qi hlt
   rw [hd] at this
   exact (List.cons.inj this).1.symm
  have hr:l.drop (i+1)=r:=by
   have:=qi hlt
   rw [hd] at this
   exact (List.cons.inj this).2.symm
  have hstep:zR l x ⟨p,(i:Int),c⟩=some (.inl (if y=x then ⟨p,((i+1:Nat):Int),c⟩ else if (!p && sLt x y)=true then ⟨true,((i+1:Nat):Int),c++[x]++[y]⟩ else ⟨p,((i+1:Nat):Int),c++[y]⟩)):=by
   unfold zR
   have e1:wI ((i:Int)+1)=((i+1:Nat):Int):=by rw [zls (by omega)];omega
   simp only [qb,hy,e1,sGt]
   rw [if_pos (by simp;omega),zlb (by omega),sEq]
   by_cases he:y=x
   ·rw [if_pos (by simp [he]),if_pos he]
   ·rw [if_neg (by simp [he]),if_neg he]
    have hg1:(c.length+1) * 16≤140737488355328:=by omega
    have hg2:(c.length+1+1) * 16≤140737488355328:=by omega
    cases p
    ·cases h:sLt x y
     ·simp [zlb hg1]
     ·simp [zlb hg1,zlb hg2]
    ·simp [zlb hg1]
  rw [zl4 hstep]
  unfold znD
  by_cases he:y=x
  ·rw [if_pos he,if_pos he];exact ih (i+1) p c hr (by omega) (by omega)
  ·rw [if_neg he,if_neg he]
   split
   ·exact ih (i+1) true _ hr (by omega) (by simp only [qM,qh];omega)
   ·exact ih (i+1) p _ hr (by omega) (by simp only [qM,qh];omega)
theorem zou (x:ByteArray):∀ (r c:List ByteArray),znD x r true c=(true,c++r.filter λ y=>!decide (y=x))
 | [],c=>by simp [znD]
 | y :: r,c=>by
  unfold znD
  by_cases he:y=x
  ·rw [if_pos he,zou x r c];simp [he]
  ·rw [if_neg he,if_neg (by simp),zou x r];simp [he]
theorem zrQ {x:ByteArray} {r:List ByteArray} (h:x∉r):(r.filter λ y=>!decide (y=x))=r:=by
 rw [List.filter_eq_self]
 intro y hy
 simp only [Bool.not_eq_true',decide_eq_false_iff_not]
 intro e;subst e;exact h hy
theorem zp4 (x:ByteArray):∀ (r c:List ByteArray),x∉r →
  (if (!(znD x r false c).1)=true then (znD x r false c).2++[x] else (znD x r false c).2)=c++(r.takeWhile (λ y=>sLt y x)++x :: r.dropWhile λ y=>sLt y x)
 | [],c,_=>by simp [znD]
 | y :: r,c,h=>by
  have hne:y≠x:=λ e=>h (by simp [e])
  have hr:x∉r:=λ e=>h (List.mem_cons_of_mem _ e)
  unfold znD
  rw [if_neg hne]
  rcases zpy y x with h1 | h1 | h1
  ·have h2:=zn5 h1
   have e:(!false && sLt x y)=false:=by simp [h2]
   simp only [e,qc,if_false]
   rw [zp4 x r (c++[y]) hr]
   simp [h1]
  ·exact absurd h1 hne
  ·have h2:=zn5 h1
   have e:(!false && sLt x y)=true:=by simp [h1]
   simp only [e,if_true]
   rw [zou,zrQ hr]
   simp [h2]
theorem zpe (x:ByteArray):∀ (r c:List ByteArray) (p:Bool),(znD x r p c).2.length≤c.length+2 * r.length
 | [],c,p=>by simp [znD]
 | y :: r,c,p=>by
  unfold znD
  split
  ·have:=zpe x r c p;simp only [qP];omega
  ·split
   ·have:=zpe x r (c++[x]++[y]) true;simp only [qP,qM,qQ] at this ⊢;omega
   ·have:=zpe x r (c++[y]) p;simp only [qP,qM,qQ] at this ⊢;omega
theorem zjH (l:List ByteArray) (x:ByteArray) (hl:l.length≤30):zbP l x=some (zoe l x):=by
 unfold zbP zoe
 obtain ⟨k,hk,hp⟩:=zdP l x (by omega)
 rw [hk]
 simp only [qa]
 rw [hp]
 have:=zxi l x hl l 0 (zl3 l x) [] rfl (by omega) (by simp)
 rw [show ((0:Nat):Int)=0 from rfl] at this
 rw [this]
 simp only [qa]
 have hlen:=zpe x l [] (zl3 l x)
 simp only [qQ,Nat.zero_add] at hlen
 rw [zlb (by omega)]
 cases h:zl3 l x
 ·have hm:x∉l:=λ e=>by rw [zpd.2 e] at h;cases h
  have:=zp4 x l [] hm
  simp only [qv] at this
  simp only [qc,if_false]
  rw [← this]
  split<;>rfl
 ·rw [zou]
  simp
theorem zBz {a b:Nat} (h:a+b≤100):wI (shR 64 (wU (wI ((a:Int)+(b:Int)))) 1)=(((a+b) / 2:Nat):Int):=by
 have e0:wI ((a:Int)+(b:Int))=(a:Int)+(b:Int):=zls (by omega)
 have e1:wU ((a:Int)+(b:Int))=(a:Int)+(b:Int):=zCM (by omega)
 rw [e0,e1]
 unfold shR
 have e:(min (1:Int).toNat 64)=1:=rfl
 rw [e]
 have:(((a:Int)+(b:Int)).fdiv (2 ^ 1))=(((a+b) / 2:Nat):Int):=by
  rw [Int.fdiv_eq_ediv_of_nonneg _ (by decide)]
  omega
 rw [this,zls (by omega)]
theorem zwh (l:List ByteArray) (x:ByteArray) (hl:l.length≤30) (hs:okL true l=true):∀ (n lo hi:Nat),hi - lo=n→lo≤hi→hi≤l.length→(∀ j,j < lo→sLt (nth l j) x=true)→(∀ j,hi≤j→j < l.length→sLt (nth l j) x=false) →
  ∃ k:Nat,zln (zz l x) ⟨(lo:Int),(hi:Int)⟩=some ⟨(k:Int)⟩∧k≤l.length∧(∀ j:Nat,j < k→sLt (nth l j) x=true)∧∀ j,k≤j→j < l.length→sLt (nth l j) x=false:=by
 intro n
 induction n using Nat.strongRecOn with
 | _ n ih =>
  intro lo hi hn hle hhi h1 h2
  by_cases hlt:lo < hi
  ·have hstep:zz l x ⟨(lo:Int),(hi:Int)⟩=some (.inl (if sLt (nth l ((lo+hi) / 2)) x=true then ⟨(((lo+hi) / 2+1:Nat):Int),(hi:Int)⟩ else ⟨(lo:Int),(((lo+hi) / 2:Nat):Int)⟩)):=by
    unfold zz
    simp only [zBz (show lo+hi≤100 by omega),qb]
    rw [if_pos (by simp;omega),zlb (by omega),ztn]
    simp only [qa]
    rw [zls (n:=(((lo+hi) / 2:Nat):Int)+1) (by omega)]
    split<;>rfl
   have hmid:(lo+hi) / 2 < l.length:=by omega
   rw [zl4 hstep]
   by_cases hc:sLt (nth l ((lo+hi) / 2)) x=true
   ·rw [if_pos hc]
    refine ih _ (by omega) ((lo+hi) / 2+1) hi rfl (by omega) hhi (λ j hj=>?_) h2
    by_cases e:j=(lo+hi) / 2
    ·rw [e];exact hc
    ·exact znQ (zsF hs _ j (by omega) hmid) hc
   ·rw [if_neg hc]
    refine ih _ (by omega) lo ((lo+hi) / 2) rfl (by omega) (by omega) h1 (λ j hj hjl=>?_)
    by_cases e:j=(lo+hi) / 2
    ·rw [e];simpa using hc
    ·cases h:sLt (nth l j) x with
     | false=>rfl
     | true=>exact absurd (znQ (zsF hs j ((lo+hi) / 2) (by omega) hjl) h) hc
  ·have e:lo=hi:=by omega
   subst e
   refine ⟨lo,zly ?_,hhi,h1,h2⟩
   unfold zz
   rw [if_neg (by simp)]
theorem ztp {p:ByteArray→Bool}:∀ {l:List ByteArray} {k:Nat},k≤l.length→(∀ j,j < k→p (nth l j)=true)→(∀ j,k≤j→j < l.length→p (nth l j)=false)→l.takeWhile p=l.take k∧l.dropWhile p=l.drop k
 | [],k,hk,h1,h2=>by simp
 | y :: r,0,hk,h1,h2=>by
  have:=h2 0 (by omega) (by simp)
  have e:nth (y :: r) 0=y:=rfl
  rw [e] at this
  simp [this]
 | y :: r,k+1,hk,h1,h2=>by
  have:=h1 0 (by omega)
  have e:nth (y :: r) 0=y:=rfl
  rw [e] at this
  obtain ⟨h3,h4⟩:=ztp (p:=p) (l:=r) (k:=k) (by simpa using hk) (λ j hj=>h1 (j+1) (by omega)) (λ j hj hl=>h2 (j+1) (by omega) (by simpa using hl))
  simp [this,h3,h4]
theorem zqi (l:List ByteArray) (x:ByteArray) (hs:okL true l=true):∃ k:Nat,zaj l x=some ((k:Int),zl3 l x)∧k≤l.length∧(zl3 l x=true→k < l.length) ∧
  zoe l x=if zl3 l x=true then l.take k++l.drop (k+1) else l.take k++[x]++l.drop k:=by
 have hl:=zmj hs
 obtain ⟨k,hk,hkl,h1,h2⟩:=zwh l x hl hs l.length 0 l.length (by omega) (by omega) (Nat.le_refl _) (λ j hj=>by omega) (λ j hj hj2=>by omega)
 obtain ⟨e1,e2⟩:=ztp (p:=λ y=>sLt y x) hkl h1 h2
 have hx:zl3 l x=true↔k < l.length∧nth l k=x:=by
  rw [zpd]
  constructor
  ·intro hm
   obtain ⟨m,hm1,rfl⟩:=qj hm
   have hnm:nth l m=l[m]:=zlT hm1
   have hmk:k≤m:=by
    rcases qz m k with h | h
    ·have:=h1 m h;rw [hnm,zmn] at this;cases this
    ·exact h
   have:k=m:=by
    rcases qz k m with h | h
    ·have h3:=zsF hs m k h hm1
     rw [hnm] at h3
     have h4:=h2 k (Nat.le_refl _) (by omega)
     rw [h4] at h3;cases h3
    ·omega
   subst this
   exact ⟨hm1,hnm⟩
  ·rintro ⟨h3,h4⟩
   rw [← h4];exact zlJ h3
 refine ⟨k,?_,hkl,λ h=>(hx.1 h).1,?_⟩
 ·unfold zaj
  rw [show (0:Int)=((0:Nat):Int) from rfl,hk]
  simp only [qa,qb]
  by_cases h3:k < l.length
  ·rw [if_pos (by simp;omega),zlb (by omega),sEq]
   by_cases h4:nth l k=x
   ·rw [if_pos (by simp [h4]),hx.2 ⟨h3,h4⟩]
   ·rw [if_neg (by simp [h4]),zlb (by omega)]
    have hf:zl3 l x=false:=by
     cases h:zl3 l x with
     | false=>rfl
     | true=>exact absurd (hx.1 h).2 h4
    unfold zbV
    simp [hf]
  ·rw [if_neg (by simp;omega)]
   have hf:zl3 l x=false:=by
    cases h:zl3 l x with
    | false=>rfl
    | true=>exact absurd (hx.1 h).1 h3
   rw [hf]
 ·unfold zoe
  by_cases h:zl3 l x=true
  ·rw [if_pos h,if_pos h]
   obtain ⟨h3,h4⟩:=hx.1 h
   have hl2:l=l.take k++x :: l.drop (k+1):=by
    rw [zlT h3] at h4
    conv=>lhs;rw [← List.take_append_drop k l,qi h3,h4]
   have hn1:x∉l.take k:=λ hm=>by
    obtain ⟨j,hj,e⟩:=qj hm
    rw [qe] at hj
    rw [← zlT (by rw [qe];omega),zn6 (by omega)] at e
    have:=h1 j (by omega)
    rw [e,zmn] at this;cases this
   have hn2:x∉l.drop (k+1):=λ hm=>by
    obtain ⟨j,hj,e⟩:=qj hm
    rw [qg] at hj
    rw [List.getElem_drop,← zlT (by omega)] at e
    have:=zsF hs (k+1+j) k (by omega) (by omega)
    rw [e,h4,zmn] at this;cases this
   conv=>lhs;rw [hl2]
   rw [List.filter_append,List.filter_cons_of_neg (by simp),zrQ hn1,zrQ hn2]
  ·rw [if_neg h,if_neg h,e1,e2,List.append_assoc,List.singleton_append]
end Go.TL
namespace Go.TL
def evP (e:EventT):Bool:=decide (1≤e.Id∧e.Id≤1000) && zvc e.fVe && decide (1≤e.Kind∧e.Kind≤6) && zmk e.Name
theorem zjb (e:EventT) (h:zqy e.Name):zew e=some (evP e):=by
 unfold zew evP zvc
 simp only [zeT,zg9 _ h,qa]
 cases decide (1≤e.Id∧e.Id≤1000)<;>cases decide (0≤e.fVe∧e.fVe≤1000000)<;>cases decide (1≤e.Kind∧e.Kind≤6)<;>simp
theorem zjc (e:EventT):zeA e=some (evP e):=by
 unfold zeA zc8 zai evP zvc
 simp only [zc5,zb5,qa]
 cases decide (1≤e.Id∧e.Id≤1000)<;>cases decide (0≤e.fVe∧e.fVe≤1000000)<;>cases decide (1≤e.Kind∧e.Kind≤6)<;>simp
def zsq (s:zlm) (e:EventT):Bool:=evP e && decide (e.Id=s.Next) && decide (e.Kind=1↔s.fSt=0) && !decide (s.fSt=2)
def zoz (s:zlm) (e:EventT):Option zlm :=
 if e.Kind=1 then some ⟨1,s.Next+1,s.fCa,s.Done,s.fSi,s.fTi⟩
 else if e.Kind=2 then (if (zl3 s.fSi e.Name || decide (s.fSi.length=30))=true then none else some ⟨s.fSt,s.Next+1,s.fCa,s.Done,s.fSi++[e.Name],s.fTi⟩)
 else if e.Kind=3 then some ⟨s.fSt,s.Next+1,s.fCa,s.Done+1,s.fSi,s.fTi⟩
 else if e.Kind=4 then some ⟨s.fSt,s.Next+1,s.fCa,s.Done,s.fSi,zoe s.fTi e.Name⟩
 else if e.Kind=5 then (if s.fCa=true then none else some ⟨s.fSt,s.Next+1,true,s.Done,s.fSi,s.fTi⟩)
 else some ⟨2,s.Next+1,s.fCa,s.Done,s.fSi,[]⟩
def zlQ (s:zlm) (e:EventT):Option zlm:=if zsq s e=true then (zoz s e).bind (λ t=>if zmU t=true then some t else none) else none
theorem znc {s:zlm} (h:zmU s=true):(1≤s.Next∧s.Next≤1001)∧(0≤s.Done∧s.Done≤1000)∧(0≤s.fSt∧s.fSt≤2)∧okL false s.fSi=true∧okL true s.fTi=true:=by
 unfold zmU at h
 simp only [qd,decide_eq_true_eq] at h
 exact ⟨h.1.1.1.1.1,h.1.1.1.1.2,h.1.1.1.2,h.1.1.2,h.1.2⟩
theorem zAh {l:List ByteArray} {x:ByteArray} (h:okL true l=true) (hx:zqy x):ztk (zoe l x):=by
 obtain ⟨k,_,hk,_,he⟩:=zqi l x h
 have hl:=zmj h
 have ho:=zxh h
 rw [he]
 split
 ·refine ⟨by rw [qM,qe,qg];omega,λ y hy=>?_⟩
  rw [qn] at hy
  rcases hy with hy | hy
  ·exact ho.2 y (qr hy)
  ·exact ho.2 y (qt hy)
 ·refine ⟨by rw [qM,qM,qe,qg,qh];omega,λ y hy=>?_⟩
  rw [qn,qn,qu] at hy
  rcases hy with (hy | hy) | hy
  ·exact ho.2 y (qr hy)
  ·rw [hy];exact hx
  ·exact ho.2 y (qt hy)
theorem zhM (s:zlm) (e:EventT) (hs:zmU s=true) (he:zqy e.Name):∃ r,zbQ s e=some r∧zlQ s e=if r.2=true then some r.1 else none:=by
 obtain ⟨hN,hD,hS,hl1,hl2⟩:=znc hs
 have n1:=zmj hl1
 have n2:=zmj hl2
 have o1:=zxh hl1
 have o2:=zxh hl2
 have hJ:(if (!evP e)=true then some (⟨true⟩:zaZ) else if (e.Id != s.Next)=true then some ⟨true⟩ else if (!((e.Kind == 1) == (s.fSt == 0)))=true then some ⟨true⟩ else some ⟨(s.fSt == 2)⟩)=some ⟨!zsq s e⟩:=by
  unfold zsq
  cases evP e
  ·simp
  rw [show (e.Kind == 1)=decide (e.Kind=1) from rfl,show (s.fSt == 0)=decide (s.fSt=0) from rfl]
  by_cases h1:e.Id=s.Next
  ·by_cases h2:e.Kind=1<;>by_cases h3:s.fSt=0<;>by_cases h4:s.fSt=2<;>simp [h1,h2,h3,h4]
  ·simp [h1]
 unfold zbQ
 rw [zjb e he]
 simp only [qa]
 rw [hJ]
 simp only [qa]
 unfold zlQ
 by_cases hm:zsq s e=true
 rotate_left
 ·exact ⟨(s,false),by simp [hm],by simp [hm]⟩
 rw [if_pos hm,hm]
 simp only [qk,qc,if_false]
 have hown:zgp s=some s:=by
  unfold zgp
  rw [zlb (by omega),zlb (by omega)]
  simp only [qv]
 rw [hown]
 simp only [qa,beq_iff_eq]
 have hw:wI (s.Next+1)=s.Next+1:=zls (by omega)
 have hw2:wI (s.Done+1)=s.Done+1:=zls (by omega)
 have hk:1≤e.Kind∧e.Kind≤6:=by
  unfold zsq evP at hm
  simp only [qd,decide_eq_true_eq] at hm
  exact hm.1.1.1.1.2
 have fin:∀ (t:zlm),ztk t.fSi→ztk t.fTi→∃ r,(Option.bind (zc9 t) λ c73=>some (t,c73))=some r∧(Option.bind (some t) λ t=>if zmU t=true then some t else none)=if r.2=true then some r.1 else none :=
  λ t h1 h2=>⟨_,by rw [zja t h1 h2];rfl,by rfl⟩
 unfold zoz
 rw [hw]
 by_cases h1:e.Kind=1
 ·rw [if_pos h1,if_pos h1];simp only [qa];exact fin ⟨1,s.Next+1,s.fCa,s.Done,s.fSi,s.fTi⟩ o1 o2
 by_cases h2:e.Kind=2
 ·rw [if_neg h1,if_pos h2,if_neg h1,if_pos h2]
  obtain ⟨k,hk,hp⟩:=zdP s.fSi e.Name (by omega)
  rw [hk]
  simp only [qa,hp]
  have hJ2:(if zl3 s.fSi e.Name=true then some (⟨true⟩:zdt) else some ⟨(((s.fSi.length:Nat):Int) == 30)⟩)=some ⟨zl3 s.fSi e.Name || decide (s.fSi.length=30)⟩:=by
   cases zl3 s.fSi e.Name
   ·simp only [qc,if_false,qm]
    congr 2
    rw [qf,beq_iff_eq,decide_eq_true_eq];omega
   ·simp
  rw [hJ2]
  simp only [qa]
  cases hb:(zl3 s.fSi e.Name || decide (s.fSi.length=30))
  ·simp only [qc,if_false]
   rw [zlb (by omega)]
   simp only [qa]
   exact fin ⟨s.fSt,s.Next+1,s.fCa,s.Done,s.fSi++[e.Name],s.fTi⟩ ⟨by simp only [qM,qh];omega,λ y hy=>by
    rw [qn,qu] at hy
    rcases hy with hy | hy
    ·exact o1.2 y hy
    ·rw [hy];exact he⟩ o2
  ·exact ⟨(s,false),by simp,by simp⟩
 by_cases h3:e.Kind=3
 ·rw [if_neg h1,if_neg h2,if_pos h3,if_neg h1,if_neg h2,if_pos h3]
  simp only [qa,hw2]
  exact fin ⟨s.fSt,s.Next+1,s.fCa,s.Done+1,s.fSi,s.fTi⟩ o1 o2
 by_cases h4:e.Kind=4
 ·rw [if_neg h1,if_neg h2,if_neg h3,if_pos h4,if_neg h1,if_neg h2,if_neg h3,if_pos h4,zjH _ _ n2]
  simp only [qa]
  exact fin ⟨s.fSt,s.Next+1,s.fCa,s.Done,s.fSi,zoe s.fTi e.Name⟩ o1 (zAh hl2 he)
 by_cases h5:e.Kind=5
 ·rw [if_neg h1,if_neg h2,if_neg h3,if_neg h4,if_pos h5,if_neg h1,if_neg h2,if_neg h3,if_neg h4,if_pos h5]
  cases hb:s.fCa
  ·simp only [qc,if_false,qa]
   exact fin ⟨s.fSt,s.Next+1,true,s.Done,s.fSi,s.fTi⟩ o1 o2
  ·exact ⟨(s,false),by simp,by simp⟩
 ·rw [if_neg h1,if_neg h2,if_neg h3,if_neg h4,if_neg h5,if_neg h1,if_neg h2,if_neg h3,if_neg h4,if_neg h5]
  simp only [qa]
  exact fin ⟨2,s.Next+1,s.fCa,s.Done,s.fSi,[]⟩ o1 ⟨by simp,λ y hy=>by simp at hy⟩
theorem zjd (s:zlm) (x:ByteArray) (h:okL true s.fTi=true):∃ r,za9 s x=some r ∧
  (r.1=true→r.2=⟨s.fSt,s.Next,s.fCa,s.Done,s.fSi,zoe s.fTi x⟩)∧(r.1=false→zl3 s.fTi x=false∧s.fTi.length=30):=by
 obtain ⟨k,hk,hkl,hlt,he⟩:=zqi s.fTi x h
 have hl:=zmj h
 unfold za9
 rw [hk]
 simp only [qa]
 cases hb:zl3 s.fTi x
 ·simp only [qc,if_false]
  by_cases h30:s.fTi.length=30
  ·rw [if_pos (by simp;omega)]
   exact ⟨_,rfl,λ h=>(by cases h),λ _=>⟨by simp,h30⟩⟩
  ·rw [if_neg (by simp;omega)]
   unfold zcd
   rw [zlb ⟨rfl,by omega,by omega,by omega⟩]
   simp only [qa,qb]
   refine ⟨_,rfl,λ _=>?_,λ h=>by cases h⟩
   rw [he,hb]
   simp
 ·simp only [if_true]
  have hk1:=hlt hb
  have e1:wI ((k:Int)+1)=((k+1:Nat):Int):=by rw [zls (by omega)];omega
  unfold zcc
  rw [e1,zlb ⟨by omega,by omega,by omega,by omega⟩]
  simp only [qa,qb]
  refine ⟨_,rfl,λ _=>?_,λ h=>by cases h⟩
  rw [he,hb]
  simp
theorem ziA (s:zlm) (e:EventT) (hs:zmU s=true) (hev:evP e=true) (hid:e.Id=s.Next):∃ r,zbi s e.Kind e.Name=some r ∧
  (r.1=true→zsq s e=true∧zoz s e=some r.2)∧(r.1=false→zlQ s e=none):=by
 obtain ⟨hN,hD,hS,hl1,hl2⟩:=znc hs
 have n1:=zmj hl1
 have n2:=zmj hl2
 have hk:(1≤e.Id∧e.Id≤1000)∧1≤e.Kind∧e.Kind≤6:=by
  unfold evP at hev
  simp only [qd,decide_eq_true_eq] at hev
  exact ⟨hev.1.1.1,hev.1.2⟩
 have hJ:(if decide (s.Next > 1000)=true then some (⟨true⟩:zac) else if (!((e.Kind == 1) == (s.fSt == 0)))=true then some ⟨true⟩ else if (e.Kind != 1)=true then some ⟨(s.fSt != 1)⟩ else some ⟨false⟩)=some ⟨!zsq s e⟩:=by
  unfold zsq
  rw [hev,if_neg (by simp;omega),show (e.Kind == 1)=decide (e.Kind=1) from rfl,show (s.fSt == 0)=decide (s.fSt=0) from rfl]
  by_cases h2:e.Kind=1
  ·by_cases h3:s.fSt=0
   ·simp [hid,h2,h3]
   ·simp [hid,h2,h3]
  ·by_cases h3:s.fSt=0
   ·simp [hid,h2,h3]
   ·by_cases h4:s.fSt=2
    ·simp [hid,h2,h3,h4]
    ·have:s.fSt=1:=by omega
     simp [hid,h2,h3,this]
 unfold zbi
 rw [hJ]
 simp only [qa]
 by_cases hm:zsq s e=true
 rotate_left
 ·refine ⟨(false,s),by simp [hm],λ h=>(by cases h),λ _=>by unfold zlQ;rw [if_neg hm]⟩
 have hno:zoz s e=none→zlQ s e=none:=λ h=>by unfold zlQ;rw [if_pos hm,h];rfl
 rw [hm]
 simp only [qk,qc,if_false,beq_iff_eq]
 have hw:wI (s.Next+1)=s.Next+1:=zls (by omega)
 have hw2:wI (s.Done+1)=s.Done+1:=zls (by omega)
 rw [hw,hw2]
 by_cases h1:e.Kind=1
 ·rw [if_pos h1];exact ⟨_,rfl,λ _=>⟨trivial,by unfold zoz;rw [if_pos h1]⟩,λ h=>by cases h⟩
 by_cases h2:e.Kind=2
 ·rw [if_neg h1,if_pos h2,znL _ _ (by omega)]
  have hJ2:(if zl3 s.fSi e.Name=true then some (⟨true⟩:zbx) else some ⟨(((s.fSi.length:Nat):Int) == 30)⟩)=some ⟨zl3 s.fSi e.Name || decide (s.fSi.length=30)⟩:=by
   cases zl3 s.fSi e.Name
   ·simp only [qc,if_false,qm]
    congr 2
    rw [qf,beq_iff_eq,decide_eq_true_eq];omega
   ·simp
  simp only [qa,hJ2]
  cases hb:(zl3 s.fSi e.Name || decide (s.fSi.length=30))
  ·simp only [qc,if_false]
   rw [zlb (by omega)]
   exact ⟨_,rfl,λ _=>⟨trivial,by unfold zoz;rw [if_neg h1,if_pos h2,hb];rfl⟩,λ h=>by cases h⟩
  ·simp only [if_true]
   exact ⟨_,rfl,λ h=>(by cases h),λ _=>hno (by unfold zoz;rw [if_neg h1,if_pos h2,hb];rfl)⟩
 by_cases h3:e.Kind=3
 ·rw [if_neg h1,if_neg h2,if_pos h3];exact ⟨_,rfl,λ _=>⟨trivial,by unfold zoz;rw [if_neg h1,if_neg h2,if_pos h3]⟩,λ h=>by cases h⟩
 by_cases h4:e.Kind=4
 ·rw [if_neg h1,if_neg h2,if_neg h3,if_pos h4]
  obtain ⟨r,hr,ht,hf⟩:=zjd s e.Name hl2
  rw [hr]
  simp only [qa]
  cases hb:r.1
  ·simp only [qq,if_true]
   refine ⟨_,rfl,λ h=>(by cases h),λ _=>?_⟩
   unfold zlQ
   rw [if_pos hm]
   unfold zoz
   rw [if_neg h1,if_neg h2,if_neg h3,if_pos h4]
   simp only [qa]
   obtain ⟨f1,f2⟩:=hf hb
   have hbad:¬ zmU ⟨s.fSt,s.Next+1,s.fCa,s.Done,s.fSi,zoe s.fTi e.Name⟩=true:=λ h=>by
    have h1:=zmj (znc h).2.2.2.2
    obtain ⟨k,_,hk,_,he⟩:=zqi s.fTi e.Name hl2
    simp only at h1
    rw [he,f1] at h1
    simp only [qc,if_false,qM,qe,qg,qh] at h1
    omega
   rw [if_neg hbad]
  ·simp only [qk,qc,if_false]
   rw [ht hb]
   simp only [hw]
   exact ⟨_,rfl,λ _=>⟨trivial,by unfold zoz;rw [if_neg h1,if_neg h2,if_neg h3,if_pos h4]⟩,λ h=>by cases h⟩
 by_cases h5:e.Kind=5
 ·rw [if_neg h1,if_neg h2,if_neg h3,if_neg h4,if_pos h5]
  cases hb:s.fCa
  ·simp only [qc,if_false]
   exact ⟨_,rfl,λ _=>⟨trivial,by unfold zoz;rw [if_neg h1,if_neg h2,if_neg h3,if_neg h4,if_pos h5,hb];rfl⟩,λ h=>by cases h⟩
  ·simp only [if_true]
   exact ⟨_,rfl,λ h=>(by cases h),λ _=>hno (by unfold zoz;rw [if_neg h1,if_neg h2,if_neg h3,if_neg h4,if_pos h5,hb];rfl)⟩
 ·have h6:e.Kind=6:=by omega
  rw [if_neg h1,if_neg h2,if_neg h3,if_neg h4,if_neg h5,if_pos h6]
  exact ⟨_,rfl,λ _=>⟨trivial,by unfold zoz;rw [if_neg h1,if_neg h2,if_neg h3,if_neg h4,if_neg h5]⟩,λ h=>by cases h⟩
def zB7:zlm:=⟨0,0,false,0,[],[]⟩
theorem zyW {l:List ByteArray} {x:ByteArray} (h:okL true l=true):(zoe l x).length≤31:=by
 obtain ⟨k,_,hk,_,he⟩:=zqi l x h
 have hl:=zmj h
 rw [he]
 split
 ·rw [qM,qe,qg];omega
 ·rw [qM,qM,qe,qg,qh];omega
theorem zwi {s t:zlm} {e:EventT} (hs:zmU s=true) (h:zoz s e=some t):t.fSi.length≤31∧t.fTi.length≤31:=by
 obtain ⟨hN,hD,hS,hl1,hl2⟩:=znc hs
 have n1:=zmj hl1
 have n2:=zmj hl2
 have n3:=zyW (x:=e.Name) hl2
 unfold zoz at h
 split at h
 ·cases h;simp only;omega
 split at h
 ·split at h
  ·cases h
  ·cases h;simp only [qM,qh];omega
 split at h
 ·cases h;simp only;omega
 split at h
 ·cases h;simp only;omega
 split at h
 ·split at h
  ·cases h
  ·cases h;simp only;omega
 ·cases h;simp only [qQ];omega
theorem ziQ (s:zlm) (e:EventT) (h1:s.fSi.length≤9223372036854775807) (h2:s.fTi.length≤9223372036854775807) :
  zdT s e=some (if zmU s=true then (match zlQ s e with | some t=>(t,true) | none=>(zB7,false)) else (zB7,false)):=by
 unfold zdT
 rw [zcO s h1 h2,zjc]
 simp only [qa]
 by_cases hs:zmU s=true
 rotate_left
 ·simp [hs];rfl
 obtain ⟨hN,hD,hS,hl1,hl2⟩:=znc hs
 have n1:=zmj hl1
 have n2:=zmj hl2
 rw [hs]
 simp only [qk,qc,if_false,if_true]
 by_cases hev:evP e=true
 rotate_left
 ·have:zlQ s e=none:=by unfold zlQ zsq;simp [hev]
  simp [hev,this];rfl
 by_cases hid:e.Id=s.Next
 rotate_left
 ·have:zlQ s e=none:=by unfold zlQ zsq;simp [hid]
  simp [hev,hid,this];rfl
 have hJ:(if (!evP e)=true then some (⟨true⟩:zbj) else some ⟨(e.Id != s.Next)⟩)=some ⟨false⟩:=by simp [hev,hid]
 rw [hJ]
 have hcl:zaW s=some s:=by
  unfold zaW zaY
  rw [zlb (by omega),zlb (by omega)]
  rfl
 simp only [qa,qc,if_false,hcl]
 obtain ⟨r,hr,ht,hf⟩:=ziA s e hs hev hid
 rw [hr]
 simp only [qa]
 cases hb:r.1
 ·simp [hf hb];rfl
 ·obtain ⟨g1,g2⟩:=ht hb
  have hlen:=zwi hs g2
  simp only [qk,qc,if_false]
  rw [zcO r.2 (by omega) (by omega)]
  have ha:zlQ s e=if zmU r.2=true then some r.2 else none:=by unfold zlQ;rw [if_pos g1,g2];rfl
  rw [ha]
  simp only [qa]
  cases hg:zmU r.2
  ·simp;rfl
  ·simp
theorem zp5 {s t:zlm} {e:EventT} (h:zlQ s e=some t):zmU t=true:=by
 unfold zlQ at h
 split at h
 ·cases ho:zoz s e with
  | none=>rw [ho] at h;cases h
  | some u =>
   rw [ho] at h
   simp only [qa] at h
   split at h
   ·cases h;assumption
   ·cases h
 ·cases h
def zms:List EventT→zlm→Nat→zlm×Nat
 | [],s,n=>(s,n)
 | e :: r,s,n=>match zlQ s e with
  | some t=>zms r t (n+1)
  | none=>(s,n)
def zsr:zlm:=⟨0,1,false,0,[],[]⟩
theorem zrR:zmU zsr=true:=by
 have h:∀ r,okL r []=true:=λ r=>by unfold okL;simp [znK]
 unfold zmU zsr
 simp only [h]
 decide
def zlX (l:List EventT):zlm×Nat:=zms l zsr 0
theorem zqj {α:Type} [Inhabited α] {l r:List α} {y:α} {i:Nat} (hd:l.drop i=y :: r):i < l.length∧nth l i=y∧l.drop (i+1)=r:=by
 have hlt:i < l.length:=by
  have:=congrArg List.length hd
  rw [qg,qP] at this
  omega
 have:=qi hlt
 rw [hd] at this
 exact ⟨hlt,by rw [zlT hlt];exact (List.cons.inj this).1.symm,(List.cons.inj this).2.symm⟩
theorem zrl {α:Type} {l:List α} {i:Nat} (hd:l.drop i=[]) (hi:i≤l.length):i=l.length:=by
 have:=congrArg List.length hd
 rw [qg,qQ] at this
 omega
theorem zky (l:List EventT) (hl:l.length≤9223372036854775807):∀ (r:List EventT) (i:Nat) (s:zlm),l.drop i=r→i≤l.length→zmU s=true →
  ∃ y,zln (zae l) ⟨(i:Int),s.fSt,s.Next,s.fCa,s.Done,s.fSi,s.fTi⟩=some y∧(match y with
   | .inl p180=>some ((⟨p180.b0_0,p180.b0_1,p180.b0_2,p180.b0_3,p180.c1,p180.c2⟩:zlm),p180.t3)
   | .inr p181=>some ((⟨p181.b1_0,p181.b1_1,p181.b1_2,p181.b1_3,p181.c2,p181.c3⟩:zlm),((l.length:Nat):Int)))=some ((zms r s i).1,(((zms r s i).2:Nat):Int)):=by
 intro r
 induction r with
 | nil =>
  intro i s hd hi hs
  have hi':=zrl hd hi
  subst hi'
  refine ⟨_,zly (by unfold zae;rw [if_neg (by simp)]),rfl⟩
 | cons e r ih =>
  intro i s hd hi hs
  obtain ⟨hlt,hy,hr⟩:=zqj hd
  have n:=znc hs
  have n1:=zmj n.2.2.2.1
  have n2:=zmj n.2.2.2.2
  have hstep:zae l ⟨(i:Int),s.fSt,s.Next,s.fCa,s.Done,s.fSi,s.fTi⟩=some (match zlQ s e with
    | some t=>.inl ⟨((i+1:Nat):Int),t.fSt,t.Next,t.fCa,t.Done,t.fSi,t.fTi⟩
    | none=>.inr (.inl ⟨(i:Int),s.fSt,s.Next,s.fCa,s.Done,s.fSi,s.fTi⟩)):=by
   unfold zae
   have e1:wI ((i:Int)+1)=((i+1:Nat):Int):=by rw [zls (by omega)];omega
   simp only [qb,hy,e1]
   rw [if_pos (by simp;omega),zlb (by omega),ziQ _ _ (by simp only;omega) (by simp only;omega)]
   have hs':zmU ⟨s.fSt,s.Next,s.fCa,s.Done,s.fSi,s.fTi⟩=true:=hs
   simp only [qa]
   rw [if_pos hs']
   cases zlQ s e<;>rfl
  unfold zms
  cases ha:zlQ s e with
  | some t =>
   rw [ha] at hstep
   rw [zl4 hstep]
   exact ih (i+1) t hr (by omega) (zp5 ha)
  | none =>
   rw [ha] at hstep
   exact ⟨_,zly hstep,rfl⟩
theorem zhi (l:List EventT) (hl:l.length≤9223372036854775807):zcs l=some ((zlX l).1,(((zlX l).2:Nat):Int)):=by
 unfold zcs zgC
 simp only [qa]
 obtain ⟨y,hy,he⟩:=zky l hl l 0 zsr rfl (by omega) zrR
 have hy':zln (zae l) ⟨0,0,1,false,0,[],[]⟩=some y:=hy
 rw [hy']
 exact he
theorem zkz (l:List EventT) (hl:zmB l):∀ (r:List EventT) (i:Nat) (s:zlm),l.drop i=r→i≤l.length→zmU s=true →
  ∃ y,zln (zaV l) ⟨(i:Int),s.fSt,s.Next,s.fCa,s.Done,s.fSi,s.fTi⟩=some y∧(match y with
   | .inl p77=>some ((⟨p77.b0_0,p77.b0_1,p77.b0_2,p77.b0_3,p77.b0_4,p77.b0_5⟩:zlm),p77.t3)
   | .inr p78=>some ((⟨p78.b1_0,p78.b1_1,p78.b1_2,p78.b1_3,p78.b1_4,p78.b1_5⟩:zlm),((l.length:Nat):Int)))=some ((zms r s i).1,(((zms r s i).2:Nat):Int)):=by
 have hl1:=hl.1
 intro r
 induction r with
 | nil =>
  intro i s hd hi hs
  have hi':=zrl hd hi
  subst hi'
  refine ⟨_,zly (by unfold zaV;rw [if_neg (by simp)]),rfl⟩
 | cons e r ih =>
  intro i s hd hi hs
  obtain ⟨hlt,hy,hr⟩:=zqj hd
  have hne:zqy e.Name:=by rw [← hy];exact (hl.2 _ (zlJ hlt)).2.2.2
  obtain ⟨q,hq,ha⟩:=zhM s e hs hne
  have hstep:zaV l ⟨(i:Int),s.fSt,s.Next,s.fCa,s.Done,s.fSi,s.fTi⟩=some (match zlQ s e with
    | some t=>.inl ⟨((i+1:Nat):Int),t.fSt,t.Next,t.fCa,t.Done,t.fSi,t.fTi⟩
    | none=>.inr (.inl ⟨(i:Int),s.fSt,s.Next,s.fCa,s.Done,s.fSi,s.fTi⟩)):=by
   unfold zaV
   have e1:wI ((i:Int)+1)=((i+1:Nat):Int):=by rw [zls (by omega)];omega
   simp only [qb,hy,e1]
   rw [if_pos (by simp;omega),zlb (by omega)]
   have hq':zbQ ⟨s.fSt,s.Next,s.fCa,s.Done,s.fSi,s.fTi⟩ e=some q:=hq
   rw [hq',ha]
   simp only [qa]
   cases q.2<;>rfl
  unfold zms
  cases hb:zlQ s e with
  | some t =>
   rw [hb] at hstep
   rw [zl4 hstep]
   exact ih (i+1) t hr (by omega) (zp5 hb)
  | none =>
   rw [hb] at hstep
   exact ⟨_,zly hstep,rfl⟩
theorem zfN (l:List EventT) (hl:zmB l):zci l=some ((zlX l).1,(((zlX l).2:Nat):Int)):=by
 unfold zci zgA
 simp only [qa]
 obtain ⟨y,hy,he⟩:=zkz l hl l 0 zsr rfl (by omega) zrR
 have hy':zln (zaV l) ⟨0,0,1,false,0,[],[]⟩=some y:=hy
 rw [hy']
 exact he
end Go.TL
namespace Go.TL
theorem ztq:∀ (r:List EventT) (s:zlm) (n:Nat),zmU s=true→zmU (zms r s n).1=true
 | [],s,n,h=>h
 | e :: r,s,n,h=>by
  unfold zms
  cases ha:zlQ s e with
  | some t=>exact ztq r t (n+1) (zp5 ha)
  | none=>exact h
theorem zpz (l:List EventT):zmU (zlX l).1=true:=ztq l zsr 0 zrR
theorem zrS (l:List EventT):(zlX l).1.fSi.length≤30∧(zlX l).1.fTi.length≤30:=by
 have:=znc (zpz l)
 exact ⟨zmj this.2.2.2.1,zmj this.2.2.2.2⟩
def zxj (l:List EventT):Bool:=znK (λ i=>decide (i=0) || !decide ((nth l i).fVe < (nth l (i - 1)).fVe)) l.length
def zml (l:List EventT):Bool:=zxj l && decide ((zlX l).2=l.length) && decide (l.length≤60)
theorem zje (l:List EventT) (hl:l.length≤9223372036854775807):zeD l=some (zml l):=by
 unfold zeD zml
 by_cases h:l.length≤60
 rotate_left
 ·rw [if_pos (by simp;omega)];simp [h]
 rw [if_neg (by simp;omega)]
 have key:=zmg (step:=zbG l) (λ i=>(⟨i⟩:zeh)) l.length (λ i=>decide (i=0) || !decide ((nth l i).fVe < (nth l (i - 1)).fVe)) (.inr ():Unit⊕Unit) (.inl ()) (λ i hi hv=>?_) (λ _=>?_)
 ·rw [key]
  unfold zxj
  cases znK (λ i=>decide (i=0) || !decide ((nth l i).fVe < (nth l (i - 1)).fVe)) l.length
  ·simp
  ·simp only [if_true,qa]
   rw [zhi l hl]
   simp only [qa,ql,decide_eq_true h,Bool.and_true]
   congr 1
   rw [qf,beq_iff_eq,decide_eq_true_eq];omega
 ·unfold zbG
  have e1:wI ((i:Int)+1)=((i+1:Nat):Int):=by rw [zls (by omega)];omega
  dsimp only
  rw [if_pos (by simp;omega),e1,zlb (by omega)]
  by_cases h0:i=0
  ·subst h0
   simp
  ·have e2:wI ((i:Int) - 1)=((i - 1:Nat):Int):=by rw [zls (by omega)];omega
   rw [if_pos (by simp;omega),e2,zlb (by omega)]
   simp only [qa,qb,decide_eq_false h0,qm]
   cases decide ((nth l i).fVe < (nth l (i - 1)).fVe)<;>rfl
 ·unfold zbG
  rw [if_neg (by simp)]
theorem zjf (l:List EventT) (hl:zmB l):zey l=some (zml l):=by
 have hl1:=hl.1
 unfold zey zml
 have key:=zmg (step:=zbF l) (λ i=>(⟨i⟩:zeg)) l.length (λ i=>decide (i=0) || !decide ((nth l i).fVe < (nth l (i - 1)).fVe)) (.inr ():Unit⊕Unit) (.inl ()) (λ i hi hv=>?_) (λ _=>?_)
 ·rw [key]
  unfold zxj
  cases znK (λ i=>decide (i=0) || !decide ((nth l i).fVe < (nth l (i - 1)).fVe)) l.length
  ·simp
  ·simp only [if_true,qa]
   rw [zfN l hl]
   simp only [qa,ql]
   have e1:((((zlX l).2:Nat):Int) == ((l.length:Nat):Int))=decide ((zlX l).2=l.length):=by
    rw [qf,beq_iff_eq,decide_eq_true_eq];omega
   have e2:decide (((l.length:Nat):Int)≤60)=decide (l.length≤60):=by congr 1;apply propext;omega
   rw [e1,e2]
   cases decide ((zlX l).2=l.length)<;>rfl
 ·unfold zbF
  have e1:wI ((i:Int)+1)=((i+1:Nat):Int):=by rw [zls (by omega)];omega
  dsimp only
  rw [if_pos (by simp;omega),e1]
  by_cases h0:i=0
  ·subst h0
   simp
  ·have e2:wI ((i:Int) - 1)=((i - 1:Nat):Int):=by rw [zls (by omega)];omega
   rw [if_pos (by simp;omega),e2,zlb (by omega),zlb (by omega)]
   simp only [qa,qb,decide_eq_false h0,qm,gt_iff_lt]
   cases decide ((nth l i).fVe < (nth l (i - 1)).fVe)<;>rfl
 ·unfold zbF
  rw [if_neg (by simp)]
def zoX (k:Int):EventT:=⟨k,k+1,k+2,zAe (k+3)⟩
theorem ztr (l:List EventT) (k:Int) (hk:0≤k) (hl:l.length≤1099511627776) (hb:k+((4 * l.length:Nat):Int)≤1152921504606846976) :
  zcK l k=some (k+((4 * l.length:Nat):Int),zor zoX 4 k l.length):=by
 unfold zcK
 have key:=zyT (step:=zaJ) (λ i k l=>(⟨k,i,l⟩:zcX)) 4 zoX l.length 1152921504606846976 (λ k l=>(⟨k,l⟩:zgq)) (λ i k l' hi hl' h0 h1=>?_) (λ k l' hl'=>?_) k l rfl hk hb
 ·rw [key];rfl
 ·unfold zaJ
  have e1:wI (k+1)=k+1:=zls (by omega)
  have e2:wI (k+1+1)=k+2:=by rw [zls (by omega)];omega
  have e3:wI (k+2+1)=k+3:=by rw [zls (by omega)];omega
  have e4:wI (k+3+1)=k+4:=by rw [zls (by omega)];omega
  have e5:wI ((i:Int)+1)=((i+1:Nat):Int):=by rw [zls (by omega)];omega
  simp only [e1,e2,e3,e4,e5]
  rw [if_pos (by simp;omega),zse (k+3) (by omega) (by omega)]
  simp (disch:=omega) only [qa,zlb,qb,zvb,List.set_set,qL]
  rfl
 ·unfold zaJ
  rw [if_neg (by simp;omega)]
end Go.TL
namespace Go.TL
def evC (a b:EventT):Int:=if a.fVe≠b.fVe then (if a.fVe < b.fVe then -1 else 1) else if a.Kind≠b.Kind then (if a.Kind < b.Kind then -1 else 1) else if sLt a.Name b.Name=true then -1 else if sLt b.Name a.Name=true then 1 else 0
theorem zjJ (a b:EventT):zfl a b=some (evC a b):=by
 unfold zfl evC
 rw [sGt]
 by_cases h1:a.fVe=b.fVe
 ·by_cases h2:a.Kind=b.Kind
  ·simp only [h1,h2,bne_self_eq_false,qc,if_false,ne_eq,not_true_eq_false]
   split
   ·rfl
   ·split<;>rfl
  ·have hb:(a.Kind != b.Kind)=true:=by simp [h2]
   simp only [h1,hb,bne_self_eq_false,qc,if_false,if_true,ne_eq,not_true_eq_false,h2,not_false_eq_true,decide_eq_true_eq]
   split<;>rfl
 ·have hb:(a.fVe != b.fVe)=true:=by simp [h1]
  simp only [hb,if_true,ne_eq,h1,not_false_eq_true,decide_eq_true_eq]
  split<;>rfl
theorem zAi (a b c:Int):zga [a,b,c]=some (if a≠0 then a else if b≠0 then b else c):=by
 unfold zga
 have key:=zmN (step:=zdL [a,b,c]) (λ i=>(⟨i⟩:zgy)) 3 (λ i=>decide (nth [a,b,c] i≠0)) (λ i=>(.inl ⟨nth [a,b,c] i⟩:zhZ⊕Unit)) (.inr ()) (λ i hi hv=>?_) ?_
 ·rw [key]
  have n0:nth [a,b,c] 0=a:=rfl
  have n1:nth [a,b,c] 1=b:=rfl
  have n2:nth [a,b,c] 2=c:=rfl
  by_cases ha:a=0
  ·by_cases hb:b=0
   ·by_cases hc:c=0
    ·rw [zpw (λ j hj=>by
      have:j=0∨j=1∨j=2:=by omega
      rcases this with rfl | rfl | rfl
      ·rw [n0];simp [ha]
      ·rw [n1];simp [hb]
      ·rw [n2];simp [hc])]
     simp [ha,hb,hc]
    ·rw [znP (i:=2) (by omega) (by rw [n2];simp [hc]) (λ j hj=>by
      have:j=0∨j=1:=by omega
      rcases this with rfl | rfl
      ·rw [n0];simp [ha]
      ·rw [n1];simp [hb])]
     simp only [qa]
     rw [n2,if_neg (by simp [ha]),if_neg (by simp [hb])]
   ·rw [znP (i:=1) (by omega) (by rw [n1];simp [hb]) (λ j hj=>by
     have:j=0:=by omega
     subst this;rw [n0];simp [ha])]
    simp only [qa]
    rw [n1,if_neg (by simp [ha]),if_pos hb]
  ·rw [znP (i:=0) (by omega) (by rw [n0];simp [ha]) (λ j hj=>by omega)]
   simp [ha,n0]
 ·unfold zdL
  have hl:([a,b,c]:List Int).length=3:=rfl
  simp (disch:=omega) only [hl,decide_eq_true_eq,if_pos,zlb,qb,zls]
  by_cases h:nth [a,b,c] i=0
  ·rw [if_neg (by simp [h]),if_neg (by simp [h])];rfl
  ·rw [if_pos (by simp [h]),if_pos (by simp [h])]
 ·unfold zdL
  rw [if_neg (by simp)]
theorem ziR (a b:EventT):zdU a b=some (evC a b):=by
 unfold zdU
 simp only [zj6,zkS,qa,zAi]
 congr 1
 unfold evC zwe zCz
 by_cases h1:a.fVe < b.fVe
 ·have:¬ a.fVe=b.fVe:=by omega
  simp [h1,this]
 ·by_cases h2:b.fVe < a.fVe
  ·have:¬ a.fVe=b.fVe:=by omega
   simp [h1,h2,this]
  ·have h3:a.fVe=b.fVe:=by omega
   simp only [h3,qw,if_false,ne_eq,not_true_eq_false]
   by_cases k1:a.Kind < b.Kind
   ·have:¬ a.Kind=b.Kind:=by omega
    simp [k1,this]
   ·by_cases k2:b.Kind < a.Kind
    ·have:¬ a.Kind=b.Kind:=by omega
     simp [k1,k2,this]
    ·have k3:a.Kind=b.Kind:=by omega
     simp only [k3,qw,if_false,ne_eq,not_true_eq_false]
     rcases zpy a.Name b.Name with h | h | h
     ·simp [h]
     ·simp [h,zmn]
     ·have hn:a.Name≠b.Name:=λ e=>by rw [e,zmn] at h;cases h
      simp [h,zn5 h,hn]
theorem zpf (a b:EventT):evC a b=0↔a.fVe=b.fVe∧a.Kind=b.Kind∧a.Name=b.Name:=by
 unfold evC
 by_cases h1:a.fVe=b.fVe
 ·by_cases h2:a.Kind=b.Kind
  ·rcases zpy a.Name b.Name with h | h | h
   ·have hn:a.Name≠b.Name:=λ e=>by rw [e,zmn] at h;cases h
    simp [h1,h2,h,hn]
   ·simp [h1,h2,h,zmn]
   ·have hn:a.Name≠b.Name:=λ e=>by rw [e,zmn] at h;cases h
    simp [h1,h2,h,zn5 h,hn]
  ·simp only [h1,h2,ne_eq,not_true_eq_false,if_false,not_false_eq_true,if_true,false_and,and_false,iff_false]
   split<;>decide
 ·simp only [h1,ne_eq,not_false_eq_true,if_true,false_and,iff_false]
  split<;>decide
def znd (a b:List EventT):Option Nat:=zm2 (λ i=>decide (evC (nth a i) (nth b i)≠0)) (min a.length b.length)
def zmo (a b:List EventT):Int×Nat:=match znd a b with
 | some i=>(evC (nth a i) (nth b i),i)
 | none=>if a.length < b.length then (-1,a.length) else if b.length < a.length then (1,b.length) else (0,a.length)
theorem zcl (a b:List EventT) (ha:a.length≤9223372036854775807) (hb:b.length≤9223372036854775807):zar a b=some ((zmo a b).1,(((zmo a b).2:Nat):Int)):=by
 unfold zar
 have key:=zmN (step:=zbg a b) (λ i=>(⟨i⟩:zdS)) (min a.length b.length) (λ i=>decide (evC (nth a i) (nth b i)≠0)) (λ i=>(.inl ⟨evC (nth a i) (nth b i),i⟩:zgX⊕Unit)) (.inr ()) (λ i hi hv=>?_) ?_
 ·rw [key]
  unfold zmo znd
  cases zm2 (λ i=>decide (evC (nth a i) (nth b i)≠0)) (min a.length b.length) with
  | some i=>rfl
  | none =>
   simp only [qa,decide_eq_true_eq,Int.ofNat_lt,gt_iff_lt]
   split
   ·rfl
   ·split<;>rfl
 ·unfold zbg
  dsimp only
  rw [if_pos (by simp;omega),if_pos (by simp;omega),zlb (by omega),zlb (by omega),zjJ]
  simp only [qa,qb]
  have e1:wI ((i:Int)+1)=((i+1:Nat):Int):=by rw [zls (by omega)];omega
  rw [e1]
  by_cases h:evC (nth a i) (nth b i)=0
  ·rw [if_neg (by simp [h]),if_neg (by simp [h])]
  ·rw [if_pos (by simp [h]),if_pos (by simp [h])]
 ·unfold zbg
  dsimp only
  by_cases h:a.length≤b.length
  ·rw [if_neg (by simp;omega)]
  ·rw [if_pos (by simp;omega),if_neg (by simp;omega)]
theorem zfy (a b:List EventT) (ha:a.length≤9223372036854775807) (hb:b.length≤9223372036854775807):zbd a b=some (zmo a b).1:=by
 unfold zbd zD
 have key:=zmN (step:=zd a b) (λ i=>(⟨i⟩:zv)) (min a.length b.length) (λ i=>decide (evC (nth a i) (nth b i)≠0))
  (λ i=>(.inl ⟨evC (nth a i) (nth b i)⟩:zas⊕Unit)) (if b.length < a.length then .inl ⟨1⟩ else .inr ()) (λ i hi hv=>?_) ?_
 ·rw [key]
  unfold zmo znd
  cases zm2 (λ i=>decide (evC (nth a i) (nth b i)≠0)) (min a.length b.length) with
  | some i=>rfl
  | none =>
   simp only [qa]
   by_cases h1:b.length < a.length
   ·have h2:¬ a.length < b.length:=by omega
    simp only [h1,h2,if_true,if_false,qa]
   ·simp only [h1,if_false,decide_eq_true_eq,Int.ofNat_lt]
    split<;>rfl
 ·unfold zd
  dsimp only
  rw [if_pos (by simp;omega),zlb (by omega),if_neg (by simp;omega),zlb (by omega),ziR]
  simp only [qa,qb]
  have e1:wI ((i:Int)+1)=((i+1:Nat):Int):=by rw [zls (by omega)];omega
  rw [e1]
  by_cases h:evC (nth a i) (nth b i)=0
  ·rw [if_neg (by simp [h]),if_neg (by simp [h])]
  ·rw [if_pos (by simp [h]),if_pos (by simp [h])]
 ·unfold zd
  dsimp only
  by_cases h:b.length < a.length
  ·rw [if_pos (by simp;omega),zlb (by omega),if_pos (by simp;omega),if_pos h]
  ·rw [if_neg (by simp;omega),if_neg h]
def zm8 (l:List EventT):Bool:=decide (0 < l.length) && zml l
theorem ziS (l:List EventT) (hl:zmB l):zdR l=some (zm8 l):=by
 unfold zdR zm8
 by_cases h:0 < l.length
 ·rw [if_pos (decide_eq_true (show ((l.length:Nat):Int) > 0 by omega)),zjf l hl];simp [h]
 ·rw [if_neg (by rw [decide_eq_true_eq];omega)];simp [h]
theorem zjg (l:List EventT) (hl:l.length≤9223372036854775807):zeE l=some (zm8 l):=by
 unfold zeE zm8
 by_cases h:0 < l.length
 ·rw [if_pos (decide_eq_true (show ((l.length:Nat):Int) > 0 by omega)),zje l hl];simp [h]
 ·rw [if_neg (by rw [decide_eq_true_eq];omega)];simp [h]
theorem zyX {s t:zlm} {e:EventT} (h:zoz s e=some t):t.Next=s.Next+1:=by
 unfold zoz at h
 split at h
 ·cases h;rfl
 split at h
 ·split at h
  ·cases h
  ·cases h;rfl
 split at h
 ·cases h;rfl
 split at h
 ·cases h;rfl
 split at h
 ·split at h
  ·cases h
  ·cases h;rfl
 ·cases h;rfl
theorem zsg {s t:zlm} {e:EventT} (h:zlQ s e=some t):e.Id=s.Next∧t.Next=s.Next+1:=by
 unfold zlQ at h
 split at h
 ·rename_i hm
  unfold zsq at hm
  simp only [qd,decide_eq_true_eq] at hm
  cases ho:zoz s e with
  | none=>rw [ho] at h;cases h
  | some u =>
   rw [ho] at h
   simp only [qa] at h
   split at h
   ·cases h;exact ⟨hm.1.1.2,zyX ho⟩
   ·cases h
 ·cases h
theorem zus:∀ (r:List EventT) (s:zlm) (n:Nat),(zms r s n).2=n+r.length→∀ j,j < r.length→(nth r j).Id=s.Next+(j:Int)
 | [],s,n,_,j,hj=>by simp at hj
 | e :: r,s,n,h,j,hj=>by
  unfold zms at h
  cases ha:zlQ s e with
  | none=>rw [ha] at h;simp only [qP] at h;omega
  | some t =>
   rw [ha] at h
   obtain ⟨h1,h2⟩:=zsg ha
   cases j with
   | zero=>show e.Id=_;rw [h1];simp
   | succ j =>
    have:=zus r t (n+1) (by simp only [qP] at h;omega) j (by simpa using hj)
    show (nth r j).Id=_
    rw [this,h2];omega
theorem zwj {l:List EventT} (h:zml l=true) {i:Nat} (hi:i < l.length):(nth l i).Id=1+(i:Int):=by
 unfold zml at h
 simp only [qd,decide_eq_true_eq] at h
 exact zus l zsr 0 (by have:=h.1.2;unfold zlX at this;omega) i hi
theorem zlL {l:List EventT} (h:zm8 l=true):zml l=true:=by
 unfold zm8 at h
 simp only [qd] at h
 exact h.2
theorem zm3 {l:List EventT} (h:zml l=true):l.length≤60:=by
 unfold zml at h
 simp only [qd,decide_eq_true_eq] at h
 exact h.2
theorem zrT {a b:List EventT} (ha:zml a=true) (hb:zml b=true) {i:Nat} (h1:i < a.length) (h2:i < b.length):nth a i=nth b i↔evC (nth a i) (nth b i)=0:=by
 rw [zpf]
 constructor
 ·intro e;rw [e];exact ⟨rfl,rfl,rfl⟩
 ·rintro ⟨e1,e2,e3⟩
  have i1:=zwj ha h1
  have i2:=zwj hb h2
  have e0:(nth a i).Id=(nth b i).Id:=by rw [i1,i2]
  revert e0 e1 e2 e3
  cases nth a i;cases nth b i
  simp only
  rintro rfl rfl rfl rfl
  rfl
theorem zC6 (x y:EventT):((x.Id == y.Id) && ((x.fVe == y.fVe) && ((x.Kind == y.Kind) && (x.Name.toList == y.Name.toList))))=decide (x=y):=by
 rw [sEq,qf]
 simp only [qd,beq_iff_eq,decide_eq_true_eq]
 cases x;cases y
 simp
theorem zwk (a b:List EventT):(zmo a b).2=match znd a b with | some i=>i | none=>min a.length b.length:=by
 unfold zmo
 cases znd a b with
 | some i=>rfl
 | none =>
  simp only
  split
  ·simp only;omega
  ·split<;>(simp only;omega)
end Go.TL
namespace Go.TL
def zlW (c b:List EventT):Bool:=decide ((zmo b c).2=c.length)
theorem zcP (b c:List EventT) (hb:b.length≤9223372036854775807) (hc:c.length≤9223372036854775807):zaK b c=some (zlW c b):=by
 unfold zaK zlW
 rw [zcl _ _ hb hc]
 simp only [qa]
 congr 1
 rw [qf,beq_iff_eq,decide_eq_true_eq];omega
theorem zrm {p:Nat→Bool} {n i:Nat} (h:zm2 p n=some i):i < n∧p i=true∧∀ j,j < i→p j=false:=by
 unfold zm2 at h
 rw [List.find?_range_eq_some] at h
 exact ⟨by simpa using h.2.1,h.1,λ j hj=>by have:=h.2.2 j hj;simpa using this⟩
theorem zts {p:Nat→Bool} {n:Nat} (h:zm2 p n=none):∀ j,j < n→p j=false:=by
 unfold zm2 at h
 rw [List.find?_eq_none] at h
 intro j hj
 have:=h j (List.mem_range.2 hj)
 simpa using this
theorem zp6 {c b:List EventT} (hc:zml c=true) (hb:zml b=true):zlW c b=true↔c.length≤b.length∧∀ i,i < c.length→nth c i=nth b i:=by
 unfold zlW
 rw [decide_eq_true_eq,zwk]
 unfold znd
 cases hf:zm2 (λ i=>decide (evC (nth b i) (nth c i)≠0)) (min b.length c.length) with
 | some i =>
  obtain ⟨h1,h2,h3⟩:=zrm hf
  simp only [ne_eq,decide_not,Bool.not_eq_true',decide_eq_false_iff_not] at h2
  simp only
  constructor
  ·intro h;omega
  ·rintro ⟨h4,h5⟩
   exact absurd ((zrT hb hc (i:=i) (by omega) (by omega)).1 (h5 i (by omega)).symm) h2
 | none =>
  have h1:=zts hf
  simp only
  constructor
  ·intro h
   refine ⟨by omega,λ i hi=>?_⟩
   have:=h1 i (by omega)
   simp only [ne_eq,decide_not,Bool.not_eq_false',decide_eq_true_eq] at this
   exact ((zrT hb hc (i:=i) (by omega) (by omega)).2 this).symm
  ·rintro ⟨h4,_⟩;omega
theorem zha (c b:List EventT) (hc:zml c=true) (hb:zml b=true):zeb c b=some (zlW c b):=by
 have h1:=zm3 hc
 have h2:=zm3 hb
 unfold zeb
 by_cases h:c.length≤b.length
 rotate_left
 ·have:zlW c b=false:=by
   cases e:zlW c b with
   | false=>rfl
   | true=>exact absurd ((zp6 hc hb).1 e).1 h
  rw [if_neg (by rw [decide_eq_true_eq];omega),this]
 rw [if_pos (by rw [decide_eq_true_eq];omega),zlb (by omega)]
 unfold zV
 have ht:(b.take c.length).length=c.length:=by rw [qe];omega
 rw [if_neg (by rw [ht];simp)]
 have key:=zmg (step:=zo c (b.take c.length)) (λ i=>(⟨i⟩:zak)) c.length (λ i=>decide (nth c i=nth b i)) (.inr ():Unit⊕Unit) (.inl ()) (λ i hi hv=>?_) (λ _=>?_)
 ·rw [key]
  have e:znK (λ i=>decide (nth c i=nth b i)) c.length=zlW c b:=by
   rw [qf,zmf,zp6 hc hb]
   simp only [decide_eq_true_eq]
   exact ⟨λ h'=>⟨h,h'⟩,λ h'=>h'.2⟩
  rw [e]
  cases zlW c b<;>simp
 ·unfold zo
  dsimp only
  rw [if_pos (by rw [decide_eq_true_eq];omega),zlb (by omega),zlb (by rw [ht];omega),qb,zC6,zn6 hi]
  have e1:wI ((i:Int)+1)=((i+1:Nat):Int):=by rw [zls (by omega)];omega
  rw [e1]
  cases decide (nth c i=nth b i)<;>rfl
 ·unfold zo
  dsimp only
  rw [if_neg (by rw [decide_eq_true_eq];omega)]
def zl5 (t:TellingsT):Bool:=decide (t.fBr.length≤12) && znK (λ i=>zm8 (nth t.fBr i).fEv && znK (λ k=>decide ((zmo (nth t.fBr k).fEv (nth t.fBr i).fEv).1 < 0) && !zlW (nth t.fBr k).fEv (nth t.fBr i).fEv) i) t.fBr.length
theorem zc6 (t:TellingsT) (ht:zlF t):zao t=some (zl5 t):=by
 have h1:t.fBr.length≤9223372036854775807:=ht.1
 have hev:∀ i,i < t.fBr.length→zmB (nth t.fBr i).fEv:=λ i hi=>ht.2 _ (zlJ hi)
 unfold zao zl5
 have key:=zmg (step:=zaN t) (λ i=>(⟨i⟩:zaL)) t.fBr.length
  (λ i=>zm8 (nth t.fBr i).fEv && znK (λ k=>decide ((zmo (nth t.fBr k).fEv (nth t.fBr i).fEv).1 < 0) && !zlW (nth t.fBr k).fEv (nth t.fBr i).fEv) i) (.inr ():Unit⊕Unit) (.inl ()) (λ i hi hv=>?_) (λ _=>?_)
 ·rw [key]
  have e2:decide (((t.fBr.length:Nat):Int)≤12)=decide (t.fBr.length≤12):=by congr 1;apply propext;omega
  split
  ·rename_i h;rw [h];simp [e2]
  ·rename_i h;simp only [qo] at h;rw [h];simp
 ·unfold zaN
  dsimp only
  rw [if_pos (by rw [decide_eq_true_eq];omega),zlb (by omega),qb,ziS _ (hev i hi)]
  simp only [qa]
  cases hn:zm8 (nth t.fBr i).fEv
  ·simp
  have ht':(t.fBr.take i).length=i:=by rw [qe];omega
  rw [if_neg (by simp),zlb (by omega)]
  have key2:=zmg (step:=zaM t (⟨(i:Int)⟩:zaL)) (λ k=>(⟨k⟩:zcY)) i (λ k=>decide ((zmo (nth t.fBr k).fEv (nth t.fBr i).fEv).1 < 0) && !zlW (nth t.fBr k).fEv (nth t.fBr i).fEv) (.inr ():Unit⊕Unit) (.inl ()) (λ k hk _=>?_) (λ _=>?_)
  ·rw [key2,ql]
   have e1:wI ((i:Int)+1)=((i+1:Nat):Int):=by rw [zls (by omega)];omega
   rw [e1]
   split<;>rfl
  ·unfold zaM
   simp only [qb,ht']
   rw [if_pos (by rw [decide_eq_true_eq];omega),zlb (by omega),zn6 hk,zcl _ _ (hev k (by omega)).1 (hev i hi).1,zcP _ _ (hev i hi).1 (hev k (by omega)).1]
   have e1:wI ((k:Int)+1)=((k+1:Nat):Int):=by rw [zls (by omega)];omega
   simp only [qa,e1]
   by_cases hc:(zmo (nth t.fBr k).fEv (nth t.fBr i).fEv).1 < 0
   ·rw [if_neg (by rw [decide_eq_true_eq];omega),decide_eq_true hc]
    cases zlW (nth t.fBr k).fEv (nth t.fBr i).fEv
    ·have:¬ ((k:Int) > (i:Int)):=by omega
     simp [this]
    ·simp
   ·rw [if_pos (by rw [decide_eq_true_eq];omega),decide_eq_false hc]
    simp
  ·unfold zaM
   simp only [qb,ht']
   rw [if_neg (by simp)]
 ·unfold zaN
  rw [if_neg (by simp)]
theorem zfc (t:TellingsT) (ht:zlF t):zaS t=some (zl5 t):=by
 have h1:t.fBr.length≤9223372036854775807:=ht.1
 have hev:∀ i,i < t.fBr.length→zmB (nth t.fBr i).fEv:=λ i hi=>ht.2 _ (zlJ hi)
 unfold zaS zl5
 by_cases h12:t.fBr.length≤12
 rotate_left
 ·rw [if_pos (by rw [decide_eq_true_eq];omega)];simp [h12]
 rw [if_neg (by rw [decide_eq_true_eq];omega),decide_eq_true h12,ql]
 have key:=zmg (step:=zaQ t) (λ i=>(⟨i⟩:zaO)) t.fBr.length
  (λ i=>zm8 (nth t.fBr i).fEv && znK (λ k=>decide ((zmo (nth t.fBr k).fEv (nth t.fBr i).fEv).1 < 0) && !zlW (nth t.fBr k).fEv (nth t.fBr i).fEv) i) (.inr ():Unit⊕Unit) (.inl ()) (λ i hi hv=>?_) (λ _=>?_)
 ·rw [key]
  split
  ·rename_i h;rw [h];rfl
  ·rename_i h;simp only [qo] at h;rw [h];rfl
 ·unfold zaQ
  dsimp only
  rw [if_pos (by rw [decide_eq_true_eq];omega),zlb (by omega),qb,zjg _ (hev i hi).1]
  simp only [qa]
  cases hn:zm8 (nth t.fBr i).fEv
  ·simp
  have ht':(t.fBr.take i).length=i:=by rw [qe];omega
  rw [if_neg (by simp),zlb (by omega)]
  have key2:=zmg (step:=zaP t (⟨(i:Int)⟩:zaO)) (λ k=>(⟨k⟩:zcZ)) i (λ k=>decide ((zmo (nth t.fBr k).fEv (nth t.fBr i).fEv).1 < 0) && !zlW (nth t.fBr k).fEv (nth t.fBr i).fEv) (.inr ():Unit⊕Unit) (.inl ()) (λ k hk _=>?_) (λ _=>?_)
  ·rw [key2,ql]
   have e1:wI ((i:Int)+1)=((i+1:Nat):Int):=by rw [zls (by omega)];omega
   rw [e1]
   split<;>rfl
  ·have hk':zm8 (nth t.fBr k).fEv=true:=by
    have:=hv k hk
    simp only [qd] at this
    exact this.1
   unfold zaP
   simp only [qb,ht']
   rw [if_pos (by rw [decide_eq_true_eq];omega),zlb (by omega),zn6 hk,zfy _ _ (hev k (by omega)).1 (hev i hi).1,zha _ _ (zlL hk') (zlL hn)]
   have e1:wI ((k:Int)+1)=((k+1:Nat):Int):=by rw [zls (by omega)];omega
   simp only [qa,e1]
   by_cases hc:(zmo (nth t.fBr k).fEv (nth t.fBr i).fEv).1 < 0
   ·rw [if_neg (by rw [decide_eq_true_eq];omega),decide_eq_true hc]
    cases zlW (nth t.fBr k).fEv (nth t.fBr i).fEv<;>simp
   ·rw [if_pos (by rw [decide_eq_true_eq];omega),decide_eq_false hc]
    simp
  ·unfold zaP
   simp only [qb,ht']
   rw [if_neg (by simp)]
 ·unfold zaQ
  rw [if_neg (by simp)]
end Go.TL
namespace Go.TL
theorem zno {t:TellingsT} (h:zl5 t=true) {i:Nat} (hi:i < t.fBr.length):zm8 (nth t.fBr i).fEv=true:=by
 unfold zl5 at h
 simp only [qd,zmf] at h
 exact (h.2 i hi).1
theorem zl7 {t:TellingsT} (h:zl5 t=true):t.fBr.length≤12:=by
 unfold zl5 at h
 simp only [qd,decide_eq_true_eq] at h
 exact h.1
end Go.TL

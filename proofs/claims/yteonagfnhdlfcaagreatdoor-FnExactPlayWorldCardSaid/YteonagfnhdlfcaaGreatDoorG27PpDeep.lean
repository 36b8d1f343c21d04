import Derived.Test.YteonagfnhdlfcaaGreatDoorG20PlR3M
import Derived.Test.YteonagfnhdlfcaaGreatDoorG25PpR3D
import Derived.Test.YteonagfnhdlfcaaGreatDoorG24PpR2D
import Derived.Test.YteonagfnhdlfcaaGreatDoorPpSg
open List renaming length_append → qM, length_map → qO, length_cons → qP, length_nil → qQ, pairwise_cons → qc, length_filter_le → qd, take_length → qe, length_take → qf, take_zero → qg, takeWhile_append_dropWhile → qi, mem_cons_of_mem → qj, filter_append → qk, append_assoc → ql, drop_eq_getElem_cons → qm, length_singleton → qn, takeWhile_subset → qo, dropWhile_subset → qp, mem_of_mem_take → qq, getElem_of_mem → qr, takeWhile_cons → qt, dropWhile_cons → qu, mem_mergeSort → qw, mem_map → qy, foldl_append → qz, pairwise_map → qba, length_drop → qbb, nil_append → qbc, append_nil → qbd, foldl_cons → qbe
open Option renaming bind_some → qa
open Int renaming toNat_natCast → qb
open Bool renaming and_eq_true → qh, false_eq_true → qv
open Nat renaming zero_add → qx
set_option linter.unusedSimpArgs false
set_option linter.unusedVariables false
noncomputable section
set_option maxRecDepth 4000
namespace Go.TL
section
variable {β γ τ:Type}
def zmF (f:Int→β→β) (wd:β→Nat):List β→Int→List β
 | [],_=>[]
 | b :: r,k=>f k b :: zmF f wd r (k+wd b)
def zlP (wd:β→Nat) (l:List β):Nat:=znr (l.map wd)
theorem znM (wd:β→Nat) (b:β) (r:List β):zlP wd (b :: r)=wd b+zlP wd r:=rfl
theorem zlk (f:Int→β→β) (wd:β→Nat):∀ (l:List β) (k:Int),(zmF f wd l k).length=l.length
 | [],_=>rfl
 | b :: r,k=>by simp [zmF,zlk f wd r]
theorem zq3 [Inhabited β] {p q:List β} {x:β} (h:p.length=q.length) (r:List β):nth (p++x :: r) q.length=x:=by
 unfold nth
 rw [List.getD_eq_getElem?_getD,← h]
 simp
theorem zn4 [Inhabited β] {step:γ→Option (γ⊕τ)} (mk:Int→Int→List β→γ) (wd:β→Nat) (f:Int→β→β) (l0:List β) (B:Int) (ex:Int→List β→τ)
  (hs:∀ (i:Nat) (k:Int) (l:List β),i < l0.length→l.length=l0.length→nth l i=nth l0 i→0≤k→k+wd (nth l0 i)≤B→step (mk i k l)=some (.inl (mk (i+1:Nat) (k+wd (nth l0 i)) (l.set i (f k (nth l0 i))))))
  (he:∀ k l,l.length=l0.length→step (mk l0.length k l)=some (.inr (ex k l))) (k0:Int) (hk:0≤k0) (hb:k0+zlP wd l0≤B) :
  zjZ step (mk 0 k0 l0)=some (ex (k0+zlP wd l0) (zmF f wd l0 k0)):=by
 have key:∀ (r p q:List β) (k:Int),l0=p++r→q.length=p.length→0≤k→k+zlP wd r≤B→zjZ step (mk p.length k (q++r))=some (ex (k+zlP wd r) (q++zmF f wd r k)):=by
  intro r
  induction r with
  | nil =>
   intro p q k h hq hk hb
   have e:p.length=l0.length:=by rw [h];simp
   rw [e,zkl (he _ _ (by simp [hq,e]))]
   simp [zlP,znr,zmF]
  | cons b r ih =>
   intro p q k h hq hk hb
   rw [znM] at hb ⊢
   have hi:p.length < l0.length:=by rw [h];simp
   have hn:nth l0 p.length=b:=by rw [h];exact zq3 rfl r
   have hn2:nth (q++b :: r) p.length=b:=by rw [← hq];exact zq3 rfl r
   have:=hs p.length k (q++b :: r) hi (by rw [h];simp [hq]) (by rw [hn,hn2]) hk (by rw [hn];omega)
   rw [zkX this,hn]
   have e1:(q++b :: r).set p.length (f k b)=(q++[f k b])++r:=by
    rw [← hq,List.set_append_right _ _ (by omega)];simp
   have e2:((p.length+1:Nat):Int)=((p++[b]).length:Int):=by simp
   rw [e1,e2,ih (p++[b]) (q++[f k b]) (k+wd b) (by rw [h];simp) (by simp [hq]) (by omega) (by omega)]
   simp only [zmF,ql,List.singleton_append]
   congr 2
   omega
 have:=key l0 [] [] k0 rfl rfl hk hb
 simpa using this
theorem zn5 [Inhabited β] {step:γ→Option (γ⊕(Unit⊕τ))} (mk:Int→Int→γ) (wd:β→Nat) (f:Int→β→β) (l0:List β) (B:Int) (late:Int→τ) (k0:Int)
  (hs:∀ (i:Nat) (k:Int),i < l0.length→nth (zmF f wd l0 k0) i=f k (nth l0 i)→0≤k→k+wd (nth l0 i)≤B→step (mk i k)=some (.inl (mk (i+1:Nat) (k+wd (nth l0 i)))))
  (he:∀ k,step (mk l0.length k)=some (.inr (.inr (late k)))) (hk:0≤k0) (hb:k0+zlP wd l0≤B) :
  zjZ step (mk 0 k0)=some (.inr (late (k0+zlP wd l0))):=by
 have key:∀ (r p q:List β) (k:Int),l0=p++r→zmF f wd l0 k0=q++zmF f wd r k→q.length=p.length→0≤k→k+zlP wd r≤B→zjZ step (mk p.length k)=some (.inr (late (k+zlP wd r))):=by
  intro r
  induction r with
  | nil =>
   intro p q k h hm hq hk hb
   have e:p.length=l0.length:=by rw [h];simp
   rw [e,zkl (he _)]
   simp [zlP,znr]
  | cons b r ih =>
   intro p q k h hm hq hk hb
   rw [znM] at hb ⊢
   have hi:p.length < l0.length:=by rw [h];simp
   have hn:nth l0 p.length=b:=by rw [h];exact zq3 rfl r
   have hn2:nth (zmF f wd l0 k0) p.length=f k b:=by rw [hm,← hq];exact zq3 rfl _
   have:=hs p.length k hi (by rw [hn,hn2]) hk (by rw [hn];omega)
   rw [zkX this,hn]
   have e2:((p.length+1:Nat):Int)=((p++[b]).length:Int):=by simp
   rw [e2,ih (p++[b]) (q++[f k b]) (k+wd b) (by rw [h];simp) (by rw [hm];simp [zmF]) (by simp [hq]) (by omega) (by omega)]
   congr 3
   omega
 have:=key l0 [] [] k0 rfl rfl rfl hk hb
 simpa using this
theorem zv6 {wd:β→Nat} {l:List β} {M:Nat} (h:∀ x∈l,wd x≤M):zlP wd l≤M * l.length:=by
 unfold zlP
 induction l with
 | nil=>simp [znr]
 | cons b r ih =>
  simp only [List.map_cons,znr,qP,Nat.mul_succ]
  have:=h b (by simp)
  have:=ih λ x hx=>h x (by simp [hx])
  omega
end
theorem zrU (n:Nat) (k:Int) (hk:0≤k) (hl:n≤1099511627776) (hb:k+((4 * n:Nat):Int)≤1152921504606846976) :
  zdG (zmc znt 4 k n) k=some (k+((4 * n:Nat):Int)):=by
 unfold zdG
 have key:=zsY (step:=za8 (zmc znt 4 k n)) (λ i k=>(⟨k,i⟩:zdF)) 4 znt n 1152921504606846976 (λ k=>(⟨k⟩:zf8)) k (λ i k' hi hn h0 h1=>?_) (λ k'=>?_) hk hb
 ·rw [key];rfl
 ·unfold za8
  have e1:wI (k'+1)=k'+1:=zj0 (by omega)
  have e2:wI (k'+1+1)=k'+2:=by rw [zj0 (by omega)];omega
  have e3:wI (k'+2+1)=k'+3:=by rw [zj0 (by omega)];omega
  have e4:wI (k'+3+1)=k'+4:=by rw [zj0 (by omega)];omega
  have e5:wI ((i:Int)+1)=((i+1:Nat):Int):=by rw [zj0 (by omega)];omega
  simp only [e1,e2,e3,e4,e5]
  rw [if_pos (by simp [zkG];omega),zow (k'+3) (by omega) (by omega)]
  simp (disch:=simp only [zkG];omega) only [qa,zjL,qb]
  rw [if_neg (by simp [hn,znt]),if_neg (by simp [hn,znt]),if_neg (by simp [hn,znt]),if_neg (by simp [hn,znt])]
  rfl
 ·unfold za8
  rw [if_neg (by simp [zkG])]
def zq4 (k:Int) (b:BranchT):BranchT:=⟨zmc znt 4 k b.fEv.length⟩
def zni (b:BranchT):Nat:=4 * b.fEv.length
noncomputable abbrev zv7 (l:List BranchT) (k:Int):List BranchT:=zmF zq4 zni l k
abbrev zoC (l:List BranchT):Nat:=zlP zni l
theorem zn9 (l:List BranchT) (k:Int) (hk:0≤k) (hl:l.length≤1099511627776) (hb:k+zoC l≤1099511627776) :
  zaM l k=some (k+zoC l,zv7 l k):=by
 unfold zaM
 have key:=zn4 (step:=zV) (λ i k l=>(⟨k,i,l⟩:zb4)) zni zq4 l 1099511627776 (λ k l=>(⟨k,l⟩:zfh)) (λ i k l' hi hl' hn h0 h1=>?_) (λ k l' hl'=>?_) k hk hb
 ·rw [key];rfl
 ·unfold zV
  unfold zni at h1 ⊢
  dsimp only
  rw [if_pos (by simp;omega),zjL (by omega),zjL (by omega),qb,hn,zrS _ _ h0 (by omega) (by omega)]
  simp only [qa]
  rw [zjL (zkG ..),zj0 (by omega)]
  rfl
 ·unfold zV
  rw [if_neg (by simp;omega)]
theorem zoa (l:List BranchT) (k:Int) (hk:0≤k) (hl:l.length≤1099511627776) (hb:k+zoC l≤1099511627776) :
  zbS (zv7 l k) k=some (k+zoC l):=by
 unfold zbS
 have key:=zn5 (step:=zaN (zv7 l k)) (λ i k=>(⟨k,i⟩:zde)) zni zq4 l 1099511627776 (λ k=>(⟨k⟩:zfW)) k (λ i k' hi hn h0 h1=>?_) (λ k'=>?_) hk hb
 ·rw [key];rfl
 ·unfold zaN
  unfold zni at h1 ⊢
  dsimp only
  rw [if_pos (by simp [zlk];omega),zjL (by simp [zlk];omega),qb,hn]
  unfold zq4
  dsimp only
  rw [zrU _ _ h0 (by omega) (by omega)]
  simp only [qa]
  rw [if_neg (by simp;omega),zj0 (by omega)]
  rfl
 ·unfold zaN
  rw [if_neg (by simp [zlk])]
end Go.TL
set_option maxRecDepth 4000
namespace Go.TL
def zkr (x:RegionT):Prop:=zlV x.Id∧zlV x.fVe∧zkz x.fTe
def zoO (x:RegionT):Prop:=zqd x.Id∧zqd x.fVe∧zmx x.fTe
theorem ztW {x:RegionT} (h:zkr x):zoO x:=⟨zmd h.1,zmd h.2.1,zoy h.2.2⟩
theorem ziM (a b:RegionT) (ha:zoO a):zeR a b=some (decide (a=b)):=by
 unfold zoO at ha
 unfold zeR
 rw [zgs _ _ (ha.2.2)]
 obtain ⟨x0,x1,x2⟩:=a
 obtain ⟨y0,y1,y2⟩:=b
 simp only [sEq,qa,RegionT.mk.injEq]
 by_cases h0:x0=y0
 rotate_left
 ·simp [h0]
 by_cases h1:x1=y1
 rotate_left
 ·simp [h1]
 by_cases h2:x2=y2
 rotate_left
 ·simp [h2]
 simp [h0,h1,h2]
def zrV (x:(List RegionT)):Prop:=x.length≤9223372036854775807∧∀ y∈x,zkr y
def zpj (x:(List RegionT)):Prop:=x.length≤9223372036854775807∧∀ y∈x,zoO y
theorem zsv {x:(List RegionT)} (h:zrV x):zpj x:=⟨h.1,λ y hy=>ztW (h.2 y hy)⟩
def ztX (x:WordT):Prop:=zlV x.fVe∧zkz x.fTe
def zq5 (x:WordT):Prop:=zqd x.fVe∧zmx x.fTe
theorem zv8 {x:WordT} (h:ztX x):zq5 x:=⟨zmd h.1,zoy h.2⟩
def znj (x:SaidT):Prop:=zlV x.To∧ztX x.Word
def zq6 (x:SaidT):Prop:=zqd x.To∧zq5 x.Word
theorem zv9 {x:SaidT} (h:znj x):zq6 x:=⟨zmd h.1,zv8 h.2⟩
def zu4 (x:(List SaidT)):Prop:=x.length≤9223372036854775807∧∀ y∈x,znj y
def zrW (x:(List SaidT)):Prop:=x.length≤9223372036854775807∧∀ y∈x,zq6 y
theorem zu5 {x:(List SaidT)} (h:zu4 x):zrW x:=⟨h.1,λ y hy=>zv9 (h.2 y hy)⟩
def zrX (x:WorldT):Prop:=zrV x.fRe∧zu4 x.Line
def zpJ (x:WorldT):Prop:=zpj x.fRe∧zrW x.Line
theorem zqE {x:WorldT} (h:zrX x):zpJ x:=⟨zsv h.1,zu5 h.2⟩
theorem zio (a b:(List RegionT)) (ha:zpj a):zes a b=some (decide (a=b)):=by
 obtain ⟨ha1,ha2⟩:=ha
 unfold zes
 by_cases hl:a.length=b.length
 ·rw [if_neg (by simp [hl])]
  have key:=zoK (step:=zbv a b) (λ i=>(⟨i⟩:zd7)) a b hl (λ i hi=>?_) ?_
  ·rw [key];by_cases h:a=b<;>simp [h]
  ·have hm:=ha2 _ (zks hi)
   unfold zbv
   simp (disch:=omega) only [decide_eq_true_eq,if_pos,zjL,qb,zj0]
   rw [ziM _ _ hm];simp only [qa]
   by_cases h:nth a i=nth b i<;>simp [h]
  ·unfold zbv
   rw [if_neg (by simp)]
 ·rw [if_pos (by simp;omega)]
  simp [show a≠b from λ h=>hl (by rw [h])]
theorem zjm (a b:WordT) (ha:zq5 a):zfE a b=some (decide (a=b)):=by
 unfold zq5 at ha
 unfold zfE
 rw [zgs _ _ (ha.2)]
 obtain ⟨x0,x1⟩:=a
 obtain ⟨y0,y1⟩:=b
 simp only [sEq,qa,WordT.mk.injEq]
 by_cases h0:x0=y0
 rotate_left
 ·simp [h0]
 by_cases h1:x1=y1
 rotate_left
 ·simp [h1]
 simp [h0,h1]
theorem zjn (a b:SaidT) (ha:zq6 a):zfF a b=some (decide (a=b)):=by
 unfold zq6 at ha
 unfold zfF
 rw [zjm _ _ (ha.2)]
 obtain ⟨x0,x1⟩:=a
 obtain ⟨y0,y1⟩:=b
 simp only [sEq,qa,SaidT.mk.injEq]
 by_cases h0:x0=y0
 rotate_left
 ·simp [h0]
 by_cases h1:x1=y1
 rotate_left
 ·simp [h1]
 simp [h0,h1]
theorem zi3 (a b:(List SaidT)) (ha:zrW a):zff a b=some (decide (a=b)):=by
 obtain ⟨ha1,ha2⟩:=ha
 unfold zff
 by_cases hl:a.length=b.length
 ·rw [if_neg (by simp [hl])]
  have key:=zoK (step:=zck a b) (λ i=>(⟨i⟩:ze1)) a b hl (λ i hi=>?_) ?_
  ·rw [key];by_cases h:a=b<;>simp [h]
  ·have hm:=ha2 _ (zks hi)
   unfold zck
   simp (disch:=omega) only [decide_eq_true_eq,if_pos,zjL,qb,zj0]
   rw [zjn _ _ hm];simp only [qa]
   by_cases h:nth a i=nth b i<;>simp [h]
  ·unfold zck
   rw [if_neg (by simp)]
 ·rw [if_pos (by simp;omega)]
  simp [show a≠b from λ h=>hl (by rw [h])]
theorem zi4 (a b:WorldT) (ha:zpJ a):zc1 a b=some (decide (a=b)):=by
 unfold zpJ at ha
 unfold zc1
 rw [zio _ _ (ha.1)]
 rw [zi3 _ _ (ha.2)]
 obtain ⟨x0,x1⟩:=a
 obtain ⟨y0,y1⟩:=b
 simp only [sEq,qa,WorldT.mk.injEq]
 by_cases h0:x0=y0
 rotate_left
 ·simp [h0]
 by_cases h1:x1=y1
 rotate_left
 ·simp [h1]
 simp [h0,h1]
end Go.TL
namespace Go.TL
def zsw (v:Int) (l:List EventT):Bool:=l.all λ e=>!decide (e.fVe > v)
def zpK (v:Int) (t:TellingsT):Bool:=t.fBr.all λ b=>zsw v b.fEv
def zqF (v:Int) (t:TellingsT):Bool:=zst v && zkA t && zpK v t
def zkg (r:RegionT):Bool:=decide (0≤r.Id∧r.Id≤9) && zqF r.fVe r.fTe
theorem za9 (r:RegionT) (hr:zkr r):zB r=some (zkg r):=by
 have ht:zkz r.fTe:=hr.2.2
 have h1:r.fTe.fBr.length≤9223372036854775807:=ht.1
 unfold zB zbd zkg zqF
 simp only [zbk,zcK _ ht,qa]
 have key:=zk9 (step:=za6 r) (λ i=>(⟨i⟩:za4)) r.fTe.fBr.length (λ i=>zsw r.fVe (nth r.fTe.fBr i).fEv) (.inr ():Unit⊕Unit) (.inl ()) (λ i hi hv=>?_) (λ _=>?_)
 ·rw [key,zpC r.fTe.fBr λ b=>zsw r.fVe b.fEv]
  unfold zpK zst
  cases decide (0≤r.Id∧r.Id≤9)<;>cases decide (0≤r.fVe∧r.fVe≤1000000)<;>cases zkA r.fTe<;>cases (r.fTe.fBr.all λ b=>zsw r.fVe b.fEv)<;>simp
 ·have h2:zlt (nth r.fTe.fBr i).fEv:=ht.2 _ (zks hi)
  have h3:=h2.1
  unfold za6
  dsimp only
  rw [if_pos (by rw [decide_eq_true_eq];omega),zjL (by omega)]
  have e1:wI ((i:Int)+1)=((i+1:Nat):Int):=by rw [zj0 (by omega)];omega
  rw [e1]
  have key2:=zk9 (step:=za5 r (⟨(i:Int)⟩:za4)) (λ k=>(⟨k⟩:zdB)) (nth r.fTe.fBr i).fEv.length (λ k=>!decide ((nth (nth r.fTe.fBr i).fEv k).fVe > r.fVe)) (.inr ():Unit⊕Unit) (.inl ()) (λ k hk _=>?_) (λ _=>?_)
  ·rw [key2,zpC (nth r.fTe.fBr i).fEv λ e=>!decide (e.fVe > r.fVe)]
   unfold zsw
   split<;>rfl
  ·unfold za5
   simp only [qb]
   have e2:wI ((k:Int)+1)=((k+1:Nat):Int):=by rw [zj0 (by omega)];omega
   rw [if_pos (by rw [decide_eq_true_eq];omega),zjL (by omega),e2]
   cases decide ((nth (nth r.fTe.fBr i).fEv k).fVe > r.fVe)<;>rfl
  ·unfold za5
   simp only [qb]
   rw [if_neg (by rw [decide_eq_true_eq];omega)]
 ·unfold za6
  dsimp only
  rw [if_neg (by rw [decide_eq_true_eq];omega)]
def zs5 (s:SaidT):Bool:=decide (0≤s.To∧s.To≤1) && zqF s.Word.fVe s.Word.fTe
def zwW (w:WorldT):Bool:=decide (w.fRe.length=2) && decide (w.Line.length≤20) && zmw (λ i=>zkg (nth w.fRe i) && decide ((nth w.fRe i).Id=(i:Int))) w.fRe.length && w.Line.all zs5
theorem zrY (v:Int) (t:TellingsT):zkg ⟨0,v,t⟩=zqF v t:=by
 unfold zkg
 simp
theorem zip (w:WorldT) (hw:zrX w):zeq w=some (zwW w):=by
 have h1:w.fRe.length≤9223372036854775807:=hw.1.1
 have h2:w.Line.length≤9223372036854775807:=hw.2.1
 unfold zeq zwW
 have hJ:(if (((w.fRe.length:Nat):Int) != 2)=true then some (⟨true⟩:zcF) else some ⟨(decide (((w.Line.length:Nat):Int) > 20))⟩)=some ⟨!(decide (w.fRe.length=2) && decide (w.Line.length≤20))⟩:=by
  by_cases e1:w.fRe.length=2
  ·rw [if_neg (by rw [e1];decide),decide_eq_true e1,Bool.true_and]
   congr 2
   rw [Bool.eq_iff_iff,decide_eq_true_eq];simp;omega
  ·rw [if_pos (by rw [bne_iff_ne];omega),decide_eq_false e1];rfl
 rw [hJ]
 simp only [qa]
 have key:=zk9 (step:=zbu w) (λ i=>(⟨i⟩:zd5)) w.fRe.length (λ i=>zkg (nth w.fRe i) && decide ((nth w.fRe i).Id=(i:Int))) (.inr ():Unit⊕Unit) (.inl ()) (λ i hi hv=>?_) (λ _=>?_)
 ·have key2:=zk9 (step:=zcu w) (λ i=>(⟨i⟩:zd6)) w.Line.length (λ i=>zs5 (nth w.Line i)) (.inr ():Unit⊕Unit) (.inl ()) (λ i hi hv=>?_) (λ _=>?_)
  ·rw [key,key2,zpC w.Line zs5]
   cases (decide (w.fRe.length=2) && decide (w.Line.length≤20))
   ·simp
   ·cases zmw (λ i=>zkg (nth w.fRe i) && decide ((nth w.fRe i).Id=(i:Int))) w.fRe.length
    ·simp
    ·cases w.Line.all zs5<;>simp
  ·have hs:znj (nth w.Line i):=hw.2.2 _ (zks hi)
   unfold zcu
   dsimp only
   have e1:wI ((i:Int)+1)=((i+1:Nat):Int):=by rw [zj0 (by omega)];omega
   have hok:zkr ⟨0,(nth w.Line i).Word.fVe,(nth w.Line i).Word.fTe⟩:=⟨(⟨by decide,by decide⟩:zlV 0),hs.2.1,hs.2.2⟩
   rw [if_pos (by rw [decide_eq_true_eq];omega),zjL (by omega),e1,qb]
   simp only [zbk,za9 _ hok,qa,zrY]
   unfold zs5
   cases decide (0≤(nth w.Line i).To∧(nth w.Line i).To≤1)<;>cases zqF (nth w.Line i).Word.fVe (nth w.Line i).Word.fTe<;>simp
  ·unfold zcu
   dsimp only
   rw [if_neg (by rw [decide_eq_true_eq];omega)]
 ·have hs:zkr (nth w.fRe i):=hw.1.2 _ (zks hi)
  unfold zbu
  dsimp only
  have e1:wI ((i:Int)+1)=((i+1:Nat):Int):=by rw [zj0 (by omega)];omega
  have e3:zB ⟨(nth w.fRe i).Id,(nth w.fRe i).fVe,(nth w.fRe i).fTe⟩=some (zkg (nth w.fRe i)):=za9 (nth w.fRe i) hs
  rw [if_pos (by rw [decide_eq_true_eq];omega),zjL (by omega),e1,qb,e3]
  simp only [qa]
  have e4:((nth w.fRe i).Id != (i:Int))=!decide ((nth w.fRe i).Id=(i:Int)):=rfl
  rw [e4]
  cases zkg (nth w.fRe i)<;>cases decide ((nth w.fRe i).Id=(i:Int))<;>simp
 ·unfold zbu
  dsimp only
  rw [if_neg (by rw [decide_eq_true_eq];omega)]
theorem zy9 {a b:List EventT} (ha:zkP a=true) (hb:zkP b=true):(zkR a b).1=0↔a=b:=by
 unfold zkR
 cases hf:zlE a b with
 | some i =>
  obtain ⟨h1,h2,h3⟩:=zpH hf
  simp only [ne_eq,decide_not,Bool.not_eq_true',decide_eq_false_iff_not] at h2
  simp only
  constructor
  ·intro h;exact absurd h h2
  ·intro h;subst h;exact absurd ((znL _ _).2 ⟨rfl,rfl,rfl⟩) h2
 | none =>
  have h1:=zrT hf
  simp only
  constructor
  ·intro h
   have hl:a.length=b.length:=by
    split at h
    ·simp at h
    ·split at h
     ·simp at h
     ·omega
   refine zrH hl λ j hj=>?_
   have:=h1 j (by omega)
   simp only [ne_eq,decide_not,Bool.not_eq_false',decide_eq_true_eq] at this
   exact (zqi ha hb hj (by omega)).2 this
  ·intro h;subst h;simp
theorem zku {r:RegionT} (h:zkg r=true):zkA r.fTe=true:=by
 unfold zkg zqF at h
 simp only [qh] at h
 exact h.2.1.2
end Go.TL
set_option maxRecDepth 4000
namespace Go.TL
def zza (t:TellingsT):Prop:=t.fBr.length≤12∧∀ i,i < t.fBr.length→(nth t.fBr i).fEv.length≤60
theorem zmA {t:TellingsT} (h:zkA t=true):zza t:=⟨zkH h,λ i hi=>zlu (zkh (zmm h hi))⟩
theorem zld {α:Type} [Inhabited α] {l:List α} {i:Nat} (h:i < l.length):l.take i++[nth l i]=l.take (i+1):=by
 rw [zkj h];simp
theorem zq7 {α:Type} [Inhabited α] {l:List α} {i:Nat} (h:i < l.length):l.set i (nth l i)=l:=by
 rw [zkj h];simp
def zzb (r:RegionT):RegionT×Bool:=if zkg r=true then (if (zls r.fVe r.Id).2=true then (⟨r.Id,(zls r.fVe r.Id).1,r.fTe⟩,true) else (⟨0,0,⟨[]⟩⟩,false)) else (⟨0,0,⟨[]⟩⟩,false)
end Go.TL
namespace Go.TL
theorem zwa (a b:List EventT):zlE a b=zlE b a:=by
 unfold zlE
 rw [Nat.min_comm]
 congr 1
 funext i
 congr 1
 apply propext
 rw [ne_eq,ne_eq,znL,znL]
 constructor<;>intro h e<;>exact h ⟨e.1.symm,e.2.1.symm,e.2.2.symm⟩
end Go.TL
set_option maxRecDepth 4000
namespace Go.TL
theorem zmZ (a b:EventT):evC b a=-evC a b:=by
 unfold evC
 by_cases h1:a.fVe=b.fVe
 ·by_cases h2:a.Kind=b.Kind
  ·rcases zn2 a.Name b.Name with h | h | h
   ·simp [h1,h2,h,zmy h]
   ·simp [h1,h2,h,zkQ]
   ·simp [h1,h2,h,zmy h]
  ·simp only [h1,h2,Ne.symm h2,ne_eq,not_true_eq_false,if_false,not_false_eq_true,if_true]
   by_cases h:a.Kind < b.Kind
   ·rw [if_pos h,if_neg (by omega)];rfl
   ·rw [if_neg h,if_pos (by omega)]
 ·simp only [h1,Ne.symm h1,ne_eq,not_false_eq_true,if_true]
  by_cases h:a.fVe < b.fVe
  ·rw [if_pos h,if_neg (by omega)];rfl
  ·rw [if_neg h,if_pos (by omega)]
theorem zqj (a b:List EventT):(zkR b a).1=-(zkR a b).1:=by
 unfold zkR
 rw [zwa b a]
 cases zlE a b with
 | some i=>simp only;exact zmZ _ _
 | none =>
  simp only
  by_cases h:a.length < b.length
  ·simp [h,show ¬ b.length < a.length by omega]
  ·by_cases h':b.length < a.length
   ·simp [h,h']
   ·simp [h,h']
def bev (l:List BranchT) (i:Nat):List EventT:=(nth l i).fEv
def zk3 (l:List EventT):Int:=(nth l (l.length - 1)).fVe
def zwb (a b:List EventT):Bool:=decide (zk3 b < zk3 a) || (decide (zk3 a=zk3 b) && decide (b.length≤a.length))
def zlp (l:List BranchT):Nat→Nat
 | 0=>0
 | i+1=>if zwb (bev l (i+1)) (bev l (zlp l i))=true then i+1 else zlp l i
theorem znk (l:List BranchT):∀ i,zlp l i≤i
 | 0=>by simp [zlp]
 | i+1=>by
  have:=znk l i
  unfold zlp
  split<;>omega
def zBM (l:List BranchT):Prop:=l.length≤12∧∀ i,i < l.length→0 < (bev l i).length∧(bev l i).length≤60
def zwX (l:List BranchT):Int:=if l.length=0 then -1 else ((zlp l (l.length - 1):Nat):Int)
theorem zgu (l:List BranchT) (h:zBM l):zcm l=some (zwX l):=by
 unfold zcm zwX
 by_cases h0:l.length=0
 ·rw [if_pos h0]
  have:zjZ (zp l) ⟨(-1),0⟩=some ⟨-1⟩:=by
   apply zkl
   unfold zp
   dsimp only
   rw [if_neg (by rw [decide_eq_true_eq];omega)]
  rw [this];rfl
 rw [if_neg h0]
 obtain ⟨hl,he⟩:=h
 have key:∀ (m i:Nat),i+1+m=l.length→zjZ (zp l) ⟨((zlp l i:Nat):Int),((i+1:Nat):Int)⟩=some ⟨((zlp l (l.length - 1):Nat):Int)⟩:=by
  intro m
  induction m with
  | zero =>
   intro i hi
   have e:i=l.length - 1:=by omega
   apply zkl
   unfold zp
   dsimp only
   rw [if_neg (by simp;omega),e]
  | succ m ih =>
   intro i hi
   have hc:=znk l i
   have hs:zp l ⟨((zlp l i:Nat):Int),((i+1:Nat):Int)⟩=some (.inl ⟨((zlp l (i+1):Nat):Int),((i+2:Nat):Int)⟩):=by
    obtain ⟨a1,a2⟩:=he (i+1) (by omega)
    obtain ⟨b1,b2⟩:=he (zlp l i) (by omega)
    have e1:wI (((i+1:Nat):Int)+1)=((i+2:Nat):Int):=by rw [zj0 (by omega)];omega
    have e2:zlp l (i+1)=if zwb (bev l (i+1)) (bev l (zlp l i))=true then i+1 else zlp l i:=rfl
    have eA:wI ((((bev l (i+1)).length:Nat):Int) - 1)=(((bev l (i+1)).length - 1:Nat):Int):=by rw [zj0 (by omega)];omega
    have eB:wI ((((bev l (zlp l i)).length:Nat):Int) - 1)=(((bev l (zlp l i)).length - 1:Nat):Int):=by rw [zj0 (by omega)];omega
    have fA:(nth l (i+1)).fEv=bev l (i+1):=rfl
    have fB:(nth l (zlp l i)).fEv=bev l (zlp l i):=rfl
    unfold zp
    simp only [qb,fA,fB,eA,eB,e1]
    rw [if_pos (by rw [decide_eq_true_eq];omega),zjL (by omega),if_neg (by simp),zjL (by omega),zjL (by omega),zjL (by omega),e2]
    have gA:(nth (bev l (i+1)) ((bev l (i+1)).length - 1)).fVe=zk3 (bev l (i+1)):=rfl
    have gB:(nth (bev l (zlp l i)) ((bev l (zlp l i)).length - 1)).fVe=zk3 (bev l (zlp l i)):=rfl
    rw [gA,gB]
    unfold zwb
    by_cases c1:zk3 (bev l (zlp l i)) < zk3 (bev l (i+1))
    ·rw [if_pos (decide_eq_true c1)]
     simp [c1]
    ·rw [if_neg (by simpa using c1)]
     by_cases c2:zk3 (bev l (i+1))=zk3 (bev l (zlp l i))
     ·rw [if_pos (by simpa using c2)]
      by_cases c3:(bev l (zlp l i)).length≤(bev l (i+1)).length
      ·simp [c1,c2,c3]
      ·simp [c1,c2,c3]
     ·rw [if_neg (by simpa using c2)]
      simp [c1,c2]
   rw [zkX hs]
   exact ih (i+1) (by omega)
 have h1:zp l ⟨(-1),0⟩=some (.inl ⟨((zlp l 0:Nat):Int),((0+1:Nat):Int)⟩):=by
  unfold zp
  dsimp only
  rw [if_pos (by simp;omega),zjL (by omega),if_pos (by simp)]
  rfl
 rw [zkX h1,key (l.length - 1) 0 (by omega)]
 rfl
theorem zha (l:List EventT) (h1:0 < l.length) (h2:l.length≤60):zet l=some (zk3 l):=by
 have e:wI (((l.length:Nat):Int) - 1)=((l.length - 1:Nat):Int):=by rw [zj0 (by omega)];omega
 unfold zet zk3
 rw [e,zjL (by omega),qb]
def zCg (l:List BranchT):Prop:=∀ i k,i < l.length→k < i→(zkR (bev l k) (bev l i)).1 < 0
theorem zxH (a b:List EventT) (ha:0 < a.length∧a.length≤60) (hb:0 < b.length∧b.length≤60) (hc:(zkR b a).1 < 0):∃ c,zcn ⟨a⟩ ⟨b⟩=some c∧decide (c > 0)=zwb a b:=by
 refine ⟨if zuX (zk3 a) (zk3 b)≠0 then zuX (zk3 a) (zk3 b) else if zuX ((a.length:Nat):Int) ((b.length:Nat):Int)≠0 then zuX ((a.length:Nat):Int) ((b.length:Nat):Int) else (zkR a b).1,?_,?_⟩
 ·unfold zcn
  simp only [zha a ha.1 ha.2,zha b hb.1 hb.2,zi1,zeY a b (by omega) (by omega),qa,zy8]
 ·have hp:0 < (zkR a b).1:=by rw [zqj b a];omega
  unfold zuX zwb
  by_cases c1:zk3 a < zk3 b
  ·have n1:¬ zk3 b < zk3 a:=by omega
   have n2:¬ zk3 a=zk3 b:=by omega
   simp [c1,n1,n2]
  ·by_cases c2:zk3 b < zk3 a
   ·simp [c1,c2]
   ·have c3:zk3 a=zk3 b:=by omega
    by_cases d1:a.length < b.length
    ·simp [c3,d1]
    ·by_cases d2:b.length < a.length
     ·have d3:b.length≤a.length:=by omega
      have d4:¬ ((a.length:Nat):Int) < ((b.length:Nat):Int):=by omega
      simp [c3,d1,d2,d3]
     ·have d3:a.length=b.length:=by omega
      simp [c3,d3,hp]
theorem zwc (l:List BranchT) (h:zBM l) (ho:zCg l) (h0:0 < l.length):zh l=some ⟨bev l (zlp l (l.length - 1))⟩:=by
 obtain ⟨hl,he⟩:=h
 unfold zh
 rw [if_neg (by simp;omega)]
 simp only [qa]
 rw [zjL (by omega)]
 have key:∀ (m i:Nat),i+1+m=l.length→zjZ (za l) ⟨((i+1:Nat):Int),bev l (zlp l i)⟩=some ⟨bev l (zlp l (l.length - 1))⟩:=by
  intro m
  induction m with
  | zero =>
   intro i hi
   have e:i=l.length - 1:=by omega
   apply zkl
   unfold za
   dsimp only
   rw [if_neg (by simp;omega),e]
  | succ m ih =>
   intro i hi
   have hc:=znk l i
   have hs:za l ⟨((i+1:Nat):Int),bev l (zlp l i)⟩=some (.inl ⟨((i+2:Nat):Int),bev l (zlp l (i+1))⟩):=by
    have e1:wI (((i+1:Nat):Int)+1)=((i+2:Nat):Int):=by rw [zj0 (by omega)];omega
    have e2:zlp l (i+1)=if zwb (bev l (i+1)) (bev l (zlp l i))=true then i+1 else zlp l i:=rfl
    obtain ⟨c,hc1,hc2⟩:=zxH (bev l (i+1)) (bev l (zlp l i)) (he (i+1) (by omega)) (he (zlp l i) (by omega)) (ho (i+1) (zlp l i) (by omega) (by omega))
    have hc1':zcn (nth l (i+1)) ⟨bev l (zlp l i)⟩=some c:=hc1
    unfold za
    simp only [qb,e1]
    rw [if_pos (by rw [decide_eq_true_eq];omega),zjL (by omega),hc1',e2]
    simp only [qa]
    rw [hc2]
    cases zwb (bev l (i+1)) (bev l (zlp l i))
    ·rfl
    ·rw [if_pos rfl,if_pos rfl,zjL (by omega)];rfl
   rw [zkX hs]
   exact ih (i+1) (by omega)
 have:=key (l.length - 1) 0 (by omega)
 have e0:((0+1:Nat):Int)=1:=rfl
 rw [e0] at this
 have e1:bev l (zlp l 0)=(nth l 0).fEv:=rfl
 rw [e1] at this
 rw [this]
 rfl
def zkn (t:TellingsT):List EventT:=if t.fBr.length=0 then [] else bev t.fBr (zlp t.fBr (t.fBr.length - 1))
theorem zoP {t:TellingsT} (h:zkA t=true):zBM t.fBr∧zCg t.fBr:=by
 refine ⟨⟨zkH h,λ i hi=>?_⟩,λ i k hi hk=>?_⟩
 ·have ht:=zmm h hi
  refine ⟨?_,zlu (zkh ht)⟩
  unfold zly at ht
  simp only [qh,decide_eq_true_eq] at ht
  exact ht.1
 ·unfold zkA at h
  simp only [qh,decide_eq_true_eq,zkU] at h
  exact ((h.2 i hi).2 k hk).1
theorem ze6 (t:TellingsT) (h:zkA t=true):zcb t=some (zkn t):=by
 obtain ⟨hf,ho⟩:=zoP h
 unfold zcb zkn
 by_cases h0:t.fBr.length=0
 ·rw [if_pos (by simp [h0]),if_pos h0]
 ·rw [if_neg (by simp;exact λ e=>h0 (by rw [e];rfl)),if_neg h0,zwc _ hf ho (by omega)]
  rfl
theorem zm0 {t:TellingsT} (h:zkA t=true):(zkn t).length≤60:=by
 obtain ⟨hf,ho⟩:=zoP h
 unfold zkn
 by_cases h0:t.fBr.length=0
 ·rw [if_pos h0];simp
 ·rw [if_neg h0]
  have:=znk t.fBr (t.fBr.length - 1)
  exact (hf.2 _ (by omega)).2
theorem ztY {t:TellingsT} (ht:zkz t):zlt (zkn t):=by
 unfold zkn
 by_cases h0:t.fBr.length=0
 ·rw [if_pos h0];exact ⟨by simp,by simp⟩
 ·rw [if_neg h0]
  have:=znk t.fBr (t.fBr.length - 1)
  exact ht.2 _ (zks (by omega))
end Go.TL
set_option maxRecDepth 4000
namespace Go.TL
set_option maxHeartbeats 1000000 in
theorem zu6 (l:List ByteArray) (x:ByteArray) (hl:l.length≤2000):∀ (r:List ByteArray) (i:Nat) (p:Bool) (c:List ByteArray),l.drop i=r→i≤l.length→c.length≤2 * i →
  zjZ (zC l x) ⟨p,(i:Int),c⟩=some ⟨(zl3 x r p c).1,(zl3 x r p c).2⟩:=by
 intro r
 induction r with
 | nil =>
  intro i p c hd hi hc
  have hi':i=l.length:=by
   have:=congrArg List.length hd
   rw [qbb,qQ] at this
   omega
  subst hi'
  exact zkl (by unfold zC;rw [if_neg (by simp)];rfl)
 | cons y r ih =>
  intro i p c hd hi hc
  have hlt:i < l.length:=by
   have:=congrArg List.length hd
   rw [qbb,qP] at this
   omega
  have hy:nth l i=y:=by
   rw [zkj hlt]
   have:=qm hlt
   rw [hd] at this
   exact (List.cons.inj this).1.symm
  have hr:l.drop (i+1)=r:=by
   have:=qm hlt
   rw [hd] at this
   exact (List.cons.inj this).2.symm
  have hstep:zC l x ⟨p,(i:Int),c⟩=some (.inl (if y=x then ⟨p,((i+1:Nat):Int),c⟩ else if (!p && sLt x y)=true then ⟨true,((i+1:Nat):Int),c++[x]++[y]⟩ else ⟨p,((i+1:Nat):Int),c++[y]⟩)):=by
   unfold zC
   have e1:wI ((i:Int)+1)=((i+1:Nat):Int):=by rw [zj0 (by omega)];omega
   simp only [qb,hy,e1,sGt]
   rw [if_pos (by simp;omega),zjL (by omega),sEq]
   by_cases he:y=x
   ·rw [if_pos (by simp [he]),if_pos he]
   ·rw [if_neg (by simp [he]),if_neg he]
    have hg1:(c.length+1) * 16≤140737488355328:=by omega
    have hg2:(c.length+1+1) * 16≤140737488355328:=by omega
    cases p
    ·cases h:sLt x y
     ·simp [zjL hg1]
     ·simp [zjL hg1,zjL hg2]
    ·simp [zjL hg1]
  rw [zkX hstep]
  unfold zl3
  by_cases he:y=x
  ·rw [if_pos he,if_pos he];exact ih (i+1) p c hr (by omega) (by omega)
  ·rw [if_neg he,if_neg he]
   split
   ·exact ih (i+1) true _ hr (by omega) (by simp only [qM,qn];omega)
   ·exact ih (i+1) p _ hr (by omega) (by simp only [qM,qn];omega)
theorem ziq (l:List ByteArray) (x:ByteArray) (hl:l.length≤2000):zbA l x=some (zmM l x):=by
 unfold zbA zmM
 obtain ⟨k,hk,hp⟩:=zdt l x (by omega)
 rw [hk]
 simp only [qa]
 rw [hp]
 have:=zu6 l x hl l 0 (zkt l x) [] rfl (by omega) (by simp)
 rw [show ((0:Nat):Int)=0 from rfl] at this
 rw [this]
 simp only [qa]
 have hlen:=znK x l [] (zkt l x)
 simp only [qQ,qx] at hlen
 rw [zjL (by omega)]
 cases h:zkt l x
 ·have hm:x∉l:=λ e=>by rw [znJ.2 e] at h;cases h
  have:=zoz x l [] hm
  simp only [qbc] at this
  simp only [qv,if_false]
  rw [← this]
  split<;>rfl
 ·rw [zmY]
  simp
theorem zkS {γ τ β:Type} {step:γ→Option (γ⊕τ)} (mk:Int→β→γ) (n:Nat) (f:Nat→β) (late:β→τ)
  (hs:∀ i,i < n→step (mk i (f i))=some (.inl (mk (i+1:Nat) (f (i+1))))) (he:step (mk n (f n))=some (.inr (late (f n)))):zjZ step (mk 0 (f 0))=some (late (f n)):=by
 have key:∀ (m i:Nat),i+m=n→zjZ step (mk i (f i))=some (late (f n)):=by
  intro m
  induction m with
  | zero =>
   intro i h
   have e:i=n:=by omega
   subst e
   exact zkl he
  | succ m ih =>
   intro i h
   rw [zkX (hs i (by omega))]
   exact ih (i+1) (by omega)
 exact key n 0 (by omega)
def znu (l:List EventT):List ByteArray:=(l.filter λ e=>decide (e.Kind=2)).map (·.Name)
theorem znN (l:List EventT):(znu l).length≤l.length:=by
 unfold znu
 rw [qO]
 exact qd _ _
theorem zxJ (l:List EventT) (e:EventT):znu (l++[e])=if e.Kind=2 then znu l++[e.Name] else znu l:=by
 unfold znu
 rw [qk,List.map_append]
 by_cases h:e.Kind=2<;>simp [h]
theorem zxK (e:EventT) (l:List EventT):znu (e :: l)=(if e.Kind=2 then [e.Name] else [])++znu l:=by
 unfold znu
 by_cases h:e.Kind=2<;>simp [h]
theorem zzc {s t:zjV} {e:EventT} (h:zm3 s e=some t):t.fSi=s.fSi++(if e.Kind=2 then [e.Name] else []):=by
 unfold zm3 at h
 by_cases h1:e.Kind=1
 ·rw [if_pos h1] at h;cases h;simp [h1]
 rw [if_neg h1] at h
 by_cases h2:e.Kind=2
 ·rw [if_pos h2] at h
  split at h
  ·cases h
  ·cases h;simp [h2]
 rw [if_neg h2] at h
 rw [if_neg h2,qbd]
 split at h
 ·cases h;rfl
 ·split at h
  ·cases h;rfl
  ·split at h
   ·split at h
    ·cases h
    ·cases h;rfl
   ·cases h;rfl
theorem zwd {s t:zjV} {e:EventT} (h:zkf s e=some t):t.fSi=s.fSi++(if e.Kind=2 then [e.Name] else []):=by
 unfold zkf at h
 split at h
 ·cases ho:zm3 s e with
  | none=>rw [ho] at h;cases h
  | some u =>
   rw [ho] at h
   simp only [qa] at h
   split at h
   ·cases h;exact zzc ho
   ·cases h
 ·cases h
theorem zs6:∀ (r:List EventT) (s:zjV) (n:Nat),(zkV r s n).2=n+r.length→(zkV r s n).1.fSi=s.fSi++znu r
 | [],s,n,_=>by simp [zkV,znu]
 | e :: r,s,n,h=>by
  unfold zkV at h ⊢
  cases ha:zkf s e with
  | none =>
   rw [ha] at h
   simp only [qP] at h
   omega
  | some t =>
   rw [ha] at h
   simp only [qP] at h ⊢
   rw [zs6 r t (n+1) (by omega),zwd ha,zxK,ql]
theorem zrZ {l:List EventT} (h:zkP l=true):(zkq l).1.fSi=znu l:=by
 unfold zkP at h
 simp only [qh,decide_eq_true_eq] at h
 have:=zs6 l zqQ 0 (by have:=h.1.2;unfold zkq at this;omega)
 exact this
theorem zhb (l:List EventT) (hl:l.length≤60):zeu l=some (znu l):=by
 unfold zeu
 have key:=zkS (step:=zcq l) (λ i c=>(⟨i,c⟩:ze4)) l.length (λ i=>znu (l.take i)) (λ c=>(⟨c⟩:zgF)) (λ i hi=>?_) ?_
 ·simp only [qg,qe] at key
  have e0:znu []=[]:=rfl
  rw [e0] at key
  rw [key];rfl
 ·have ht:(l.take i).length=i:=by rw [qf];omega
  have hc:=znN (l.take i)
  have e1:wI ((i:Int)+1)=((i+1:Nat):Int):=by rw [zj0 (by omega)];omega
  unfold zcq
  simp only [qb,e1,← zld hi,zxJ]
  rw [if_pos (by rw [decide_eq_true_eq];omega),zjL (by omega)]
  by_cases h:(nth l i).Kind=2
  ·rw [if_pos (by simpa using h),zjL (by omega),if_pos h]
  ·rw [if_neg (by simpa using h),if_neg h]
 ·unfold zcq
  dsimp only
  rw [if_neg (by simp)]
def stp (own out:List ByteArray) (n:ByteArray):List ByteArray:=if (zkt own n || zkt out n)=true then out else zmM out n
theorem zu7 {l:List ByteArray} {x:ByteArray} (h:zkt l x=false):zmM l x=l.takeWhile (λ y=>sLt y x)++x :: l.dropWhile (λ y=>sLt y x):=by
 unfold zmM
 rw [h]
 simp
theorem zAz (own out:List ByteArray) (n:ByteArray):(stp own out n).length≤out.length+1:=by
 unfold stp
 split
 ·omega
 ·rename_i h
  have h':zkt out n=false:=by
   cases h2:zkt out n
   ·rfl
   ·rw [h2] at h;simp at h
  rw [zu7 h',qM,qP]
  have:=congrArg List.length (qi (p:=λ y=>sLt y n) (l:=out))
  rw [qM] at this
  omega
theorem zpL (own:List ByteArray):∀ (r out:List ByteArray),(r.foldl (stp own) out).length≤out.length+r.length
 | [],out=>by simp
 | n :: r,out=>by
  have h1:=zAz own out n
  have h2:=zpL own r (stp own out n)
  simp only [qbe,qP]
  omega
theorem zwe {α β:Type} [Inhabited α] (f:β→α→β) (b:β) {l:List α} {i:Nat} (h:i < l.length):(l.take (i+1)).foldl f b=f ((l.take i).foldl f b) (nth l i):=by
 rw [← zld h,qz]
 rfl
theorem zAA (own out:List ByteArray) (c c':zjV×Int) (ho:c'.1.fSi=own) (h1:own.length≤60) (h2:c.1.fSi.length≤60) (h3:out.length≤1000) :
  zjZ (zbj c c') ⟨0,out⟩=some ⟨c.1.fSi.foldl (stp own) out⟩:=by
 have key:=zkS (step:=zbj c c') (λ i c=>(⟨i,c⟩:ze3)) c.1.fSi.length (λ i=>(c.1.fSi.take i).foldl (stp own) out) (λ c=>(⟨c⟩:zgE)) (λ i hi=>?_) ?_
 ·simpa only [qg,qe,List.foldl_nil] using key
 ·have hl:=zpL own (c.1.fSi.take i) out
  have ht:(c.1.fSi.take i).length=i:=by rw [qf];omega
  have e1:wI ((i:Int)+1)=((i+1:Nat):Int):=by rw [zj0 (by omega)];omega
  obtain ⟨k1,g1,g2⟩:=zdt own (nth c.1.fSi i) (by omega)
  obtain ⟨k2,g3,g4⟩:=zdt ((c.1.fSi.take i).foldl (stp own) out) (nth c.1.fSi i) (by omega)
  have n1:decide (k1 < 0)=!zkt own (nth c.1.fSi i):=by rw [← g2];by_cases h:k1 < 0<;>simp [h];omega
  have n2:decide (k2 < 0)=!zkt ((c.1.fSi.take i).foldl (stp own) out) (nth c.1.fSi i):=by rw [← g4];by_cases h:k2 < 0<;>simp [h];omega
  unfold zbj
  simp only [qb,e1,ho,zwe _ _ hi]
  rw [if_pos (by rw [decide_eq_true_eq];omega),zjL (by omega),g1]
  simp only [qa]
  rw [g3,ziq _ _ (by omega)]
  simp only [qa,n1,n2]
  have e5:stp own ((c.1.fSi.take i).foldl (stp own) out) (nth c.1.fSi i)=if (zkt own (nth c.1.fSi i) || zkt ((c.1.fSi.take i).foldl (stp own) out) (nth c.1.fSi i))=true then (c.1.fSi.take i).foldl (stp own) out else zmM ((c.1.fSi.take i).foldl (stp own) out) (nth c.1.fSi i):=rfl
  rw [e5]
  cases zkt own (nth c.1.fSi i)
  ·cases zkt ((c.1.fSi.take i).foldl (stp own) out) (nth c.1.fSi i)<;>rfl
  ·rfl
 ·unfold zbj
  dsimp only
  rw [if_neg (by simp)]
def znv (l:List BranchT):List ByteArray:=l.flatMap λ b=>znu b.fEv
theorem zs7 (l:List BranchT) (b:BranchT):znv (l++[b])=znv l++znu b.fEv:=by unfold znv;simp
theorem zpM {l:List BranchT} (h:∀ b∈l,b.fEv.length≤60):(znv l).length≤60 * l.length:=by
 unfold znv
 induction l with
 | nil=>simp
 | cons b r ih =>
  have h1:=ih λ x hx=>h x (by simp [hx])
  have h2:=h b (by simp)
  have h3:=znN b.fEv
  rw [List.flatMap_cons,qM,qP]
  omega
def znO (t:TellingsT):List ByteArray:=znu (zkn t)
def zkb (t:TellingsT):List ByteArray:=(znv t.fBr).foldl (stp (znO t)) []
def zzd (t:TellingsT):List ByteArray:=zmb (znG ((znv t.fBr).filter λ n=>!zkt (znO t) n))
theorem zoQ {t:TellingsT} (h:zkA t=true) {i:Nat} (hi:i < t.fBr.length):zkP (nth t.fBr i).fEv=true∧(nth t.fBr i).fEv.length≤60:=⟨zkh (zmm h hi),zlu (zkh (zmm h hi))⟩
theorem zoR {t:TellingsT} (h:zkA t=true):∀ b∈t.fBr,b.fEv.length≤60:=by
 intro b hb
 obtain ⟨i,hi,e⟩:=qr hb
 have:=(zoQ h hi).2
 rw [zkj hi,e] at this
 exact this
theorem zi5 (t:TellingsT) (ht:zkz t) (hg:zkA t=true):zfj t.fBr=some (zkb t):=by
 obtain ⟨hf,ho⟩:=zoP hg
 have h12:=zkH hg
 unfold zfj
 rw [zgu _ hf]
 simp only [qa]
 unfold zwX
 by_cases h0:t.fBr.length=0
 ·have e:t.fBr=[]:=List.length_eq_zero_iff.1 h0
  rw [if_pos h0,if_pos (by simp)]
  unfold zkb znv
  rw [e];rfl
 have hc:=znk t.fBr (t.fBr.length - 1)
 have hlt:zlp t.fBr (t.fBr.length - 1) < t.fBr.length:=by omega
 have ec:zkn t=(nth t.fBr (zlp t.fBr (t.fBr.length - 1))).fEv:=by unfold zkn;rw [if_neg h0];rfl
 rw [if_neg h0,if_neg (by simp),zjL (by omega),qb,← ec,ze5 _ (ztY ht)]
 simp only [qa]
 have hcs:(zkq (zkn t)).1.fSi=znO t:=by rw [ec,zrZ (zoQ hg hlt).1,← ec];rfl
 have hol:(znO t).length≤60:=Nat.le_trans (znN _) (zm0 hg)
 have key:=zkS (step:=zcp t.fBr ((zkq (zkn t)).1,(((zkq (zkn t)).2:Nat):Int))) (λ i c=>(⟨i,c⟩:ze2)) t.fBr.length (λ i=>(znv (t.fBr.take i)).foldl (stp (znO t)) []) (λ c=>(⟨c⟩:zgD)) (λ i hi=>?_) ?_
 ·simp only [qg,qe] at key
  have e0:(znv []).foldl (stp (znO t)) []=[]:=rfl
  rw [e0] at key
  rw [key];rfl
 ·obtain ⟨g1,g2⟩:=zoQ hg hi
  have hs:=znN (nth t.fBr i).fEv
  have hal:=zpM (l:=t.fBr.take i) λ b hb=>zoR hg b (qq hb)
  have ht':(t.fBr.take i).length=i:=by rw [qf];omega
  have hfl:=zpL (znO t) (znv (t.fBr.take i)) []
  have e1:wI ((i:Int)+1)=((i+1:Nat):Int):=by rw [zj0 (by omega)];omega
  simp only [qQ,qx] at hfl
  unfold zcp
  simp only [qb,e1,← zld hi,zs7,qz]
  rw [if_pos (by rw [decide_eq_true_eq];omega),zjL (by omega),ze5 _ (ht.2 _ (zks hi))]
  simp only [qa]
  rw [zAA (znO t) _ _ _ hcs hol (by rw [zrZ g1];omega) (by omega)]
  simp only [qa]
  rw [zrZ g1]
 ·unfold zcp
  dsimp only
  rw [if_neg (by simp)]
theorem zxL (own l:List ByteArray) (n:ByteArray):(l++[n]).filter (λ n=>!zkt own n)=if zkt own n=true then l.filter (λ n=>!zkt own n) else l.filter (λ n=>!zkt own n)++[n]:=by
 rw [qk]
 cases h:zkt own n<;>simp [h]
theorem ztZ (own out l:List ByteArray) (h1:own.length≤60) (h2:l.length≤60) (h3:out.length≤1000) :
  zjZ (z7 l own) ⟨0,out⟩=some ⟨out++l.filter λ n=>!zkt own n⟩:=by
 have key:=zkS (step:=z7 l own) (λ i c=>(⟨i,c⟩:zdh)) l.length (λ i=>out++(l.take i).filter λ n=>!zkt own n) (λ c=>(⟨c⟩:zfY)) (λ i hi=>?_) ?_
 ·simpa only [qg,qe,List.filter_nil,qbd] using key
 ·have hl:=qd (λ n=>!zkt own n) (l.take i)
  have ht:(l.take i).length=i:=by rw [qf];omega
  have e1:wI ((i:Int)+1)=((i+1:Nat):Int):=by rw [zj0 (by omega)];omega
  unfold z7
  simp only [qb,e1,← zld hi,zxL]
  rw [if_pos (by rw [decide_eq_true_eq];omega),zjL (by omega),zme _ _ (by omega)]
  simp only [qa]
  cases zkt own (nth l i)
  ·rw [if_pos (by rfl),zjL (by rw [qM];omega),if_neg (by simp),ql]
  ·rw [if_neg (by simp),if_pos rfl]
 ·unfold z7
  dsimp only
  rw [if_neg (by simp)]
theorem zhQ (t:TellingsT) (hg:zkA t=true):zc2 t=some (zzd t):=by
 have h12:=zkH hg
 have hol:(znO t).length≤60:=Nat.le_trans (znN _) (zm0 hg)
 unfold zc2
 rw [ze6 t hg]
 simp only [qa]
 rw [zhb _ (zm0 hg)]
 simp only [qa]
 have key:=zkS (step:=zaP t (znu (zkn t))) (λ i c=>(⟨i,c⟩:zdg)) t.fBr.length (λ i=>(znv (t.fBr.take i)).filter λ n=>!zkt (znO t) n) (λ c=>(⟨c⟩:zfX)) (λ i hi=>?_) ?_
 ·simp only [qg,qe] at key
  have e0:((znv []).filter λ n=>!zkt (znO t) n)=[]:=rfl
  rw [e0] at key
  rw [key]
  have hal:=zpM (l:=t.fBr) (zoR hg)
  have hl:=qd (λ n=>!zkt (znO t) n) (znv t.fBr)
  simp only [qa]
  unfold zcH
  rw [zjL (by omega)]
  simp only [qa]
  rw [zjL (zqa _)]
  unfold zbE
  rw [zjL (by rw [zqa];omega)]
  rfl
 ·obtain ⟨g1,g2⟩:=zoQ hg hi
  have hs:=znN (nth t.fBr i).fEv
  have hal:=zpM (l:=t.fBr.take i) λ b hb=>zoR hg b (qq hb)
  have ht':(t.fBr.take i).length=i:=by rw [qf];omega
  have hl:=qd (λ n=>!zkt (znO t) n) (znv (t.fBr.take i))
  have e1:wI ((i:Int)+1)=((i+1:Nat):Int):=by rw [zj0 (by omega)];omega
  unfold zaP
  simp only [qb,e1,← zld hi,zs7,qk]
  rw [if_pos (by rw [decide_eq_true_eq];omega),zjL (by omega),zhb _ g2]
  simp only [qa]
  have:=ztZ (znO t) ((znv (t.fBr.take i)).filter λ n=>!zkt (znO t) n) (znu (nth t.fBr i).fEv) hol (by omega) (by omega)
  unfold znO at this ⊢
  rw [this]
  rfl
 ·unfold zaP
  dsimp only
  rw [if_neg (by simp)]
theorem zt0 {α:Type} {lt:α→α→Bool} (hi:∀ x,lt x x=false) (ht:∀ x y z,lt x y=true→lt y z=true→lt x z=true):∀ {a b:List α},(a.Pairwise λ x y=>lt x y=true)→(b.Pairwise λ x y=>lt x y=true)→(∀ x,x∈a↔x∈b)→a=b
 | [],b,_,_,h=>by
  cases b with
  | nil=>rfl
  | cons y q=>have:=(h y).2 (by simp);simp at this
 | x :: r,[],_,_,h=>by have:=(h x).1 (by simp);simp at this
 | x :: r,y :: q,ha,hb,h=>by
  rw [qc] at ha hb
  have e:x=y:=by
   rcases List.mem_cons.1 ((h x).1 (by simp)) with h1 | h1
   ·exact h1
   ·rcases List.mem_cons.1 ((h y).2 (by simp)) with h2 | h2
    ·exact h2.symm
    ·have:=ht x y x (ha.1 y h2) (hb.1 x h1)
     rw [hi] at this;cases this
  subst e
  have hx:∀ z,lt x z=true→z≠x:=λ z hz e=>by rw [e,hi] at hz;cases hz
  rw [zt0 hi ht ha.2 hb.2 λ z=>?_]
  constructor
  ·intro hz
   rcases List.mem_cons.1 ((h z).1 (qj _ hz)) with h1 | h1
   ·exact absurd h1 (hx z (ha.1 z hz))
   ·exact h1
  ·intro hz
   rcases List.mem_cons.1 ((h z).2 (qj _ hz)) with h1 | h1
   ·exact absurd h1 (hx z (hb.1 z hz))
   ·exact h1
abbrev zqk (l:List ByteArray):Prop:=l.Pairwise λ x y=>sLt x y=true
theorem zze {l:List ByteArray} {x:ByteArray} (h:zqk l) (hx:x∉l):zqk (l.takeWhile (λ y=>sLt y x)++x :: l.dropWhile (λ y=>sLt y x)):=by
 induction l with
 | nil=>simp [zqk]
 | cons y r ih =>
  rw [zqk,qc] at h
  have hne:y≠x:=λ e=>hx (by simp [e])
  have hr:x∉r:=λ e=>hx (by simp [e])
  cases hlt:sLt y x
  ·have hxy:sLt x y=true:=by
    rcases zn2 x y with h1 | h1 | h1
    ·exact h1
    ·exact absurd h1.symm hne
    ·rw [hlt] at h1;cases h1
   simp only [qt,qu,hlt,qv,if_false,qbc]
   rw [zqk,qc,qc]
   exact ⟨λ z hz=>by
    rcases List.mem_cons.1 hz with e | e
    ·rw [e];exact hxy
    ·exact zml hxy (h.1 z e),h⟩
  ·simp only [qt,qu,hlt,if_true,List.cons_append]
   rw [zqk,qc]
   refine ⟨λ z hz=>?_,ih h.2 hr⟩
   rcases List.mem_append.1 hz with e | e
   ·exact h.1 z (qo _ e)
   ·rcases List.mem_cons.1 e with e | e
    ·rw [e];exact hlt
    ·exact h.1 z (qp _ e)
theorem zzf {l:List ByteArray} {x z:ByteArray}:z∈l.takeWhile (λ y=>sLt y x)++x :: l.dropWhile (λ y=>sLt y x)↔z=x∨z∈l:=by
 have:=qi (p:=λ y=>sLt y x) (l:=l)
 constructor
 ·intro h
  rcases List.mem_append.1 h with e | e
  ·exact .inr (qo _ e)
  ·rcases List.mem_cons.1 e with e | e
   ·exact .inl e
   ·exact .inr (qp _ e)
 ·intro h
  rcases h with e | e
  ·simp [e]
  ·rw [← this] at e
   rcases List.mem_append.1 e with e | e
   ·exact List.mem_append.2 (.inl e)
   ·exact List.mem_append.2 (.inr (qj _ e))
theorem zBN (own out:List ByteArray) (n:ByteArray) (h:zqk out):zqk (stp own out n)∧∀ z,z∈stp own out n↔z∈out∨(z=n∧zkt own n=false):=by
 unfold stp
 cases ho:zkt own n
 ·cases hn:zkt out n
  ·have hx:n∉out:=λ e=>by rw [znJ.2 e] at hn;cases hn
   rw [if_neg (by simp),zu7 hn]
   refine ⟨zze h hx,λ z=>?_⟩
   rw [zzf]
   simp [or_comm]
  ·have hx:n∈out:=znJ.1 hn
   rw [if_pos (by simp)]
   refine ⟨h,λ z=>⟨.inl,λ e=>?_⟩⟩
   rcases e with e | e
   ·exact e
   ·rw [e.1];exact hx
 ·rw [if_pos (by simp)]
  exact ⟨h,λ z=>by simp⟩
theorem zt1 (own:List ByteArray):∀ (r out:List ByteArray),zqk out→zqk (r.foldl (stp own) out)∧∀ z,z∈r.foldl (stp own) out↔z∈out∨(z∈r∧zkt own z=false)
 | [],out,h=>⟨h,λ z=>by simp⟩
 | n :: r,out,h=>by
  obtain ⟨h1,h2⟩:=zBN own out n h
  obtain ⟨h3,h4⟩:=zt1 own r (stp own out n) h1
  refine ⟨h3,λ z=>?_⟩
  rw [qbe,h4,h2,List.mem_cons]
  constructor
  ·rintro ((h | ⟨rfl,h⟩) | ⟨h,h'⟩)
   ·exact .inl h
   ·exact .inr ⟨.inl rfl,h⟩
   ·exact .inr ⟨.inr h,h'⟩
  ·rintro (h | ⟨rfl | h,h'⟩)
   ·exact .inl (.inl h)
   ·exact .inl (.inr ⟨rfl,h'⟩)
   ·exact .inr ⟨h,h'⟩
theorem zu8:∀ a b:List UInt8,zkx a b=true↔a < b
 | _,[]=>by simp [zkx]
 | [],_ :: _=>by simp [zkx]
 | x :: r,y :: q=>by
  rw [List.cons_lt_cons_iff,← zu8 r q]
  simp [zkx]
theorem zzg:(λ x y:List UInt8=>decide (x≤y))=λ x y=>!zkx y x:=by
 funext x y
 have:x≤y↔¬ y < x:=List.not_lt.symm
 rw [← zu8] at this
 cases h:zkx y x
 ·rw [h] at this;simpa using this
 ·rw [h] at this;simpa using this
theorem zqG {zs:List (List UInt8)} {x:List UInt8}:x∈Go.Lib.compact zs↔x∈zs:=by
 unfold Go.Lib.compact Go.Lib.compactUpTo
 rw [qy]
 constructor
 ·rintro ⟨j,hj,rfl⟩
  have:=(List.mem_filter.1 hj).1
  rw [List.mem_range] at this
  simp [this]
 ·intro hx
  obtain ⟨j,hj,rfl⟩:=qr hx
  have key:∀ j (hj:j < zs.length),∃ a,a∈(List.range zs.length).filter (Go.Lib.keeps zs.toArray)∧zs.toArray[a]! = zs[j]:=by
   intro j
   induction j with
   | zero =>
    intro hj
    exact ⟨0,List.mem_filter.2 ⟨List.mem_range.2 hj,Go.Lib.keeps_lt_one _ 0 (by omega)⟩,by simp [hj]⟩
   | succ j ih =>
    intro hj
    cases hk:Go.Lib.keeps zs.toArray (j+1)
    ·obtain ⟨a,h1,h2⟩:=ih (by omega)
     refine ⟨a,h1,?_⟩
     rw [h2]
     unfold Go.Lib.keeps at hk
     simp at hk
     have hj':j < zs.length:=by omega
     simp [hj,hj'] at hk
     exact hk.symm
    ·exact ⟨j+1,List.mem_filter.2 ⟨List.mem_range.2 hj,hk⟩,by simp [hj]⟩
  exact key j hj
theorem zu9 {zs:List (List UInt8)} (h:zs.Pairwise λ x y=>(!zkx y x)=true):(Go.Lib.compact zs).Pairwise λ x y=>zkx x y=true:=by
 have hle:∀ i j,i < j→j < zs.length→zkx zs.toArray[j]! zs.toArray[i]! = false:=by
  intro i j hij hj
  have:=List.pairwise_iff_getElem.1 h i j (by omega) hj hij
  simpa [hj,show i < zs.length by omega] using this
 unfold Go.Lib.compact Go.Lib.compactUpTo
 rw [qba,List.pairwise_filter]
 rw [List.pairwise_iff_getElem]
 intro i j hi hj hij h1 h2
 simp only [List.getElem_range,List.length_range] at hi hj h1 h2 ⊢
 have hne:zs.toArray[j]!≠zs.toArray[j - 1]!:=by
  unfold Go.Lib.keeps at h2
  rw [decide_eq_true_eq] at h2
  exact h2.resolve_left (by omega)
 have h3:=hle (j - 1) j (by omega) hj
 have h4:zkx zs.toArray[j - 1]! zs.toArray[j]! = true:=by
  rcases zrG zs.toArray[j - 1]! zs.toArray[j]! with h | h | h
  ·exact h
  ·exact absurd h.symm hne
  ·rw [h3] at h;cases h
 by_cases e:i=j - 1
 ·rw [e];exact h4
 ·have h5:=hle i (j - 1) (by omega) (by omega)
  rcases zrG zs.toArray[i]! zs.toArray[j - 1]! with h | h | h
  ·exact zov _ _ _ h h4
  ·rw [h];exact h4
  ·rw [h5] at h;cases h
theorem zzh (a b:List UInt8):sLt (znh a) (znh b)=zkx a b:=by
 unfold sLt
 rw [zmP,zmP]
 unfold znh
 rfl
theorem zzi (l:List ByteArray):zqk (zmb (znG l))∧∀ z,z∈zmb (znG l)↔z∈l:=by
 have e:(znG l).map zlr=(l.map zlr).mergeSort λ x y=>decide (x≤y):=by
  unfold znG
  rw [List.map_map]
  have:zlr ∘ znh=id:=by funext x;exact zph x
  rw [this,List.map_id]
 constructor
 ·unfold zmb zqk
  rw [qba,e]
  simp only [zzh]
  refine zu9 ?_
  rw [zzg]
  exact List.pairwise_mergeSort (λ a b c h1 h2=>by
   have h1':zkx b a=false:=by simpa using h1
   have h2':zkx c b=false:=by simpa using h2
   simpa using zxA c b a h2' h1') (λ a b=>by
   rcases zrG a b with h | h | h
   ·have:zkx b a=false:=by cases h':zkx b a with
     | false=>rfl
     | true=>have:=zov a b a h h';rw [ztS] at this;cases this
    simp [this]
   ·rw [h,ztS];rfl
   ·have:zkx a b=false:=by cases h':zkx a b with
     | false=>rfl
     | true=>have:=zov b a b h h';rw [ztS] at this;cases this
    simp [this]) _
 ·intro z
  unfold zmb
  rw [qy]
  constructor
  ·rintro ⟨x,hx,rfl⟩
   rw [zqG,e,qw,qy] at hx
   obtain ⟨y,hy,rfl⟩:=hx
   rw [zpg];exact hy
  ·intro hz
   refine ⟨zlr z,?_,zpg z⟩
   rw [zqG,e,qw]
   exact List.mem_map.2 ⟨z,hz,rfl⟩
theorem zxM (t:TellingsT):zzd t=zkb t:=by
 obtain ⟨h1,h2⟩:=zzi ((znv t.fBr).filter λ n=>!zkt (znO t) n)
 obtain ⟨h3,h4⟩:=zt1 (znO t) (znv t.fBr) [] .nil
 refine zt0 (lt:=sLt) zkQ (λ x y z=>zml) h1 h3 λ x=>?_
 unfold zzd zkb
 rw [h2,h4,List.mem_filter]
 simp
def zwY (t:TellingsT):List ByteArray×Bool:=if zkA t=true then (zkb t,true) else ([],false)
theorem zs8 (t:TellingsT):(zwY t).1.length≤720:=by
 unfold zwY
 cases hg:zkA t
 ·simp
 rw [if_pos rfl]
 have h1:=zpL (znO t) (znv t.fBr) []
 have h2:=zpM (l:=t.fBr) (zoR hg)
 have h3:=zkH hg
 unfold zkb
 simp only [qQ,qx] at h1
 simp only;omega
end Go.TL
set_option maxRecDepth 4000
namespace Go.TL
theorem zt2 (l:List Int) (k:Int) (hk:0≤k) (hl:l.length≤1099511627776) (hb:k+((1 * l.length:Nat):Int)≤1152921504606846976) :
  zdE l k=some (k+((1 * l.length:Nat):Int),zmc id 1 k l.length):=by
 unfold zdE
 have key:=zqc (step:=za7) (λ i k l=>(⟨k,i,l⟩:zdD)) 1 id l.length 1152921504606846976 (λ k l=>(⟨k,l⟩:zf7)) (λ i k l' hi hl' h0 h1=>?_) (λ k l' hl'=>?_) k l rfl hk hb
 ·rw [key];rfl
 ·unfold za7
  rw [if_pos (by simp;omega)]
  simp (disch:=omega) only [qa,zjL,qb,zj0]
  rfl
 ·unfold za7
  rw [if_neg (by simp;omega)]
theorem zt3 (n:Nat) (k:Int) (hk:0≤k) (hl:n≤1099511627776) (hb:k+((1 * n:Nat):Int)≤1152921504606846976) :
  zds (zmc id 1 k n) k=some (k+((1 * n:Nat):Int)):=by
 unfold zds
 have key:=zsY (step:=zbR (zmc id 1 k n)) (λ i k=>(⟨k,i⟩:zeH)) 1 id n 1152921504606846976 (λ k=>(⟨k⟩:zgr)) k (λ i k' hi hn h0 h1=>?_) (λ k'=>?_) hk hb
 ·rw [key];rfl
 ·unfold zbR
  rw [if_pos (by simp [zkG];omega)]
  simp (disch:=simp only [zkG];omega) only [qa,zjL,qb]
  rw [hn,if_neg (by simp),zj0 (by omega),zj0 (by omega)]
  rfl
 ·unfold zbR
  rw [if_neg (by simp [zkG])]
def zmQ (k:Int) (r:RegionT):RegionT:=⟨k,k+1,⟨zv7 r.fTe.fBr (k+2)⟩⟩
def zkN (r:RegionT):Nat:=2+zoC r.fTe.fBr
def zpN (k:Int) (r:SaidT):SaidT:=⟨k,⟨k+1,⟨zv7 r.Word.fTe.fBr (k+2)⟩⟩⟩
def zl4 (r:SaidT):Nat:=2+zoC r.Word.fTe.fBr
theorem zqR (l:List RegionT) (k:Int) (hk:0≤k) (hl:l.length≤1099511627776) (hi:∀ i,i < l.length→(nth l i).fTe.fBr.length≤1099511627776) (hb:k+zlP zkN l≤1099511627776) :
  zbG l k=some (k+zlP zkN l,zmF zmQ zkN l k):=by
 unfold zbG
 have key:=zn4 (step:=zW) (λ i k l=>(⟨k,i,l⟩:zb5)) zkN zmQ l 1099511627776 (λ k l=>(⟨k,l⟩:zfi)) (λ i k l' h hl' hn h0 h1=>?_) (λ k l' hl'=>?_) k hk hb
 ·rw [key];rfl
 ·have hw:zkN (nth l i)=2+zoC (nth l i).fTe.fBr:=rfl
  rw [hw] at h1
  have e1:wI (k+1)=k+1:=zj0 (by omega)
  have e2:wI (k+1+1)=k+2:=by rw [zj0 (by omega)];omega
  have e3:wI ((i:Int)+1)=((i+1:Nat):Int):=by rw [zj0 (by omega)];omega
  have e4:k+2+(zoC (nth l i).fTe.fBr:Int)=k+(zkN (nth l i):Int):=by rw [hw];omega
  unfold zW
  dsimp only
  rw [if_pos (by simp;omega),zjL (by omega),zjL (by omega),zjL (by omega),zjL (by omega),qb,hn,e1,e2,e3,zn9 _ _ (by omega) (hi i h) (by omega)]
  simp only [qa]
  rw [zjL (zlk ..),e4]
  rfl
 ·unfold zW
  rw [if_neg (by simp;omega)]
theorem zsx (l:List SaidT) (k:Int) (hk:0≤k) (hl:l.length≤1099511627776) (hi:∀ i,i < l.length→(nth l i).Word.fTe.fBr.length≤1099511627776) (hb:k+zlP zl4 l≤1099511627776) :
  zcv l k=some (k+zlP zl4 l,zmF zpN zl4 l k):=by
 unfold zcv
 have key:=zn4 (step:=zav) (λ i k l=>(⟨k,i,l⟩:zcG)) zl4 zpN l 1099511627776 (λ k l=>(⟨k,l⟩:zfG)) (λ i k l' h hl' hn h0 h1=>?_) (λ k l' hl'=>?_) k hk hb
 ·rw [key];rfl
 ·have hw:zl4 (nth l i)=2+zoC (nth l i).Word.fTe.fBr:=rfl
  rw [hw] at h1
  have e1:wI (k+1)=k+1:=zj0 (by omega)
  have e2:wI (k+1+1)=k+2:=by rw [zj0 (by omega)];omega
  have e3:wI ((i:Int)+1)=((i+1:Nat):Int):=by rw [zj0 (by omega)];omega
  have e4:k+2+(zoC (nth l i).Word.fTe.fBr:Int)=k+(zl4 (nth l i):Int):=by rw [hw];omega
  unfold zav
  dsimp only
  rw [if_pos (by simp;omega),zjL (by omega),zjL (by omega),zjL (by omega),zjL (by omega),qb,hn,e1,e2,e3,zn9 _ _ (by omega) (hi i h) (by omega)]
  simp only [qa]
  rw [zjL (zlk ..),e4]
  rfl
 ·unfold zav
  rw [if_neg (by simp;omega)]
def zqS (r:RegionT):Bool:=r.fVe.tmod 10 == r.Id
end Go.TL

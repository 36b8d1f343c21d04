import Derived.Test.YteonagfnhdlfcaaGreatDoorG20PlR3M
import Derived.Test.YteonagfnhdlfcaaGreatDoorG25PpR3D
import Derived.Test.YteonagfnhdlfcaaGreatDoorG24PpR2D
import Derived.Test.YteonagfnhdlfcaaGreatDoorPpSg
open List renaming length_append → qM, length_map → qO, length_cons → qP, length_nil → qQ, pairwise_cons → qd, length_filter_le → qe, take_length → qg, length_take → qh, take_zero → qi, takeWhile_append_dropWhile → qj, mem_cons_of_mem → qk, filter_append → ql, append_assoc → qm, map_cons → qn, drop_eq_getElem_cons → qo, length_singleton → qq, takeWhile_subset → qr, dropWhile_subset → qt, mem_of_mem_take → qv, getElem_of_mem → qw, takeWhile_cons → qx, dropWhile_cons → qy, mem_mergeSort → qba, mem_map → qbc, foldl_append → qbd, pairwise_map → qbe, length_drop → qbf, nil_append → qbg, append_nil → qbh, foldl_cons → qbi
open Option renaming bind_some → qa
open Int renaming toNat_natCast → qb
open Bool renaming eq_iff_iff → qc, and_eq_true → qf, false_eq_true → qz, true_and → qbj
open Nat renaming le_trans → qp, le_refl → qu, zero_add → qbb
set_option linter.unusedSimpArgs false
set_option linter.unusedVariables false
noncomputable section
set_option maxRecDepth 4000
namespace Go.TL
section
variable {β γ τ:Type}
def zpg (f:Int→β→β) (wd:β→Nat):List β→Int→List β
 | [],_=>[]
 | b :: r,k=>f k b :: zpg f wd r (k+wd b)
def zm6 (wd:β→Nat) (l:List β):Nat:=znt (l.map wd)
theorem znR (wd:β→Nat) (b:β) (r:List β):zm6 wd (b :: r)=wd b+zm6 wd r:=rfl
theorem zmV (f:Int→β→β) (wd:β→Nat):∀ (l:List β) (k:Int),(zpg f wd l k).length=l.length
 | [],_=>rfl
 | b :: r,k=>by simp [zpg,zmV f wd r]
theorem zsG [Inhabited β] {p q:List β} {x:β} (h:p.length=q.length) (r:List β):nth (p++x :: r) q.length=x:=by
 unfold nth
 rw [List.getD_eq_getElem?_getD,← h]
 simp
theorem zpA [Inhabited β] {step:γ→Option (γ⊕τ)} (mk:Int→Int→List β→γ) (wd:β→Nat) (f:Int→β→β) (l0:List β) (B:Int) (ex:Int→List β→τ)
  (hs:∀ (i:Nat) (k:Int) (l:List β),i < l0.length→l.length=l0.length→nth l i=nth l0 i→0≤k→k+wd (nth l0 i)≤B→step (mk i k l)=some (.inl (mk (i+1:Nat) (k+wd (nth l0 i)) (l.set i (f k (nth l0 i))))))
  (he:∀ k l,l.length=l0.length→step (mk l0.length k l)=some (.inr (ex k l))) (k0:Int) (hk:0≤k0) (hb:k0+zm6 wd l0≤B) :
  zln step (mk 0 k0 l0)=some (ex (k0+zm6 wd l0) (zpg f wd l0 k0)):=by
 have key:∀ (r p q:List β) (k:Int),l0=p++r→q.length=p.length→0≤k→k+zm6 wd r≤B→zln step (mk p.length k (q++r))=some (ex (k+zm6 wd r) (q++zpg f wd r k)):=by
  intro r
  induction r with
  | nil =>
   intro p q k h hq hk hb
   have e:p.length=l0.length:=by rw [h];simp
   rw [e,zly (he _ _ (by simp [hq,e]))]
   simp [zm6,znt,zpg]
  | cons b r ih =>
   intro p q k h hq hk hb
   rw [znR] at hb ⊢
   have hi:p.length < l0.length:=by rw [h];simp
   have hn:nth l0 p.length=b:=by rw [h];exact zsG rfl r
   have hn2:nth (q++b :: r) p.length=b:=by rw [← hq];exact zsG rfl r
   have:=hs p.length k (q++b :: r) hi (by rw [h];simp [hq]) (by rw [hn,hn2]) hk (by rw [hn];omega)
   rw [zl4 this,hn]
   have e1:(q++b :: r).set p.length (f k b)=(q++[f k b])++r:=by
    rw [← hq,List.set_append_right _ _ (by omega)];simp
   have e2:((p.length+1:Nat):Int)=((p++[b]).length:Int):=by simp
   rw [e1,e2,ih (p++[b]) (q++[f k b]) (k+wd b) (by rw [h];simp) (by simp [hq]) (by omega) (by omega)]
   simp only [zpg,qm,List.singleton_append]
   congr 2
   omega
 have:=key l0 [] [] k0 rfl rfl hk hb
 simpa using this
theorem zrn [Inhabited β] {step:γ→Option (γ⊕(Unit⊕τ))} (mk:Int→Int→γ) (wd:β→Nat) (f:Int→β→β) (l0:List β) (B:Int) (late:Int→τ) (k0:Int)
  (hs:∀ (i:Nat) (k:Int),i < l0.length→nth (zpg f wd l0 k0) i=f k (nth l0 i)→0≤k→k+wd (nth l0 i)≤B→step (mk i k)=some (.inl (mk (i+1:Nat) (k+wd (nth l0 i)))))
  (he:∀ k,step (mk l0.length k)=some (.inr (.inr (late k)))) (hk:0≤k0) (hb:k0+zm6 wd l0≤B) :
  zln step (mk 0 k0)=some (.inr (late (k0+zm6 wd l0))):=by
 have key:∀ (r p q:List β) (k:Int),l0=p++r→zpg f wd l0 k0=q++zpg f wd r k→q.length=p.length→0≤k→k+zm6 wd r≤B→zln step (mk p.length k)=some (.inr (late (k+zm6 wd r))):=by
  intro r
  induction r with
  | nil =>
   intro p q k h hm hq hk hb
   have e:p.length=l0.length:=by rw [h];simp
   rw [e,zly (he _)]
   simp [zm6,znt]
  | cons b r ih =>
   intro p q k h hm hq hk hb
   rw [znR] at hb ⊢
   have hi:p.length < l0.length:=by rw [h];simp
   have hn:nth l0 p.length=b:=by rw [h];exact zsG rfl r
   have hn2:nth (zpg f wd l0 k0) p.length=f k b:=by rw [hm,← hq];exact zsG rfl _
   have:=hs p.length k hi (by rw [hn,hn2]) hk (by rw [hn];omega)
   rw [zl4 this,hn]
   have e2:((p.length+1:Nat):Int)=((p++[b]).length:Int):=by simp
   rw [e2,ih (p++[b]) (q++[f k b]) (k+wd b) (by rw [h];simp) (by rw [hm];simp [zpg]) (by simp [hq]) (by omega) (by omega)]
   congr 3
   omega
 have:=key l0 [] [] k0 rfl rfl rfl hk hb
 simpa using this
theorem zxk {wd:β→Nat} {l:List β} {M:Nat} (h:∀ x∈l,wd x≤M):zm6 wd l≤M * l.length:=by
 unfold zm6
 induction l with
 | nil=>simp [znt]
 | cons b r ih =>
  simp only [qn,znt,qP,Nat.mul_succ]
  have:=h b (by simp)
  have:=ih λ x hx=>h x (by simp [hx])
  omega
end
theorem ztt (n:Nat) (k:Int) (hk:0≤k) (hl:n≤1099511627776) (hb:k+((4 * n:Nat):Int)≤1152921504606846976) :
  zdZ (zor zoX 4 k n) k=some (k+((4 * n:Nat):Int)):=by
 unfold zdZ
 have key:=zyU (step:=zbn (zor zoX 4 k n)) (λ i k=>(⟨k,i⟩:zdY)) 4 zoX n 1152921504606846976 (λ k=>(⟨k⟩:zgZ)) k (λ i k' hi hn h0 h1=>?_) (λ k'=>?_) hk hb
 ·rw [key];rfl
 ·unfold zbn
  have e1:wI (k'+1)=k'+1:=zls (by omega)
  have e2:wI (k'+1+1)=k'+2:=by rw [zls (by omega)];omega
  have e3:wI (k'+2+1)=k'+3:=by rw [zls (by omega)];omega
  have e4:wI (k'+3+1)=k'+4:=by rw [zls (by omega)];omega
  have e5:wI ((i:Int)+1)=((i+1:Nat):Int):=by rw [zls (by omega)];omega
  simp only [e1,e2,e3,e4,e5]
  rw [if_pos (by simp [zna];omega),zse (k'+3) (by omega) (by omega)]
  simp (disch:=simp only [zna];omega) only [qa,zlb,qb]
  rw [if_neg (by simp [hn,zoX]),if_neg (by simp [hn,zoX]),if_neg (by simp [hn,zoX]),if_neg (by simp [hn,zoX])]
  rfl
 ·unfold zbn
  rw [if_neg (by simp [zna])]
def zsH (k:Int) (b:BranchT):BranchT:=⟨zor zoX 4 k b.fEv.length⟩
def znX (b:BranchT):Nat:=4 * b.fEv.length
noncomputable abbrev zyY (l:List BranchT) (k:Int):List BranchT:=zpg zsH znX l k
abbrev zpH (l:List BranchT):Nat:=zm6 znX l
theorem zpD (l:List BranchT) (k:Int) (hk:0≤k) (hl:l.length≤1099511627776) (hb:k+zpH l≤1099511627776) :
  za0 l k=some (k+zpH l,zyY l k):=by
 unfold za0
 have key:=zpA (step:=zam) (λ i k l=>(⟨k,i,l⟩:zce)) znX zsH l 1099511627776 (λ k l=>(⟨k,l⟩:zf2)) (λ i k l' hi hl' hn h0 h1=>?_) (λ k l' hl'=>?_) k hk hb
 ·rw [key];rfl
 ·unfold zam
  unfold znX at h1 ⊢
  dsimp only
  rw [if_pos (by simp;omega),zlb (by omega),zlb (by omega),qb,hn,ztr _ _ h0 (by omega) (by omega)]
  simp only [qa]
  rw [zlb (zna ..),zls (by omega)]
  rfl
 ·unfold zam
  rw [if_neg (by simp;omega)]
theorem zss (l:List BranchT) (k:Int) (hk:0≤k) (hl:l.length≤1099511627776) (hb:k+zpH l≤1099511627776) :
  zb4 (zyY l k) k=some (k+zpH l):=by
 unfold zb4
 have key:=zrn (step:=za1 (zyY l k)) (λ i k=>(⟨k,i⟩:zdw)) znX zsH l 1099511627776 (λ k=>(⟨k⟩:zgJ)) k (λ i k' hi hn h0 h1=>?_) (λ k'=>?_) hk hb
 ·rw [key];rfl
 ·unfold za1
  unfold znX at h1 ⊢
  dsimp only
  rw [if_pos (by simp [zmV];omega),zlb (by simp [zmV];omega),qb,hn]
  unfold zsH
  dsimp only
  rw [ztt _ _ h0 (by omega) (by omega)]
  simp only [qa]
  rw [if_neg (by simp;omega),zls (by omega)]
  rfl
 ·unfold za1
  rw [if_neg (by simp [zmV])]
end Go.TL
set_option maxRecDepth 4000
namespace Go.TL
def zlP (x:RegionT):Prop:=zoV x.Id∧zoV x.fVe∧zlF x.fTe
def zl9 (x:RegionT):Nat:=zos x.Id+zos x.fVe+zlO x.fTe
def zqk (x:RegionT):Prop:=zwb x.Id∧zwb x.fVe∧zn4 x.fTe
theorem zvf {x:RegionT} (h:zlP x):zqk x:=⟨zpx h.1,zpx h.2.1,zp3 h.2.2⟩
theorem zjK (a:RegionT) (n:Int) (ha:zlP a) (h0:0≤n) (h1:n≤4611686018427387904):zfp a n=some (szr (zl9 a) n):=by
 unfold zfp
 unfold zlP at ha
 unfold zl9
 have z_Id:zos a.Id=0:=zqX _
 rw [z_Id]
 have z_Version:zos a.fVe=0:=zqX _
 rw [z_Version]
 rw [zhf _ _ (ha.2.2) (by omega) (by omega)]
 simp only [qa]
 by_cases c0:(zlO a.fTe:Int)≤n
 rotate_left
 ·have e:szr (zlO a.fTe) n=-1:=by unfold szr;rw [if_neg c0]
  rw [e,if_pos (by decide)];unfold szr;rw [if_neg (by omega)]
 have e0:szr (zlO a.fTe) n=n - (zlO a.fTe:Int):=by unfold szr;rw [if_pos c0]
 rw [e0,if_neg (by simp;omega)]
 unfold szr;rw [if_pos (by omega)]
 congr 1;omega
theorem zjL (a:RegionT) (ha:zl9 a≤4194304):zfq a=some a:=by
 unfold zl9 at ha
 unfold zfq
 rw [zhg _ (by omega)]
 simp only [qa]
 all_goals rfl
theorem zjM (a b:RegionT) (ha:zqk a):zfr a b=some (decide (a=b)):=by
 unfold zqk at ha
 unfold zfr
 rw [zhh _ _ (ha.2.2)]
 obtain ⟨x0,x1,x2⟩:=a
 obtain ⟨y0,y1,y2⟩:=b
 simp only [sEq,qa,RegionT.mk.injEq]
 by_cases h0:x0=y0
 rotate_left
 ·simp [h0]
 by_cases h1:x1=y1
 rotate_left
 ·simp [h1]
 by_cases h2:x2=y2
 rotate_left
 ·simp [h2]
 simp [h0,h1,h2]
def znS (x:(List RegionT)):Prop:=x.length≤9223372036854775807∧∀ y∈x,zlP y
def zlY (x:(List RegionT)):Nat:=x.length+znt (x.map zl9)
def zqZ (x:(List RegionT)):Prop:=x.length≤9223372036854775807∧∀ y∈x,zqk y
theorem zt0 {x:(List RegionT)} (h:znS x):zqZ x:=⟨h.1,λ y hy=>zvf (h.2 y hy)⟩
theorem zjh (a:(List RegionT)) (n:Int) (ha:znS a) (h0:0≤n) (h1:n≤4611686018427387904):zeJ a n=some (szr (zlY a) n):=by
 obtain ⟨ha1,ha2⟩:=ha
 unfold zeJ
 rw [zls (by omega)]
 by_cases hc:n - ((a.length:Nat):Int) < 0
 ·rw [if_pos (decide_eq_true hc)]
  unfold szr zlY
  rw [if_neg (by omega)]
 ·rw [if_neg (by simpa using hc)]
  have key:=zsE (step:=zbL a) (λ i s=>(⟨s,i⟩:zel)) a zl9 n (λ s=>(.inr ⟨s⟩:Unit⊕zg8)) (.inl ()) (λ i s hi hs=>?_) (λ s hs=>?_) (n - ((a.length:Nat):Int)) ⟨by omega,by omega⟩
  ·rw [key]
   unfold szr zlY
   by_cases h:(znt (a.map zl9):Int)≤n - ((a.length:Nat):Int)
   ·rw [if_pos h,if_pos (by omega)];simp only [qa];congr 1;omega
   ·rw [if_neg h,if_neg (by omega)];rfl
  ·have hm:=ha2 _ (zlJ hi)
   unfold zbL
   simp (disch:=omega) only [decide_eq_true_eq,if_pos,zlb,qb,zls]
   rw [zjK _ _ hm (by omega) (by omega)]
   simp only [qa]
   unfold szr
   by_cases h:(zl9 (nth a i):Int)≤s
   ·rw [if_pos h,if_pos h,if_neg (by omega)];rfl
   ·rw [if_neg h,if_neg h,if_pos (by omega)]
  ·unfold zbL
   rw [if_neg (by simp)]
def zql (x:WordT):Prop:=zoV x.fVe∧zlF x.fTe
def znp (x:WordT):Nat:=zos x.fVe+zlO x.fTe
def zsJ (x:WordT):Prop:=zwb x.fVe∧zn4 x.fTe
theorem zxl {x:WordT} (h:zql x):zsJ x:=⟨zpx h.1,zp3 h.2⟩
theorem zkA (a:WordT) (n:Int) (ha:zql a) (h0:0≤n) (h1:n≤4611686018427387904):zgr a n=some (szr (znp a) n):=by
 unfold zgr
 unfold zql at ha
 unfold znp
 have z_Version:zos a.fVe=0:=zqX _
 rw [z_Version]
 rw [zhf _ _ (ha.2) (by omega) (by omega)]
 simp only [qa]
 by_cases c0:(zlO a.fTe:Int)≤n
 rotate_left
 ·have e:szr (zlO a.fTe) n=-1:=by unfold szr;rw [if_neg c0]
  rw [e,if_pos (by decide)];unfold szr;rw [if_neg (by omega)]
 have e0:szr (zlO a.fTe) n=n - (zlO a.fTe:Int):=by unfold szr;rw [if_pos c0]
 rw [e0,if_neg (by simp;omega)]
 unfold szr;rw [if_pos (by omega)]
 congr 1;omega
def zoO (x:SaidT):Prop:=zoV x.To∧zql x.Word
def zmw (x:SaidT):Nat:=zos x.To+znp x.Word
def zsK (x:SaidT):Prop:=zwb x.To∧zsJ x.Word
theorem zxm {x:SaidT} (h:zoO x):zsK x:=⟨zpx h.1,zxl h.2⟩
theorem zkB (a:SaidT) (n:Int) (ha:zoO a) (h0:0≤n) (h1:n≤4611686018427387904):zgs a n=some (szr (zmw a) n):=by
 unfold zgs
 unfold zoO at ha
 unfold zmw
 have z_To:zos a.To=0:=zqX _
 rw [z_To]
 rw [zkA _ _ (ha.2) (by omega) (by omega)]
 simp only [qa]
 by_cases c0:(znp a.Word:Int)≤n
 rotate_left
 ·have e:szr (znp a.Word) n=-1:=by unfold szr;rw [if_neg c0]
  rw [e,if_pos (by decide)];unfold szr;rw [if_neg (by omega)]
 have e0:szr (znp a.Word) n=n - (znp a.Word:Int):=by unfold szr;rw [if_pos c0]
 rw [e0,if_neg (by simp;omega)]
 unfold szr;rw [if_pos (by omega)]
 congr 1;omega
def zp7 (x:(List SaidT)):Prop:=x.length≤9223372036854775807∧∀ y∈x,zoO y
def zmC (x:(List SaidT)):Nat:=x.length+znt (x.map zmw)
def ztu (x:(List SaidT)):Prop:=x.length≤9223372036854775807∧∀ y∈x,zsK y
theorem zwl {x:(List SaidT)} (h:zp7 x):ztu x:=⟨h.1,λ y hy=>zxm (h.2 y hy)⟩
theorem zka (a:(List SaidT)) (n:Int) (ha:zp7 a) (h0:0≤n) (h1:n≤4611686018427387904):zfX a n=some (szr (zmC a) n):=by
 obtain ⟨ha1,ha2⟩:=ha
 unfold zfX
 rw [zls (by omega)]
 by_cases hc:n - ((a.length:Nat):Int) < 0
 ·rw [if_pos (decide_eq_true hc)]
  unfold szr zmC
  rw [if_neg (by omega)]
 ·rw [if_neg (by simpa using hc)]
  have key:=zsE (step:=zcy a) (λ i s=>(⟨s,i⟩:zfG)) a zmw n (λ s=>(.inr ⟨s⟩:Unit⊕zhu)) (.inl ()) (λ i s hi hs=>?_) (λ s hs=>?_) (n - ((a.length:Nat):Int)) ⟨by omega,by omega⟩
  ·rw [key]
   unfold szr zmC
   by_cases h:(znt (a.map zmw):Int)≤n - ((a.length:Nat):Int)
   ·rw [if_pos h,if_pos (by omega)];simp only [qa];congr 1;omega
   ·rw [if_neg h,if_neg (by omega)];rfl
  ·have hm:=ha2 _ (zlJ hi)
   unfold zcy
   simp (disch:=omega) only [decide_eq_true_eq,if_pos,zlb,qb,zls]
   rw [zkB _ _ hm (by omega) (by omega)]
   simp only [qa]
   unfold szr
   by_cases h:(zmw (nth a i):Int)≤s
   ·rw [if_pos h,if_pos h,if_neg (by omega)];rfl
   ·rw [if_neg h,if_neg h,if_pos (by omega)]
  ·unfold zcy
   rw [if_neg (by simp)]
def zm4 (x:WorldT):Prop:=znS x.fRe∧zp7 x.Line
def znT (x:WorldT):Nat:=zlY x.fRe+zmC x.Line
def zro (x:WorldT):Prop:=zqZ x.fRe∧ztu x.Line
theorem zsh {x:WorldT} (h:zm4 x):zro x:=⟨zt0 h.1,zwl h.2⟩
theorem zkb (a:WorldT) (n:Int) (ha:zm4 a) (h0:0≤n) (h1:n≤4611686018427387904):zfY a n=some (szr (znT a) n):=by
 unfold zfY
 unfold zm4 at ha
 unfold znT
 rw [zjh _ _ (ha.1) (by omega) (by omega)]
 simp only [qa]
 by_cases c0:(zlY a.fRe:Int)≤n
 rotate_left
 ·have e:szr (zlY a.fRe) n=-1:=by unfold szr;rw [if_neg c0]
  rw [e,if_pos (by decide)];unfold szr;rw [if_neg (by omega)]
 have e0:szr (zlY a.fRe) n=n - (zlY a.fRe:Int):=by unfold szr;rw [if_pos c0]
 rw [e0,if_neg (by simp;omega)]
 rw [zka _ _ (ha.2) (by omega) (by omega)]
 simp only [qa]
 by_cases c1:(zmC a.Line:Int)≤(n - (zlY a.fRe:Int))
 rotate_left
 ·have e:szr (zmC a.Line) (n - (zlY a.fRe:Int))=-1:=by unfold szr;rw [if_neg c1]
  rw [e,if_pos (by decide)];unfold szr;rw [if_neg (by omega)]
 have e1:szr (zmC a.Line) (n - (zlY a.fRe:Int))=(n - (zlY a.fRe:Int)) - (zmC a.Line:Int):=by unfold szr;rw [if_pos c1]
 rw [e1,if_neg (by simp;omega)]
 unfold szr;rw [if_pos (by omega)]
 congr 1;omega
theorem zkC (a:WordT) (ha:znp a≤4194304):zgt a=some a:=by
 unfold znp at ha
 unfold zgt
 rw [zhg _ (by omega)]
 simp only [qa]
 all_goals rfl
theorem zjN (a:SaidT) (ha:zmw a≤4194304):zfs a=some a:=by
 unfold zmw at ha
 unfold zfs
 rw [zkC _ (by omega)]
 simp only [qa]
 all_goals rfl
theorem zkc (a:(List SaidT)) (ha:zmC a≤4194304):zfZ a=some a:=by
 unfold zmC at ha
 unfold zfZ
 rw [zlb (by omega)]
 have key:=zqg (step:=zcz a) (λ i l=>(⟨i,l⟩:zfH)) a (λ x=>x) (λ l=>(⟨l⟩:zhv)) (λ i l hi hl=>?_) (λ l hl=>?_) (List.replicate a.length (⟨0,(⟨0,(⟨[]⟩:TellingsT)⟩:WordT)⟩:SaidT)) (by simp)
 ·rw [key];simp
 ·unfold zcz
  have hm:zmw (nth a i)≤4194304:=qp (zpc zmw (zlJ hi)) (by omega)
  simp (disch:=omega) only [decide_eq_true_eq,if_pos,zlb,qb,zls]
  rw [zjN _ hm]
  simp (disch:=omega) only [qa,zlb]
  rfl
 ·unfold zcz
  rw [if_neg (by simp)]
theorem zji (a b:(List RegionT)) (ha:zqZ a):zeP a b=some (decide (a=b)):=by
 obtain ⟨ha1,ha2⟩:=ha
 unfold zeP
 by_cases hl:a.length=b.length
 ·rw [if_neg (by simp [hl])]
  have key:=zsD (step:=zbO a b) (λ i=>(⟨i⟩:zeq)) a b hl (λ i hi=>?_) ?_
  ·rw [key];by_cases h:a=b<;>simp [h]
  ·have hm:=ha2 _ (zlJ hi)
   unfold zbO
   simp (disch:=omega) only [decide_eq_true_eq,if_pos,zlb,qb,zls]
   rw [zjM _ _ hm];simp only [qa]
   by_cases h:nth a i=nth b i<;>simp [h]
  ·unfold zbO
   rw [if_neg (by simp)]
 ·rw [if_pos (by simp;omega)]
  simp [show a≠b from λ h=>hl (by rw [h])]
theorem zkD (a b:WordT) (ha:zsJ a):zgu a b=some (decide (a=b)):=by
 unfold zsJ at ha
 unfold zgu
 rw [zhh _ _ (ha.2)]
 obtain ⟨x0,x1⟩:=a
 obtain ⟨y0,y1⟩:=b
 simp only [sEq,qa,WordT.mk.injEq]
 by_cases h0:x0=y0
 rotate_left
 ·simp [h0]
 by_cases h1:x1=y1
 rotate_left
 ·simp [h1]
 simp [h0,h1]
theorem zkE (a b:SaidT) (ha:zsK a):zgv a b=some (decide (a=b)):=by
 unfold zsK at ha
 unfold zgv
 rw [zkD _ _ (ha.2)]
 obtain ⟨x0,x1⟩:=a
 obtain ⟨y0,y1⟩:=b
 simp only [sEq,qa,SaidT.mk.injEq]
 by_cases h0:x0=y0
 rotate_left
 ·simp [h0]
 by_cases h1:x1=y1
 rotate_left
 ·simp [h1]
 simp [h0,h1]
theorem zkd (a b:(List SaidT)) (ha:ztu a):zf0 a b=some (decide (a=b)):=by
 obtain ⟨ha1,ha2⟩:=ha
 unfold zf0
 by_cases hl:a.length=b.length
 ·rw [if_neg (by simp [hl])]
  have key:=zsD (step:=zcA a b) (λ i=>(⟨i⟩:zfJ)) a b hl (λ i hi=>?_) ?_
  ·rw [key];by_cases h:a=b<;>simp [h]
  ·have hm:=ha2 _ (zlJ hi)
   unfold zcA
   simp (disch:=omega) only [decide_eq_true_eq,if_pos,zlb,qb,zls]
   rw [zkE _ _ hm];simp only [qa]
   by_cases h:nth a i=nth b i<;>simp [h]
  ·unfold zcA
   rw [if_neg (by simp)]
 ·rw [if_pos (by simp;omega)]
  simp [show a≠b from λ h=>hl (by rw [h])]
theorem zh2 (a b:WorldT) (ha:zro a):zcj a b=some (decide (a=b)):=by
 unfold zro at ha
 unfold zcj
 rw [zji _ _ (ha.1)]
 rw [zkd _ _ (ha.2)]
 obtain ⟨x0,x1⟩:=a
 obtain ⟨y0,y1⟩:=b
 simp only [sEq,qa,WorldT.mk.injEq]
 by_cases h0:x0=y0
 rotate_left
 ·simp [h0]
 by_cases h1:x1=y1
 rotate_left
 ·simp [h1]
 simp [h0,h1]
end Go.TL
namespace Go.TL
def zpJ (v:Int) (l:List EventT):Bool:=l.all λ e=>!decide (e.fVe > v)
def zq0 (v:Int) (t:TellingsT):Bool:=t.fBr.all λ b=>zpJ v b.fEv
def zpE (v:Int) (t:TellingsT):Bool:=zvc v && zl5 t && zq0 v t
def zlZ (r:RegionT):Bool:=decide (0≤r.Id∧r.Id≤9) && zpE r.fVe r.fTe
theorem zcm (r:RegionT) (hr:zlP r):zad r=some (zlZ r):=by
 have ht:zlF r.fTe:=hr.2.2
 have h1:r.fTe.fBr.length≤9223372036854775807:=ht.1
 unfold zad zfE zlZ zpE
 simp only [zeT,zc6 _ ht,qa]
 have key:=zmg (step:=zbm r) (λ i=>(⟨i⟩:zbk)) r.fTe.fBr.length (λ i=>zpJ r.fVe (nth r.fTe.fBr i).fEv) (.inr ():Unit⊕Unit) (.inl ()) (λ i hi hv=>?_) (λ _=>?_)
 ·rw [key,zri r.fTe.fBr λ b=>zpJ r.fVe b.fEv]
  unfold zq0 zvc
  cases decide (0≤r.Id∧r.Id≤9)<;>cases decide (0≤r.fVe∧r.fVe≤1000000)<;>cases zl5 r.fTe<;>cases (r.fTe.fBr.all λ b=>zpJ r.fVe b.fEv)<;>simp
 ·have h2:zmB (nth r.fTe.fBr i).fEv:=ht.2 _ (zlJ hi)
  have h3:=h2.1
  unfold zbm
  dsimp only
  rw [if_pos (by rw [decide_eq_true_eq];omega),zlb (by omega)]
  have e1:wI ((i:Int)+1)=((i+1:Nat):Int):=by rw [zls (by omega)];omega
  rw [e1]
  have key2:=zmg (step:=zbl r (⟨(i:Int)⟩:zbk)) (λ k=>(⟨k⟩:zdW)) (nth r.fTe.fBr i).fEv.length (λ k=>!decide ((nth (nth r.fTe.fBr i).fEv k).fVe > r.fVe)) (.inr ():Unit⊕Unit) (.inl ()) (λ k hk _=>?_) (λ _=>?_)
  ·rw [key2,zri (nth r.fTe.fBr i).fEv λ e=>!decide (e.fVe > r.fVe)]
   unfold zpJ
   split<;>rfl
  ·unfold zbl
   simp only [qb]
   have e2:wI ((k:Int)+1)=((k+1:Nat):Int):=by rw [zls (by omega)];omega
   rw [if_pos (by rw [decide_eq_true_eq];omega),zlb (by omega),e2]
   cases decide ((nth (nth r.fTe.fBr i).fEv k).fVe > r.fVe)<;>rfl
  ·unfold zbl
   simp only [qb]
   rw [if_neg (by rw [decide_eq_true_eq];omega)]
 ·unfold zbm
  dsimp only
  rw [if_neg (by rw [decide_eq_true_eq];omega)]
theorem zk8 (l:List EventT) (v:Int) (hl:l.length≤9223372036854775807):zj l v=some (!zpJ v l):=by
 unfold zj zA
 have key:=zmN (step:=zc l v) (λ i=>(⟨i⟩:zt)) l.length (λ i=>decide ((nth l i).fVe > v))
  (λ i=>(.inl ⟨i⟩:zap⊕Unit)) (.inr ()) (λ i hi hv=>?_) ?_
 ·rw [key]
  have e:=znC l λ e=>decide (e.fVe > v)
  have e2:(!zpJ v l)=(l.any λ e=>decide (e.fVe > v)):=by
   unfold zpJ
   rw [qc];simp
  rw [e2,← e]
  cases zm2 (λ i=>decide ((nth l i).fVe > v)) l.length with
  | none=>rfl
  | some i=>simp
 ·unfold zc zdv
  dsimp only
  have e1:wI ((i:Int)+1)=((i+1:Nat):Int):=by rw [zls (by omega)];omega
  rw [if_pos (by rw [decide_eq_true_eq];omega),zlb (by omega),e1]
  simp only [qa,qb]
  cases decide ((nth l i).fVe > v)<;>rfl
 ·unfold zc
  dsimp only
  rw [if_neg (by rw [decide_eq_true_eq];omega)]
theorem zk3 (t:TellingsT) (v:Int) (ht:zlF t):zk t.fBr v=some (!zq0 v t):=by
 have h1:t.fBr.length≤9223372036854775807:=ht.1
 unfold zk zG
 have key:=zmN (step:=ze t.fBr v) (λ i=>(⟨i⟩:zx)) t.fBr.length (λ i=>!zpJ v (nth t.fBr i).fEv)
  (λ i=>(.inl ⟨i⟩:zau⊕Unit)) (.inr ()) (λ i hi hv=>?_) ?_
 ·rw [key]
  have e:=znC t.fBr λ b=>!zpJ v b.fEv
  have e2:(!zq0 v t)=(t.fBr.any λ b=>!zpJ v b.fEv):=by
   unfold zq0
   rw [qc];simp
  rw [e2,← e]
  cases zm2 (λ i=>!zpJ v (nth t.fBr i).fEv) t.fBr.length with
  | none=>rfl
  | some i=>simp
 ·unfold ze zfa
  dsimp only
  have e1:wI ((i:Int)+1)=((i+1:Nat):Int):=by rw [zls (by omega)];omega
  rw [if_pos (by rw [decide_eq_true_eq];omega),zlb (by omega),e1,qb,zk8 _ _ (ht.2 _ (zlJ hi)).1]
  simp only [qa]
  cases zpJ v (nth t.fBr i).fEv<;>rfl
 ·unfold ze
  dsimp only
  rw [if_neg (by rw [decide_eq_true_eq];omega)]
theorem zie (v:Int) (t:TellingsT) (ht:zlF t):zfv v t=some (zpE v t):=by
 unfold zfv zc8 zpE zvc
 simp only [zc5,zfc _ ht,zk3 _ _ ht,qa]
 cases decide (0≤v∧v≤1000000)<;>cases zl5 t<;>simp
theorem ziT (r:RegionT) (hr:zlP r):zcx r=some (zlZ r):=by
 unfold zcx zgz zlZ
 simp only [zc5,zie _ _ hr.2.2,qa]
 cases decide (0≤r.Id∧r.Id≤9)<;>simp
def zov (s:SaidT):Bool:=decide (0≤s.To∧s.To≤1) && zpE s.Word.fVe s.Word.fTe
def zp8 (w:WorldT):Bool:=decide (w.fRe.length=2) && decide (w.Line.length≤20) && znK (λ i=>zlZ (nth w.fRe i) && decide ((nth w.fRe i).Id=(i:Int))) w.fRe.length && w.Line.all zov
theorem zxn (v:Int) (t:TellingsT):zlZ ⟨0,v,t⟩=zpE v t:=by
 unfold zlZ
 simp
theorem zjj (w:WorldT) (hw:zm4 w):zeM w=some (zp8 w):=by
 have h1:w.fRe.length≤9223372036854775807:=hw.1.1
 have h2:w.Line.length≤9223372036854775807:=hw.2.1
 unfold zeM zp8
 have hJ:(if (((w.fRe.length:Nat):Int) != 2)=true then some (⟨true⟩:zc0) else some ⟨(decide (((w.Line.length:Nat):Int) > 20))⟩)=some ⟨!(decide (w.fRe.length=2) && decide (w.Line.length≤20))⟩:=by
  by_cases e1:w.fRe.length=2
  ·rw [if_neg (by rw [e1];decide),decide_eq_true e1,qbj]
   congr 2
   rw [qc,decide_eq_true_eq];simp;omega
  ·rw [if_pos (by rw [bne_iff_ne];omega),decide_eq_false e1];rfl
 rw [hJ]
 simp only [qa]
 have key:=zmg (step:=zbM w) (λ i=>(⟨i⟩:zem)) w.fRe.length (λ i=>zlZ (nth w.fRe i) && decide ((nth w.fRe i).Id=(i:Int))) (.inr ():Unit⊕Unit) (.inl ()) (λ i hi hv=>?_) (λ _=>?_)
 ·have key2:=zmg (step:=zcL w) (λ i=>(⟨i⟩:zen)) w.Line.length (λ i=>zov (nth w.Line i)) (.inr ():Unit⊕Unit) (.inl ()) (λ i hi hv=>?_) (λ _=>?_)
  ·rw [key,key2,zri w.Line zov]
   cases (decide (w.fRe.length=2) && decide (w.Line.length≤20))
   ·simp
   ·cases znK (λ i=>zlZ (nth w.fRe i) && decide ((nth w.fRe i).Id=(i:Int))) w.fRe.length
    ·simp
    ·cases w.Line.all zov<;>simp
  ·have hs:zoO (nth w.Line i):=hw.2.2 _ (zlJ hi)
   unfold zcL
   dsimp only
   have e1:wI ((i:Int)+1)=((i+1:Nat):Int):=by rw [zls (by omega)];omega
   have hok:zlP ⟨0,(nth w.Line i).Word.fVe,(nth w.Line i).Word.fTe⟩:=⟨(⟨by decide,by decide⟩:zoV 0),hs.2.1,hs.2.2⟩
   rw [if_pos (by rw [decide_eq_true_eq];omega),zlb (by omega),e1,qb]
   simp only [zeT,zcm _ hok,qa,zxn]
   unfold zov
   cases decide (0≤(nth w.Line i).To∧(nth w.Line i).To≤1)<;>cases zpE (nth w.Line i).Word.fVe (nth w.Line i).Word.fTe<;>simp
  ·unfold zcL
   dsimp only
   rw [if_neg (by rw [decide_eq_true_eq];omega)]
 ·have hs:zlP (nth w.fRe i):=hw.1.2 _ (zlJ hi)
  unfold zbM
  dsimp only
  have e1:wI ((i:Int)+1)=((i+1:Nat):Int):=by rw [zls (by omega)];omega
  have e3:zad ⟨(nth w.fRe i).Id,(nth w.fRe i).fVe,(nth w.fRe i).fTe⟩=some (zlZ (nth w.fRe i)):=zcm (nth w.fRe i) hs
  rw [if_pos (by rw [decide_eq_true_eq];omega),zlb (by omega),e1,qb,e3]
  simp only [qa]
  have e4:((nth w.fRe i).Id != (i:Int))=!decide ((nth w.fRe i).Id=(i:Int)):=rfl
  rw [e4]
  cases zlZ (nth w.fRe i)<;>cases decide ((nth w.fRe i).Id=(i:Int))<;>simp
 ·unfold zbM
  dsimp only
  rw [if_neg (by rw [decide_eq_true_eq];omega)]
theorem zk4 (l:List SaidT) (hl:zp7 l):zm l=some (!l.all zov):=by
 have h1:=hl.1
 unfold zm zH
 have key:=zmN (step:=zf l) (λ i=>(⟨i⟩:zy)) l.length (λ i=>!zov (nth l i))
  (λ i=>(.inl ⟨i⟩:zav⊕Unit)) (.inr ()) (λ i hi hv=>?_) ?_
 ·rw [key]
  have e:=znC l λ s=>!zov s
  have e2:(!l.all zov)=(l.any λ s=>!zov s):=by
   rw [qc];simp
  rw [e2,← e]
  cases zm2 (λ i=>!zov (nth l i)) l.length with
  | none=>rfl
  | some i=>simp
 ·have hs:zoO (nth l i):=hl.2 _ (zlJ hi)
  unfold zf zeo zgY
  dsimp only
  have e1:wI ((i:Int)+1)=((i+1:Nat):Int):=by rw [zls (by omega)];omega
  rw [if_pos (by rw [decide_eq_true_eq];omega),zlb (by omega),e1,qb]
  simp only [zc5,zie _ _ hs.2.2,qa]
  unfold zov
  cases decide (0≤(nth l i).To∧(nth l i).To≤1)<;>cases zpE (nth l i).Word.fVe (nth l i).Word.fTe<;>simp
 ·unfold zf
  dsimp only
  rw [if_neg (by rw [decide_eq_true_eq];omega)]
theorem zjk (w:WorldT) (hw:zm4 w):zeO w=some (zp8 w):=by
 have h1:w.fRe.length≤9223372036854775807:=hw.1.1
 have h2:w.Line.length≤9223372036854775807:=hw.2.1
 unfold zeO zp8
 have hJ:(if (((w.fRe.length:Nat):Int) != 2)=true then some (⟨true⟩:zc1) else some ⟨(decide (((w.Line.length:Nat):Int) > 20))⟩)=some ⟨!(decide (w.fRe.length=2) && decide (w.Line.length≤20))⟩:=by
  by_cases e1:w.fRe.length=2
  ·rw [if_neg (by rw [e1];decide),decide_eq_true e1,qbj]
   congr 2
   rw [qc,decide_eq_true_eq];simp;omega
  ·rw [if_pos (by rw [bne_iff_ne];omega),decide_eq_false e1];rfl
 rw [hJ]
 simp only [qa,zk4 _ hw.2]
 have key:=zmg (step:=zbN w) (λ i=>(⟨i⟩:zep)) w.fRe.length (λ i=>zlZ (nth w.fRe i) && decide ((nth w.fRe i).Id=(i:Int))) (.inr ():Unit⊕Unit) (.inl ()) (λ i hi hv=>?_) (λ _=>?_)
 ·rw [key]
  cases (decide (w.fRe.length=2) && decide (w.Line.length≤20))
  ·simp
  ·cases znK (λ i=>zlZ (nth w.fRe i) && decide ((nth w.fRe i).Id=(i:Int))) w.fRe.length
   ·simp
   ·cases w.Line.all zov<;>simp
 ·have hs:zlP (nth w.fRe i):=hw.1.2 _ (zlJ hi)
  unfold zbN
  dsimp only
  have e1:wI ((i:Int)+1)=((i+1:Nat):Int):=by rw [zls (by omega)];omega
  have e3:zcx ⟨(nth w.fRe i).Id,(nth w.fRe i).fVe,(nth w.fRe i).fTe⟩=some (zlZ (nth w.fRe i)):=ziT (nth w.fRe i) hs
  rw [if_pos (by rw [decide_eq_true_eq];omega),zlb (by omega),e1,qb,e3]
  simp only [qa]
  have e4:((nth w.fRe i).Id != (i:Int))=!decide ((nth w.fRe i).Id=(i:Int)):=rfl
  rw [e4]
  cases zlZ (nth w.fRe i)<;>cases decide ((nth w.fRe i).Id=(i:Int))<;>simp
 ·unfold zbN
  dsimp only
  rw [if_neg (by rw [decide_eq_true_eq];omega)]
theorem zwm {a b:List EventT} (ha:zml a=true) (hb:zml b=true):(zmo a b).1=0↔a=b:=by
 unfold zmo
 cases hf:znd a b with
 | some i =>
  obtain ⟨h1,h2,h3⟩:=zrm hf
  simp only [ne_eq,decide_not,Bool.not_eq_true',decide_eq_false_iff_not] at h2
  simp only
  constructor
  ·intro h;exact absurd h h2
  ·intro h;subst h;exact absurd ((zpf _ _).2 ⟨rfl,rfl,rfl⟩) h2
 | none =>
  have h1:=zts hf
  simp only
  constructor
  ·intro h
   have hl:a.length=b.length:=by
    split at h
    ·simp at h
    ·split at h
     ·simp at h
     ·omega
   refine zp1 hl λ j hj=>?_
   have:=h1 j (by omega)
   simp only [ne_eq,decide_not,Bool.not_eq_false',decide_eq_true_eq] at this
   exact (zrT ha hb hj (by omega)).2 this
  ·intro h;subst h;simp
theorem zkU (a b:List EventT) (ha:a.length≤9223372036854775807):zV a b=some (decide (a=b)):=by
 unfold zV
 by_cases hl:a.length=b.length
 rotate_left
 ·rw [if_pos (by rw [bne_iff_ne];omega),decide_eq_false λ e=>hl (by rw [e])]
 rw [if_neg (by rw [hl];simp)]
 have key:=zmg (step:=zo a b) (λ i=>(⟨i⟩:zak)) a.length (λ i=>decide (nth a i=nth b i)) (.inr ():Unit⊕Unit) (.inl ()) (λ i hi hv=>?_) (λ _=>?_)
 ·rw [key]
  have e:znK (λ i=>decide (nth a i=nth b i)) a.length=decide (a=b):=by
   rw [qc,zmf,decide_eq_true_eq]
   simp only [decide_eq_true_eq]
   exact ⟨λ h=>zp1 hl h,λ h=>by subst h;exact λ _ _=>rfl⟩
  rw [e]
  cases decide (a=b)<;>rfl
 ·unfold zo
  dsimp only
  have e1:wI ((i:Int)+1)=((i+1:Nat):Int):=by rw [zls (by omega)];omega
  rw [if_pos (by rw [decide_eq_true_eq];omega),zlb (by omega),zlb (by omega),qb,zC6,e1]
  cases decide (nth a i=nth b i)<;>rfl
 ·unfold zo
  dsimp only
  rw [if_neg (by rw [decide_eq_true_eq];omega)]
theorem zxo {x y:BranchT}:x=y↔x.fEv=y.fEv:=by
 cases x;cases y;simp
theorem zAj {a b:TellingsT}:a=b↔a.fBr=b.fBr:=by
 cases a;cases b;simp
theorem zwn (a b:TellingsT) (hl:a.fBr.length=b.fBr.length):znK (λ i=>decide ((nth a.fBr i).fEv=(nth b.fBr i).fEv)) a.fBr.length=decide (a=b):=by
 rw [qc,zmf,decide_eq_true_eq,zAj]
 simp only [decide_eq_true_eq]
 exact ⟨λ h=>zp1 hl λ j hj=>zxo.2 (h j hj),λ h=>by rw [h];exact λ _ _=>rfl⟩
theorem zk5 (a b:TellingsT) (ha:zlF a) (hb:zlF b) (ga:zl5 a=true) (gb:zl5 b=true):zbz a b=some (decide (a=b)):=by
 have h1:=zl7 ga
 unfold zbz
 by_cases hl:a.fBr.length=b.fBr.length
 rotate_left
 ·rw [if_pos (by rw [bne_iff_ne];omega),decide_eq_false λ e=>hl (by rw [e])]
 rw [if_neg (by rw [hl];simp)]
 have key:=zmg (step:=zah a b) (λ i=>(⟨i⟩:zbS)) a.fBr.length (λ i=>decide ((nth a.fBr i).fEv=(nth b.fBr i).fEv)) (.inr ():Unit⊕Unit) (.inl ()) (λ i hi hv=>?_) (λ _=>?_)
 ·rw [key,zwn a b hl]
  cases decide (a=b)<;>rfl
 ·unfold zah
  dsimp only
  have e1:wI ((i:Int)+1)=((i+1:Nat):Int):=by rw [zls (by omega)];omega
  rw [if_pos (by rw [decide_eq_true_eq];omega),zlb (by omega),zlb (by omega),qb,zcl _ _ (ha.2 _ (zlJ hi)).1 (hb.2 _ (zlJ (by omega))).1,e1]
  simp only [qa]
  have hs:=zwm (zlL (zno ga hi)) (zlL (zno gb (i:=i) (by omega)))
  by_cases h:(nth a.fBr i).fEv=(nth b.fBr i).fEv
  ·rw [if_neg (by rw [bne_iff_ne];simpa using hs.2 h),if_pos (decide_eq_true h)]
  ·rw [if_pos (by rw [bne_iff_ne];exact λ e=>h (hs.1 e)),if_neg (by simpa using h)]
 ·unfold zah
  dsimp only
  rw [if_neg (by rw [decide_eq_true_eq];omega)]
theorem zk6 (a b:TellingsT) (ha:zlF a) (ga:zl5 a=true):zcM a b=some (decide (a=b)):=by
 have h1:=zl7 ga
 unfold zcM zu
 by_cases hl:a.fBr.length=b.fBr.length
 rotate_left
 ·rw [if_pos (by rw [bne_iff_ne];omega),decide_eq_false λ e=>hl (by rw [e])];rfl
 rw [if_neg (by rw [hl];simp)]
 have key:=zmg (step:=za a.fBr b.fBr) (λ i=>(⟨i⟩:zp)) a.fBr.length (λ i=>decide ((nth a.fBr i).fEv=(nth b.fBr i).fEv)) (.inr ():Unit⊕Unit) (.inl ()) (λ i hi hv=>?_) (λ _=>?_)
 ·rw [key,zwn a b hl]
  cases decide (a=b)<;>rfl
 ·unfold za zc2
  dsimp only
  have e1:wI ((i:Int)+1)=((i+1:Nat):Int):=by rw [zls (by omega)];omega
  rw [if_pos (by rw [decide_eq_true_eq];omega),zlb (by omega),zlb (by omega),qb,zkU _ _ (ha.2 _ (zlJ hi)).1,e1]
  simp only [qa]
  cases decide ((nth a.fBr i).fEv=(nth b.fBr i).fEv)<;>rfl
 ·unfold za
  dsimp only
  rw [if_neg (by rw [decide_eq_true_eq];omega)]
theorem zmb {r:RegionT} (h:zlZ r=true):zl5 r.fTe=true:=by
 unfold zlZ zpE at h
 simp only [qf] at h
 exact h.2.1.2
theorem zt1 {w:WorldT} (h:zp8 w=true):w.fRe.length=2∧∀ i,i < 2→zlZ (nth w.fRe i)=true:=by
 unfold zp8 at h
 simp only [qf,decide_eq_true_eq,zmf] at h
 exact ⟨h.1.1.1,λ i hi=>(h.1.2 i (by omega)).1⟩
end Go.TL
set_option maxRecDepth 4000
namespace Go.TL
def zAk (t:TellingsT):Prop:=t.fBr.length≤12∧∀ i,i < t.fBr.length→(nth t.fBr i).fEv.length≤60
theorem zoP {t:TellingsT} (h:zl5 t=true):zAk t:=⟨zl7 h,λ i hi=>zm3 (zlL (zno h hi))⟩
theorem zmD {α:Type} [Inhabited α] {l:List α} {i:Nat} (h:i < l.length):l.take i++[nth l i]=l.take (i+1):=by
 rw [zlT h];simp
theorem zvg {α:Type} [Inhabited α] {l:List α} {i:Nat} (h:i < l.length):l.set i (nth l i)=l:=by
 rw [zlT h];simp
theorem zyZ (l:List BranchT):zpH l≤4 * znt (l.map zmm):=by
 induction l with
 | nil=>simp [zpH,zm6,znt]
 | cons b r ih =>
  have h:znX b≤4 * zmm b:=by unfold znX zmm zmJ;omega
  unfold zpH at ih ⊢
  rw [znR]
  simp only [qn,znt]
  omega
theorem zqm {t:TellingsT} {n:Nat} (h:zlO t≤n):t.fBr.length≤n∧zpH t.fBr≤4 * n:=by
 have:=zyZ t.fBr
 unfold zlO zmr at h
 omega
def zAl (r:RegionT):WordT×Bool:=if zlZ r=true then (⟨r.fVe,r.fTe⟩,true) else (⟨0,⟨[]⟩⟩,false)
end Go.TL
namespace Go.TL
theorem zxp (a b:List EventT):znd a b=znd b a:=by
 unfold znd
 rw [Nat.min_comm]
 congr 1
 funext i
 congr 1
 apply propext
 rw [ne_eq,ne_eq,zpf,zpf]
 constructor<;>intro h e<;>exact h ⟨e.1.symm,e.2.1.symm,e.2.2.symm⟩
end Go.TL
set_option maxRecDepth 4000
namespace Go.TL
theorem zow (a b:EventT):evC b a=-evC a b:=by
 unfold evC
 by_cases h1:a.fVe=b.fVe
 ·by_cases h2:a.Kind=b.Kind
  ·rcases zpy a.Name b.Name with h | h | h
   ·simp [h1,h2,h,zn5 h]
   ·simp [h1,h2,h,zmn]
   ·simp [h1,h2,h,zn5 h]
  ·simp only [h1,h2,Ne.symm h2,ne_eq,not_true_eq_false,if_false,not_false_eq_true,if_true]
   by_cases h:a.Kind < b.Kind
   ·rw [if_pos h,if_neg (by omega)];rfl
   ·rw [if_neg h,if_pos (by omega)]
 ·simp only [h1,Ne.symm h1,ne_eq,not_false_eq_true,if_true]
  by_cases h:a.fVe < b.fVe
  ·rw [if_pos h,if_neg (by omega)];rfl
  ·rw [if_neg h,if_pos (by omega)]
theorem zrU (a b:List EventT):(zmo b a).1=-(zmo a b).1:=by
 unfold zmo
 rw [zxp b a]
 cases znd a b with
 | some i=>simp only;exact zow _ _
 | none =>
  simp only
  by_cases h:a.length < b.length
  ·simp [h,show ¬ b.length < a.length by omega]
  ·by_cases h':b.length < a.length
   ·simp [h,h']
   ·simp [h,h']
def bev (l:List BranchT) (i:Nat):List EventT:=(nth l i).fEv
def zmA (l:List EventT):Int:=(nth l (l.length - 1)).fVe
def zxq (a b:List EventT):Bool:=decide (zmA b < zmA a) || (decide (zmA a=zmA b) && decide (b.length≤a.length))
def zmZ (l:List BranchT):Nat→Nat
 | 0=>0
 | i+1=>if zxq (bev l (i+1)) (bev l (zmZ l i))=true then i+1 else zmZ l i
theorem zoQ (l:List BranchT):∀ i,zmZ l i≤i
 | 0=>by simp [zmZ]
 | i+1=>by
  have:=zoQ l i
  unfold zmZ
  split<;>omega
def zCA (l:List BranchT):Prop:=l.length≤12∧∀ i,i < l.length→0 < (bev l i).length∧(bev l i).length≤60
def zx8 (l:List BranchT):Int:=if l.length=0 then -1 else ((zmZ l (l.length - 1):Nat):Int)
theorem zhj (l:List BranchT) (h:zCA l):zcC l=some (zx8 l):=by
 unfold zcC zx8
 by_cases h0:l.length=0
 ·rw [if_pos h0]
  have:zln (zJ l) ⟨(-1),0⟩=some ⟨-1⟩:=by
   apply zly
   unfold zJ
   dsimp only
   rw [if_neg (by rw [decide_eq_true_eq];omega)]
  rw [this];rfl
 rw [if_neg h0]
 obtain ⟨hl,he⟩:=h
 have key:∀ (m i:Nat),i+1+m=l.length→zln (zJ l) ⟨((zmZ l i:Nat):Int),((i+1:Nat):Int)⟩=some ⟨((zmZ l (l.length - 1):Nat):Int)⟩:=by
  intro m
  induction m with
  | zero =>
   intro i hi
   have e:i=l.length - 1:=by omega
   apply zly
   unfold zJ
   dsimp only
   rw [if_neg (by simp;omega),e]
  | succ m ih =>
   intro i hi
   have hc:=zoQ l i
   have hs:zJ l ⟨((zmZ l i:Nat):Int),((i+1:Nat):Int)⟩=some (.inl ⟨((zmZ l (i+1):Nat):Int),((i+2:Nat):Int)⟩):=by
    obtain ⟨a1,a2⟩:=he (i+1) (by omega)
    obtain ⟨b1,b2⟩:=he (zmZ l i) (by omega)
    have e1:wI (((i+1:Nat):Int)+1)=((i+2:Nat):Int):=by rw [zls (by omega)];omega
    have e2:zmZ l (i+1)=if zxq (bev l (i+1)) (bev l (zmZ l i))=true then i+1 else zmZ l i:=rfl
    have eA:wI ((((bev l (i+1)).length:Nat):Int) - 1)=(((bev l (i+1)).length - 1:Nat):Int):=by rw [zls (by omega)];omega
    have eB:wI ((((bev l (zmZ l i)).length:Nat):Int) - 1)=(((bev l (zmZ l i)).length - 1:Nat):Int):=by rw [zls (by omega)];omega
    have fA:(nth l (i+1)).fEv=bev l (i+1):=rfl
    have fB:(nth l (zmZ l i)).fEv=bev l (zmZ l i):=rfl
    unfold zJ
    simp only [qb,fA,fB,eA,eB,e1]
    rw [if_pos (by rw [decide_eq_true_eq];omega),zlb (by omega),if_neg (by simp),zlb (by omega),zlb (by omega),zlb (by omega),e2]
    have gA:(nth (bev l (i+1)) ((bev l (i+1)).length - 1)).fVe=zmA (bev l (i+1)):=rfl
    have gB:(nth (bev l (zmZ l i)) ((bev l (zmZ l i)).length - 1)).fVe=zmA (bev l (zmZ l i)):=rfl
    rw [gA,gB]
    unfold zxq
    by_cases c1:zmA (bev l (zmZ l i)) < zmA (bev l (i+1))
    ·rw [if_pos (decide_eq_true c1)]
     simp [c1]
    ·rw [if_neg (by simpa using c1)]
     by_cases c2:zmA (bev l (i+1))=zmA (bev l (zmZ l i))
     ·rw [if_pos (by simpa using c2)]
      by_cases c3:(bev l (zmZ l i)).length≤(bev l (i+1)).length
      ·simp [c1,c2,c3]
      ·simp [c1,c2,c3]
     ·rw [if_neg (by simpa using c2)]
      simp [c1,c2]
   rw [zl4 hs]
   exact ih (i+1) (by omega)
 have h1:zJ l ⟨(-1),0⟩=some (.inl ⟨((zmZ l 0:Nat):Int),((0+1:Nat):Int)⟩):=by
  unfold zJ
  dsimp only
  rw [if_pos (by simp;omega),zlb (by omega),if_pos (by simp)]
  rfl
 rw [zl4 h1,key (l.length - 1) 0 (by omega)]
 rfl
theorem zh3 (l:List EventT) (h1:0 < l.length) (h2:l.length≤60):zeR l=some (zmA l):=by
 have e:wI (((l.length:Nat):Int) - 1)=((l.length - 1:Nat):Int):=by rw [zls (by omega)];omega
 unfold zeR zmA
 rw [e,zlb (by omega),qb]
def zC7 (l:List BranchT):Prop:=∀ i k,i < l.length→k < i→(zmo (bev l k) (bev l i)).1 < 0
theorem zy0 (a b:List EventT) (ha:0 < a.length∧a.length≤60) (hb:0 < b.length∧b.length≤60) (hc:(zmo b a).1 < 0):∃ c,zcD ⟨a⟩ ⟨b⟩=some c∧decide (c > 0)=zxq a b:=by
 refine ⟨if zwe (zmA a) (zmA b)≠0 then zwe (zmA a) (zmA b) else if zwe ((a.length:Nat):Int) ((b.length:Nat):Int)≠0 then zwe ((a.length:Nat):Int) ((b.length:Nat):Int) else (zmo a b).1,?_,?_⟩
 ·unfold zcD
  simp only [zh3 a ha.1 ha.2,zh3 b hb.1 hb.2,zj6,zfy a b (by omega) (by omega),qa,zAi]
 ·have hp:0 < (zmo a b).1:=by rw [zrU b a];omega
  unfold zwe zxq
  by_cases c1:zmA a < zmA b
  ·have n1:¬ zmA b < zmA a:=by omega
   have n2:¬ zmA a=zmA b:=by omega
   simp [c1,n1,n2]
  ·by_cases c2:zmA b < zmA a
   ·simp [c1,c2]
   ·have c3:zmA a=zmA b:=by omega
    by_cases d1:a.length < b.length
    ·simp [c3,d1]
    ·by_cases d2:b.length < a.length
     ·have d3:b.length≤a.length:=by omega
      have d4:¬ ((a.length:Nat):Int) < ((b.length:Nat):Int):=by omega
      simp [c3,d1,d2,d3]
     ·have d3:a.length=b.length:=by omega
      simp [c3,d3,hp]
theorem zxr (l:List BranchT) (h:zCA l) (ho:zC7 l) (h0:0 < l.length):zr l=some ⟨bev l (zmZ l (l.length - 1))⟩:=by
 obtain ⟨hl,he⟩:=h
 unfold zr
 rw [if_neg (by simp;omega)]
 simp only [qa]
 rw [zlb (by omega)]
 have key:∀ (m i:Nat),i+1+m=l.length→zln (zb l) ⟨((i+1:Nat):Int),bev l (zmZ l i)⟩=some ⟨bev l (zmZ l (l.length - 1))⟩:=by
  intro m
  induction m with
  | zero =>
   intro i hi
   have e:i=l.length - 1:=by omega
   apply zly
   unfold zb
   dsimp only
   rw [if_neg (by simp;omega),e]
  | succ m ih =>
   intro i hi
   have hc:=zoQ l i
   have hs:zb l ⟨((i+1:Nat):Int),bev l (zmZ l i)⟩=some (.inl ⟨((i+2:Nat):Int),bev l (zmZ l (i+1))⟩):=by
    have e1:wI (((i+1:Nat):Int)+1)=((i+2:Nat):Int):=by rw [zls (by omega)];omega
    have e2:zmZ l (i+1)=if zxq (bev l (i+1)) (bev l (zmZ l i))=true then i+1 else zmZ l i:=rfl
    obtain ⟨c,hc1,hc2⟩:=zy0 (bev l (i+1)) (bev l (zmZ l i)) (he (i+1) (by omega)) (he (zmZ l i) (by omega)) (ho (i+1) (zmZ l i) (by omega) (by omega))
    have hc1':zcD (nth l (i+1)) ⟨bev l (zmZ l i)⟩=some c:=hc1
    unfold zb
    simp only [qb,e1]
    rw [if_pos (by rw [decide_eq_true_eq];omega),zlb (by omega),hc1',e2]
    simp only [qa]
    rw [hc2]
    cases zxq (bev l (i+1)) (bev l (zmZ l i))
    ·rfl
    ·rw [if_pos rfl,if_pos rfl,zlb (by omega)];rfl
   rw [zl4 hs]
   exact ih (i+1) (by omega)
 have:=key (l.length - 1) 0 (by omega)
 have e0:((0+1:Nat):Int)=1:=rfl
 rw [e0] at this
 have e1:bev l (zmZ l 0)=(nth l 0).fEv:=rfl
 rw [e1] at this
 rw [this]
 rfl
def zlV (t:TellingsT):List EventT:=if t.fBr.length=0 then [] else bev t.fBr (zmZ t.fBr (t.fBr.length - 1))
theorem zqn {t:TellingsT} (h:zl5 t=true):zCA t.fBr∧zC7 t.fBr:=by
 refine ⟨⟨zl7 h,λ i hi=>?_⟩,λ i k hi hk=>?_⟩
 ·have ht:=zno h hi
  refine ⟨?_,zm3 (zlL ht)⟩
  unfold zm8 at ht
  simp only [qf,decide_eq_true_eq] at ht
  exact ht.1
 ·unfold zl5 at h
  simp only [qf,decide_eq_true_eq,zmf] at h
  exact ((h.2 i hi).2 k hk).1
theorem zfO (t:TellingsT) (h:zl5 t=true):zck t=some (zlV t):=by
 obtain ⟨hf,ho⟩:=zqn h
 unfold zck zlV
 by_cases h0:t.fBr.length=0
 ·rw [if_pos (by simp [h0]),if_pos h0]
 ·rw [if_neg (by simp;exact λ e=>h0 (by rw [e];rfl)),if_neg h0,zxr _ hf ho (by omega)]
  rfl
theorem zox {t:TellingsT} (h:zl5 t=true):(zlV t).length≤60:=by
 obtain ⟨hf,ho⟩:=zqn h
 unfold zlV
 by_cases h0:t.fBr.length=0
 ·rw [if_pos h0];simp
 ·rw [if_neg h0]
  have:=zoQ t.fBr (t.fBr.length - 1)
  exact (hf.2 _ (by omega)).2
theorem zvh {t:TellingsT} (ht:zlF t):zmB (zlV t):=by
 unfold zlV
 by_cases h0:t.fBr.length=0
 ·rw [if_pos h0];exact ⟨by simp,by simp⟩
 ·rw [if_neg h0]
  have:=zoQ t.fBr (t.fBr.length - 1)
  exact ht.2 _ (zlJ (by omega))
end Go.TL
set_option maxRecDepth 4000
namespace Go.TL
set_option maxHeartbeats 1000000 in
theorem zwo (l:List ByteArray) (x:ByteArray) (hl:l.length≤2000):∀ (r:List ByteArray) (i:Nat) (p:Bool) (c:List ByteArray),l.drop i=r→i≤l.length→c.length≤2 * i →
  zln (zR l x) ⟨p,(i:Int),c⟩=some ⟨(znD x r p c).1,(znD x r p c).2⟩:=by
 intro r
 induction r with
 | nil =>
  intro i p c hd hi hc
  have hi':i=l.length:=by
   have:=congrArg List.length hd
   rw [qbf,qQ] at this
   omega
  subst hi'
  exact zly (by unfold zR;rw [if_neg (by simp)];rfl)
 | cons y r ih =>
  intro i p c hd hi hc
  have hlt:i < l.length:=by
   have:=congrArg List.length hd
   rw [qbf,qP] at this
   omega
  have hy:nth l i=y:=by
   rw [zlT hlt]
   have:=qo hlt
   rw [hd] at this
   exact (List.cons.inj this).1.symm
  have hr:l.drop (i+1)=r:=by
   have:=qo hlt
   rw [hd] at this
   exact (List.cons.inj this).2.symm
  have hstep:zR l x ⟨p,(i:Int),c⟩=some (.inl (if y=x then ⟨p,((i+1:Nat):Int),c⟩ else if (!p && sLt x y)=true then ⟨true,((i+1:Nat):Int),c++[x]++[y]⟩ else ⟨p,((i+1:Nat):Int),c++[y]⟩)):=by
   unfold zR
   have e1:wI ((i:Int)+1)=((i+1:Nat):Int):=by rw [zls (by omega)];omega
   simp only [qb,hy,e1,sGt]
   rw [if_pos (by simp;omega),zlb (by omega),sEq]
   by_cases he:y=x
   ·rw [if_pos (by simp [he]),if_pos he]
   ·rw [if_neg (by simp [he]),if_neg he]
    have hg1:(c.length+1) * 16≤140737488355328:=by omega
    have hg2:(c.length+1+1) * 16≤140737488355328:=by omega
    cases p
    ·cases h:sLt x y
     ·simp [zlb hg1]
     ·simp [zlb hg1,zlb hg2]
    ·simp [zlb hg1]
  rw [zl4 hstep]
  unfold znD
  by_cases he:y=x
  ·rw [if_pos he,if_pos he];exact ih (i+1) p c hr (by omega) (by omega)
  ·rw [if_neg he,if_neg he]
   split
   ·exact ih (i+1) true _ hr (by omega) (by simp only [qM,qq];omega)
   ·exact ih (i+1) p _ hr (by omega) (by simp only [qM,qq];omega)
theorem zjl (l:List ByteArray) (x:ByteArray) (hl:l.length≤2000):zbP l x=some (zoe l x):=by
 unfold zbP zoe
 obtain ⟨k,hk,hp⟩:=zdP l x (by omega)
 rw [hk]
 simp only [qa]
 rw [hp]
 have:=zwo l x hl l 0 (zl3 l x) [] rfl (by omega) (by simp)
 rw [show ((0:Nat):Int)=0 from rfl] at this
 rw [this]
 simp only [qa]
 have hlen:=zpe x l [] (zl3 l x)
 simp only [qQ,qbb] at hlen
 rw [zlb (by omega)]
 cases h:zl3 l x
 ·have hm:x∉l:=λ e=>by rw [zpd.2 e] at h;cases h
  have:=zp4 x l [] hm
  simp only [qbg] at this
  simp only [qz,if_false]
  rw [← this]
  split<;>rfl
 ·rw [zou]
  simp
theorem zmp {γ τ β:Type} {step:γ→Option (γ⊕τ)} (mk:Int→β→γ) (n:Nat) (f:Nat→β) (late:β→τ)
  (hs:∀ i,i < n→step (mk i (f i))=some (.inl (mk (i+1:Nat) (f (i+1))))) (he:step (mk n (f n))=some (.inr (late (f n)))):zln step (mk 0 (f 0))=some (late (f n)):=by
 have key:∀ (m i:Nat),i+m=n→zln step (mk i (f i))=some (late (f n)):=by
  intro m
  induction m with
  | zero =>
   intro i h
   have e:i=n:=by omega
   subst e
   exact zly he
  | succ m ih =>
   intro i h
   rw [zl4 (hs i (by omega))]
   exact ih (i+1) (by omega)
 exact key n 0 (by omega)
def zoY (l:List EventT):List ByteArray:=(l.filter λ e=>decide (e.Kind=2)).map (·.Name)
theorem zph (l:List EventT):(zoY l).length≤l.length:=by
 unfold zoY
 rw [qO]
 exact qe _ _
theorem zy1 (l:List EventT) (e:EventT):zoY (l++[e])=if e.Kind=2 then zoY l++[e.Name] else zoY l:=by
 unfold zoY
 rw [ql,List.map_append]
 by_cases h:e.Kind=2<;>simp [h]
theorem zy2 (e:EventT) (l:List EventT):zoY (e :: l)=(if e.Kind=2 then [e.Name] else [])++zoY l:=by
 unfold zoY
 by_cases h:e.Kind=2<;>simp [h]
theorem zAm {s t:zlm} {e:EventT} (h:zoz s e=some t):t.fSi=s.fSi++(if e.Kind=2 then [e.Name] else []):=by
 unfold zoz at h
 by_cases h1:e.Kind=1
 ·rw [if_pos h1] at h;cases h;simp [h1]
 rw [if_neg h1] at h
 by_cases h2:e.Kind=2
 ·rw [if_pos h2] at h
  split at h
  ·cases h
  ·cases h;simp [h2]
 rw [if_neg h2] at h
 rw [if_neg h2,qbh]
 split at h
 ·cases h;rfl
 ·split at h
  ·cases h;rfl
  ·split at h
   ·split at h
    ·cases h
    ·cases h;rfl
   ·cases h;rfl
theorem zxs {s t:zlm} {e:EventT} (h:zlQ s e=some t):t.fSi=s.fSi++(if e.Kind=2 then [e.Name] else []):=by
 unfold zlQ at h
 split at h
 ·cases ho:zoz s e with
  | none=>rw [ho] at h;cases h
  | some u =>
   rw [ho] at h
   simp only [qa] at h
   split at h
   ·cases h;exact zAm ho
   ·cases h
 ·cases h
theorem zut:∀ (r:List EventT) (s:zlm) (n:Nat),(zms r s n).2=n+r.length→(zms r s n).1.fSi=s.fSi++zoY r
 | [],s,n,_=>by simp [zms,zoY]
 | e :: r,s,n,h=>by
  unfold zms at h ⊢
  cases ha:zlQ s e with
  | none =>
   rw [ha] at h
   simp only [qP] at h
   omega
  | some t =>
   rw [ha] at h
   simp only [qP] at h ⊢
   rw [zut r t (n+1) (by omega),zxs ha,zy2,qm]
theorem ztv {l:List EventT} (h:zml l=true):(zlX l).1.fSi=zoY l:=by
 unfold zml at h
 simp only [qf,decide_eq_true_eq] at h
 have:=zut l zsr 0 (by have:=h.1.2;unfold zlX at this;omega)
 exact this
theorem zh4 (l:List EventT) (hl:l.length≤60):zeS l=some (zoY l):=by
 unfold zeS
 have key:=zmp (step:=zcG l) (λ i c=>(⟨i,c⟩:zfM)) l.length (λ i=>zoY (l.take i)) (λ c=>(⟨c⟩:zhy)) (λ i hi=>?_) ?_
 ·simp only [qi,qg] at key
  have e0:zoY []=[]:=rfl
  rw [e0] at key
  rw [key];rfl
 ·have ht:(l.take i).length=i:=by rw [qh];omega
  have hc:=zph (l.take i)
  have e1:wI ((i:Int)+1)=((i+1:Nat):Int):=by rw [zls (by omega)];omega
  unfold zcG
  simp only [qb,e1,← zmD hi,zy1]
  rw [if_pos (by rw [decide_eq_true_eq];omega),zlb (by omega)]
  by_cases h:(nth l i).Kind=2
  ·rw [if_pos (by simpa using h),zlb (by omega),if_pos h]
  ·rw [if_neg (by simpa using h),if_neg h]
 ·unfold zcG
  dsimp only
  rw [if_neg (by simp)]
def stp (own out:List ByteArray) (n:ByteArray):List ByteArray:=if (zl3 own n || zl3 out n)=true then out else zoe out n
theorem zwp {l:List ByteArray} {x:ByteArray} (h:zl3 l x=false):zoe l x=l.takeWhile (λ y=>sLt y x)++x :: l.dropWhile (λ y=>sLt y x):=by
 unfold zoe
 rw [h]
 simp
theorem zBA (own out:List ByteArray) (n:ByteArray):(stp own out n).length≤out.length+1:=by
 unfold stp
 split
 ·omega
 ·rename_i h
  have h':zl3 out n=false:=by
   cases h2:zl3 out n
   ·rfl
   ·rw [h2] at h;simp at h
  rw [zwp h',qM,qP]
  have:=congrArg List.length (qj (p:=λ y=>sLt y n) (l:=out))
  rw [qM] at this
  omega
theorem zrp (own:List ByteArray):∀ (r out:List ByteArray),(r.foldl (stp own) out).length≤out.length+r.length
 | [],out=>by simp
 | n :: r,out=>by
  have h1:=zBA own out n
  have h2:=zrp own r (stp own out n)
  simp only [qbi,qP]
  omega
theorem zxt {α β:Type} [Inhabited α] (f:β→α→β) (b:β) {l:List α} {i:Nat} (h:i < l.length):(l.take (i+1)).foldl f b=f ((l.take i).foldl f b) (nth l i):=by
 rw [← zmD h,qbd]
 rfl
theorem zBB (own out:List ByteArray) (c c':zlm×Int) (ho:c'.1.fSi=own) (h1:own.length≤60) (h2:c.1.fSi.length≤60) (h3:out.length≤1000) :
  zln (zbB c c') ⟨0,out⟩=some ⟨c.1.fSi.foldl (stp own) out⟩:=by
 have key:=zmp (step:=zbB c c') (λ i c=>(⟨i,c⟩:zfL)) c.1.fSi.length (λ i=>(c.1.fSi.take i).foldl (stp own) out) (λ c=>(⟨c⟩:zhx)) (λ i hi=>?_) ?_
 ·simpa only [qi,qg,List.foldl_nil] using key
 ·have hl:=zrp own (c.1.fSi.take i) out
  have ht:(c.1.fSi.take i).length=i:=by rw [qh];omega
  have e1:wI ((i:Int)+1)=((i+1:Nat):Int):=by rw [zls (by omega)];omega
  obtain ⟨k1,g1,g2⟩:=zdP own (nth c.1.fSi i) (by omega)
  obtain ⟨k2,g3,g4⟩:=zdP ((c.1.fSi.take i).foldl (stp own) out) (nth c.1.fSi i) (by omega)
  have n1:decide (k1 < 0)=!zl3 own (nth c.1.fSi i):=by rw [← g2];by_cases h:k1 < 0<;>simp [h];omega
  have n2:decide (k2 < 0)=!zl3 ((c.1.fSi.take i).foldl (stp own) out) (nth c.1.fSi i):=by rw [← g4];by_cases h:k2 < 0<;>simp [h];omega
  unfold zbB
  simp only [qb,e1,ho,zxt _ _ hi]
  rw [if_pos (by rw [decide_eq_true_eq];omega),zlb (by omega),g1]
  simp only [qa]
  rw [g3,zjl _ _ (by omega)]
  simp only [qa,n1,n2]
  have e5:stp own ((c.1.fSi.take i).foldl (stp own) out) (nth c.1.fSi i)=if (zl3 own (nth c.1.fSi i) || zl3 ((c.1.fSi.take i).foldl (stp own) out) (nth c.1.fSi i))=true then (c.1.fSi.take i).foldl (stp own) out else zoe ((c.1.fSi.take i).foldl (stp own) out) (nth c.1.fSi i):=rfl
  rw [e5]
  cases zl3 own (nth c.1.fSi i)
  ·cases zl3 ((c.1.fSi.take i).foldl (stp own) out) (nth c.1.fSi i)<;>rfl
  ·rfl
 ·unfold zbB
  dsimp only
  rw [if_neg (by simp)]
def zoZ (l:List BranchT):List ByteArray:=l.flatMap λ b=>zoY b.fEv
theorem zuu (l:List BranchT) (b:BranchT):zoZ (l++[b])=zoZ l++zoY b.fEv:=by unfold zoZ;simp
theorem zrq {l:List BranchT} (h:∀ b∈l,b.fEv.length≤60):(zoZ l).length≤60 * l.length:=by
 unfold zoZ
 induction l with
 | nil=>simp
 | cons b r ih =>
  have h1:=ih λ x hx=>h x (by simp [hx])
  have h2:=h b (by simp)
  have h3:=zph b.fEv
  rw [List.flatMap_cons,qM,qP]
  omega
def zpi (t:TellingsT):List ByteArray:=zoY (zlV t)
def zlN (t:TellingsT):List ByteArray:=(zoZ t.fBr).foldl (stp (zpi t)) []
def zAn (t:TellingsT):List ByteArray:=znJ (zpb ((zoZ t.fBr).filter λ n=>!zl3 (zpi t) n))
theorem zqo {t:TellingsT} (h:zl5 t=true) {i:Nat} (hi:i < t.fBr.length):zml (nth t.fBr i).fEv=true∧(nth t.fBr i).fEv.length≤60:=⟨zlL (zno h hi),zm3 (zlL (zno h hi))⟩
theorem zqp {t:TellingsT} (h:zl5 t=true):∀ b∈t.fBr,b.fEv.length≤60:=by
 intro b hb
 obtain ⟨i,hi,e⟩:=qw hb
 have:=(zqo h hi).2
 rw [zlT hi,e] at this
 exact this
theorem zke (t:TellingsT) (ht:zlF t) (hg:zl5 t=true):zf4 t.fBr=some (zlN t):=by
 obtain ⟨hf,ho⟩:=zqn hg
 have h12:=zl7 hg
 unfold zf4
 rw [zhj _ hf]
 simp only [qa]
 unfold zx8
 by_cases h0:t.fBr.length=0
 ·have e:t.fBr=[]:=List.length_eq_zero_iff.1 h0
  rw [if_pos h0,if_pos (by simp)]
  unfold zlN zoZ
  rw [e];rfl
 have hc:=zoQ t.fBr (t.fBr.length - 1)
 have hlt:zmZ t.fBr (t.fBr.length - 1) < t.fBr.length:=by omega
 have ec:zlV t=(nth t.fBr (zmZ t.fBr (t.fBr.length - 1))).fEv:=by unfold zlV;rw [if_neg h0];rfl
 rw [if_neg h0,if_neg (by simp),zlb (by omega),qb,← ec,zfN _ (zvh ht)]
 simp only [qa]
 have hcs:(zlX (zlV t)).1.fSi=zpi t:=by rw [ec,ztv (zqo hg hlt).1,← ec];rfl
 have hol:(zpi t).length≤60:=qp (zph _) (zox hg)
 have key:=zmp (step:=zcF t.fBr ((zlX (zlV t)).1,(((zlX (zlV t)).2:Nat):Int))) (λ i c=>(⟨i,c⟩:zfK)) t.fBr.length (λ i=>(zoZ (t.fBr.take i)).foldl (stp (zpi t)) []) (λ c=>(⟨c⟩:zhw)) (λ i hi=>?_) ?_
 ·simp only [qi,qg] at key
  have e0:(zoZ []).foldl (stp (zpi t)) []=[]:=rfl
  rw [e0] at key
  rw [key];rfl
 ·obtain ⟨g1,g2⟩:=zqo hg hi
  have hs:=zph (nth t.fBr i).fEv
  have hal:=zrq (l:=t.fBr.take i) λ b hb=>zqp hg b (qv hb)
  have ht':(t.fBr.take i).length=i:=by rw [qh];omega
  have hfl:=zrp (zpi t) (zoZ (t.fBr.take i)) []
  have e1:wI ((i:Int)+1)=((i+1:Nat):Int):=by rw [zls (by omega)];omega
  simp only [qQ,qbb] at hfl
  unfold zcF
  simp only [qb,e1,← zmD hi,zuu,qbd]
  rw [if_pos (by rw [decide_eq_true_eq];omega),zlb (by omega),zfN _ (ht.2 _ (zlJ hi))]
  simp only [qa]
  rw [zBB (zpi t) _ _ _ hcs hol (by rw [ztv g1];omega) (by omega)]
  simp only [qa]
  rw [ztv g1]
 ·unfold zcF
  dsimp only
  rw [if_neg (by simp)]
theorem zy3 (own l:List ByteArray) (n:ByteArray):(l++[n]).filter (λ n=>!zl3 own n)=if zl3 own n=true then l.filter (λ n=>!zl3 own n) else l.filter (λ n=>!zl3 own n)++[n]:=by
 rw [ql]
 cases h:zl3 own n<;>simp [h]
theorem zvi (own out l:List ByteArray) (h1:own.length≤60) (h2:l.length≤60) (h3:out.length≤1000) :
  zln (zaq l own) ⟨0,out⟩=some ⟨out++l.filter λ n=>!zl3 own n⟩:=by
 have key:=zmp (step:=zaq l own) (λ i c=>(⟨i,c⟩:zdA)) l.length (λ i=>out++(l.take i).filter λ n=>!zl3 own n) (λ c=>(⟨c⟩:zgM)) (λ i hi=>?_) ?_
 ·simpa only [qi,qg,List.filter_nil,qbh] using key
 ·have hl:=qe (λ n=>!zl3 own n) (l.take i)
  have ht:(l.take i).length=i:=by rw [qh];omega
  have e1:wI ((i:Int)+1)=((i+1:Nat):Int):=by rw [zls (by omega)];omega
  unfold zaq
  simp only [qb,e1,← zmD hi,zy3]
  rw [if_pos (by rw [decide_eq_true_eq];omega),zlb (by omega),znL _ _ (by omega)]
  simp only [qa]
  cases zl3 own (nth l i)
  ·rw [if_pos (by rfl),zlb (by rw [qM];omega),if_neg (by simp),qm]
  ·rw [if_neg (by simp),if_pos rfl]
 ·unfold zaq
  dsimp only
  rw [if_neg (by simp)]
theorem ziC (t:TellingsT) (hg:zl5 t=true):zdj t=some (zAn t):=by
 have h12:=zl7 hg
 have hol:(zpi t).length≤60:=qp (zph _) (zox hg)
 unfold zdj
 rw [zfO t hg]
 simp only [qa]
 rw [zh4 _ (zox hg)]
 simp only [qa]
 have key:=zmp (step:=za5 t (zoY (zlV t))) (λ i c=>(⟨i,c⟩:zdz)) t.fBr.length (λ i=>(zoZ (t.fBr.take i)).filter λ n=>!zl3 (zpi t) n) (λ c=>(⟨c⟩:zgL)) (λ i hi=>?_) ?_
 ·simp only [qi,qg] at key
  have e0:((zoZ []).filter λ n=>!zl3 (zpi t) n)=[]:=rfl
  rw [e0] at key
  rw [key]
  have hal:=zrq (l:=t.fBr) (zqp hg)
  have hl:=qe (λ n=>!zl3 (zpi t) n) (zoZ t.fBr)
  simp only [qa]
  unfold zc4
  rw [zlb (by omega)]
  simp only [qa]
  rw [zlb (zrN _)]
  unfold zbT
  rw [zlb (by rw [zrN];omega)]
  rfl
 ·obtain ⟨g1,g2⟩:=zqo hg hi
  have hs:=zph (nth t.fBr i).fEv
  have hal:=zrq (l:=t.fBr.take i) λ b hb=>zqp hg b (qv hb)
  have ht':(t.fBr.take i).length=i:=by rw [qh];omega
  have hl:=qe (λ n=>!zl3 (zpi t) n) (zoZ (t.fBr.take i))
  have e1:wI ((i:Int)+1)=((i+1:Nat):Int):=by rw [zls (by omega)];omega
  unfold za5
  simp only [qb,e1,← zmD hi,zuu,ql]
  rw [if_pos (by rw [decide_eq_true_eq];omega),zlb (by omega),zh4 _ g2]
  simp only [qa]
  have:=zvi (zpi t) ((zoZ (t.fBr.take i)).filter λ n=>!zl3 (zpi t) n) (zoY (nth t.fBr i).fEv) hol (by omega) (by omega)
  unfold zpi at this ⊢
  rw [this]
  rfl
 ·unfold za5
  dsimp only
  rw [if_neg (by simp)]
theorem zvj {α:Type} {lt:α→α→Bool} (hi:∀ x,lt x x=false) (ht:∀ x y z,lt x y=true→lt y z=true→lt x z=true):∀ {a b:List α},(a.Pairwise λ x y=>lt x y=true)→(b.Pairwise λ x y=>lt x y=true)→(∀ x,x∈a↔x∈b)→a=b
 | [],b,_,_,h=>by
  cases b with
  | nil=>rfl
  | cons y q=>have:=(h y).2 (by simp);simp at this
 | x :: r,[],_,_,h=>by have:=(h x).1 (by simp);simp at this
 | x :: r,y :: q,ha,hb,h=>by
  rw [qd] at ha hb
  have e:x=y:=by
   rcases List.mem_cons.1 ((h x).1 (by simp)) with h1 | h1
   ·exact h1
   ·rcases List.mem_cons.1 ((h y).2 (by simp)) with h2 | h2
    ·exact h2.symm
    ·have:=ht x y x (ha.1 y h2) (hb.1 x h1)
     rw [hi] at this;cases this
  subst e
  have hx:∀ z,lt x z=true→z≠x:=λ z hz e=>by rw [e,hi] at hz;cases hz
  rw [zvj hi ht ha.2 hb.2 λ z=>?_]
  constructor
  ·intro hz
   rcases List.mem_cons.1 ((h z).1 (qk _ hz)) with h1 | h1
   ·exact absurd h1 (hx z (ha.1 z hz))
   ·exact h1
  ·intro hz
   rcases List.mem_cons.1 ((h z).2 (qk _ hz)) with h1 | h1
   ·exact absurd h1 (hx z (hb.1 z hz))
   ·exact h1
abbrev zrV (l:List ByteArray):Prop:=l.Pairwise λ x y=>sLt x y=true
theorem zAo {l:List ByteArray} {x:ByteArray} (h:zrV l) (hx:x∉l):zrV (l.takeWhile (λ y=>sLt y x)++x :: l.dropWhile (λ y=>sLt y x)):=by
 induction l with
 | nil=>simp [zrV]
 | cons y r ih =>
  rw [zrV,qd] at h
  have hne:y≠x:=λ e=>hx (by simp [e])
  have hr:x∉r:=λ e=>hx (by simp [e])
  cases hlt:sLt y x
  ·have hxy:sLt x y=true:=by
    rcases zpy x y with h1 | h1 | h1
    ·exact h1
    ·exact absurd h1.symm hne
    ·rw [hlt] at h1;cases h1
   simp only [qx,qy,hlt,qz,if_false,qbg]
   rw [zrV,qd,qd]
   exact ⟨λ z hz=>by
    rcases List.mem_cons.1 hz with e | e
    ·rw [e];exact hxy
    ·exact znQ hxy (h.1 z e),h⟩
  ·simp only [qx,qy,hlt,if_true,List.cons_append]
   rw [zrV,qd]
   refine ⟨λ z hz=>?_,ih h.2 hr⟩
   rcases List.mem_append.1 hz with e | e
   ·exact h.1 z (qr _ e)
   ·rcases List.mem_cons.1 e with e | e
    ·rw [e];exact hlt
    ·exact h.1 z (qt _ e)
theorem zAp {l:List ByteArray} {x z:ByteArray}:z∈l.takeWhile (λ y=>sLt y x)++x :: l.dropWhile (λ y=>sLt y x)↔z=x∨z∈l:=by
 have:=qj (p:=λ y=>sLt y x) (l:=l)
 constructor
 ·intro h
  rcases List.mem_append.1 h with e | e
  ·exact .inr (qr _ e)
  ·rcases List.mem_cons.1 e with e | e
   ·exact .inl e
   ·exact .inr (qt _ e)
 ·intro h
  rcases h with e | e
  ·simp [e]
  ·rw [← this] at e
   rcases List.mem_append.1 e with e | e
   ·exact List.mem_append.2 (.inl e)
   ·exact List.mem_append.2 (.inr (qk _ e))
theorem zCB (own out:List ByteArray) (n:ByteArray) (h:zrV out):zrV (stp own out n)∧∀ z,z∈stp own out n↔z∈out∨(z=n∧zl3 own n=false):=by
 unfold stp
 cases ho:zl3 own n
 ·cases hn:zl3 out n
  ·have hx:n∉out:=λ e=>by rw [zpd.2 e] at hn;cases hn
   rw [if_neg (by simp),zwp hn]
   refine ⟨zAo h hx,λ z=>?_⟩
   rw [zAp]
   simp [or_comm]
  ·have hx:n∈out:=zpd.1 hn
   rw [if_pos (by simp)]
   refine ⟨h,λ z=>⟨.inl,λ e=>?_⟩⟩
   rcases e with e | e
   ·exact e
   ·rw [e.1];exact hx
 ·rw [if_pos (by simp)]
  exact ⟨h,λ z=>by simp⟩
theorem zvk (own:List ByteArray):∀ (r out:List ByteArray),zrV out→zrV (r.foldl (stp own) out)∧∀ z,z∈r.foldl (stp own) out↔z∈out∨(z∈r∧zl3 own z=false)
 | [],out,h=>⟨h,λ z=>by simp⟩
 | n :: r,out,h=>by
  obtain ⟨h1,h2⟩:=zCB own out n h
  obtain ⟨h3,h4⟩:=zvk own r (stp own out n) h1
  refine ⟨h3,λ z=>?_⟩
  rw [qbi,h4,h2,List.mem_cons]
  constructor
  ·rintro ((h | ⟨rfl,h⟩) | ⟨h,h'⟩)
   ·exact .inl h
   ·exact .inr ⟨.inl rfl,h⟩
   ·exact .inr ⟨.inr h,h'⟩
  ·rintro (h | ⟨rfl | h,h'⟩)
   ·exact .inl (.inl h)
   ·exact .inl (.inr ⟨rfl,h'⟩)
   ·exact .inr ⟨h,h'⟩
theorem zwq:∀ a b:List UInt8,zl6 a b=true↔a < b
 | _,[]=>by simp [zl6]
 | [],_ :: _=>by simp [zl6]
 | x :: r,y :: q=>by
  rw [List.cons_lt_cons_iff,← zwq r q]
  simp [zl6]
theorem zAq:(λ x y:List UInt8=>decide (x≤y))=λ x y=>!zl6 y x:=by
 funext x y
 have:x≤y↔¬ y < x:=List.not_lt.symm
 rw [← zwq] at this
 cases h:zl6 y x
 ·rw [h] at this;simpa using this
 ·rw [h] at this;simpa using this
theorem zsi {zs:List (List UInt8)} {x:List UInt8}:x∈Go.Lib.compact zs↔x∈zs:=by
 unfold Go.Lib.compact Go.Lib.compactUpTo
 rw [qbc]
 constructor
 ·rintro ⟨j,hj,rfl⟩
  have:=(List.mem_filter.1 hj).1
  rw [List.mem_range] at this
  simp [this]
 ·intro hx
  obtain ⟨j,hj,rfl⟩:=qw hx
  have key:∀ j (hj:j < zs.length),∃ a,a∈(List.range zs.length).filter (Go.Lib.keeps zs.toArray)∧zs.toArray[a]! = zs[j]:=by
   intro j
   induction j with
   | zero =>
    intro hj
    exact ⟨0,List.mem_filter.2 ⟨List.mem_range.2 hj,Go.Lib.keeps_lt_one _ 0 (by omega)⟩,by simp [hj]⟩
   | succ j ih =>
    intro hj
    cases hk:Go.Lib.keeps zs.toArray (j+1)
    ·obtain ⟨a,h1,h2⟩:=ih (by omega)
     refine ⟨a,h1,?_⟩
     rw [h2]
     unfold Go.Lib.keeps at hk
     simp at hk
     have hj':j < zs.length:=by omega
     simp [hj,hj'] at hk
     exact hk.symm
    ·exact ⟨j+1,List.mem_filter.2 ⟨List.mem_range.2 hj,hk⟩,by simp [hj]⟩
  exact key j hj
theorem zwr {zs:List (List UInt8)} (h:zs.Pairwise λ x y=>(!zl6 y x)=true):(Go.Lib.compact zs).Pairwise λ x y=>zl6 x y=true:=by
 have hle:∀ i j,i < j→j < zs.length→zl6 zs.toArray[j]! zs.toArray[i]! = false:=by
  intro i j hij hj
  have:=List.pairwise_iff_getElem.1 h i j (by omega) hj hij
  simpa [hj,show i < zs.length by omega] using this
 unfold Go.Lib.compact Go.Lib.compactUpTo
 rw [qbe,List.pairwise_filter]
 rw [List.pairwise_iff_getElem]
 intro i j hi hj hij h1 h2
 simp only [List.getElem_range,List.length_range] at hi hj h1 h2 ⊢
 have hne:zs.toArray[j]!≠zs.toArray[j - 1]!:=by
  unfold Go.Lib.keeps at h2
  rw [decide_eq_true_eq] at h2
  exact h2.resolve_left (by omega)
 have h3:=hle (j - 1) j (by omega) hj
 have h4:zl6 zs.toArray[j - 1]! zs.toArray[j]! = true:=by
  rcases zti zs.toArray[j - 1]! zs.toArray[j]! with h | h | h
  ·exact h
  ·exact absurd h.symm hne
  ·rw [h3] at h;cases h
 by_cases e:i=j - 1
 ·rw [e];exact h4
 ·have h5:=hle i (j - 1) (by omega) (by omega)
  rcases zti zs.toArray[i]! zs.toArray[j - 1]! with h | h | h
  ·exact zp0 _ _ _ h h4
  ·rw [h];exact h4
  ·rw [h5] at h;cases h
theorem zAr (a b:List UInt8):sLt (zoN a) (zoN b)=zl6 a b:=by
 unfold sLt
 rw [zoi,zoi]
 unfold zoN
 rfl
theorem zAs (l:List ByteArray):zrV (znJ (zpb l))∧∀ z,z∈znJ (zpb l)↔z∈l:=by
 have e:(zpb l).map zm1=(l.map zm1).mergeSort λ x y=>decide (x≤y):=by
  unfold zpb
  rw [List.map_map]
  have:zm1 ∘ zoN=id:=by funext x;exact zqW x
  rw [this,List.map_id]
 constructor
 ·unfold znJ zrV
  rw [qbe,e]
  simp only [zAr]
  refine zwr ?_
  rw [zAq]
  exact List.pairwise_mergeSort (λ a b c h1 h2=>by
   have h1':zl6 b a=false:=by simpa using h1
   have h2':zl6 c b=false:=by simpa using h2
   simpa using zyP c b a h2' h1') (λ a b=>by
   rcases zti a b with h | h | h
   ·have:zl6 b a=false:=by cases h':zl6 b a with
     | false=>rfl
     | true=>have:=zp0 a b a h h';rw [zva] at this;cases this
    simp [this]
   ·rw [h,zva];rfl
   ·have:zl6 a b=false:=by cases h':zl6 a b with
     | false=>rfl
     | true=>have:=zp0 b a b h h';rw [zva] at this;cases this
    simp [this]) _
 ·intro z
  unfold znJ
  rw [qbc]
  constructor
  ·rintro ⟨x,hx,rfl⟩
   rw [zsi,e,qba,qbc] at hx
   obtain ⟨y,hy,rfl⟩:=hx
   rw [zqV];exact hy
  ·intro hz
   refine ⟨zm1 z,?_,zqV z⟩
   rw [zsi,e,qba]
   exact List.mem_map.2 ⟨z,hz,rfl⟩
theorem zy4 (t:TellingsT):zAn t=zlN t:=by
 obtain ⟨h1,h2⟩:=zAs ((zoZ t.fBr).filter λ n=>!zl3 (zpi t) n)
 obtain ⟨h3,h4⟩:=zvk (zpi t) (zoZ t.fBr) [] .nil
 refine zvj (lt:=sLt) zmn (λ x y z=>znQ) h1 h3 λ x=>?_
 unfold zAn zlN
 rw [h2,h4,List.mem_filter]
 simp
def zx9 (t:TellingsT):List ByteArray×Bool:=if zl5 t=true then (zlN t,true) else ([],false)
theorem zuv (t:TellingsT):(zx9 t).1.length≤720:=by
 unfold zx9
 cases hg:zl5 t
 ·simp
 rw [if_pos rfl]
 have h1:=zrp (zpi t) (zoZ t.fBr) []
 have h2:=zrq (l:=t.fBr) (zqp hg)
 have h3:=zl7 hg
 unfold zlN
 simp only [qQ,qbb] at h1
 simp only;omega
end Go.TL
set_option maxRecDepth 4000
namespace Go.TL
theorem ziD (a:(List RegionT)) (ha:zlY a≤4194304):zdi a=some a:=by
 unfold zlY at ha
 unfold zdi
 rw [zlb (by omega)]
 have key:=zqg (step:=za3 a) (λ i l=>(⟨i,l⟩:zdx)) a (λ x=>x) (λ l=>(⟨l⟩:zgK)) (λ i l hi hl=>?_) (λ l hl=>?_) (List.replicate a.length (⟨0,0,(⟨[]⟩:TellingsT)⟩:RegionT)) (by simp)
 ·rw [key];simp
 ·unfold za3
  have hm:zl9 (nth a i)≤4194304:=qp (zpc zl9 (zlJ hi)) (by omega)
  have e2:(⟨(nth a i).Id,(nth a i).fVe,(nth a i).fTe⟩:RegionT)=nth a i:=rfl
  simp (disch:=omega) only [decide_eq_true_eq,if_pos,zlb,qb,zls,e2]
  rw [zjL _ hm]
  simp (disch:=omega) only [qa,zlb]
  rfl
 ·unfold za3
  rw [if_neg (by simp)]
theorem zjm (a:WorldT) (ha:znT a≤4194304):zbo a=some a:=by
 unfold znT at ha
 unfold zbo
 rw [ziD _ (by omega)]
 simp only [qa]
 rw [zkc _ (by omega)]
 simp only [qa]
 all_goals rfl
def zoj (k:Int) (r:RegionT):RegionT:=⟨k,k+1,⟨zyY r.fTe.fBr (k+2)⟩⟩
def zl2 (r:RegionT):Nat:=2+zpH r.fTe.fBr
def zB8 (k:Int) (r:SaidT):SaidT:=⟨k,⟨k+1,⟨zyY r.Word.fTe.fBr (k+2)⟩⟩⟩
def zqH (r:SaidT):Nat:=2+zpH r.Word.fTe.fBr
theorem zpF (l:List RegionT) (k:Int) (hk:0≤k) (hl:l.length≤1099511627776) (hi:∀ i,i < l.length→(nth l i).fTe.fBr.length≤1099511627776) (hb:k+zm6 zl2 l≤1099511627776) :
  za4 l k=some (k+zm6 zl2 l,zpg zoj zl2 l k):=by
 unfold za4
 have key:=zpA (step:=zan) (λ i k l=>(⟨k,i,l⟩:zcf)) zl2 zoj l 1099511627776 (λ k l=>(⟨k,l⟩:zf3)) (λ i k l' h hl' hn h0 h1=>?_) (λ k l' hl'=>?_) k hk hb
 ·rw [key];rfl
 ·have hw:zl2 (nth l i)=2+zpH (nth l i).fTe.fBr:=rfl
  rw [hw] at h1
  have e1:wI (k+1)=k+1:=zls (by omega)
  have e2:wI (k+1+1)=k+2:=by rw [zls (by omega)];omega
  have e3:wI ((i:Int)+1)=((i+1:Nat):Int):=by rw [zls (by omega)];omega
  have e4:k+2+(zpH (nth l i).fTe.fBr:Int)=k+(zl2 (nth l i):Int):=by rw [hw];omega
  unfold zan
  dsimp only
  rw [if_pos (by simp;omega),zlb (by omega),zlb (by omega),zlb (by omega),zlb (by omega),qb,hn,e1,e2,e3,zpD _ _ (by omega) (hi i h) (by omega)]
  simp only [qa]
  rw [zlb (zmV ..),e4]
  rfl
 ·unfold zan
  rw [if_neg (by simp;omega)]
theorem zt2 (l:List SaidT) (k:Int) (hk:0≤k) (hl:l.length≤1099511627776) (hi:∀ i,i < l.length→(nth l i).Word.fTe.fBr.length≤1099511627776) (hb:k+zm6 zqH l≤1099511627776) :
  zcN l k=some (k+zm6 zqH l,zpg zB8 zqH l k):=by
 unfold zcN
 have key:=zpA (step:=zaR) (λ i k l=>(⟨k,i,l⟩:zc3)) zqH zB8 l 1099511627776 (λ k l=>(⟨k,l⟩:zgw)) (λ i k l' h hl' hn h0 h1=>?_) (λ k l' hl'=>?_) k hk hb
 ·rw [key];rfl
 ·have hw:zqH (nth l i)=2+zpH (nth l i).Word.fTe.fBr:=rfl
  rw [hw] at h1
  have e1:wI (k+1)=k+1:=zls (by omega)
  have e2:wI (k+1+1)=k+2:=by rw [zls (by omega)];omega
  have e3:wI ((i:Int)+1)=((i+1:Nat):Int):=by rw [zls (by omega)];omega
  have e4:k+2+(zpH (nth l i).Word.fTe.fBr:Int)=k+(zqH (nth l i):Int):=by rw [hw];omega
  unfold zaR
  dsimp only
  rw [if_pos (by simp;omega),zlb (by omega),zlb (by omega),zlb (by omega),zlb (by omega),qb,hn,e1,e2,e3,zpD _ _ (by omega) (hi i h) (by omega)]
  simp only [qa]
  rw [zlb (zmV ..),e4]
  rfl
 ·unfold zaR
  rw [if_neg (by simp;omega)]
theorem zvl {l:List RegionT} {n:Nat} (h:zlY l≤n):l.length≤n∧(∀ i,i < l.length→(nth l i).fTe.fBr.length≤n)∧zm6 zl2 l≤6 * n:=by
 unfold zlY at h
 refine ⟨by omega,λ i hi=>?_,?_⟩
 ·have h1:=zpc zl9 (zlJ hi)
  have h2:=(zqm (t:=(nth l i).fTe) (qu _)).1
  have h3:zlO (nth l i).fTe≤zl9 (nth l i):=by unfold zl9;omega
  omega
 ·have:zm6 zl2 l≤2 * l.length+4 * znt (l.map zl9):=by
   clear h
   induction l with
   | nil=>simp [zm6,znt]
   | cons b r ih =>
    have h2:=(zqm (t:=b.fTe) (qu _)).2
    have h3:zl2 b≤2+4 * zl9 b:=by unfold zl2 zl9;omega
    rw [znR]
    simp only [qn,znt,qP]
    omega
  omega
theorem zy5 {l:List SaidT} {n:Nat} (h:zmC l≤n):l.length≤n∧(∀ i,i < l.length→(nth l i).Word.fTe.fBr.length≤n)∧zm6 zqH l≤6 * n:=by
 unfold zmC at h
 refine ⟨by omega,λ i hi=>?_,?_⟩
 ·have h1:=zpc zmw (zlJ hi)
  have h2:=(zqm (t:=(nth l i).Word.fTe) (qu _)).1
  have h3:zlO (nth l i).Word.fTe≤zmw (nth l i):=by unfold zmw znp;omega
  omega
 ·have:zm6 zqH l≤2 * l.length+4 * znt (l.map zmw):=by
   clear h
   induction l with
   | nil=>simp [zm6,znt]
   | cons b r ih =>
    have h2:=(zqm (t:=b.Word.fTe) (qu _)).2
    have h3:zqH b≤2+4 * zmw b:=by unfold zqH zmw znp;omega
    rw [znR]
    simp only [qn,znt,qP]
    omega
  omega
def zst (r:RegionT):Bool:=r.fVe.tmod 10 == r.Id
end Go.TL

import Derived.Test.YteonagfnhdlfcaaGreatDoorG20PlR3M
import Derived.Test.YteonagfnhdlfcaaGreatDoorG25PpR3D
import Derived.Test.YteonagfnhdlfcaaGreatDoorG24PpR2D
import Derived.Test.YteonagfnhdlfcaaGreatDoorPpSg
open List renaming length_append → qM, length_map → qO, length_cons → qP, length_nil → qQ, pairwise_cons → qc, length_filter_le → qd, take_length → qe, length_take → qf, take_zero → qh, takeWhile_append_dropWhile → qj, mem_cons_of_mem → qk, filter_append → ql, drop_eq_getElem_cons → qm, length_singleton → qn, takeWhile_subset → qo, dropWhile_subset → qp, mem_of_mem_take → qq, getElem_of_mem → qr, takeWhile_cons → qt, dropWhile_cons → qu, mem_mergeSort → qw, mem_map → qy, append_assoc → qz, foldl_append → qba, pairwise_map → qbb, length_drop → qbc, nil_append → qbd, append_nil → qbe, foldl_cons → qbf
open Option renaming bind_some → qa
open Int renaming toNat_natCast → qb
open Bool renaming eq_iff_iff → qg, and_eq_true → qi, false_eq_true → qv, true_and → qbg
open Nat renaming zero_add → qx
set_option linter.unusedSimpArgs false
set_option linter.unusedVariables false
noncomputable section
set_option maxRecDepth 4000
namespace Go.TL
section
variable {β γ τ:Type}
end
end Go.TL
set_option maxRecDepth 4000
namespace Go.TL
def zkY (x:zkb):Prop:=zl6 x.Id∧zl6 x.fVe∧zlb x.fTe
def zwc (x:(List zkb)):Prop:=x.length≤9223372036854775807∧∀ y∈x,zkY y
def zwY (x:zlF):Prop:=zl6 x.fVe∧zlb x.fTe
def znP (x:zkB):Prop:=zl6 x.To∧zwY x.Word
def zu9 (x:(List zkB)):Prop:=x.length≤9223372036854775807∧∀ y∈x,znP y
def zsf (x:zkn):Prop:=zwc x.fRe∧zu9 x.Line
end Go.TL
namespace Go.TL
def zoh (v:Int) (l:List zka):Bool:=l.all λ e=>!decide (e.fVe > v)
def znA (v:Int) (t:zkh):Bool:=t.fBr.all λ b=>zoh v b.fEv
def zo7 (v:Int) (t:zkh):Bool:=zp5 v && zld t && znA v t
def zkG (r:zkb):Bool:=decide (0≤r.Id∧r.Id≤9) && zo7 r.fVe r.fTe
theorem zbw (r:zkb) (hr:zkY r):zW r=some (zkG r):=by
 have ht:zlb r.fTe:=hr.2.2
 have h1:r.fTe.fBr.length≤9223372036854775807:=ht.1
 unfold zW zbB zkG zo7
 simp only [zaF,zc4 _ ht,qa]
 have key:=zlx (step:=zbv r) (λ i=>(⟨i⟩:zbt)) r.fTe.fBr.length (λ i=>zoh r.fVe (nth r.fTe.fBr i).fEv) (.inr ():Unit⊕Unit) (.inl ()) (λ i hi hv=>?_) (λ _=>?_)
 ·rw [key,zp4 r.fTe.fBr λ b=>zoh r.fVe b.fEv]
  unfold znA zp5
  cases decide (0≤r.Id∧r.Id≤9)<;>cases decide (0≤r.fVe∧r.fVe≤1000000)<;>cases zld r.fTe<;>cases (r.fTe.fBr.all λ b=>zoh r.fVe b.fEv)<;>simp
 ·have h2:zls (nth r.fTe.fBr i).fEv:=ht.2 _ (zkJ hi)
  have h3:=h2.1
  unfold zbv
  dsimp only
  rw [if_pos (by rw [decide_eq_true_eq];omega),zj9 (by omega)]
  have e1:=wS (i:=i) (by omega)
  rw [e1]
  have key2:=zlx (step:=zbu r (⟨(i:Int)⟩:zbt)) (λ k=>(⟨k⟩:zd7)) (nth r.fTe.fBr i).fEv.length (λ k=>!decide ((nth (nth r.fTe.fBr i).fEv k).fVe > r.fVe)) (.inr ():Unit⊕Unit) (.inl ()) (λ k hk _=>?_) (λ _=>?_)
  ·rw [key2,zp4 (nth r.fTe.fBr i).fEv λ e=>!decide (e.fVe > r.fVe)]
   unfold zoh
   split<;>rfl
  ·unfold zbu
   simp only [qb]
   have e2:=wS (i:=k) (by omega)
   rw [if_pos (by rw [decide_eq_true_eq];omega),zj9 (by omega),e2]
   cases decide ((nth (nth r.fTe.fBr i).fEv k).fVe > r.fVe)<;>rfl
  ·unfold zbu
   simp only [qb]
   rw [if_neg (by rw [decide_eq_true_eq];omega)]
 ·unfold zbv
  dsimp only
  rw [if_neg (by rw [decide_eq_true_eq];omega)]
theorem zjY (l:List zka) (v:Int) (hl:l.length≤9223372036854775807):zj l v=some (!zoh v l):=by
 unfold zj zy
 have key:=zlm (step:=zb l v) (λ i=>(⟨i⟩:zr)) l.length (λ i=>decide ((nth l i).fVe > v))
  (λ i=>(.inl ⟨i⟩:zap⊕Unit)) (.inr ()) (λ i hi hv=>?_) ?_
 ·rw [key]
  have e:=zmz l λ e=>decide (e.fVe > v)
  have e2:(!zoh v l)=(l.any λ e=>decide (e.fVe > v)):=by
   unfold zoh
   rw [qg];simp
  rw [e2,← e]
  cases zlp (λ i=>decide ((nth l i).fVe > v)) l.length with
  | none=>rfl
  | some i=>simp
 ·unfold zb zdF
  dsimp only
  have e1:=wS (i:=i) (by omega)
  rw [if_pos (by rw [decide_eq_true_eq];omega),zj9 (by omega),e1]
  simp only [qa,qb]
  cases decide ((nth l i).fVe > v)<;>rfl
 ·unfold zb
  dsimp only
  rw [if_neg (by rw [decide_eq_true_eq];omega)]
theorem zjV (t:zkh) (v:Int) (ht:zlb t):zm t.fBr v=some (!znA v t):=by
 have h1:t.fBr.length≤9223372036854775807:=ht.1
 unfold zm zG
 have key:=zlm (step:=ze t.fBr v) (λ i=>(⟨i⟩:zv)) t.fBr.length (λ i=>!zoh v (nth t.fBr i).fEv)
  (λ i=>(.inl ⟨i⟩:zav⊕Unit)) (.inr ()) (λ i hi hv=>?_) ?_
 ·rw [key]
  have e:=zmz t.fBr λ b=>!zoh v b.fEv
  have e2:(!znA v t)=(t.fBr.any λ b=>!zoh v b.fEv):=by
   unfold znA
   rw [qg];simp
  rw [e2,← e]
  cases zlp (λ i=>!zoh v (nth t.fBr i).fEv) t.fBr.length with
  | none=>rfl
  | some i=>simp
 ·unfold ze zfa
  dsimp only
  have e1:=wS (i:=i) (by omega)
  rw [if_pos (by rw [decide_eq_true_eq];omega),zj9 (by omega),e1,qb,zjY _ _ (ht.2 _ (zkJ hi)).1]
  simp only [qa]
  cases zoh v (nth t.fBr i).fEv<;>rfl
 ·unfold ze
  dsimp only
  rw [if_neg (by rw [decide_eq_true_eq];omega)]
theorem zhX (v:Int) (t:zkh) (ht:zlb t):zfs v t=some (zo7 v t):=by
 unfold zfs zU zo7 zp5
 simp only [zak,zfc _ ht,zjV _ _ ht,qa]
 cases decide (0≤v∧v≤1000000)<;>cases zld t<;>simp
theorem ziv (r:zkb) (hr:zkY r):zcG r=some (zkG r):=by
 unfold zcG zdV zkG
 simp only [zak,zhX _ _ hr.2.2,qa]
 cases decide (0≤r.Id∧r.Id≤9)<;>simp
def znQ (s:zkB):Bool:=decide (0≤s.To∧s.To≤1) && zo7 s.Word.fVe s.Word.fTe
def zth (w:zkn):Bool:=decide (w.fRe.length=2) && decide (w.Line.length≤20) && zmP (λ i=>zkG (nth w.fRe i) && decide ((nth w.fRe i).Id=(i:Int))) w.fRe.length && w.Line.all znQ
theorem zsg (v:Int) (t:zkh):zkG ⟨0,v,t⟩=zo7 v t:=by
 unfold zkG
 simp
theorem zg7 (w:zkn) (hw:zsf w):zdg w=some (zth w):=by
 have h1:w.fRe.length≤9223372036854775807:=hw.1.1
 have h2:w.Line.length≤9223372036854775807:=hw.2.1
 unfold zdg zth
 have hJ:(if (((w.fRe.length:Nat):Int) != 2)=true then some (⟨true⟩:zc1) else some ⟨(decide (((w.Line.length:Nat):Int) > 20))⟩)=some ⟨!(decide (w.fRe.length=2) && decide (w.Line.length≤20))⟩:=by
  by_cases e1:w.fRe.length=2
  ·rw [if_neg (by rw [e1];decide),decide_eq_true e1,qbg]
   congr 2
   rw [qg,decide_eq_true_eq];simp;omega
  ·rw [if_pos (by rw [bne_iff_ne];omega),decide_eq_false e1];rfl
 rw [hJ]
 simp only [qa]
 have key:=zlx (step:=zbT w) (λ i=>(⟨i⟩:zez)) w.fRe.length (λ i=>zkG (nth w.fRe i) && decide ((nth w.fRe i).Id=(i:Int))) (.inr ():Unit⊕Unit) (.inl ()) (λ i hi hv=>?_) (λ _=>?_)
 ·have key2:=zlx (step:=zcT w) (λ i=>(⟨i⟩:zeA)) w.Line.length (λ i=>znQ (nth w.Line i)) (.inr ():Unit⊕Unit) (.inl ()) (λ i hi hv=>?_) (λ _=>?_)
  ·rw [key,key2,zp4 w.Line znQ]
   cases (decide (w.fRe.length=2) && decide (w.Line.length≤20))
   ·simp
   ·cases zmP (λ i=>zkG (nth w.fRe i) && decide ((nth w.fRe i).Id=(i:Int))) w.fRe.length
    ·simp
    ·cases w.Line.all znQ<;>simp
  ·have hs:znP (nth w.Line i):=hw.2.2 _ (zkJ hi)
   unfold zcT
   dsimp only
   have e1:=wS (i:=i) (by omega)
   have hok:zkY ⟨0,(nth w.Line i).Word.fVe,(nth w.Line i).Word.fTe⟩:=⟨(⟨by decide,by decide⟩:zl6 0),hs.2.1,hs.2.2⟩
   rw [if_pos (by rw [decide_eq_true_eq];omega),zj9 (by omega),e1,qb]
   simp only [zaF,zbw _ hok,qa,zsg]
   unfold znQ
   cases decide (0≤(nth w.Line i).To∧(nth w.Line i).To≤1)<;>cases zo7 (nth w.Line i).Word.fVe (nth w.Line i).Word.fTe<;>simp
  ·unfold zcT
   dsimp only
   rw [if_neg (by rw [decide_eq_true_eq];omega)]
 ·have hs:zkY (nth w.fRe i):=hw.1.2 _ (zkJ hi)
  unfold zbT
  dsimp only
  have e1:=wS (i:=i) (by omega)
  have e3:zW ⟨(nth w.fRe i).Id,(nth w.fRe i).fVe,(nth w.fRe i).fTe⟩=some (zkG (nth w.fRe i)):=zbw (nth w.fRe i) hs
  rw [if_pos (by rw [decide_eq_true_eq];omega),zj9 (by omega),e1,qb,e3]
  simp only [qa]
  have e4:((nth w.fRe i).Id != (i:Int))=!decide ((nth w.fRe i).Id=(i:Int)):=rfl
  rw [e4]
  cases zkG (nth w.fRe i)<;>cases decide ((nth w.fRe i).Id=(i:Int))<;>simp
 ·unfold zbT
  dsimp only
  rw [if_neg (by rw [decide_eq_true_eq];omega)]
theorem zjW (l:List zkB) (hl:zu9 l):zn l=some (!l.all znQ):=by
 have h1:=hl.1
 unfold zn zH
 have key:=zlm (step:=zf l) (λ i=>(⟨i⟩:zw)) l.length (λ i=>!znQ (nth l i))
  (λ i=>(.inl ⟨i⟩:zaw⊕Unit)) (.inr ()) (λ i hi hv=>?_) ?_
 ·rw [key]
  have e:=zmz l λ s=>!znQ s
  have e2:(!l.all znQ)=(l.any λ s=>!znQ s):=by
   rw [qg];simp
  rw [e2,← e]
  cases zlp (λ i=>!znQ (nth l i)) l.length with
  | none=>rfl
  | some i=>simp
 ·have hs:znP (nth l i):=hl.2 _ (zkJ hi)
  unfold zf zeB zds
  dsimp only
  have e1:=wS (i:=i) (by omega)
  rw [if_pos (by rw [decide_eq_true_eq];omega),zj9 (by omega),e1,qb]
  simp only [zak,zhX _ _ hs.2.2,qa]
  unfold znQ
  cases decide (0≤(nth l i).To∧(nth l i).To≤1)<;>cases zo7 (nth l i).Word.fVe (nth l i).Word.fTe<;>simp
 ·unfold zf
  dsimp only
  rw [if_neg (by rw [decide_eq_true_eq];omega)]
theorem ziQ (w:zkn) (hw:zsf w):zeU w=some (zth w):=by
 have h1:w.fRe.length≤9223372036854775807:=hw.1.1
 have h2:w.Line.length≤9223372036854775807:=hw.2.1
 unfold zeU zth
 have hJ:(if (((w.fRe.length:Nat):Int) != 2)=true then some (⟨true⟩:zc2) else some ⟨(decide (((w.Line.length:Nat):Int) > 20))⟩)=some ⟨!(decide (w.fRe.length=2) && decide (w.Line.length≤20))⟩:=by
  by_cases e1:w.fRe.length=2
  ·rw [if_neg (by rw [e1];decide),decide_eq_true e1,qbg]
   congr 2
   rw [qg,decide_eq_true_eq];simp;omega
  ·rw [if_pos (by rw [bne_iff_ne];omega),decide_eq_false e1];rfl
 rw [hJ]
 simp only [qa,zjW _ hw.2]
 have key:=zlx (step:=zbU w) (λ i=>(⟨i⟩:zeC)) w.fRe.length (λ i=>zkG (nth w.fRe i) && decide ((nth w.fRe i).Id=(i:Int))) (.inr ():Unit⊕Unit) (.inl ()) (λ i hi hv=>?_) (λ _=>?_)
 ·rw [key]
  cases (decide (w.fRe.length=2) && decide (w.Line.length≤20))
  ·simp
  ·cases zmP (λ i=>zkG (nth w.fRe i) && decide ((nth w.fRe i).Id=(i:Int))) w.fRe.length
   ·simp
   ·cases w.Line.all znQ<;>simp
 ·have hs:zkY (nth w.fRe i):=hw.1.2 _ (zkJ hi)
  unfold zbU
  dsimp only
  have e1:=wS (i:=i) (by omega)
  have e3:zcG ⟨(nth w.fRe i).Id,(nth w.fRe i).fVe,(nth w.fRe i).fTe⟩=some (zkG (nth w.fRe i)):=ziv (nth w.fRe i) hs
  rw [if_pos (by rw [decide_eq_true_eq];omega),zj9 (by omega),e1,qb,e3]
  simp only [qa]
  have e4:((nth w.fRe i).Id != (i:Int))=!decide ((nth w.fRe i).Id=(i:Int)):=rfl
  rw [e4]
  cases zkG (nth w.fRe i)<;>cases decide ((nth w.fRe i).Id=(i:Int))<;>simp
 ·unfold zbU
  dsimp only
  rw [if_neg (by rw [decide_eq_true_eq];omega)]
theorem zzf {a b:List zka} (ha:zkP a=true) (hb:zkP b=true):(zk7 a b).1=0↔a=b:=by
 unfold zk7
 cases hf:zl7 a b with
 | some i =>
  obtain ⟨h1,h2,h3⟩:=zm4 hf
  simp only [ne_eq,decide_not,Bool.not_eq_true',decide_eq_false_iff_not] at h2
  simp only
  constructor
  ·intro h;exact absurd h h2
  ·intro h;subst h;exact absurd ((zmK _ _).2 ⟨rfl,rfl,rfl⟩) h2
 | none =>
  have h1:=znu hf
  simp only
  constructor
  ·intro h
   have hl:a.length=b.length:=by
    split at h
    ·simp at h
    ·split at h
     ·simp at h
     ·omega
   refine zr5 hl λ j hj=>?_
   have:=h1 j (by omega)
   simp only [ne_eq,decide_not,Bool.not_eq_false',decide_eq_true_eq] at this
   exact (zpe ha hb hj (by omega)).2 this
  ·intro h;subst h;simp
theorem zkV {r:zkb} (h:zkG r=true):zld r.fTe=true:=by
 unfold zkG zo7 at h
 simp only [qi] at h
 exact h.2.1.2
end Go.TL
set_option maxRecDepth 4000
namespace Go.TL
def zzg (t:zkh):Prop:=t.fBr.length≤12∧∀ i,i < t.fBr.length→(nth t.fBr i).fEv.length≤60
theorem zmB {t:zkh} (h:zld t=true):zzg t:=⟨zla h,λ i hi=>zk8 (zkL (znv h hi))⟩
theorem zlJ {α:Type} [Inhabited α] {l:List α} {i:Nat} (h:i < l.length):l.take i++[nth l i]=l.take (i+1):=by
 rw [zkQ h];simp
theorem zru {α:Type} [Inhabited α] {l:List α} {i:Nat} (h:i < l.length):l.set i (nth l i)=l:=by
 rw [zkQ h];simp
def zzh (r:zkb):zkb×Bool:=if zkG r=true then (if (zly r.fVe r.Id).2=true then (⟨r.Id,(zly r.fVe r.Id).1,r.fTe⟩,true) else (⟨0,0,⟨[]⟩⟩,false)) else (⟨0,0,⟨[]⟩⟩,false)
end Go.TL
namespace Go.TL
theorem zwd (a b:List zka):zl7 a b=zl7 b a:=by
 unfold zl7
 rw [Nat.min_comm]
 congr 1
 funext i
 congr 1
 apply propext
 rw [ne_eq,ne_eq,zmK,zmK]
 constructor<;>intro h e<;>exact h ⟨e.1.symm,e.2.1.symm,e.2.2.symm⟩
end Go.TL
set_option maxRecDepth 4000
namespace Go.TL
theorem znw (a b:zka):evC b a=-evC a b:=by
 unfold evC
 by_cases h1:a.fVe=b.fVe
 ·by_cases h2:a.Kind=b.Kind
  ·rcases zoB a.Name b.Name with h | h | h
   ·simp [h1,h2,h,zm2 h]
   ·simp [h1,h2,h,zlt]
   ·simp [h1,h2,h,zm2 h]
  ·simp only [h1,h2,Ne.symm h2,ne_eq,not_true_eq_false,if_false,not_false_eq_true,if_true]
   by_cases h:a.Kind < b.Kind
   ·rw [if_pos h,if_neg (by omega)];rfl
   ·rw [if_neg h,if_pos (by omega)]
 ·simp only [h1,Ne.symm h1,ne_eq,not_false_eq_true,if_true]
  by_cases h:a.fVe < b.fVe
  ·rw [if_pos h,if_neg (by omega)];rfl
  ·rw [if_neg h,if_pos (by omega)]
theorem zqK (a b:List zka):(zk7 b a).1=-(zk7 a b).1:=by
 unfold zk7
 rw [zwd b a]
 cases zl7 a b with
 | some i=>simp only;exact znw _ _
 | none =>
  simp only
  by_cases h:a.length < b.length
  ·simp [h,show ¬ b.length < a.length by omega]
  ·by_cases h':b.length < a.length
   ·simp [h,h']
   ·simp [h,h']
def bev (l:List zkd) (i:Nat):List zka:=(nth l i).fEv
def lastV (l:List zka):Int:=(nth l (l.length - 1)).fVe
def zt4 (a b:List zka):Bool:=decide (lastV b < lastV a) || (decide (lastV a=lastV b) && decide (b.length≤a.length))
def zlT (l:List zkd):Nat→Nat
 | 0=>0
 | i+1=>if zt4 (bev l (i+1)) (bev l (zlT l i))=true then i+1 else zlT l i
theorem znR (l:List zkd):∀ i,zlT l i≤i
 | 0=>by simp [zlT]
 | i+1=>by
  have:=znR l i
  unfold zlT
  split<;>omega
def zBU (l:List zkd):Prop:=l.length≤12∧∀ i,i < l.length→0 < (bev l i).length∧(bev l i).length≤60
def zwZ (l:List zkd):Int:=if l.length=0 then -1 else ((zlT l (l.length - 1):Nat):Int)
theorem zgV (l:List zkd) (h:zBU l):zcJ l=some (zwZ l):=by
 unfold zcJ zwZ
 by_cases h0:l.length=0
 ·rw [if_pos h0]
  have:zkx (zK l) ⟨(-1),0⟩=some ⟨-1⟩:=by
   apply zk3
   unfold zK
   dsimp only
   rw [if_neg (by rw [decide_eq_true_eq];omega)]
  rw [this];rfl
 rw [if_neg h0]
 obtain ⟨hl,he⟩:=h
 have key:∀ (m i:Nat),i+1+m=l.length→zkx (zK l) ⟨((zlT l i:Nat):Int),((i+1:Nat):Int)⟩=some ⟨((zlT l (l.length - 1):Nat):Int)⟩:=by
  intro m
  induction m with
  | zero =>
   intro i hi
   have e:i=l.length - 1:=by omega
   apply zk3
   unfold zK
   dsimp only
   rw [if_neg (by simp;omega),e]
  | succ m ih =>
   intro i hi
   have hc:=znR l i
   have hs:zK l ⟨((zlT l i:Nat):Int),((i+1:Nat):Int)⟩=some (.inl ⟨((zlT l (i+1):Nat):Int),((i+2:Nat):Int)⟩):=by
    obtain ⟨a1,a2⟩:=he (i+1) (by omega)
    obtain ⟨b1,b2⟩:=he (zlT l i) (by omega)
    have e1:wI (((i+1:Nat):Int)+1)=((i+2:Nat):Int):=by rw [zkU (by omega)];omega
    have e2:zlT l (i+1)=if zt4 (bev l (i+1)) (bev l (zlT l i))=true then i+1 else zlT l i:=rfl
    have eA:wI ((((bev l (i+1)).length:Nat):Int) - 1)=(((bev l (i+1)).length - 1:Nat):Int):=by rw [zkU (by omega)];omega
    have eB:wI ((((bev l (zlT l i)).length:Nat):Int) - 1)=(((bev l (zlT l i)).length - 1:Nat):Int):=by rw [zkU (by omega)];omega
    have fA:(nth l (i+1)).fEv=bev l (i+1):=rfl
    have fB:(nth l (zlT l i)).fEv=bev l (zlT l i):=rfl
    unfold zK
    simp only [qb,fA,fB,eA,eB,e1]
    rw [if_pos (by rw [decide_eq_true_eq];omega),zj9 (by omega),if_neg (by simp),zj9 (by omega),zj9 (by omega),zj9 (by omega),e2]
    have gA:(nth (bev l (i+1)) ((bev l (i+1)).length - 1)).fVe=lastV (bev l (i+1)):=rfl
    have gB:(nth (bev l (zlT l i)) ((bev l (zlT l i)).length - 1)).fVe=lastV (bev l (zlT l i)):=rfl
    rw [gA,gB]
    unfold zt4
    by_cases c1:lastV (bev l (zlT l i)) < lastV (bev l (i+1))
    ·rw [if_pos (decide_eq_true c1)]
     simp [c1]
    ·rw [if_neg (by simpa using c1)]
     by_cases c2:lastV (bev l (i+1))=lastV (bev l (zlT l i))
     ·rw [if_pos (by simpa using c2)]
      by_cases c3:(bev l (zlT l i)).length≤(bev l (i+1)).length
      ·simp [c1,c2,c3]
      ·simp [c1,c2,c3]
     ·rw [if_neg (by simpa using c2)]
      simp [c1,c2]
   rw [zlQ hs]
   exact ih (i+1) (by omega)
 have h1:zK l ⟨(-1),0⟩=some (.inl ⟨((zlT l 0:Nat):Int),((0+1:Nat):Int)⟩):=by
  unfold zK
  dsimp only
  rw [if_pos (by simp;omega),zj9 (by omega),if_pos (by simp)]
  rfl
 rw [zlQ h1,key (l.length - 1) 0 (by omega)]
 rfl
theorem zhG (l:List zka) (h1:0 < l.length) (h2:l.length≤60):zeV l=some (lastV l):=by
 have e:wI (((l.length:Nat):Int) - 1)=((l.length - 1:Nat):Int):=by rw [zkU (by omega)];omega
 unfold zeV lastV
 rw [e,zj9 (by omega),qb]
def zCq (l:List zkd):Prop:=∀ i k,i < l.length→k < i→(zk7 (bev l k) (bev l i)).1 < 0
theorem zxM (a b:List zka) (ha:0 < a.length∧a.length≤60) (hb:0 < b.length∧b.length≤60) (hc:(zk7 b a).1 < 0):∃ c,zcK ⟨a⟩ ⟨b⟩=some c∧decide (c > 0)=zt4 a b:=by
 refine ⟨if zu2 (lastV a) (lastV b)≠0 then zu2 (lastV a) (lastV b) else if zu2 ((a.length:Nat):Int) ((b.length:Nat):Int)≠0 then zu2 ((a.length:Nat):Int) ((b.length:Nat):Int) else (zk7 a b).1,?_,?_⟩
 ·unfold zcK
  simp only [zhG a ha.1 ha.2,zhG b hb.1 hb.2,zjm,zfu a b (by omega) (by omega),qa,zze]
 ·have hp:0 < (zk7 a b).1:=by rw [zqK b a];omega
  unfold zu2 zt4
  by_cases c1:lastV a < lastV b
  ·have n1:¬ lastV b < lastV a:=by omega
   have n2:¬ lastV a=lastV b:=by omega
   simp [c1,n1,n2]
  ·by_cases c2:lastV b < lastV a
   ·simp [c1,c2]
   ·have c3:lastV a=lastV b:=by omega
    by_cases d1:a.length < b.length
    ·simp [c3,d1]
    ·by_cases d2:b.length < a.length
     ·have d3:b.length≤a.length:=by omega
      have d4:¬ ((a.length:Nat):Int) < ((b.length:Nat):Int):=by omega
      simp [c3,d1,d2,d3]
     ·have d3:a.length=b.length:=by omega
      simp [c3,d3,hp]
theorem zwe (l:List zkd) (h:zBU l) (ho:zCq l) (h0:0 < l.length):zq l=some ⟨bev l (zlT l (l.length - 1))⟩:=by
 obtain ⟨hl,he⟩:=h
 unfold zq
 rw [if_neg (by simp;omega)]
 simp only [qa]
 rw [zj9 (by omega)]
 have key:∀ (m i:Nat),i+1+m=l.length→zkx (za l) ⟨((i+1:Nat):Int),bev l (zlT l i)⟩=some ⟨bev l (zlT l (l.length - 1))⟩:=by
  intro m
  induction m with
  | zero =>
   intro i hi
   have e:i=l.length - 1:=by omega
   apply zk3
   unfold za
   dsimp only
   rw [if_neg (by simp;omega),e]
  | succ m ih =>
   intro i hi
   have hc:=znR l i
   have hs:za l ⟨((i+1:Nat):Int),bev l (zlT l i)⟩=some (.inl ⟨((i+2:Nat):Int),bev l (zlT l (i+1))⟩):=by
    have e1:wI (((i+1:Nat):Int)+1)=((i+2:Nat):Int):=by rw [zkU (by omega)];omega
    have e2:zlT l (i+1)=if zt4 (bev l (i+1)) (bev l (zlT l i))=true then i+1 else zlT l i:=rfl
    obtain ⟨c,hc1,hc2⟩:=zxM (bev l (i+1)) (bev l (zlT l i)) (he (i+1) (by omega)) (he (zlT l i) (by omega)) (ho (i+1) (zlT l i) (by omega) (by omega))
    have hc1':zcK (nth l (i+1)) ⟨bev l (zlT l i)⟩=some c:=hc1
    unfold za
    simp only [qb,e1]
    rw [if_pos (by rw [decide_eq_true_eq];omega),zj9 (by omega),hc1',e2]
    simp only [qa]
    rw [hc2]
    cases zt4 (bev l (i+1)) (bev l (zlT l i))
    ·rfl
    ·rw [if_pos rfl,if_pos rfl,zj9 (by omega)];rfl
   rw [zlQ hs]
   exact ih (i+1) (by omega)
 have:=key (l.length - 1) 0 (by omega)
 have e0:((0+1:Nat):Int)=1:=rfl
 rw [e0] at this
 have e1:bev l (zlT l 0)=(nth l 0).fEv:=rfl
 rw [e1] at this
 rw [this]
 rfl
def zkM (t:zkh):List zka:=if t.fBr.length=0 then [] else bev t.fBr (zlT t.fBr (t.fBr.length - 1))
theorem zpf {t:zkh} (h:zld t=true):zBU t.fBr∧zCq t.fBr:=by
 refine ⟨⟨zla h,λ i hi=>?_⟩,λ i k hi hk=>?_⟩
 ·have ht:=znv h hi
  refine ⟨?_,zk8 (zkL ht)⟩
  unfold zlC at ht
  simp only [qi,decide_eq_true_eq] at ht
  exact ht.1
 ·unfold zld at h
  simp only [qi,decide_eq_true_eq,zll] at h
  exact ((h.2 i hi).2 k hk).1
theorem zfD (t:zkh) (h:zld t=true):zcy t=some (zkM t):=by
 obtain ⟨hf,ho⟩:=zpf h
 unfold zcy zkM
 by_cases h0:t.fBr.length=0
 ·rw [if_pos (by simp [h0]),if_pos h0]
 ·rw [if_neg (by simp;exact λ e=>h0 (by rw [e];rfl)),if_neg h0,zwe _ hf ho (by omega)]
  rfl
theorem znx {t:zkh} (h:zld t=true):(zkM t).length≤60:=by
 obtain ⟨hf,ho⟩:=zpf h
 unfold zkM
 by_cases h0:t.fBr.length=0
 ·rw [if_pos h0];simp
 ·rw [if_neg h0]
  have:=znR t.fBr (t.fBr.length - 1)
  exact (hf.2 _ (by omega)).2
theorem zt5 {t:zkh} (ht:zlb t):zls (zkM t):=by
 unfold zkM
 by_cases h0:t.fBr.length=0
 ·rw [if_pos h0];exact ⟨by simp,by simp⟩
 ·rw [if_neg h0]
  have:=znR t.fBr (t.fBr.length - 1)
  exact ht.2 _ (zkJ (by omega))
end Go.TL
set_option maxRecDepth 4000
namespace Go.TL
set_option maxHeartbeats 1000000 in
theorem zva (l:List ByteArray) (x:ByteArray) (hl:l.length≤2000):∀ (r:List ByteArray) (i:Nat) (p:Bool) (c:List ByteArray),l.drop i=r→i≤l.length→c.length≤2 * i →
  zkx (zX l x) ⟨p,(i:Int),c⟩=some ⟨(zmA x r p c).1,(zmA x r p c).2⟩:=by
 intro r
 induction r with
 | nil =>
  intro i p c hd hi hc
  have hi':i=l.length:=by
   have:=congrArg List.length hd
   rw [qbc,qQ] at this
   omega
  subst hi'
  exact zk3 (by unfold zX;rw [if_neg (by simp)];rfl)
 | cons y r ih =>
  intro i p c hd hi hc
  have hlt:i < l.length:=by
   have:=congrArg List.length hd
   rw [qbc,qP] at this
   omega
  have hy:nth l i=y:=by
   rw [zkQ hlt]
   have:=qm hlt
   rw [hd] at this
   exact (List.cons.inj this).1.symm
  have hr:l.drop (i+1)=r:=by
   have:=qm hlt
   rw [hd] at this
   exact (List.cons.inj this).2.symm
  have hstep:zX l x ⟨p,(i:Int),c⟩=some (.inl (if y=x then ⟨p,((i+1:Nat):Int),c⟩ else if (!p && sLt x y)=true then ⟨true,((i+1:Nat):Int),c++[x]++[y]⟩ else ⟨p,((i+1:Nat):Int),c++[y]⟩)):=by
   unfold zX
   have e1:=wS (i:=i) (by omega)
   simp only [qb,hy,e1,sGt]
   rw [if_pos (by simp;omega),zj9 (by omega),sEq]
   by_cases he:y=x
   ·rw [if_pos (by simp [he]),if_pos he]
   ·rw [if_neg (by simp [he]),if_neg he]
    have hg1:(c.length+1) * 16≤140737488355328:=by omega
    have hg2:(c.length+1+1) * 16≤140737488355328:=by omega
    cases p
    ·cases h:sLt x y
     ·simp [zj9 hg1]
     ·simp [zj9 hg1,zj9 hg2]
    ·simp [zj9 hg1]
  rw [zlQ hstep]
  unfold zmA
  by_cases he:y=x
  ·rw [if_pos he,if_pos he];exact ih (i+1) p c hr (by omega) (by omega)
  ·rw [if_neg he,if_neg he]
   split
   ·exact ih (i+1) true _ hr (by omega) (by simp only [qM,qn];omega)
   ·exact ih (i+1) p _ hr (by omega) (by simp only [qM,qn];omega)
theorem ziR (l:List ByteArray) (x:ByteArray) (hl:l.length≤2000):zb0 l x=some (znc l x):=by
 unfold zb0 znc
 obtain ⟨k,hk,hp⟩:=zdZ l x (by omega)
 rw [hk]
 simp only [qa]
 rw [hp]
 have:=zva l x hl l 0 (zk5 l x) [] rfl (by omega) (by simp)
 rw [show ((0:Nat):Int)=0 from rfl] at this
 rw [this]
 simp only [qa]
 have hlen:=zog x l [] (zk5 l x)
 simp only [qQ,qx] at hlen
 rw [zj9 (by omega)]
 cases h:zk5 l x
 ·have hm:x∉l:=λ e=>by rw [zof.2 e] at h;cases h
  have:=zo4 x l [] hm
  simp only [qbd] at this
  simp only [qv,if_false]
  rw [← this]
  split<;>rfl
 ·rw [znt]
  simp
theorem zkZ {γ τ β:Type} {step:γ→Option (γ⊕τ)} (mk:Int→β→γ) (n:Nat) (f:Nat→β) (late:β→τ)
  (hs:∀ i,i < n→step (mk i (f i))=some (.inl (mk (i+1:Nat) (f (i+1))))) (he:step (mk n (f n))=some (.inr (late (f n)))):zkx step (mk 0 (f 0))=some (late (f n)):=by
 have key:∀ (m i:Nat),i+m=n→zkx step (mk i (f i))=some (late (f n)):=by
  intro m
  induction m with
  | zero =>
   intro i h
   have e:i=n:=by omega
   subst e
   exact zk3 he
  | succ m ih =>
   intro i h
   rw [zlQ (hs i (by omega))]
   exact ih (i+1) (by omega)
 exact key n 0 (by omega)
def zn2 (l:List zka):List ByteArray:=(l.filter λ e=>decide (e.Kind=2)).map (·.Name)
theorem zoi (l:List zka):(zn2 l).length≤l.length:=by
 unfold zn2
 rw [qO]
 exact qd _ _
theorem zxN (l:List zka) (e:zka):zn2 (l++[e])=if e.Kind=2 then zn2 l++[e.Name] else zn2 l:=by
 unfold zn2
 rw [ql,List.map_append]
 by_cases h:e.Kind=2<;>simp [h]
theorem zxO (e:zka) (l:List zka):zn2 (e :: l)=(if e.Kind=2 then [e.Name] else [])++zn2 l:=by
 unfold zn2
 by_cases h:e.Kind=2<;>simp [h]
theorem zzi {s t:zkq} {e:zka} (h:znz s e=some t):t.fSi=s.fSi++(if e.Kind=2 then [e.Name] else []):=by
 unfold znz at h
 by_cases h1:e.Kind=1
 ·rw [if_pos h1] at h;cases h;simp [h1]
 rw [if_neg h1] at h
 by_cases h2:e.Kind=2
 ·rw [if_pos h2] at h
  split at h
  ·cases h
  ·cases h;simp [h2]
 rw [if_neg h2] at h
 rw [if_neg h2,qbe]
 split at h
 ·cases h;rfl
 ·split at h
  ·cases h;rfl
  ·split at h
   ·split at h
    ·cases h
    ·cases h;rfl
   ·cases h;rfl
theorem zwf {s t:zkq} {e:zka} (h:zkR s e=some t):t.fSi=s.fSi++(if e.Kind=2 then [e.Name] else []):=by
 unfold zkR at h
 split at h
 ·cases ho:znz s e with
  | none=>rw [ho] at h;cases h
  | some u =>
   rw [ho] at h
   simp only [qa] at h
   split at h
   ·cases h;exact zzi ho
   ·cases h
 ·cases h
theorem zti:∀ (r:List zka) (s:zkq) (n:Nat),(zlr r s n).2=n+r.length→(zlr r s n).1.fSi=s.fSi++zn2 r
 | [],s,n,_=>by simp [zlr,zn2]
 | e :: r,s,n,h=>by
  unfold zlr at h ⊢
  cases ha:zkR s e with
  | none =>
   rw [ha] at h
   simp only [qP] at h
   omega
  | some t =>
   rw [ha] at h
   simp only [qP] at h ⊢
   rw [zti r t (n+1) (by omega),zwf ha,zxO,qz]
theorem zsh {l:List zka} (h:zkP l=true):(zkX l).1.fSi=zn2 l:=by
 unfold zkP at h
 simp only [qi,decide_eq_true_eq] at h
 have:=zti l zp7 0 (by have:=h.1.2;unfold zkX at this;omega)
 exact this
theorem zhH (l:List zka) (hl:l.length≤60):zeW l=some (zn2 l):=by
 unfold zeW
 have key:=zkZ (step:=zcN l) (λ i c=>(⟨i,c⟩:zfB)) l.length (λ i=>zn2 (l.take i)) (λ c=>(⟨c⟩:zg4)) (λ i hi=>?_) ?_
 ·simp only [qh,qe] at key
  have e0:zn2 []=[]:=rfl
  rw [e0] at key
  rw [key];rfl
 ·have ht:(l.take i).length=i:=by rw [qf];omega
  have hc:=zoi (l.take i)
  have e1:=wS (i:=i) (by omega)
  unfold zcN
  simp only [qb,e1,← zlJ hi,zxN]
  rw [if_pos (by rw [decide_eq_true_eq];omega),zj9 (by omega)]
  by_cases h:(nth l i).Kind=2
  ·rw [if_pos (by simpa using h),zj9 (by omega),if_pos h]
  ·rw [if_neg (by simpa using h),if_neg h]
 ·unfold zcN
  dsimp only
  rw [if_neg (by simp)]
def stp (own out:List ByteArray) (n:ByteArray):List ByteArray:=if (zk5 own n || zk5 out n)=true then out else znc out n
theorem zvb {l:List ByteArray} {x:ByteArray} (h:zk5 l x=false):znc l x=l.takeWhile (λ y=>sLt y x)++x :: l.dropWhile (λ y=>sLt y x):=by
 unfold znc
 rw [h]
 simp
theorem zAL (own out:List ByteArray) (n:ByteArray):(stp own out n).length≤out.length+1:=by
 unfold stp
 split
 ·omega
 ·rename_i h
  have h':zk5 out n=false:=by
   cases h2:zk5 out n
   ·rfl
   ·rw [h2] at h;simp at h
  rw [zvb h',qM,qP]
  have:=congrArg List.length (qj (p:=λ y=>sLt y n) (l:=out))
  rw [qM] at this
  omega
theorem zp9 (own:List ByteArray):∀ (r out:List ByteArray),(r.foldl (stp own) out).length≤out.length+r.length
 | [],out=>by simp
 | n :: r,out=>by
  have h1:=zAL own out n
  have h2:=zp9 own r (stp own out n)
  simp only [qbf,qP]
  omega
theorem zwg {α β:Type} [Inhabited α] (f:β→α→β) (b:β) {l:List α} {i:Nat} (h:i < l.length):(l.take (i+1)).foldl f b=f ((l.take i).foldl f b) (nth l i):=by
 rw [← zlJ h,qba]
 rfl
theorem zAM (own out:List ByteArray) (c c':zkq×Int) (ho:c'.1.fSi=own) (h1:own.length≤60) (h2:c.1.fSi.length≤60) (h3:out.length≤1000) :
  zkx (zbH c c') ⟨0,out⟩=some ⟨c.1.fSi.foldl (stp own) out⟩:=by
 have key:=zkZ (step:=zbH c c') (λ i c=>(⟨i,c⟩:zfA)) c.1.fSi.length (λ i=>(c.1.fSi.take i).foldl (stp own) out) (λ c=>(⟨c⟩:zg3)) (λ i hi=>?_) ?_
 ·simpa only [qh,qe,List.foldl_nil] using key
 ·have hl:=zp9 own (c.1.fSi.take i) out
  have ht:(c.1.fSi.take i).length=i:=by rw [qf];omega
  have e1:=wS (i:=i) (by omega)
  obtain ⟨k1,g1,g2⟩:=zdZ own (nth c.1.fSi i) (by omega)
  obtain ⟨k2,g3,g4⟩:=zdZ ((c.1.fSi.take i).foldl (stp own) out) (nth c.1.fSi i) (by omega)
  have n1:decide (k1 < 0)=!zk5 own (nth c.1.fSi i):=by rw [← g2];by_cases h:k1 < 0<;>simp [h];omega
  have n2:decide (k2 < 0)=!zk5 ((c.1.fSi.take i).foldl (stp own) out) (nth c.1.fSi i):=by rw [← g4];by_cases h:k2 < 0<;>simp [h];omega
  unfold zbH
  simp only [qb,e1,ho,zwg _ _ hi]
  rw [if_pos (by rw [decide_eq_true_eq];omega),zj9 (by omega),g1]
  simp only [qa]
  rw [g3,ziR _ _ (by omega)]
  simp only [qa,n1,n2]
  have e5:stp own ((c.1.fSi.take i).foldl (stp own) out) (nth c.1.fSi i)=if (zk5 own (nth c.1.fSi i) || zk5 ((c.1.fSi.take i).foldl (stp own) out) (nth c.1.fSi i))=true then (c.1.fSi.take i).foldl (stp own) out else znc ((c.1.fSi.take i).foldl (stp own) out) (nth c.1.fSi i):=rfl
  rw [e5]
  cases zk5 own (nth c.1.fSi i)
  ·cases zk5 ((c.1.fSi.take i).foldl (stp own) out) (nth c.1.fSi i)<;>rfl
  ·rfl
 ·unfold zbH
  dsimp only
  rw [if_neg (by simp)]
def zn3 (l:List zkd):List ByteArray:=l.flatMap λ b=>zn2 b.fEv
theorem ztj (l:List zkd) (b:zkd):zn3 (l++[b])=zn3 l++zn2 b.fEv:=by unfold zn3;simp
theorem zqa {l:List zkd} (h:∀ b∈l,b.fEv.length≤60):(zn3 l).length≤60 * l.length:=by
 unfold zn3
 induction l with
 | nil=>simp
 | cons b r ih =>
  have h1:=ih λ x hx=>h x (by simp [hx])
  have h2:=h b (by simp)
  have h3:=zoi b.fEv
  rw [List.flatMap_cons,qM,qP]
  omega
def zoj (t:zkh):List ByteArray:=zn2 (zkM t)
def zkH (t:zkh):List ByteArray:=(zn3 t.fBr).foldl (stp (zoj t)) []
def zzj (t:zkh):List ByteArray:=zmH (zod ((zn3 t.fBr).filter λ n=>!zk5 (zoj t) n))
theorem zpg {t:zkh} (h:zld t=true) {i:Nat} (hi:i < t.fBr.length):zkP (nth t.fBr i).fEv=true∧(nth t.fBr i).fEv.length≤60:=⟨zkL (znv h hi),zk8 (zkL (znv h hi))⟩
theorem zph {t:zkh} (h:zld t=true):∀ b∈t.fBr,b.fEv.length≤60:=by
 intro b hb
 obtain ⟨i,hi,e⟩:=qr hb
 have:=(zpg h hi).2
 rw [zkQ hi,e] at this
 exact this
theorem zjn (t:zkh) (ht:zlb t) (hg:zld t=true):zfO t.fBr=some (zkH t):=by
 obtain ⟨hf,ho⟩:=zpf hg
 have h12:=zla hg
 unfold zfO
 rw [zgV _ hf]
 simp only [qa]
 unfold zwZ
 by_cases h0:t.fBr.length=0
 ·have e:t.fBr=[]:=List.length_eq_zero_iff.1 h0
  rw [if_pos h0,if_pos (by simp)]
  unfold zkH zn3
  rw [e];rfl
 have hc:=znR t.fBr (t.fBr.length - 1)
 have hlt:zlT t.fBr (t.fBr.length - 1) < t.fBr.length:=by omega
 have ec:zkM t=(nth t.fBr (zlT t.fBr (t.fBr.length - 1))).fEv:=by unfold zkM;rw [if_neg h0];rfl
 rw [if_neg h0,if_neg (by simp),zj9 (by omega),qb,← ec,zfC _ (zt5 ht)]
 simp only [qa]
 have hcs:(zkX (zkM t)).1.fSi=zoj t:=by rw [ec,zsh (zpg hg hlt).1,← ec];rfl
 have hol:(zoj t).length≤60:=Nat.le_trans (zoi _) (znx hg)
 have key:=zkZ (step:=zcM t.fBr ((zkX (zkM t)).1,(((zkX (zkM t)).2:Nat):Int))) (λ i c=>(⟨i,c⟩:zfz)) t.fBr.length (λ i=>(zn3 (t.fBr.take i)).foldl (stp (zoj t)) []) (λ c=>(⟨c⟩:zg2)) (λ i hi=>?_) ?_
 ·simp only [qh,qe] at key
  have e0:(zn3 []).foldl (stp (zoj t)) []=[]:=rfl
  rw [e0] at key
  rw [key];rfl
 ·obtain ⟨g1,g2⟩:=zpg hg hi
  have hs:=zoi (nth t.fBr i).fEv
  have hal:=zqa (l:=t.fBr.take i) λ b hb=>zph hg b (qq hb)
  have ht':(t.fBr.take i).length=i:=by rw [qf];omega
  have hfl:=zp9 (zoj t) (zn3 (t.fBr.take i)) []
  have e1:=wS (i:=i) (by omega)
  simp only [qQ,qx] at hfl
  unfold zcM
  simp only [qb,e1,← zlJ hi,ztj,qba]
  rw [if_pos (by rw [decide_eq_true_eq];omega),zj9 (by omega),zfC _ (ht.2 _ (zkJ hi))]
  simp only [qa]
  rw [zAM (zoj t) _ _ _ hcs hol (by rw [zsh g1];omega) (by omega)]
  simp only [qa]
  rw [zsh g1]
 ·unfold zcM
  dsimp only
  rw [if_neg (by simp)]
theorem zxP (own l:List ByteArray) (n:ByteArray):(l++[n]).filter (λ n=>!zk5 own n)=if zk5 own n=true then l.filter (λ n=>!zk5 own n) else l.filter (λ n=>!zk5 own n)++[n]:=by
 rw [ql]
 cases h:zk5 own n<;>simp [h]
theorem zt6 (own out l:List ByteArray) (h1:own.length≤60) (h2:l.length≤60) (h3:out.length≤1000) :
  zkx (zaq l own) ⟨0,out⟩=some ⟨out++l.filter λ n=>!zk5 own n⟩:=by
 have key:=zkZ (step:=zaq l own) (λ i c=>(⟨i,c⟩:zdH)) l.length (λ i=>out++(l.take i).filter λ n=>!zk5 own n) (λ c=>(⟨c⟩:zgu)) (λ i hi=>?_) ?_
 ·simpa only [qh,qe,List.filter_nil,qbe] using key
 ·have hl:=qd (λ n=>!zk5 own n) (l.take i)
  have ht:(l.take i).length=i:=by rw [qf];omega
  have e1:=wS (i:=i) (by omega)
  unfold zaq
  simp only [qb,e1,← zlJ hi,zxP]
  rw [if_pos (by rw [decide_eq_true_eq];omega),zj9 (by omega),zmJ _ _ (by omega)]
  simp only [qa]
  cases zk5 own (nth l i)
  ·rw [if_pos (by rfl),zj9 (by rw [qM];omega),if_neg (by simp),qz]
  ·rw [if_neg (by simp),if_pos rfl]
 ·unfold zaq
  dsimp only
  rw [if_neg (by simp)]
theorem zio (t:zkh) (hg:zld t=true):zdt t=some (zzj t):=by
 have h12:=zla hg
 have hol:(zoj t).length≤60:=Nat.le_trans (zoi _) (znx hg)
 unfold zdt
 rw [zfD t hg]
 simp only [qa]
 rw [zhH _ (znx hg)]
 simp only [qa]
 have key:=zkZ (step:=zbb t (zn2 (zkM t))) (λ i c=>(⟨i,c⟩:zdG)) t.fBr.length (λ i=>(zn3 (t.fBr.take i)).filter λ n=>!zk5 (zoj t) n) (λ c=>(⟨c⟩:zgt)) (λ i hi=>?_) ?_
 ·simp only [qh,qe] at key
  have e0:((zn3 []).filter λ n=>!zk5 (zoj t) n)=[]:=rfl
  rw [e0] at key
  rw [key]
  have hal:=zqa (l:=t.fBr) (zph hg)
  have hl:=qd (λ n=>!zk5 (zoj t) n) (zn3 t.fBr)
  simp only [qa]
  unfold zc3
  rw [zj9 (by omega)]
  simp only [qa]
  rw [zj9 (zqC _)]
  unfold zb5
  rw [zj9 (by rw [zqC];omega)]
  rfl
 ·obtain ⟨g1,g2⟩:=zpg hg hi
  have hs:=zoi (nth t.fBr i).fEv
  have hal:=zqa (l:=t.fBr.take i) λ b hb=>zph hg b (qq hb)
  have ht':(t.fBr.take i).length=i:=by rw [qf];omega
  have hl:=qd (λ n=>!zk5 (zoj t) n) (zn3 (t.fBr.take i))
  have e1:=wS (i:=i) (by omega)
  unfold zbb
  simp only [qb,e1,← zlJ hi,ztj,ql]
  rw [if_pos (by rw [decide_eq_true_eq];omega),zj9 (by omega),zhH _ g2]
  simp only [qa]
  have:=zt6 (zoj t) ((zn3 (t.fBr.take i)).filter λ n=>!zk5 (zoj t) n) (zn2 (nth t.fBr i).fEv) hol (by omega) (by omega)
  unfold zoj at this ⊢
  rw [this]
  rfl
 ·unfold zbb
  dsimp only
  rw [if_neg (by simp)]
theorem zt7 {α:Type} {lt:α→α→Bool} (hi:∀ x,lt x x=false) (ht:∀ x y z,lt x y=true→lt y z=true→lt x z=true):∀ {a b:List α},(a.Pairwise λ x y=>lt x y=true)→(b.Pairwise λ x y=>lt x y=true)→(∀ x,x∈a↔x∈b)→a=b
 | [],b,_,_,h=>by
  cases b with
  | nil=>rfl
  | cons y q=>have:=(h y).2 (by simp);simp at this
 | x :: r,[],_,_,h=>by have:=(h x).1 (by simp);simp at this
 | x :: r,y :: q,ha,hb,h=>by
  rw [qc] at ha hb
  have e:x=y:=by
   rcases List.mem_cons.1 ((h x).1 (by simp)) with h1 | h1
   ·exact h1
   ·rcases List.mem_cons.1 ((h y).2 (by simp)) with h2 | h2
    ·exact h2.symm
    ·have:=ht x y x (ha.1 y h2) (hb.1 x h1)
     rw [hi] at this;cases this
  subst e
  have hx:∀ z,lt x z=true→z≠x:=λ z hz e=>by rw [e,hi] at hz;cases hz
  rw [zt7 hi ht ha.2 hb.2 λ z=>?_]
  constructor
  ·intro hz
   rcases List.mem_cons.1 ((h z).1 (qk _ hz)) with h1 | h1
   ·exact absurd h1 (hx z (ha.1 z hz))
   ·exact h1
  ·intro hz
   rcases List.mem_cons.1 ((h z).2 (qk _ hz)) with h1 | h1
   ·exact absurd h1 (hx z (hb.1 z hz))
   ·exact h1
abbrev zqL (l:List ByteArray):Prop:=l.Pairwise λ x y=>sLt x y=true
theorem zzk {l:List ByteArray} {x:ByteArray} (h:zqL l) (hx:x∉l):zqL (l.takeWhile (λ y=>sLt y x)++x :: l.dropWhile (λ y=>sLt y x)):=by
 induction l with
 | nil=>simp [zqL]
 | cons y r ih =>
  rw [zqL,qc] at h
  have hne:y≠x:=λ e=>hx (by simp [e])
  have hr:x∉r:=λ e=>hx (by simp [e])
  cases hlt:sLt y x
  ·have hxy:sLt x y=true:=by
    rcases zoB x y with h1 | h1 | h1
    ·exact h1
    ·exact absurd h1.symm hne
    ·rw [hlt] at h1;cases h1
   simp only [qt,qu,hlt,qv,if_false,qbd]
   rw [zqL,qc,qc]
   exact ⟨λ z hz=>by
    rcases List.mem_cons.1 hz with e | e
    ·rw [e];exact hxy
    ·exact zmR hxy (h.1 z e),h⟩
  ·simp only [qt,qu,hlt,if_true,List.cons_append]
   rw [zqL,qc]
   refine ⟨λ z hz=>?_,ih h.2 hr⟩
   rcases List.mem_append.1 hz with e | e
   ·exact h.1 z (qo _ e)
   ·rcases List.mem_cons.1 e with e | e
    ·rw [e];exact hlt
    ·exact h.1 z (qp _ e)
theorem zzl {l:List ByteArray} {x z:ByteArray}:z∈l.takeWhile (λ y=>sLt y x)++x :: l.dropWhile (λ y=>sLt y x)↔z=x∨z∈l:=by
 have:=qj (p:=λ y=>sLt y x) (l:=l)
 constructor
 ·intro h
  rcases List.mem_append.1 h with e | e
  ·exact .inr (qo _ e)
  ·rcases List.mem_cons.1 e with e | e
   ·exact .inl e
   ·exact .inr (qp _ e)
 ·intro h
  rcases h with e | e
  ·simp [e]
  ·rw [← this] at e
   rcases List.mem_append.1 e with e | e
   ·exact List.mem_append.2 (.inl e)
   ·exact List.mem_append.2 (.inr (qk _ e))
theorem zBV (own out:List ByteArray) (n:ByteArray) (h:zqL out):zqL (stp own out n)∧∀ z,z∈stp own out n↔z∈out∨(z=n∧zk5 own n=false):=by
 unfold stp
 cases ho:zk5 own n
 ·cases hn:zk5 out n
  ·have hx:n∉out:=λ e=>by rw [zof.2 e] at hn;cases hn
   rw [if_neg (by simp),zvb hn]
   refine ⟨zzk h hx,λ z=>?_⟩
   rw [zzl]
   simp [or_comm]
  ·have hx:n∈out:=zof.1 hn
   rw [if_pos (by simp)]
   refine ⟨h,λ z=>⟨.inl,λ e=>?_⟩⟩
   rcases e with e | e
   ·exact e
   ·rw [e.1];exact hx
 ·rw [if_pos (by simp)]
  exact ⟨h,λ z=>by simp⟩
theorem zt8 (own:List ByteArray):∀ (r out:List ByteArray),zqL out→zqL (r.foldl (stp own) out)∧∀ z,z∈r.foldl (stp own) out↔z∈out∨(z∈r∧zk5 own z=false)
 | [],out,h=>⟨h,λ z=>by simp⟩
 | n :: r,out,h=>by
  obtain ⟨h1,h2⟩:=zBV own out n h
  obtain ⟨h3,h4⟩:=zt8 own r (stp own out n) h1
  refine ⟨h3,λ z=>?_⟩
  rw [qbf,h4,h2,List.mem_cons]
  constructor
  ·rintro ((h | ⟨rfl,h⟩) | ⟨h,h'⟩)
   ·exact .inl h
   ·exact .inr ⟨.inl rfl,h⟩
   ·exact .inr ⟨.inr h,h'⟩
  ·rintro (h | ⟨rfl | h,h'⟩)
   ·exact .inl (.inl h)
   ·exact .inl (.inr ⟨rfl,h'⟩)
   ·exact .inr ⟨h,h'⟩
theorem zvc:∀ a b:List UInt8,zlc a b=true↔a < b
 | _,[]=>by simp [zlc]
 | [],_ :: _=>by simp [zlc]
 | x :: r,y :: q=>by
  rw [List.cons_lt_cons_iff,← zvc r q]
  simp [zlc]
theorem zzm:(λ x y:List UInt8=>decide (x≤y))=λ x y=>!zlc y x:=by
 funext x y
 have:x≤y↔¬ y < x:=List.not_lt.symm
 rw [← zvc] at this
 cases h:zlc y x
 ·rw [h] at this;simpa using this
 ·rw [h] at this;simpa using this
theorem zq9 {zs:List (List UInt8)} {x:List UInt8}:x∈Go.Lib.compact zs↔x∈zs:=by
 unfold Go.Lib.compact Go.Lib.compactUpTo
 rw [qy]
 constructor
 ·rintro ⟨j,hj,rfl⟩
  have:=(List.mem_filter.1 hj).1
  rw [List.mem_range] at this
  simp [this]
 ·intro hx
  obtain ⟨j,hj,rfl⟩:=qr hx
  have key:∀ j (hj:j < zs.length),∃ a,a∈(List.range zs.length).filter (Go.Lib.keeps zs.toArray)∧zs.toArray[a]! = zs[j]:=by
   intro j
   induction j with
   | zero =>
    intro hj
    exact ⟨0,List.mem_filter.2 ⟨List.mem_range.2 hj,Go.Lib.keeps_lt_one _ 0 (by omega)⟩,by simp [hj]⟩
   | succ j ih =>
    intro hj
    cases hk:Go.Lib.keeps zs.toArray (j+1)
    ·obtain ⟨a,h1,h2⟩:=ih (by omega)
     refine ⟨a,h1,?_⟩
     rw [h2]
     unfold Go.Lib.keeps at hk
     simp at hk
     have hj':j < zs.length:=by omega
     simp [hj,hj'] at hk
     exact hk.symm
    ·exact ⟨j+1,List.mem_filter.2 ⟨List.mem_range.2 hj,hk⟩,by simp [hj]⟩
  exact key j hj
theorem zvd {zs:List (List UInt8)} (h:zs.Pairwise λ x y=>(!zlc y x)=true):(Go.Lib.compact zs).Pairwise λ x y=>zlc x y=true:=by
 have hle:∀ i j,i < j→j < zs.length→zlc zs.toArray[j]! zs.toArray[i]! = false:=by
  intro i j hij hj
  have:=List.pairwise_iff_getElem.1 h i j (by omega) hj hij
  simpa [hj,show i < zs.length by omega] using this
 unfold Go.Lib.compact Go.Lib.compactUpTo
 rw [qbb,List.pairwise_filter]
 rw [List.pairwise_iff_getElem]
 intro i j hi hj hij h1 h2
 simp only [List.getElem_range,List.length_range] at hi hj h1 h2 ⊢
 have hne:zs.toArray[j]!≠zs.toArray[j - 1]!:=by
  unfold Go.Lib.keeps at h2
  rw [decide_eq_true_eq] at h2
  exact h2.resolve_left (by omega)
 have h3:=hle (j - 1) j (by omega) hj
 have h4:zlc zs.toArray[j - 1]! zs.toArray[j]! = true:=by
  rcases zr4 zs.toArray[j - 1]! zs.toArray[j]! with h | h | h
  ·exact h
  ·exact absurd h.symm hne
  ·rw [h3] at h;cases h
 by_cases e:i=j - 1
 ·rw [e];exact h4
 ·have h5:=hle i (j - 1) (by omega) (by omega)
  rcases zr4 zs.toArray[i]! zs.toArray[j - 1]! with h | h | h
  ·exact zo2 _ _ _ h h4
  ·rw [h];exact h4
  ·rw [h5] at h;cases h
theorem zzn (a b:List UInt8):sLt (znO a) (znO b)=zlc a b:=by
 unfold sLt
 rw [znf,znf]
 unfold znO
 rfl
theorem zzo (l:List ByteArray):zqL (zmH (zod l))∧∀ z,z∈zmH (zod l)↔z∈l:=by
 have e:(zod l).map zl5=(l.map zl5).mergeSort λ x y=>decide (x≤y):=by
  unfold zod
  rw [List.map_map]
  have:zl5 ∘ znO=id:=by funext x;exact zpL x
  rw [this,List.map_id]
 constructor
 ·unfold zmH zqL
  rw [qbb,e]
  simp only [zzn]
  refine zvd ?_
  rw [zzm]
  exact List.pairwise_mergeSort (λ a b c h1 h2=>by
   have h1':zlc b a=false:=by simpa using h1
   have h2':zlc c b=false:=by simpa using h2
   simpa using zxF c b a h2' h1') (λ a b=>by
   rcases zr4 a b with h | h | h
   ·have:zlc b a=false:=by cases h':zlc b a with
     | false=>rfl
     | true=>have:=zo2 a b a h h';rw [zt3] at this;cases this
    simp [this]
   ·rw [h,zt3];rfl
   ·have:zlc a b=false:=by cases h':zlc a b with
     | false=>rfl
     | true=>have:=zo2 b a b h h';rw [zt3] at this;cases this
    simp [this]) _
 ·intro z
  unfold zmH
  rw [qy]
  constructor
  ·rintro ⟨x,hx,rfl⟩
   rw [zq9,e,qw,qy] at hx
   obtain ⟨y,hy,rfl⟩:=hx
   rw [zpK];exact hy
  ·intro hz
   refine ⟨zl5 z,?_,zpK z⟩
   rw [zq9,e,qw]
   exact List.mem_map.2 ⟨z,hz,rfl⟩
theorem zxQ (t:zkh):zzj t=zkH t:=by
 obtain ⟨h1,h2⟩:=zzo ((zn3 t.fBr).filter λ n=>!zk5 (zoj t) n)
 obtain ⟨h3,h4⟩:=zt8 (zoj t) (zn3 t.fBr) [] .nil
 refine zt7 (lt:=sLt) zlt (λ x y z=>zmR) h1 h3 λ x=>?_
 unfold zzj zkH
 rw [h2,h4,List.mem_filter]
 simp
def zw0 (t:zkh):List ByteArray×Bool:=if zld t=true then (zkH t,true) else ([],false)
theorem ztk (t:zkh):(zw0 t).1.length≤720:=by
 unfold zw0
 cases hg:zld t
 ·simp
 rw [if_pos rfl]
 have h1:=zp9 (zoj t) (zn3 t.fBr) []
 have h2:=zqa (l:=t.fBr) (zph hg)
 have h3:=zla hg
 unfold zkH
 simp only [qQ,qx] at h1
 simp only;omega
end Go.TL
set_option maxRecDepth 4000
namespace Go.TL
def zok (r:zkb):Bool:=r.fVe.tmod 10 == r.Id
end Go.TL

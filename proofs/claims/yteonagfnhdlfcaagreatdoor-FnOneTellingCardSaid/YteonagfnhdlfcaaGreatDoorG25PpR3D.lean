import Derived.Test.YteonagfnhdlfcaaGreatDoorG24PpR2D
import Derived.Test.YteonagfnhdlfcaaGreatDoorG19PlR1
open List renaming length_append → qM, length_cons → qP, length_nil → qQ, length_take → qe, length_drop → qg, length_singleton → qh, drop_eq_getElem_cons → qi, getElem_of_mem → qj, mem_append → qn, mem_of_mem_take → qr, mem_of_mem_drop → qt, mem_singleton → qu, nil_append → qv
open Option renaming bind_some → qa
open Int renaming toNat_natCast → qb, lt_irrefl → qw, ofNat_lt → qz
open Bool renaming false_eq_true → qc, and_eq_true → qd, eq_iff_iff → qf, not_true → qk, true_and → ql, false_or → qm, not_eq_true → qo, or_eq_true → qp, not_false → qq, true_or → qx
open Nat renaming lt_or_ge → qy
set_option linter.unusedSimpArgs false
set_option linter.unusedVariables false
noncomputable section
set_option maxRecDepth 4000
namespace Go.TL
def zu3 (x:zka):Prop:=zl6 x.Id∧zl6 x.fVe∧zl6 x.Kind∧zoA x.Name
def zls (x:(List zka)):Prop:=x.length≤9223372036854775807∧∀ y∈x,zu3 y
def zxJ (x:zkd):Prop:=zls x.fEv
def zns (x:(List zkd)):Prop:=x.length≤9223372036854775807∧∀ y∈x,zxJ y
def zlb (x:zkh):Prop:=zns x.fBr
end Go.TL
namespace Go.TL
theorem ztf:∀ a b:List UInt8,zlc a b=true∨a=b∨zlc b a=true
 | [],[]=>.inr (.inl rfl)
 | [],_ :: _=>.inl rfl
 | _ :: _,[]=>.inr (.inr rfl)
 | x :: r,y :: q=>by
  simp only [zlc,qp,qd,decide_eq_true_eq,beq_iff_eq,List.cons.injEq]
  rcases Nat.lt_trichotomy x.toNat y.toNat with h | h | h
  ·exact .inl (.inl (UInt8.lt_iff_toNat_lt.2 h))
  ·have e:x=y:=UInt8.toNat_inj.1 h
   subst e
   rcases ztf r q with h | h | h
   ·exact .inl (.inr ⟨rfl,h⟩)
   ·exact .inr (.inl ⟨rfl,h⟩)
   ·exact .inr (.inr (.inr ⟨rfl,h⟩))
  ·exact .inr (.inr (.inl (UInt8.lt_iff_toNat_lt.2 h)))
theorem zlt (a:ByteArray):sLt a a=false:=zp6 _
theorem zmR {a b c:ByteArray} (h1:sLt a b=true) (h2:sLt b c=true):sLt a c=true:=zq7 _ _ _ h1 h2
theorem zm2 {a b:ByteArray} (h:sLt a b=true):sLt b a=false:=by
 cases h2:sLt b a with
 | false=>rfl
 | true=>have:=zmR h h2;rw [zlt] at this;cases this
theorem zoB (a b:ByteArray):sLt a b=true∨a=b∨sLt b a=true:=by
 rcases ztf a.toList b.toList with h | h | h
 ·exact .inl h
 ·exact .inr (.inl (ztd h))
 ·exact .inr (.inr h)
theorem sGt (a b:ByteArray):(!(sLt a b || a.toList == b.toList))=sLt b a:=by
 rw [sEq]
 rcases zoB a b with h | h | h
 ·simp [h,zm2 h]
 ·subst h;simp [zlt]
 ·have hn:a≠b:=λ e=>by subst e;rw [zlt] at h;cases h
  simp [h,zm2 h,hn]
def zk5 (l:List ByteArray) (s:ByteArray):Bool:=l.any λ x=>decide (x=s)
theorem zof {l:List ByteArray} {s:ByteArray}:zk5 l s=true↔s∈l:=by
 unfold zk5
 rw [List.any_eq_true]
 exact ⟨λ ⟨x,h1,h2⟩=>by rw [decide_eq_true_eq] at h2;rw [← h2];exact h1,λ h=>⟨s,h,by simp⟩⟩
def atS (l:List ByteArray) (s:ByteArray):Option Nat:=zlp (λ i=>decide (nth l i=s)) l.length
theorem zr9 (l:List ByteArray) (s:ByteArray):(atS l s).isSome=zk5 l s:=zmz l λ x=>decide (x=s)
theorem zjO (l:List ByteArray) (s:ByteArray) (hl:l.length≤9223372036854775807):zbC l s=some (match atS l s with | some i=>(i:Int) | none=>-1):=by
 unfold zbC
 have key:=zlm (step:=zdW l s) (λ i=>(⟨i⟩:zgk)) l.length (λ i=>decide (nth l i=s)) (λ i=>(.inl ⟨i⟩:zhE⊕Unit)) (.inr ()) (λ i hi hv=>?_) ?_
 ·rw [key]
  unfold atS
  cases zlp (λ i=>decide (nth l i=s)) l.length<;>rfl
 ·unfold zdW
  simp (disch:=omega) only [decide_eq_true_eq,if_pos,zj9,qb,zkU,qa,sEq]
  by_cases h:nth l i=s
  ·rw [if_pos h,if_pos h]
  ·rw [if_neg h,if_neg h];rfl
 ·unfold zdW
  rw [if_neg (by simp)]
theorem zdZ (l:List ByteArray) (s:ByteArray) (hl:l.length≤9223372036854775807):∃ k,zbC l s=some k∧decide (k ≥ 0)=zk5 l s:=by
 refine ⟨_,zjO l s hl,?_⟩
 rw [← zr9]
 cases atS l s with
 | none=>rfl
 | some i=>simp
theorem zmJ (l:List ByteArray) (s:ByteArray) (hl:l.length≤9223372036854775807):zF l s=some (zk5 l s):=by
 unfold zF zdE
 have key:=zlm (step:=zan l s) (λ i=>(⟨i⟩:zcq)) l.length (λ i=>decide (nth l i=s)) (λ i=>(.inl ⟨i⟩:zfL⊕Unit)) (.inr ()) (λ i hi hv=>?_) ?_
 ·rw [key,← zr9]
  unfold atS
  cases zlp (λ i=>decide (nth l i=s)) l.length<;>simp
 ·unfold zan
  simp (disch:=omega) only [decide_eq_true_eq,if_pos,zj9,qb,zkU,qa,sEq]
  by_cases h:nth l i=s
  ·rw [if_pos h.symm,if_pos h]
  ·rw [if_neg (λ e=>h e.symm),if_neg h];rfl
 ·unfold zan
  rw [if_neg (by simp)]
theorem zm3 {α:Type} [Inhabited α] {l:List α} {i k:Nat} (h:k < i):nth (l.take i) k=nth l k:=by
 unfold nth
 rw [List.getD_eq_getElem?_getD,List.getD_eq_getElem?_getD,List.getElem?_take_of_lt h]
def okL (r:Bool) (l:List ByteArray):Bool :=
 decide (l.length≤30) && zmP (λ i=>zlq (nth l i) && zmP (λ k=>!decide (nth l k=nth l i) && (!r || !decide (k+1=i) || !sLt (nth l i) (nth l k))) i) l.length
theorem zhj (r:Bool) (l:List ByteArray) (hl:zr7 l):zdX l r=some (okL r l):=by
 have h1:=hl.1
 unfold zdX okL
 have key:=zlx (step:=zcd l r) (λ i=>(⟨i⟩:zcb)) l.length (λ i=>zlq (nth l i) && zmP (λ k=>!decide (nth l k=nth l i) && (!r || !decide (k+1=i) || !sLt (nth l i) (nth l k))) i) (.inr ():Unit⊕Unit) (.inl ()) (λ i hi hv=>?_) (λ _=>?_)
 ·rw [key]
  have hsz:decide (((l.length:Nat):Int)≤30)=decide (l.length≤30):=by congr 1;apply propext;omega
  cases zmP (λ i=>zlq (nth l i) && zmP (λ k=>!decide (nth l k=nth l i) && (!r || !decide (k+1=i) || !sLt (nth l i) (nth l k))) i) l.length
  ·simp
  ·simp [hsz]
 ·have hm:zoA (nth l i):=hl.2 _ (zkJ hi)
  unfold zcd
  rw [if_pos (by simp;omega),zj9 (by simp;omega)]
  simp only [qb]
  rw [zgP _ hm]
  simp only [qa]
  cases hn:zlq (nth l i)
  ·simp
  have ht:(l.take i).length=i:=by rw [qe];omega
  rw [if_neg (by simp),zj9 (by simp;omega)]
  have key2:=zlx (step:=zcc l (⟨(i:Int)⟩:zcb) r) (λ k=>(⟨k⟩:ze8)) i (λ k=>!decide (nth l k=nth l i) && (!r || !decide (k+1=i) || !sLt (nth l i) (nth l k))) (.inr ():Unit⊕Unit) (.inl ()) (λ k hk _=>?_) (λ _=>?_)
  ·rw [key2,ql]
   cases zmP (λ k=>!decide (nth l k=nth l i) && (!r || !decide (k+1=i) || !sLt (nth l i) (nth l k))) i
   ·simp
   ·simp (disch:=omega) [zkU]
  ·unfold zcc
   simp only [qb,ht]
   rw [if_pos (by simp;omega),zj9 (by omega)]
   simp (disch:=omega) only [zm3 hk,sGt,zkU]
   rw [sEq]
   have ek:(((k:Int)) == (i:Int) - 1)=decide (k+1=i):=by
    rw [qf,beq_iff_eq,decide_eq_true_eq];omega
   rw [ek]
   by_cases he:nth l k=nth l i
   ·simp [he]
   ·cases r
    ·simp [he]
    ·by_cases h2:k+1=i
     ·cases h3:sLt (nth l i) (nth l k)<;>(simp [he,h2,h3];try omega)
     ·simp [he,h2]
  ·unfold zcc
   simp only [qb,ht]
   rw [if_neg (by simp)]
 ·unfold zcd
  rw [if_neg (by simp)]
theorem zhF (l:List ByteArray) (hl:l.length≤9223372036854775807):zeN l 30=some (decide (l.length≤30) && l.all zlq):=by
 unfold zeN
 by_cases h:l.length≤30
 rotate_left
 ·rw [if_neg (by simp;omega)];simp [h]
 rw [if_pos (by simp;omega)]
 unfold zN zV
 have key:=zlm (step:=zi l) (λ i=>(⟨i⟩:zM)) l.length (λ i=>!zlq (nth l i)) (λ i=>(.inl ⟨i⟩:zbd⊕Unit)) (.inr ()) (λ i hi hv=>?_) ?_
 ·rw [key]
  have e:=zmz l λ x=>!zlq x
  have e2:(l.any λ x=>!zlq x)=!l.all zlq:=by
   rw [qf];simp
  rw [e2] at e
  cases hf:zlp (λ i=>!zlq (nth l i)) l.length with
  | none=>rw [hf] at e;simp at e;simp [h];exact e
  | some i=>rw [hf] at e;simp at e;simp [h];exact e
 ·unfold zi zfy
  simp (disch:=omega) only [decide_eq_true_eq,if_pos,zj9,qb,zkU,qa,zch]
  cases zlq (nth l i)<;>rfl
 ·unfold zi
  rw [if_neg (by simp)]
def zu4 (l:List ByteArray):Bool:=zmP (λ i=>!zk5 (l.take i) (nth l i)) l.length
theorem zhk (l:List ByteArray) (hl:l.length≤9223372036854775807):zdY l=some (zu4 l):=by
 unfold zdY zu4
 have key:=zlx (step:=zce l) (λ i=>(⟨i⟩:ze9)) l.length (λ i=>!zk5 (l.take i) (nth l i)) (.inr ():Unit⊕Unit) (.inl ()) (λ i hi hv=>?_) (λ _=>?_)
 ·rw [key]
  cases zmP (λ i=>!zk5 (l.take i) (nth l i)) l.length<;>simp
 ·unfold zce
  rw [if_pos (by simp;omega),zj9 (by simp;omega),zj9 (by simp;omega)]
  simp only [qb]
  rw [zmJ _ _ (by rw [qe];omega)]
  simp only [qa]
  rw [zkU (by omega)]
  cases zk5 (l.take i) (nth l i)<;>rfl
 ·unfold zce
  rw [if_neg (by simp)]
theorem zsa (a b:ByteArray):zcD a b=some (sLt a b):=by
 unfold zcD zaE
 simp
def zsb (l:List ByteArray):Bool:=zmP (λ i=>decide (i=0) || !sLt (nth l i) (nth l (i - 1))) l.length
theorem zi8 (l:List ByteArray) (hl:l.length≤9223372036854775807):zbe l=some (zsb l):=by
 have key:∀ m:Nat,m < l.length→(∀ j,m < j→j < l.length→(decide (j=0) || !sLt (nth l j) (nth l (j - 1)))=true)→zkx (zB l) ⟨(m:Int)⟩=some (if zsb l=true then .inr () else .inl ()):=by
  intro m
  induction m with
  | zero =>
   intro hm hv
   have hs:zsb l=true:=zll.2 λ i hi=>by
    by_cases h0:i=0
    ·simp [h0]
    ·exact hv i (by omega) hi
   rw [zk3 (r:=.inr ()) (by unfold zB;rw [if_neg (by simp)]),if_pos hs]
  | succ m ih =>
   intro hm hv
   have h1:zB l ⟨((m+1:Nat):Int)⟩=some (if sLt (nth l (m+1)) (nth l m)=true then .inr (.inl ()) else .inl ⟨(m:Int)⟩):=by
    unfold zB
    have e:wI (((m+1:Nat):Int) - 1)=(m:Int):=by rw [zkU (by omega)];omega
    simp only [e,qb]
    rw [if_pos (by simp),zj9 (by omega),zj9 (by omega),zsa]
    simp only [qa]
    split<;>rfl
   by_cases hc:sLt (nth l (m+1)) (nth l m)=true
   ·rw [if_pos hc] at h1
    have hs:¬ zsb l=true:=λ h=>by
     have:=zll.1 h (m+1) hm
     simp [hc] at this
    rw [zk3 h1,if_neg hs]
   ·rw [if_neg hc] at h1
    rw [zlQ h1]
    exact ih (by omega) λ j hj hjl=>by
     by_cases e:j=m+1
     ·subst e;simp at hc;simp [hc]
     ·exact hv j (by omega) hjl
 unfold zbe
 rcases Nat.eq_zero_or_pos l.length with h0 | h0
 ·have hs:zsb l=true:=zll.2 λ i hi=>by omega
  rw [h0]
  have e:wI (((0:Nat):Int) - 1)=-1:=by rw [zkU (by omega)];rfl
  rw [e,zk3 (r:=.inr ()) (by unfold zB;rw [if_neg (by decide)]),hs]
  rfl
 ·have e:wI (((l.length:Nat):Int) - 1)=((l.length - 1:Nat):Int):=by rw [zkU (by omega)];omega
  rw [e,key (l.length - 1) (by omega) λ j hj hjl=>by omega]
  cases zsb l<;>rfl
theorem ztg (l:List ByteArray):okL false l=((decide (l.length≤30) && l.all zlq) && zu4 l):=by
 unfold okL zu4
 rw [← zp4 l zlq,qf]
 simp only [qd,zll,qq,qx,and_true,Bool.not_eq_true',← qo,zof,decide_eq_true_eq]
 constructor
 ·rintro ⟨h1,h2⟩
  refine ⟨⟨h1,λ i hi=>(h2 i hi).1⟩,λ i hi hm=>?_⟩
  obtain ⟨k,hk,e⟩:=qj hm
  rw [qe] at hk
  rw [← zkQ (by rw [qe];omega),zm3 (by omega)] at e
  exact (h2 i hi).2 k (by omega) e
 ·rintro ⟨⟨h1,h2⟩,h3⟩
  refine ⟨h1,λ i hi=>⟨h2 i hi,λ k hk e=>h3 i hi ?_⟩⟩
  rw [← e,← zm3 hk]
  exact zkJ (by rw [qe];omega)
theorem zzc (l:List ByteArray):okL true l=(((decide (l.length≤30) && l.all zlq) && zsb l) && zu4 l):=by
 have e:okL true l=(okL false l && zsb l):=by
  unfold okL zsb
  rw [qf]
  simp only [qd,zll,qq,qx,and_true,qk,qm,qp]
  constructor
  ·rintro ⟨h1,h2⟩
   refine ⟨⟨h1,λ i hi=>⟨(h2 i hi).1,λ k hk=>((h2 i hi).2 k hk).1⟩⟩,λ i hi=>?_⟩
   by_cases h0:i=0
   ·exact .inl (by simp [h0])
   ·have:=((h2 i hi).2 (i - 1) (by omega)).2
    rw [decide_eq_true (by omega:i - 1+1=i)] at this
    exact .inr (by simpa using this)
  ·rintro ⟨⟨h1,h2⟩,h3⟩
   refine ⟨h1,λ i hi=>⟨(h2 i hi).1,λ k hk=>⟨(h2 i hi).2 k hk,?_⟩⟩⟩
   by_cases h0:k+1=i
   ·have:=h3 i hi
    subst h0
    simpa using this
   ·exact .inl (by simp [h0])
 rw [e,ztg]
 cases decide (l.length≤30)<;>cases l.all zlq<;>cases zu4 l<;>cases zsb l<;>rfl
def zlY (s:zkq):Bool:=decide (1≤s.Next∧s.Next≤1001) && decide (0≤s.Done∧s.Done≤1000) && decide (0≤s.fSt∧s.fSt≤2) && okL false s.fSi && okL true s.fTi &&
 (if s.fSt=0 then decide (s.Next=1) && !s.fCa && decide (s.Done=0) && decide (s.fSi=[]) && decide (s.fTi=[]) else decide (1 < s.Next))
theorem zCp (l:List ByteArray):(((l.length:Nat):Int) == 0)=decide (l=[]):=by
 cases l<;>simp
 omega
theorem ziM (s:zkq) (h1:zr7 s.fSi) (h2:zr7 s.fTi):zdc s=some (zlY s):=by
 unfold zdc zlY
 simp only [zaF,zhj _ _ h1,zhj _ _ h2,qa,zCp]
 generalize decide (1≤s.Next∧s.Next≤1001)=b1
 generalize decide (0≤s.Done∧s.Done≤1000)=b2
 generalize decide (0≤s.fSt∧s.fSt≤2)=b3
 generalize okL false s.fSi=b4
 generalize okL true s.fTi=b5
 cases b1<;>cases b2<;>cases b3<;>cases b4<;>cases b5<;>simp
 by_cases h0:s.fSt=0
 ·by_cases hn:s.Next=1
  ·by_cases hd:s.Done=0<;>cases s.fCa<;>by_cases hs:s.fSi=[]<;>simp [h0,hn,hd,hs]
  ·simp [h0,hn]
 ·simp [h0]
theorem zcU (s:zkq) (h1:s.fSi.length≤9223372036854775807) (h2:s.fTi.length≤9223372036854775807):zbq s=some (zlY s):=by
 unfold zbq zlY
 rw [ztg,zzc]
 simp only [zak,zhF _ h1,zhF _ h2,zhk _ h1,zhk _ h2,zi8 _ h2,qa,zCp]
 generalize decide (1≤s.Next∧s.Next≤1001)=b1
 generalize decide (0≤s.Done∧s.Done≤1000)=b2
 generalize decide (0≤s.fSt∧s.fSt≤2)=b3
 generalize (decide (s.fSi.length≤30) && s.fSi.all zlq)=b4
 generalize (decide (s.fTi.length≤30) && s.fTi.all zlq)=b5
 generalize zu4 s.fSi=b6
 generalize zu4 s.fTi=b7
 generalize zsb s.fTi=b8
 cases b1
 ·simp
 cases b2
 ·simp
 cases b3
 ·simp
 cases b4
 ·simp
 cases b6
 ·simp
 cases b5
 ·simp
 cases b8
 ·simp
 cases b7
 ·simp
 simp
 by_cases h0:s.fSt=0
 ·by_cases hn:s.Next=1
  ·by_cases hd:s.Done=0<;>cases s.fCa<;>by_cases hs:s.fSi=[]<;>simp [h0,hn,hd,hs]
  ·simp [h0,hn]
 ·simp [h0]
end Go.TL
namespace Go.TL
theorem zlo {r:Bool} {l:List ByteArray} (h:okL r l=true):l.length≤30:=by
 unfold okL at h
 simp only [qd,decide_eq_true_eq] at h
 exact h.1
theorem zAJ {r:Bool} {l:List ByteArray} (h:okL r l=true) {x:ByteArray} (hx:x∈l):x.size≤12:=by
 unfold okL at h
 simp only [qd,zll] at h
 obtain ⟨i,hi,rfl⟩:=qj hx
 have:=(h.2 i hi).1
 rw [zkQ hi] at this
 unfold zlq at this
 simp only [qd,decide_eq_true_eq] at this
 exact this.1
theorem zwa {r:Bool} {l:List ByteArray} (h:okL r l=true):zr7 l:=by
 have:=zlo h
 exact ⟨by omega,λ y hy=>by have:=zAJ h hy;show y.size≤_;omega⟩
theorem zrt {l:List ByteArray} (h:okL true l=true):∀ (j i:Nat),i < j→j < l.length→sLt (nth l i) (nth l j)=true:=by
 unfold okL at h
 simp only [qd,zll,qk,qm,qp,Bool.not_eq_true',decide_eq_false_iff_not] at h
 intro j
 induction j with
 | zero=>intro i hi;omega
 | succ j ih =>
  intro i hi hj
  have hd:=(h.2 (j+1) hj).2 j (by omega)
  have hs:sLt (nth l j) (nth l (j+1))=true:=by
   rcases zoB (nth l j) (nth l (j+1)) with h1 | h1 | h1
   ·exact h1
   ·exact absurd h1 hd.1
   ·rcases hd.2 with h2 | h2
    ·exact absurd rfl h2
    ·rw [h2] at h1;cases h1
  by_cases e:i=j
  ·rw [e];exact hs
  ·exact zmR (ih i (by omega) (by omega)) hs
def znc (l:List ByteArray) (x:ByteArray):List ByteArray :=
 if zk5 l x=true then l.filter (λ y=>!decide (y=x)) else l.takeWhile (λ y=>sLt y x)++x :: l.dropWhile (λ y=>sLt y x)
def zmA (x:ByteArray):List ByteArray→Bool→List ByteArray→Bool×List ByteArray
 | [],p,c=>(p,c)
 | y :: r,p,c=>if y=x then zmA x r p c else if (!p && sLt x y)=true then zmA x r true (c++[x]++[y]) else zmA x r p (c++[y])
set_option maxHeartbeats 1000000 in
theorem zwb (l:List ByteArray) (x:ByteArray) (hl:l.length≤30):∀ (r:List ByteArray) (i:Nat) (p:Bool) (c:List ByteArray),l.drop i=r→i≤l.length→c.length≤2 * i →
  zkx (zX l x) ⟨p,(i:Int),c⟩=some ⟨(zmA x r p c).1,(zmA x r p c).2⟩:=by
 intro r
 induction r with
 | nil =>
  intro i p c hd hi hc
  have hi':i=l.length:=by
   have:=congrArg List.length hd
   rw [qg,qQ] at this
   omega
  subst hi'
  exact zk3 (by unfold zX;rw [if_neg (by simp)];rfl)
 | cons y r ih =>
  intro i p c hd hi hc
  have hlt:i < l.length:=by
   have:=congrArg List.length hd
   rw [qg,qP] at this
   omega
  have hy:nth l i=y:=by
   rw [zkQ hlt]
   have:=qi hlt
   rw [hd] at this
   exact (List.cons.inj this).1.symm
  have hr:l.drop (i+1)=r:=by
   have:=qi hlt
   rw [hd] at this
   exact (List.cons.inj this).2.symm
  have hstep:zX l x ⟨p,(i:Int),c⟩=some (.inl (if y=x then ⟨p,((i+1:Nat):Int),c⟩ else if (!p && sLt x y)=true then ⟨true,((i+1:Nat):Int),c++[x]++[y]⟩ else ⟨p,((i+1:Nat):Int),c++[y]⟩)):=by
   unfold zX
   have e1:=wS (i:=i) (by omega)
   simp only [qb,hy,e1,sGt]
   rw [if_pos (by simp;omega),zj9 (by omega),sEq]
   by_cases he:y=x
   ·rw [if_pos (by simp [he]),if_pos he]
   ·rw [if_neg (by simp [he]),if_neg he]
    have hg1:(c.length+1) * 16≤140737488355328:=by omega
    have hg2:(c.length+1+1) * 16≤140737488355328:=by omega
    cases p
    ·cases h:sLt x y
     ·simp [zj9 hg1]
     ·simp [zj9 hg1,zj9 hg2]
    ·simp [zj9 hg1]
  rw [zlQ hstep]
  unfold zmA
  by_cases he:y=x
  ·rw [if_pos he,if_pos he];exact ih (i+1) p c hr (by omega) (by omega)
  ·rw [if_neg he,if_neg he]
   split
   ·exact ih (i+1) true _ hr (by omega) (by simp only [qM,qh];omega)
   ·exact ih (i+1) p _ hr (by omega) (by simp only [qM,qh];omega)
theorem znt (x:ByteArray):∀ (r c:List ByteArray),zmA x r true c=(true,c++r.filter λ y=>!decide (y=x))
 | [],c=>by simp [zmA]
 | y :: r,c=>by
  unfold zmA
  by_cases he:y=x
  ·rw [if_pos he,znt x r c];simp [he]
  ·rw [if_neg he,if_neg (by simp),znt x r];simp [he]
theorem zqE {x:ByteArray} {r:List ByteArray} (h:x∉r):(r.filter λ y=>!decide (y=x))=r:=by
 rw [List.filter_eq_self]
 intro y hy
 simp only [Bool.not_eq_true',decide_eq_false_iff_not]
 intro e;subst e;exact h hy
theorem zo4 (x:ByteArray):∀ (r c:List ByteArray),x∉r →
  (if (!(zmA x r false c).1)=true then (zmA x r false c).2++[x] else (zmA x r false c).2)=c++(r.takeWhile (λ y=>sLt y x)++x :: r.dropWhile λ y=>sLt y x)
 | [],c,_=>by simp [zmA]
 | y :: r,c,h=>by
  have hne:y≠x:=λ e=>h (by simp [e])
  have hr:x∉r:=λ e=>h (List.mem_cons_of_mem _ e)
  unfold zmA
  rw [if_neg hne]
  rcases zoB y x with h1 | h1 | h1
  ·have h2:=zm2 h1
   have e:(!false && sLt x y)=false:=by simp [h2]
   simp only [e,qc,if_false]
   rw [zo4 x r (c++[y]) hr]
   simp [h1]
  ·exact absurd h1 hne
  ·have h2:=zm2 h1
   have e:(!false && sLt x y)=true:=by simp [h1]
   simp only [e,if_true]
   rw [znt,zqE hr]
   simp [h2]
theorem zog (x:ByteArray):∀ (r c:List ByteArray) (p:Bool),(zmA x r p c).2.length≤c.length+2 * r.length
 | [],c,p=>by simp [zmA]
 | y :: r,c,p=>by
  unfold zmA
  split
  ·have:=zog x r c p;simp only [qP];omega
  ·split
   ·have:=zog x r (c++[x]++[y]) true;simp only [qP,qM,qQ] at this ⊢;omega
   ·have:=zog x r (c++[y]) p;simp only [qP,qM,qQ] at this ⊢;omega
theorem zi9 (l:List ByteArray) (x:ByteArray) (hl:l.length≤30):zb0 l x=some (znc l x):=by
 unfold zb0 znc
 obtain ⟨k,hk,hp⟩:=zdZ l x (by omega)
 rw [hk]
 simp only [qa]
 rw [hp]
 have:=zwb l x hl l 0 (zk5 l x) [] rfl (by omega) (by simp)
 rw [show ((0:Nat):Int)=0 from rfl] at this
 rw [this]
 simp only [qa]
 have hlen:=zog x l [] (zk5 l x)
 simp only [qQ,Nat.zero_add] at hlen
 rw [zj9 (by omega)]
 cases h:zk5 l x
 ·have hm:x∉l:=λ e=>by rw [zof.2 e] at h;cases h
  have:=zo4 x l [] hm
  simp only [qv] at this
  simp only [qc,if_false]
  rw [← this]
  split<;>rfl
 ·rw [znt]
  simp
theorem zAK {a b:Nat} (h:a+b≤100):wI (shR 64 (wU (wI ((a:Int)+(b:Int)))) 1)=(((a+b) / 2:Nat):Int):=by
 have e0:wI ((a:Int)+(b:Int))=(a:Int)+(b:Int):=zkU (by omega)
 have e1:wU ((a:Int)+(b:Int))=(a:Int)+(b:Int):=zBg (by omega)
 rw [e0,e1]
 unfold shR
 have e:(min (1:Int).toNat 64)=1:=rfl
 rw [e]
 have:(((a:Int)+(b:Int)).fdiv (2 ^ 1))=(((a+b) / 2:Nat):Int):=by
  rw [Int.fdiv_eq_ediv_of_nonneg _ (by decide)]
  omega
 rw [this,zkU (by omega)]
theorem zu5 (l:List ByteArray) (x:ByteArray) (hl:l.length≤30) (hs:okL true l=true):∀ (n lo hi:Nat),hi - lo=n→lo≤hi→hi≤l.length→(∀ j,j < lo→sLt (nth l j) x=true)→(∀ j,hi≤j→j < l.length→sLt (nth l j) x=false) →
  ∃ k:Nat,zkx (zx l x) ⟨(lo:Int),(hi:Int)⟩=some ⟨(k:Int)⟩∧k≤l.length∧(∀ j:Nat,j < k→sLt (nth l j) x=true)∧∀ j,k≤j→j < l.length→sLt (nth l j) x=false:=by
 intro n
 induction n using Nat.strongRecOn with
 | _ n ih =>
  intro lo hi hn hle hhi h1 h2
  by_cases hlt:lo < hi
  ·have hstep:zx l x ⟨(lo:Int),(hi:Int)⟩=some (.inl (if sLt (nth l ((lo+hi) / 2)) x=true then ⟨(((lo+hi) / 2+1:Nat):Int),(hi:Int)⟩ else ⟨(lo:Int),(((lo+hi) / 2:Nat):Int)⟩)):=by
    unfold zx
    simp only [zAK (show lo+hi≤100 by omega),qb]
    rw [if_pos (by simp;omega),zj9 (by omega),zsa]
    simp only [qa]
    rw [zkU (n:=(((lo+hi) / 2:Nat):Int)+1) (by omega)]
    split<;>rfl
   have hmid:(lo+hi) / 2 < l.length:=by omega
   rw [zlQ hstep]
   by_cases hc:sLt (nth l ((lo+hi) / 2)) x=true
   ·rw [if_pos hc]
    refine ih _ (by omega) ((lo+hi) / 2+1) hi rfl (by omega) hhi (λ j hj=>?_) h2
    by_cases e:j=(lo+hi) / 2
    ·rw [e];exact hc
    ·exact zmR (zrt hs _ j (by omega) hmid) hc
   ·rw [if_neg hc]
    refine ih _ (by omega) lo ((lo+hi) / 2) rfl (by omega) (by omega) h1 (λ j hj hjl=>?_)
    by_cases e:j=(lo+hi) / 2
    ·rw [e];simpa using hc
    ·cases h:sLt (nth l j) x with
     | false=>rfl
     | true=>exact absurd (zmR (zrt hs j ((lo+hi) / 2) (by omega) hjl) h) hc
  ·have e:lo=hi:=by omega
   subst e
   refine ⟨lo,zk3 ?_,hhi,h1,h2⟩
   unfold zx
   rw [if_neg (by simp)]
theorem zsc {p:ByteArray→Bool}:∀ {l:List ByteArray} {k:Nat},k≤l.length→(∀ j,j < k→p (nth l j)=true)→(∀ j,k≤j→j < l.length→p (nth l j)=false)→l.takeWhile p=l.take k∧l.dropWhile p=l.drop k
 | [],k,hk,h1,h2=>by simp
 | y :: r,0,hk,h1,h2=>by
  have:=h2 0 (by omega) (by simp)
  have e:nth (y :: r) 0=y:=rfl
  rw [e] at this
  simp [this]
 | y :: r,k+1,hk,h1,h2=>by
  have:=h1 0 (by omega)
  have e:nth (y :: r) 0=y:=rfl
  rw [e] at this
  obtain ⟨h3,h4⟩:=zsc (p:=p) (l:=r) (k:=k) (by simpa using hk) (λ j hj=>h1 (j+1) (by omega)) (λ j hj hl=>h2 (j+1) (by omega) (by simpa using hl))
  simp [this,h3,h4]
theorem zpc (l:List ByteArray) (x:ByteArray) (hs:okL true l=true):∃ k:Nat,zam l x=some ((k:Int),zk5 l x)∧k≤l.length∧(zk5 l x=true→k < l.length) ∧
  znc l x=if zk5 l x=true then l.take k++l.drop (k+1) else l.take k++[x]++l.drop k:=by
 have hl:=zlo hs
 obtain ⟨k,hk,hkl,h1,h2⟩:=zu5 l x hl hs l.length 0 l.length (by omega) (by omega) (Nat.le_refl _) (λ j hj=>by omega) (λ j hj hj2=>by omega)
 obtain ⟨e1,e2⟩:=zsc (p:=λ y=>sLt y x) hkl h1 h2
 have hx:zk5 l x=true↔k < l.length∧nth l k=x:=by
  rw [zof]
  constructor
  ·intro hm
   obtain ⟨m,hm1,rfl⟩:=qj hm
   have hnm:nth l m=l[m]:=zkQ hm1
   have hmk:k≤m:=by
    rcases qy m k with h | h
    ·have:=h1 m h;rw [hnm,zlt] at this;cases this
    ·exact h
   have:k=m:=by
    rcases qy k m with h | h
    ·have h3:=zrt hs m k h hm1
     rw [hnm] at h3
     have h4:=h2 k (Nat.le_refl _) (by omega)
     rw [h4] at h3;cases h3
    ·omega
   subst this
   exact ⟨hm1,hnm⟩
  ·rintro ⟨h3,h4⟩
   rw [← h4];exact zkJ h3
 refine ⟨k,?_,hkl,λ h=>(hx.1 h).1,?_⟩
 ·unfold zam
  rw [show (0:Int)=((0:Nat):Int) from rfl,hk]
  simp only [qa,qb]
  by_cases h3:k < l.length
  ·rw [if_pos (by simp;omega),zj9 (by omega),sEq]
   by_cases h4:nth l k=x
   ·rw [if_pos (by simp [h4]),hx.2 ⟨h3,h4⟩]
   ·rw [if_neg (by simp [h4]),zj9 (by omega)]
    have hf:zk5 l x=false:=by
     cases h:zk5 l x with
     | false=>rfl
     | true=>exact absurd (hx.1 h).2 h4
    unfold zb7
    simp [hf]
  ·rw [if_neg (by simp;omega)]
   have hf:zk5 l x=false:=by
    cases h:zk5 l x with
    | false=>rfl
    | true=>exact absurd (hx.1 h).1 h3
   rw [hf]
 ·unfold znc
  by_cases h:zk5 l x=true
  ·rw [if_pos h,if_pos h]
   obtain ⟨h3,h4⟩:=hx.1 h
   have hl2:l=l.take k++x :: l.drop (k+1):=by
    rw [zkQ h3] at h4
    conv=>lhs;rw [← List.take_append_drop k l,qi h3,h4]
   have hn1:x∉l.take k:=λ hm=>by
    obtain ⟨j,hj,e⟩:=qj hm
    rw [qe] at hj
    rw [← zkQ (by rw [qe];omega),zm3 (by omega)] at e
    have:=h1 j (by omega)
    rw [e,zlt] at this;cases this
   have hn2:x∉l.drop (k+1):=λ hm=>by
    obtain ⟨j,hj,e⟩:=qj hm
    rw [qg] at hj
    rw [List.getElem_drop,← zkQ (by omega)] at e
    have:=zrt hs (k+1+j) k (by omega) (by omega)
    rw [e,h4,zlt] at this;cases this
   conv=>lhs;rw [hl2]
   rw [List.filter_append,List.filter_cons_of_neg (by simp),zqE hn1,zqE hn2]
  ·rw [if_neg h,if_neg h,e1,e2,List.append_assoc,List.singleton_append]
end Go.TL
namespace Go.TL
def evP (e:zka):Bool:=decide (1≤e.Id∧e.Id≤1000) && zp5 e.fVe && decide (1≤e.Kind∧e.Kind≤6) && zlq e.Name
theorem zg5 (e:zka) (h:zoA e.Name):zdb e=some (evP e):=by
 unfold zdb evP zp5
 simp only [zaF,zgP _ h,qa]
 cases decide (1≤e.Id∧e.Id≤1000)<;>cases decide (0≤e.fVe∧e.fVe≤1000000)<;>cases decide (1≤e.Kind∧e.Kind≤6)<;>simp
theorem zg6 (e:zka):zdd e=some (evP e):=by
 unfold zdd zU zal evP zp5
 simp only [zak,zch,qa]
 cases decide (1≤e.Id∧e.Id≤1000)<;>cases decide (0≤e.fVe∧e.fVe≤1000000)<;>cases decide (1≤e.Kind∧e.Kind≤6)<;>simp
def zqF (s:zkq) (e:zka):Bool:=evP e && decide (e.Id=s.Next) && decide (e.Kind=1↔s.fSt=0) && !decide (s.fSt=2)
def znz (s:zkq) (e:zka):Option zkq :=
 if e.Kind=1 then some ⟨1,s.Next+1,s.fCa,s.Done,s.fSi,s.fTi⟩
 else if e.Kind=2 then (if (zk5 s.fSi e.Name || decide (s.fSi.length=30))=true then none else some ⟨s.fSt,s.Next+1,s.fCa,s.Done,s.fSi++[e.Name],s.fTi⟩)
 else if e.Kind=3 then some ⟨s.fSt,s.Next+1,s.fCa,s.Done+1,s.fSi,s.fTi⟩
 else if e.Kind=4 then some ⟨s.fSt,s.Next+1,s.fCa,s.Done,s.fSi,znc s.fTi e.Name⟩
 else if e.Kind=5 then (if s.fCa=true then none else some ⟨s.fSt,s.Next+1,true,s.Done,s.fSi,s.fTi⟩)
 else some ⟨2,s.Next+1,s.fCa,s.Done,s.fSi,[]⟩
def zkR (s:zkq) (e:zka):Option zkq:=if zqF s e=true then (znz s e).bind (λ t=>if zlY t=true then some t else none) else none
theorem zmd {s:zkq} (h:zlY s=true):(1≤s.Next∧s.Next≤1001)∧(0≤s.Done∧s.Done≤1000)∧(0≤s.fSt∧s.fSt≤2)∧okL false s.fSi=true∧okL true s.fTi=true:=by
 unfold zlY at h
 simp only [qd,decide_eq_true_eq] at h
 exact ⟨h.1.1.1.1.1,h.1.1.1.1.2,h.1.1.1.2,h.1.1.2,h.1.2⟩
theorem zzd {l:List ByteArray} {x:ByteArray} (h:okL true l=true) (hx:zoA x):zr7 (znc l x):=by
 obtain ⟨k,_,hk,_,he⟩:=zpc l x h
 have hl:=zlo h
 have ho:=zwa h
 rw [he]
 split
 ·refine ⟨by rw [qM,qe,qg];omega,λ y hy=>?_⟩
  rw [qn] at hy
  rcases hy with hy | hy
  ·exact ho.2 y (qr hy)
  ·exact ho.2 y (qt hy)
 ·refine ⟨by rw [qM,qM,qe,qg,qh];omega,λ y hy=>?_⟩
  rw [qn,qn,qu] at hy
  rcases hy with (hy | hy) | hy
  ·exact ho.2 y (qr hy)
  ·rw [hy];exact hx
  ·exact ho.2 y (qt hy)
theorem zhl (s:zkq) (e:zka) (hs:zlY s=true) (he:zoA e.Name):∃ r,zb1 s e=some r∧zkR s e=if r.2=true then some r.1 else none:=by
 obtain ⟨hN,hD,hS,hl1,hl2⟩:=zmd hs
 have n1:=zlo hl1
 have n2:=zlo hl2
 have o1:=zwa hl1
 have o2:=zwa hl2
 have hJ:(if (!evP e)=true then some (⟨true⟩:za9) else if (e.Id != s.Next)=true then some ⟨true⟩ else if (!((e.Kind == 1) == (s.fSt == 0)))=true then some ⟨true⟩ else some ⟨(s.fSt == 2)⟩)=some ⟨!zqF s e⟩:=by
  unfold zqF
  cases evP e
  ·simp
  rw [show (e.Kind == 1)=decide (e.Kind=1) from rfl,show (s.fSt == 0)=decide (s.fSt=0) from rfl]
  by_cases h1:e.Id=s.Next
  ·by_cases h2:e.Kind=1<;>by_cases h3:s.fSt=0<;>by_cases h4:s.fSt=2<;>simp [h1,h2,h3,h4]
  ·simp [h1]
 unfold zb1
 rw [zg5 e he]
 simp only [qa]
 rw [hJ]
 simp only [qa]
 unfold zkR
 by_cases hm:zqF s e=true
 rotate_left
 ·exact ⟨(s,false),by simp [hm],by simp [hm]⟩
 rw [if_pos hm,hm]
 simp only [qk,qc,if_false]
 have hown:zgd s=some s:=by
  unfold zgd
  rw [zj9 (by omega),zj9 (by omega)]
  simp only [qv]
 rw [hown]
 simp only [qa,beq_iff_eq]
 have hw:wI (s.Next+1)=s.Next+1:=zkU (by omega)
 have hw2:wI (s.Done+1)=s.Done+1:=zkU (by omega)
 have hk:1≤e.Kind∧e.Kind≤6:=by
  unfold zqF evP at hm
  simp only [qd,decide_eq_true_eq] at hm
  exact hm.1.1.1.1.2
 have fin:∀ (t:zkq),zr7 t.fSi→zr7 t.fTi→∃ r,(Option.bind (zdc t) λ c73=>some (t,c73))=some r∧(Option.bind (some t) λ t=>if zlY t=true then some t else none)=if r.2=true then some r.1 else none :=
  λ t h1 h2=>⟨_,by rw [ziM t h1 h2];rfl,by rfl⟩
 unfold znz
 rw [hw]
 by_cases h1:e.Kind=1
 ·rw [if_pos h1,if_pos h1];simp only [qa];exact fin ⟨1,s.Next+1,s.fCa,s.Done,s.fSi,s.fTi⟩ o1 o2
 by_cases h2:e.Kind=2
 ·rw [if_neg h1,if_pos h2,if_neg h1,if_pos h2]
  obtain ⟨k,hk,hp⟩:=zdZ s.fSi e.Name (by omega)
  rw [hk]
  simp only [qa,hp]
  have hJ2:(if zk5 s.fSi e.Name=true then some (⟨true⟩:zdD) else some ⟨(((s.fSi.length:Nat):Int) == 30)⟩)=some ⟨zk5 s.fSi e.Name || decide (s.fSi.length=30)⟩:=by
   cases zk5 s.fSi e.Name
   ·simp only [qc,if_false,qm]
    congr 2
    rw [qf,beq_iff_eq,decide_eq_true_eq];omega
   ·simp
  rw [hJ2]
  simp only [qa]
  cases hb:(zk5 s.fSi e.Name || decide (s.fSi.length=30))
  ·simp only [qc,if_false]
   rw [zj9 (by omega)]
   simp only [qa]
   exact fin ⟨s.fSt,s.Next+1,s.fCa,s.Done,s.fSi++[e.Name],s.fTi⟩ ⟨by simp only [qM,qh];omega,λ y hy=>by
    rw [qn,qu] at hy
    rcases hy with hy | hy
    ·exact o1.2 y hy
    ·rw [hy];exact he⟩ o2
  ·exact ⟨(s,false),by simp,by simp⟩
 by_cases h3:e.Kind=3
 ·rw [if_neg h1,if_neg h2,if_pos h3,if_neg h1,if_neg h2,if_pos h3]
  simp only [qa,hw2]
  exact fin ⟨s.fSt,s.Next+1,s.fCa,s.Done+1,s.fSi,s.fTi⟩ o1 o2
 by_cases h4:e.Kind=4
 ·rw [if_neg h1,if_neg h2,if_neg h3,if_pos h4,if_neg h1,if_neg h2,if_neg h3,if_pos h4,zi9 _ _ n2]
  simp only [qa]
  exact fin ⟨s.fSt,s.Next+1,s.fCa,s.Done,s.fSi,znc s.fTi e.Name⟩ o1 (zzd hl2 he)
 by_cases h5:e.Kind=5
 ·rw [if_neg h1,if_neg h2,if_neg h3,if_neg h4,if_pos h5,if_neg h1,if_neg h2,if_neg h3,if_neg h4,if_pos h5]
  cases hb:s.fCa
  ·simp only [qc,if_false,qa]
   exact fin ⟨s.fSt,s.Next+1,true,s.Done,s.fSi,s.fTi⟩ o1 o2
  ·exact ⟨(s,false),by simp,by simp⟩
 ·rw [if_neg h1,if_neg h2,if_neg h3,if_neg h4,if_neg h5,if_neg h1,if_neg h2,if_neg h3,if_neg h4,if_neg h5]
  simp only [qa]
  exact fin ⟨2,s.Next+1,s.fCa,s.Done,s.fSi,[]⟩ o1 ⟨by simp,λ y hy=>by simp at hy⟩
theorem ziN (s:zkq) (x:ByteArray) (h:okL true s.fTi=true):∃ r,zbf s x=some r ∧
  (r.1=true→r.2=⟨s.fSt,s.Next,s.fCa,s.Done,s.fSi,znc s.fTi x⟩)∧(r.1=false→zk5 s.fTi x=false∧s.fTi.length=30):=by
 obtain ⟨k,hk,hkl,hlt,he⟩:=zpc s.fTi x h
 have hl:=zlo h
 unfold zbf
 rw [hk]
 simp only [qa]
 cases hb:zk5 s.fTi x
 ·simp only [qc,if_false]
  by_cases h30:s.fTi.length=30
  ·rw [if_pos (by simp;omega)]
   exact ⟨_,rfl,λ h=>(by cases h),λ _=>⟨by simp,h30⟩⟩
  ·rw [if_neg (by simp;omega)]
   unfold zcs
   rw [zj9 ⟨rfl,by omega,by omega,by omega⟩]
   simp only [qa,qb]
   refine ⟨_,rfl,λ _=>?_,λ h=>by cases h⟩
   rw [he,hb]
   simp
 ·simp only [if_true]
  have hk1:=hlt hb
  have e1:=wS (i:=k) (by omega)
  unfold zcr
  rw [e1,zj9 ⟨by omega,by omega,by omega,by omega⟩]
  simp only [qa,qb]
  refine ⟨_,rfl,λ _=>?_,λ h=>by cases h⟩
  rw [he,hb]
  simp
theorem zij (s:zkq) (e:zka) (hs:zlY s=true) (hev:evP e=true) (hid:e.Id=s.Next):∃ r,zbr s e.Kind e.Name=some r ∧
  (r.1=true→zqF s e=true∧znz s e=some r.2)∧(r.1=false→zkR s e=none):=by
 obtain ⟨hN,hD,hS,hl1,hl2⟩:=zmd hs
 have n1:=zlo hl1
 have n2:=zlo hl2
 have hk:(1≤e.Id∧e.Id≤1000)∧1≤e.Kind∧e.Kind≤6:=by
  unfold evP at hev
  simp only [qd,decide_eq_true_eq] at hev
  exact ⟨hev.1.1.1,hev.1.2⟩
 have hJ:(if decide (s.Next > 1000)=true then some (⟨true⟩:zad) else if (!((e.Kind == 1) == (s.fSt == 0)))=true then some ⟨true⟩ else if (e.Kind != 1)=true then some ⟨(s.fSt != 1)⟩ else some ⟨false⟩)=some ⟨!zqF s e⟩:=by
  unfold zqF
  rw [hev,if_neg (by simp;omega),show (e.Kind == 1)=decide (e.Kind=1) from rfl,show (s.fSt == 0)=decide (s.fSt=0) from rfl]
  by_cases h2:e.Kind=1
  ·by_cases h3:s.fSt=0
   ·simp [hid,h2,h3]
   ·simp [hid,h2,h3]
  ·by_cases h3:s.fSt=0
   ·simp [hid,h2,h3]
   ·by_cases h4:s.fSt=2
    ·simp [hid,h2,h3,h4]
    ·have:s.fSt=1:=by omega
     simp [hid,h2,h3,this]
 unfold zbr
 rw [hJ]
 simp only [qa]
 by_cases hm:zqF s e=true
 rotate_left
 ·refine ⟨(false,s),by simp [hm],λ h=>(by cases h),λ _=>by unfold zkR;rw [if_neg hm]⟩
 have hno:znz s e=none→zkR s e=none:=λ h=>by unfold zkR;rw [if_pos hm,h];rfl
 rw [hm]
 simp only [qk,qc,if_false,beq_iff_eq]
 have hw:wI (s.Next+1)=s.Next+1:=zkU (by omega)
 have hw2:wI (s.Done+1)=s.Done+1:=zkU (by omega)
 rw [hw,hw2]
 by_cases h1:e.Kind=1
 ·rw [if_pos h1];exact ⟨_,rfl,λ _=>⟨trivial,by unfold znz;rw [if_pos h1]⟩,λ h=>by cases h⟩
 by_cases h2:e.Kind=2
 ·rw [if_neg h1,if_pos h2,zmJ _ _ (by omega)]
  have hJ2:(if zk5 s.fSi e.Name=true then some (⟨true⟩:zbE) else some ⟨(((s.fSi.length:Nat):Int) == 30)⟩)=some ⟨zk5 s.fSi e.Name || decide (s.fSi.length=30)⟩:=by
   cases zk5 s.fSi e.Name
   ·simp only [qc,if_false,qm]
    congr 2
    rw [qf,beq_iff_eq,decide_eq_true_eq];omega
   ·simp
  simp only [qa,hJ2]
  cases hb:(zk5 s.fSi e.Name || decide (s.fSi.length=30))
  ·simp only [qc,if_false]
   rw [zj9 (by omega)]
   exact ⟨_,rfl,λ _=>⟨trivial,by unfold znz;rw [if_neg h1,if_pos h2,hb];rfl⟩,λ h=>by cases h⟩
  ·simp only [if_true]
   exact ⟨_,rfl,λ h=>(by cases h),λ _=>hno (by unfold znz;rw [if_neg h1,if_pos h2,hb];rfl)⟩
 by_cases h3:e.Kind=3
 ·rw [if_neg h1,if_neg h2,if_pos h3];exact ⟨_,rfl,λ _=>⟨trivial,by unfold znz;rw [if_neg h1,if_neg h2,if_pos h3]⟩,λ h=>by cases h⟩
 by_cases h4:e.Kind=4
 ·rw [if_neg h1,if_neg h2,if_neg h3,if_pos h4]
  obtain ⟨r,hr,ht,hf⟩:=ziN s e.Name hl2
  rw [hr]
  simp only [qa]
  cases hb:r.1
  ·simp only [qq,if_true]
   refine ⟨_,rfl,λ h=>(by cases h),λ _=>?_⟩
   unfold zkR
   rw [if_pos hm]
   unfold znz
   rw [if_neg h1,if_neg h2,if_neg h3,if_pos h4]
   simp only [qa]
   obtain ⟨f1,f2⟩:=hf hb
   have hbad:¬ zlY ⟨s.fSt,s.Next+1,s.fCa,s.Done,s.fSi,znc s.fTi e.Name⟩=true:=λ h=>by
    have h1:=zlo (zmd h).2.2.2.2
    obtain ⟨k,_,hk,_,he⟩:=zpc s.fTi e.Name hl2
    simp only at h1
    rw [he,f1] at h1
    simp only [qc,if_false,qM,qe,qg,qh] at h1
    omega
   rw [if_neg hbad]
  ·simp only [qk,qc,if_false]
   rw [ht hb]
   simp only [hw]
   exact ⟨_,rfl,λ _=>⟨trivial,by unfold znz;rw [if_neg h1,if_neg h2,if_neg h3,if_pos h4]⟩,λ h=>by cases h⟩
 by_cases h5:e.Kind=5
 ·rw [if_neg h1,if_neg h2,if_neg h3,if_neg h4,if_pos h5]
  cases hb:s.fCa
  ·simp only [qc,if_false]
   exact ⟨_,rfl,λ _=>⟨trivial,by unfold znz;rw [if_neg h1,if_neg h2,if_neg h3,if_neg h4,if_pos h5,hb];rfl⟩,λ h=>by cases h⟩
  ·simp only [if_true]
   exact ⟨_,rfl,λ h=>(by cases h),λ _=>hno (by unfold znz;rw [if_neg h1,if_neg h2,if_neg h3,if_neg h4,if_pos h5,hb];rfl)⟩
 ·have h6:e.Kind=6:=by omega
  rw [if_neg h1,if_neg h2,if_neg h3,if_neg h4,if_neg h5,if_pos h6]
  exact ⟨_,rfl,λ _=>⟨trivial,by unfold znz;rw [if_neg h1,if_neg h2,if_neg h3,if_neg h4,if_neg h5]⟩,λ h=>by cases h⟩
def zBo:zkq:=⟨0,0,false,0,[],[]⟩
theorem zxK {l:List ByteArray} {x:ByteArray} (h:okL true l=true):(znc l x).length≤31:=by
 obtain ⟨k,_,hk,_,he⟩:=zpc l x h
 have hl:=zlo h
 rw [he]
 split
 ·rw [qM,qe,qg];omega
 ·rw [qM,qM,qe,qg,qh];omega
theorem zu6 {s t:zkq} {e:zka} (hs:zlY s=true) (h:znz s e=some t):t.fSi.length≤31∧t.fTi.length≤31:=by
 obtain ⟨hN,hD,hS,hl1,hl2⟩:=zmd hs
 have n1:=zlo hl1
 have n2:=zlo hl2
 have n3:=zxK (x:=e.Name) hl2
 unfold znz at h
 split at h
 ·cases h;simp only;omega
 split at h
 ·split at h
  ·cases h
  ·cases h;simp only [qM,qh];omega
 split at h
 ·cases h;simp only;omega
 split at h
 ·cases h;simp only;omega
 split at h
 ·split at h
  ·cases h
  ·cases h;simp only;omega
 ·cases h;simp only [qQ];omega
theorem zis (s:zkq) (e:zka) (h1:s.fSi.length≤9223372036854775807) (h2:s.fTi.length≤9223372036854775807) :
  zd5 s e=some (if zlY s=true then (match zkR s e with | some t=>(t,true) | none=>(zBo,false)) else (zBo,false)):=by
 unfold zd5
 rw [zcU s h1 h2,zg6]
 simp only [qa]
 by_cases hs:zlY s=true
 rotate_left
 ·simp [hs];rfl
 obtain ⟨hN,hD,hS,hl1,hl2⟩:=zmd hs
 have n1:=zlo hl1
 have n2:=zlo hl2
 rw [hs]
 simp only [qk,qc,if_false,if_true]
 by_cases hev:evP e=true
 rotate_left
 ·have:zkR s e=none:=by unfold zkR zqF;simp [hev]
  simp [hev,this];rfl
 by_cases hid:e.Id=s.Next
 rotate_left
 ·have:zkR s e=none:=by unfold zkR zqF;simp [hid]
  simp [hev,hid,this];rfl
 have hJ:(if (!evP e)=true then some (⟨true⟩:zbs) else some ⟨(e.Id != s.Next)⟩)=some ⟨false⟩:=by simp [hev,hid]
 rw [hJ]
 have hcl:za5 s=some s:=by
  unfold za5 za7
  rw [zj9 (by omega),zj9 (by omega)]
  rfl
 simp only [qa,qc,if_false,hcl]
 obtain ⟨r,hr,ht,hf⟩:=zij s e hs hev hid
 rw [hr]
 simp only [qa]
 cases hb:r.1
 ·simp [hf hb];rfl
 ·obtain ⟨g1,g2⟩:=ht hb
  have hlen:=zu6 hs g2
  simp only [qk,qc,if_false]
  rw [zcU r.2 (by omega) (by omega)]
  have ha:zkR s e=if zlY r.2=true then some r.2 else none:=by unfold zkR;rw [if_pos g1,g2];rfl
  rw [ha]
  simp only [qa]
  cases hg:zlY r.2
  ·simp;rfl
  ·simp
theorem zo5 {s t:zkq} {e:zka} (h:zkR s e=some t):zlY t=true:=by
 unfold zkR at h
 split at h
 ·cases ho:znz s e with
  | none=>rw [ho] at h;cases h
  | some u =>
   rw [ho] at h
   simp only [qa] at h
   split at h
   ·cases h;assumption
   ·cases h
 ·cases h
def zlr:List zka→zkq→Nat→zkq×Nat
 | [],s,n=>(s,n)
 | e :: r,s,n=>match zkR s e with
  | some t=>zlr r t (n+1)
  | none=>(s,n)
def zp7:zkq:=⟨0,1,false,0,[],[]⟩
theorem zqG:zlY zp7=true:=by
 have h:∀ r,okL r []=true:=λ r=>by unfold okL;simp [zmP]
 unfold zlY zp7
 simp only [h]
 decide
def zkX (l:List zka):zkq×Nat:=zlr l zp7 0
theorem zpd {α:Type} [Inhabited α] {l r:List α} {y:α} {i:Nat} (hd:l.drop i=y :: r):i < l.length∧nth l i=y∧l.drop (i+1)=r:=by
 have hlt:i < l.length:=by
  have:=congrArg List.length hd
  rw [qg,qP] at this
  omega
 have:=qi hlt
 rw [hd] at this
 exact ⟨hlt,by rw [zkQ hlt];exact (List.cons.inj this).1.symm,(List.cons.inj this).2.symm⟩
theorem zp8 {α:Type} {l:List α} {i:Nat} (hd:l.drop i=[]) (hi:i≤l.length):i=l.length:=by
 have:=congrArg List.length hd
 rw [qg,qQ] at this
 omega
theorem zjB (l:List zka) (hl:l.length≤9223372036854775807):∀ (r:List zka) (i:Nat) (s:zkq),l.drop i=r→i≤l.length→zlY s=true →
  ∃ y,zkx (zag l) ⟨(i:Int),s.fSt,s.Next,s.fCa,s.Done,s.fSi,s.fTi⟩=some y∧(match y with
   | .inl p180=>some ((⟨p180.b0_0,p180.b0_1,p180.b0_2,p180.b0_3,p180.c1,p180.c2⟩:zkq),p180.t3)
   | .inr p181=>some ((⟨p181.b1_0,p181.b1_1,p181.b1_2,p181.b1_3,p181.c2,p181.c3⟩:zkq),((l.length:Nat):Int)))=some ((zlr r s i).1,(((zlr r s i).2:Nat):Int)):=by
 intro r
 induction r with
 | nil =>
  intro i s hd hi hs
  have hi':=zp8 hd hi
  subst hi'
  refine ⟨_,zk3 (by unfold zag;rw [if_neg (by simp)]),rfl⟩
 | cons e r ih =>
  intro i s hd hi hs
  obtain ⟨hlt,hy,hr⟩:=zpd hd
  have n:=zmd hs
  have n1:=zlo n.2.2.2.1
  have n2:=zlo n.2.2.2.2
  have hstep:zag l ⟨(i:Int),s.fSt,s.Next,s.fCa,s.Done,s.fSi,s.fTi⟩=some (match zkR s e with
    | some t=>.inl ⟨((i+1:Nat):Int),t.fSt,t.Next,t.fCa,t.Done,t.fSi,t.fTi⟩
    | none=>.inr (.inl ⟨(i:Int),s.fSt,s.Next,s.fCa,s.Done,s.fSi,s.fTi⟩)):=by
   unfold zag
   have e1:=wS (i:=i) (by omega)
   simp only [qb,hy,e1]
   rw [if_pos (by simp;omega),zj9 (by omega),zis _ _ (by simp only;omega) (by simp only;omega)]
   have hs':zlY ⟨s.fSt,s.Next,s.fCa,s.Done,s.fSi,s.fTi⟩=true:=hs
   simp only [qa]
   rw [if_pos hs']
   cases zkR s e<;>rfl
  unfold zlr
  cases ha:zkR s e with
  | some t =>
   rw [ha] at hstep
   rw [zlQ hstep]
   exact ih (i+1) t hr (by omega) (zo5 ha)
  | none =>
   rw [ha] at hstep
   exact ⟨_,zk3 hstep,rfl⟩
theorem zgU (l:List zka) (hl:l.length≤9223372036854775807):zcE l=some ((zkX l).1,(((zkX l).2:Nat):Int)):=by
 unfold zcE zgl
 simp only [qa]
 obtain ⟨y,hy,he⟩:=zjB l hl l 0 zp7 rfl (by omega) zqG
 have hy':zkx (zag l) ⟨0,0,1,false,0,[],[]⟩=some y:=hy
 rw [hy']
 exact he
theorem zjC (l:List zka) (hl:zls l):∀ (r:List zka) (i:Nat) (s:zkq),l.drop i=r→i≤l.length→zlY s=true →
  ∃ y,zkx (za3 l) ⟨(i:Int),s.fSt,s.Next,s.fCa,s.Done,s.fSi,s.fTi⟩=some y∧(match y with
   | .inl p77=>some ((⟨p77.b0_0,p77.b0_1,p77.b0_2,p77.b0_3,p77.b0_4,p77.b0_5⟩:zkq),p77.t3)
   | .inr p78=>some ((⟨p78.b1_0,p78.b1_1,p78.b1_2,p78.b1_3,p78.b1_4,p78.b1_5⟩:zkq),((l.length:Nat):Int)))=some ((zlr r s i).1,(((zlr r s i).2:Nat):Int)):=by
 have hl1:=hl.1
 intro r
 induction r with
 | nil =>
  intro i s hd hi hs
  have hi':=zp8 hd hi
  subst hi'
  refine ⟨_,zk3 (by unfold za3;rw [if_neg (by simp)]),rfl⟩
 | cons e r ih =>
  intro i s hd hi hs
  obtain ⟨hlt,hy,hr⟩:=zpd hd
  have hne:zoA e.Name:=by rw [← hy];exact (hl.2 _ (zkJ hlt)).2.2.2
  obtain ⟨q,hq,ha⟩:=zhl s e hs hne
  have hstep:za3 l ⟨(i:Int),s.fSt,s.Next,s.fCa,s.Done,s.fSi,s.fTi⟩=some (match zkR s e with
    | some t=>.inl ⟨((i+1:Nat):Int),t.fSt,t.Next,t.fCa,t.Done,t.fSi,t.fTi⟩
    | none=>.inr (.inl ⟨(i:Int),s.fSt,s.Next,s.fCa,s.Done,s.fSi,s.fTi⟩)):=by
   unfold za3
   have e1:=wS (i:=i) (by omega)
   simp only [qb,hy,e1]
   rw [if_pos (by simp;omega),zj9 (by omega)]
   have hq':zb1 ⟨s.fSt,s.Next,s.fCa,s.Done,s.fSi,s.fTi⟩ e=some q:=hq
   rw [hq',ha]
   simp only [qa]
   cases q.2<;>rfl
  unfold zlr
  cases hb:zkR s e with
  | some t =>
   rw [hb] at hstep
   rw [zlQ hstep]
   exact ih (i+1) t hr (by omega) (zo5 hb)
  | none =>
   rw [hb] at hstep
   exact ⟨_,zk3 hstep,rfl⟩
theorem zfC (l:List zka) (hl:zls l):zcx l=some ((zkX l).1,(((zkX l).2:Nat):Int)):=by
 unfold zcx zgj
 simp only [qa]
 obtain ⟨y,hy,he⟩:=zjC l hl l 0 zp7 rfl (by omega) zqG
 have hy':zkx (za3 l) ⟨0,0,1,false,0,[],[]⟩=some y:=hy
 rw [hy']
 exact he
end Go.TL
namespace Go.TL
theorem zsd:∀ (r:List zka) (s:zkq) (n:Nat),zlY s=true→zlY (zlr r s n).1=true
 | [],s,n,h=>h
 | e :: r,s,n,h=>by
  unfold zlr
  cases ha:zkR s e with
  | some t=>exact zsd r t (n+1) (zo5 ha)
  | none=>exact h
theorem zoC (l:List zka):zlY (zkX l).1=true:=zsd l zp7 0 zqG
theorem zqH (l:List zka):(zkX l).1.fSi.length≤30∧(zkX l).1.fTi.length≤30:=by
 have:=zmd (zoC l)
 exact ⟨zlo this.2.2.2.1,zlo this.2.2.2.2⟩
def zu7 (l:List zka):Bool:=zmP (λ i=>decide (i=0) || !decide ((nth l i).fVe < (nth l (i - 1)).fVe)) l.length
def zkP (l:List zka):Bool:=zu7 l && decide ((zkX l).2=l.length) && decide (l.length≤60)
theorem zga (l:List zka) (hl:l.length≤9223372036854775807):zcf l=some (zkP l):=by
 unfold zcf zkP
 by_cases h:l.length≤60
 rotate_left
 ·rw [if_pos (by simp;omega)];simp [h]
 rw [if_neg (by simp;omega)]
 have key:=zlx (step:=zbS l) (λ i=>(⟨i⟩:zey)) l.length (λ i=>decide (i=0) || !decide ((nth l i).fVe < (nth l (i - 1)).fVe)) (.inr ():Unit⊕Unit) (.inl ()) (λ i hi hv=>?_) (λ _=>?_)
 ·rw [key]
  unfold zu7
  cases zmP (λ i=>decide (i=0) || !decide ((nth l i).fVe < (nth l (i - 1)).fVe)) l.length
  ·simp
  ·simp only [if_true,qa]
   rw [zgU l hl]
   simp only [qa,ql,decide_eq_true h,Bool.and_true]
   congr 1
   rw [qf,beq_iff_eq,decide_eq_true_eq];omega
 ·unfold zbS
  have e1:=wS (i:=i) (by omega)
  dsimp only
  rw [if_pos (by simp;omega),e1,zj9 (by omega)]
  by_cases h0:i=0
  ·subst h0
   simp
  ·have e2:wI ((i:Int) - 1)=((i - 1:Nat):Int):=by rw [zkU (by omega)];omega
   rw [if_pos (by simp;omega),e2,zj9 (by omega)]
   simp only [qa,qb,decide_eq_false h0,qm]
   cases decide ((nth l i).fVe < (nth l (i - 1)).fVe)<;>rfl
 ·unfold zbS
  rw [if_neg (by simp)]
theorem ziO (l:List zka) (hl:zls l):zeM l=some (zkP l):=by
 have hl1:=hl.1
 unfold zeM zkP
 have key:=zlx (step:=zbR l) (λ i=>(⟨i⟩:zex)) l.length (λ i=>decide (i=0) || !decide ((nth l i).fVe < (nth l (i - 1)).fVe)) (.inr ():Unit⊕Unit) (.inl ()) (λ i hi hv=>?_) (λ _=>?_)
 ·rw [key]
  unfold zu7
  cases zmP (λ i=>decide (i=0) || !decide ((nth l i).fVe < (nth l (i - 1)).fVe)) l.length
  ·simp
  ·simp only [if_true,qa]
   rw [zfC l hl]
   simp only [qa,ql]
   have e1:((((zkX l).2:Nat):Int) == ((l.length:Nat):Int))=decide ((zkX l).2=l.length):=by
    rw [qf,beq_iff_eq,decide_eq_true_eq];omega
   have e2:decide (((l.length:Nat):Int)≤60)=decide (l.length≤60):=by congr 1;apply propext;omega
   rw [e1,e2]
   cases decide ((zkX l).2=l.length)<;>rfl
 ·unfold zbR
  have e1:=wS (i:=i) (by omega)
  dsimp only
  rw [if_pos (by simp;omega),e1]
  by_cases h0:i=0
  ·subst h0
   simp
  ·have e2:wI ((i:Int) - 1)=((i - 1:Nat):Int):=by rw [zkU (by omega)];omega
   rw [if_pos (by simp;omega),e2,zj9 (by omega),zj9 (by omega)]
   simp only [qa,qb,decide_eq_false h0,qm,gt_iff_lt]
   cases decide ((nth l i).fVe < (nth l (i - 1)).fVe)<;>rfl
 ·unfold zbR
  rw [if_neg (by simp)]
end Go.TL
namespace Go.TL
def evC (a b:zka):Int:=if a.fVe≠b.fVe then (if a.fVe < b.fVe then -1 else 1) else if a.Kind≠b.Kind then (if a.Kind < b.Kind then -1 else 1) else if sLt a.Name b.Name=true then -1 else if sLt b.Name a.Name=true then 1 else 0
theorem zja (a b:zka):zfl a b=some (evC a b):=by
 unfold zfl evC
 rw [sGt]
 by_cases h1:a.fVe=b.fVe
 ·by_cases h2:a.Kind=b.Kind
  ·simp only [h1,h2,bne_self_eq_false,qc,if_false,ne_eq,not_true_eq_false]
   split
   ·rfl
   ·split<;>rfl
  ·have hb:(a.Kind != b.Kind)=true:=by simp [h2]
   simp only [h1,hb,bne_self_eq_false,qc,if_false,if_true,ne_eq,not_true_eq_false,h2,not_false_eq_true,decide_eq_true_eq]
   split<;>rfl
 ·have hb:(a.fVe != b.fVe)=true:=by simp [h1]
  simp only [hb,if_true,ne_eq,h1,not_false_eq_true,decide_eq_true_eq]
  split<;>rfl
theorem zze (a b c:Int):zfY [a,b,c]=some (if a≠0 then a else if b≠0 then b else c):=by
 unfold zfY
 have key:=zlm (step:=zdU [a,b,c]) (λ i=>(⟨i⟩:zgi)) 3 (λ i=>decide (nth [a,b,c] i≠0)) (λ i=>(.inl ⟨nth [a,b,c] i⟩:zhD⊕Unit)) (.inr ()) (λ i hi hv=>?_) ?_
 ·rw [key]
  have n0:nth [a,b,c] 0=a:=rfl
  have n1:nth [a,b,c] 1=b:=rfl
  have n2:nth [a,b,c] 2=c:=rfl
  by_cases ha:a=0
  ·by_cases hb:b=0
   ·by_cases hc:c=0
    ·rw [znr (λ j hj=>by
      have:j=0∨j=1∨j=2:=by omega
      rcases this with rfl | rfl | rfl
      ·rw [n0];simp [ha]
      ·rw [n1];simp [hb]
      ·rw [n2];simp [hc])]
     simp [ha,hb,hc]
    ·rw [zmQ (i:=2) (by omega) (by rw [n2];simp [hc]) (λ j hj=>by
      have:j=0∨j=1:=by omega
      rcases this with rfl | rfl
      ·rw [n0];simp [ha]
      ·rw [n1];simp [hb])]
     simp only [qa]
     rw [n2,if_neg (by simp [ha]),if_neg (by simp [hb])]
   ·rw [zmQ (i:=1) (by omega) (by rw [n1];simp [hb]) (λ j hj=>by
     have:j=0:=by omega
     subst this;rw [n0];simp [ha])]
    simp only [qa]
    rw [n1,if_neg (by simp [ha]),if_pos hb]
  ·rw [zmQ (i:=0) (by omega) (by rw [n0];simp [ha]) (λ j hj=>by omega)]
   simp [ha,n0]
 ·unfold zdU
  have hl:([a,b,c]:List Int).length=3:=rfl
  simp (disch:=omega) only [hl,decide_eq_true_eq,if_pos,zj9,qb,zkU]
  by_cases h:nth [a,b,c] i=0
  ·rw [if_neg (by simp [h]),if_neg (by simp [h])];rfl
  ·rw [if_pos (by simp [h]),if_pos (by simp [h])]
 ·unfold zdU
  rw [if_neg (by simp)]
theorem zit (a b:zka):zd6 a b=some (evC a b):=by
 unfold zd6
 simp only [zjm,zjN,qa,zze]
 congr 1
 unfold evC zu2 zBS
 by_cases h1:a.fVe < b.fVe
 ·have:¬ a.fVe=b.fVe:=by omega
  simp [h1,this]
 ·by_cases h2:b.fVe < a.fVe
  ·have:¬ a.fVe=b.fVe:=by omega
   simp [h1,h2,this]
  ·have h3:a.fVe=b.fVe:=by omega
   simp only [h3,qw,if_false,ne_eq,not_true_eq_false]
   by_cases k1:a.Kind < b.Kind
   ·have:¬ a.Kind=b.Kind:=by omega
    simp [k1,this]
   ·by_cases k2:b.Kind < a.Kind
    ·have:¬ a.Kind=b.Kind:=by omega
     simp [k1,k2,this]
    ·have k3:a.Kind=b.Kind:=by omega
     simp only [k3,qw,if_false,ne_eq,not_true_eq_false]
     rcases zoB a.Name b.Name with h | h | h
     ·simp [h]
     ·simp [h,zlt]
     ·have hn:a.Name≠b.Name:=λ e=>by rw [e,zlt] at h;cases h
      simp [h,zm2 h,hn]
theorem zmK (a b:zka):evC a b=0↔a.fVe=b.fVe∧a.Kind=b.Kind∧a.Name=b.Name:=by
 unfold evC
 by_cases h1:a.fVe=b.fVe
 ·by_cases h2:a.Kind=b.Kind
  ·rcases zoB a.Name b.Name with h | h | h
   ·have hn:a.Name≠b.Name:=λ e=>by rw [e,zlt] at h;cases h
    simp [h1,h2,h,hn]
   ·simp [h1,h2,h,zlt]
   ·have hn:a.Name≠b.Name:=λ e=>by rw [e,zlt] at h;cases h
    simp [h1,h2,h,zm2 h,hn]
  ·simp only [h1,h2,ne_eq,not_true_eq_false,if_false,not_false_eq_true,if_true,false_and,and_false,iff_false]
   split<;>decide
 ·simp only [h1,ne_eq,not_false_eq_true,if_true,false_and,iff_false]
  split<;>decide
def zl7 (a b:List zka):Option Nat:=zlp (λ i=>decide (evC (nth a i) (nth b i)≠0)) (min a.length b.length)
def zk7 (a b:List zka):Int×Nat:=match zl7 a b with
 | some i=>(evC (nth a i) (nth b i),i)
 | none=>if a.length < b.length then (-1,a.length) else if b.length < a.length then (1,b.length) else (0,a.length)
theorem zea (a b:List zka) (ha:a.length≤9223372036854775807) (hb:b.length≤9223372036854775807):za4 a b=some ((zk7 a b).1,(((zk7 a b).2:Nat):Int)):=by
 unfold za4
 have key:=zlm (step:=zbp a b) (λ i=>(⟨i⟩:zd4)) (min a.length b.length) (λ i=>decide (evC (nth a i) (nth b i)≠0)) (λ i=>(.inl ⟨evC (nth a i) (nth b i),i⟩:zgC⊕Unit)) (.inr ()) (λ i hi hv=>?_) ?_
 ·rw [key]
  unfold zk7 zl7
  cases zlp (λ i=>decide (evC (nth a i) (nth b i)≠0)) (min a.length b.length) with
  | some i=>rfl
  | none =>
   simp only [qa,decide_eq_true_eq,qz,gt_iff_lt]
   split
   ·rfl
   ·split<;>rfl
 ·unfold zbp
  dsimp only
  rw [if_pos (by simp;omega),if_pos (by simp;omega),zj9 (by omega),zj9 (by omega),zja]
  simp only [qa,qb]
  have e1:=wS (i:=i) (by omega)
  rw [e1]
  by_cases h:evC (nth a i) (nth b i)=0
  ·rw [if_neg (by simp [h]),if_neg (by simp [h])]
  ·rw [if_pos (by simp [h]),if_pos (by simp [h])]
 ·unfold zbp
  dsimp only
  by_cases h:a.length≤b.length
  ·rw [if_neg (by simp;omega)]
  ·rw [if_pos (by simp;omega),if_neg (by simp;omega)]
theorem zfu (a b:List zka) (ha:a.length≤9223372036854775807) (hb:b.length≤9223372036854775807):zbm a b=some (zk7 a b).1:=by
 unfold zbm zC
 have key:=zlm (step:=zc a b) (λ i=>(⟨i⟩:zt)) (min a.length b.length) (λ i=>decide (evC (nth a i) (nth b i)≠0))
  (λ i=>(.inl ⟨evC (nth a i) (nth b i)⟩:zar⊕Unit)) (if b.length < a.length then .inl ⟨1⟩ else .inr ()) (λ i hi hv=>?_) ?_
 ·rw [key]
  unfold zk7 zl7
  cases zlp (λ i=>decide (evC (nth a i) (nth b i)≠0)) (min a.length b.length) with
  | some i=>rfl
  | none =>
   simp only [qa]
   by_cases h1:b.length < a.length
   ·have h2:¬ a.length < b.length:=by omega
    simp only [h1,h2,if_true,if_false,qa]
   ·simp only [h1,if_false,decide_eq_true_eq,qz]
    split<;>rfl
 ·unfold zc
  dsimp only
  rw [if_pos (by simp;omega),zj9 (by omega),if_neg (by simp;omega),zj9 (by omega),zit]
  simp only [qa,qb]
  have e1:=wS (i:=i) (by omega)
  rw [e1]
  by_cases h:evC (nth a i) (nth b i)=0
  ·rw [if_neg (by simp [h]),if_neg (by simp [h])]
  ·rw [if_pos (by simp [h]),if_pos (by simp [h])]
 ·unfold zc
  dsimp only
  by_cases h:b.length < a.length
  ·rw [if_pos (by simp;omega),zj9 (by omega),if_pos (by simp;omega),if_pos h]
  ·rw [if_neg (by simp;omega),if_neg h]
def zlC (l:List zka):Bool:=decide (0 < l.length) && zkP l
theorem ziu (l:List zka) (hl:zls l):zd3 l=some (zlC l):=by
 unfold zd3 zlC
 by_cases h:0 < l.length
 ·rw [if_pos (decide_eq_true (show ((l.length:Nat):Int) > 0 by omega)),ziO l hl];simp [h]
 ·rw [if_neg (by rw [decide_eq_true_eq];omega)];simp [h]
theorem ziP (l:List zka) (hl:l.length≤9223372036854775807):zeQ l=some (zlC l):=by
 unfold zeQ zlC
 by_cases h:0 < l.length
 ·rw [if_pos (decide_eq_true (show ((l.length:Nat):Int) > 0 by omega)),zga l hl];simp [h]
 ·rw [if_neg (by rw [decide_eq_true_eq];omega)];simp [h]
theorem zxL {s t:zkq} {e:zka} (h:znz s e=some t):t.Next=s.Next+1:=by
 unfold znz at h
 split at h
 ·cases h;rfl
 split at h
 ·split at h
  ·cases h
  ·cases h;rfl
 split at h
 ·cases h;rfl
 split at h
 ·cases h;rfl
 split at h
 ·split at h
  ·cases h
  ·cases h;rfl
 ·cases h;rfl
theorem zq8 {s t:zkq} {e:zka} (h:zkR s e=some t):e.Id=s.Next∧t.Next=s.Next+1:=by
 unfold zkR at h
 split at h
 ·rename_i hm
  unfold zqF at hm
  simp only [qd,decide_eq_true_eq] at hm
  cases ho:znz s e with
  | none=>rw [ho] at h;cases h
  | some u =>
   rw [ho] at h
   simp only [qa] at h
   split at h
   ·cases h;exact ⟨hm.1.1.2,zxL ho⟩
   ·cases h
 ·cases h
theorem zqJ:∀ (r:List zka) (s:zkq) (n:Nat),(zlr r s n).2=n+r.length→∀ j,j < r.length→(nth r j).Id=s.Next+(j:Int)
 | [],s,n,_,j,hj=>by simp at hj
 | e :: r,s,n,h,j,hj=>by
  unfold zlr at h
  cases ha:zkR s e with
  | none=>rw [ha] at h;simp only [qP] at h;omega
  | some t =>
   rw [ha] at h
   obtain ⟨h1,h2⟩:=zq8 ha
   cases j with
   | zero=>show e.Id=_;rw [h1];simp
   | succ j =>
    have:=zqJ r t (n+1) (by simp only [qP] at h;omega) j (by simpa using hj)
    show (nth r j).Id=_
    rw [this,h2];omega
theorem zu8 {l:List zka} (h:zkP l=true) {i:Nat} (hi:i < l.length):(nth l i).Id=1+(i:Int):=by
 unfold zkP at h
 simp only [qd,decide_eq_true_eq] at h
 exact zqJ l zp7 0 (by have:=h.1.2;unfold zkX at this;omega) i hi
theorem zkL {l:List zka} (h:zlC l=true):zkP l=true:=by
 unfold zlC at h
 simp only [qd] at h
 exact h.2
theorem zk8 {l:List zka} (h:zkP l=true):l.length≤60:=by
 unfold zkP at h
 simp only [qd,decide_eq_true_eq] at h
 exact h.2
theorem zpe {a b:List zka} (ha:zkP a=true) (hb:zkP b=true) {i:Nat} (h1:i < a.length) (h2:i < b.length):nth a i=nth b i↔evC (nth a i) (nth b i)=0:=by
 rw [zmK]
 constructor
 ·intro e;rw [e];exact ⟨rfl,rfl,rfl⟩
 ·rintro ⟨e1,e2,e3⟩
  have i1:=zu8 ha h1
  have i2:=zu8 hb h2
  have e0:(nth a i).Id=(nth b i).Id:=by rw [i1,i2]
  revert e0 e1 e2 e3
  cases nth a i;cases nth b i
  simp only
  rintro rfl rfl rfl rfl
  rfl
theorem zBT (x y:zka):((x.Id == y.Id) && ((x.fVe == y.fVe) && ((x.Kind == y.Kind) && (x.Name.toList == y.Name.toList))))=decide (x=y):=by
 rw [sEq,qf]
 simp only [qd,beq_iff_eq,decide_eq_true_eq]
 cases x;cases y
 simp
theorem zse (a b:List zka):(zk7 a b).2=match zl7 a b with | some i=>i | none=>min a.length b.length:=by
 unfold zk7
 cases zl7 a b with
 | some i=>rfl
 | none =>
  simp only
  split
  ·simp only;omega
  ·split<;>(simp only;omega)
theorem zjD (a b:List zka) (ha:zkP a=true) (hb:zkP b=true):zge a b=some (((zk7 a b).2:Nat):Int):=by
 have h1:=zk8 ha
 have h2:=zk8 hb
 unfold zge
 have key:=zlm (step:=zde a b) (λ i=>(⟨i⟩:zfZ)) (min a.length b.length) (λ i=>decide (evC (nth a i) (nth b i)≠0)) (λ i=>(⟨i⟩:zhi)) (⟨((min a.length b.length:Nat):Int)⟩) (λ i hi hv=>?_) ?_
 ·rw [key,zse]
  unfold zl7
  cases zlp (λ i=>decide (evC (nth a i) (nth b i)≠0)) (min a.length b.length)<;>rfl
 ·unfold zde
  dsimp only
  rw [if_pos (by simp;omega),zj9 (by omega),zj9 (by omega),qb,zBT]
  have e1:=wS (i:=i) (by omega)
  rw [e1]
  have hs:=zpe ha hb (i:=i) (by omega) (by omega)
  by_cases h:evC (nth a i) (nth b i)=0
  ·rw [if_pos (decide_eq_true (hs.2 h)),if_neg (by simp [h])]
  ·rw [if_neg (by simpa using λ e=>h (hs.1 e)),if_pos (by simp [h])]
 ·unfold zde
  dsimp only
  rw [if_neg (by simp;omega)]
def zwX (a b:List zka):Int×Bool:=if (zlC a && zlC b)=true then ((((zk7 a b).2:Nat):Int),true) else (0,false)
theorem zjE (a b:List zka) (ha:zls a) (hb:zls b):zgf a b=some (zwX a b):=by
 unfold zgf zwX zlC
 simp only [zga _ ha.1,zga _ hb.1,qa]
 by_cases h1:a.length=0
 ·rw [if_pos (by simp [h1])];simp [h1]
 rw [if_neg (by simp;intro e;simp [e] at h1)]
 by_cases h2:b.length=0
 ·rw [if_pos (by simp [h2])];simp [h2]
 rw [if_neg (by simp;intro e;simp [e] at h2)]
 have h1':0 < a.length:=by omega
 have h2':0 < b.length:=by omega
 cases e1:zkP a
 ·simp
 cases e2:zkP b
 ·simp
 rw [zjD a b e1 e2]
 simp [h1',h2']
end Go.TL
namespace Go.TL
def zk2 (c b:List zka):Bool:=decide ((zk7 b c).2=c.length)
theorem zcV (b c:List zka) (hb:b.length≤9223372036854775807) (hc:c.length≤9223372036854775807):zaN b c=some (zk2 c b):=by
 unfold zaN zk2
 rw [zea _ _ hb hc]
 simp only [qa]
 congr 1
 rw [qf,beq_iff_eq,decide_eq_true_eq];omega
theorem zm4 {p:Nat→Bool} {n i:Nat} (h:zlp p n=some i):i < n∧p i=true∧∀ j,j < i→p j=false:=by
 unfold zlp at h
 rw [List.find?_range_eq_some] at h
 exact ⟨by simpa using h.2.1,h.1,λ j hj=>by have:=h.2.2 j hj;simpa using this⟩
theorem znu {p:Nat→Bool} {n:Nat} (h:zlp p n=none):∀ j,j < n→p j=false:=by
 unfold zlp at h
 rw [List.find?_eq_none] at h
 intro j hj
 have:=h j (List.mem_range.2 hj)
 simpa using this
theorem zo6 {c b:List zka} (hc:zkP c=true) (hb:zkP b=true):zk2 c b=true↔c.length≤b.length∧∀ i,i < c.length→nth c i=nth b i:=by
 unfold zk2
 rw [decide_eq_true_eq,zse]
 unfold zl7
 cases hf:zlp (λ i=>decide (evC (nth b i) (nth c i)≠0)) (min b.length c.length) with
 | some i =>
  obtain ⟨h1,h2,h3⟩:=zm4 hf
  simp only [ne_eq,decide_not,Bool.not_eq_true',decide_eq_false_iff_not] at h2
  simp only
  constructor
  ·intro h;omega
  ·rintro ⟨h4,h5⟩
   exact absurd ((zpe hb hc (i:=i) (by omega) (by omega)).1 (h5 i (by omega)).symm) h2
 | none =>
  have h1:=znu hf
  simp only
  constructor
  ·intro h
   refine ⟨by omega,λ i hi=>?_⟩
   have:=h1 i (by omega)
   simp only [ne_eq,decide_not,Bool.not_eq_false',decide_eq_true_eq] at this
   exact ((zpe hb hc (i:=i) (by omega) (by omega)).2 this).symm
  ·rintro ⟨h4,_⟩;omega
theorem zgQ (c b:List zka) (hc:zkP c=true) (hb:zkP b=true):zeq c b=some (zk2 c b):=by
 have h1:=zk8 hc
 have h2:=zk8 hb
 unfold zeq
 by_cases h:c.length≤b.length
 rotate_left
 ·have:zk2 c b=false:=by
   cases e:zk2 c b with
   | false=>rfl
   | true=>exact absurd ((zo6 hc hb).1 e).1 h
  rw [if_neg (by rw [decide_eq_true_eq];omega),this]
 rw [if_pos (by rw [decide_eq_true_eq];omega),zj9 (by omega)]
 unfold zb4
 have ht:(b.take c.length).length=c.length:=by rw [qe];omega
 rw [if_neg (by rw [ht];simp)]
 have key:=zlx (step:=zZ c (b.take c.length)) (λ i=>(⟨i⟩:zbk)) c.length (λ i=>decide (nth c i=nth b i)) (.inr ():Unit⊕Unit) (.inl ()) (λ i hi hv=>?_) (λ _=>?_)
 ·rw [key]
  have e:zmP (λ i=>decide (nth c i=nth b i)) c.length=zk2 c b:=by
   rw [qf,zll,zo6 hc hb]
   simp only [decide_eq_true_eq]
   exact ⟨λ h'=>⟨h,h'⟩,λ h'=>h'.2⟩
  rw [e]
  cases zk2 c b<;>simp
 ·unfold zZ
  dsimp only
  rw [if_pos (by rw [decide_eq_true_eq];omega),zj9 (by omega),zj9 (by rw [ht];omega),qb,zBT,zm3 hi]
  have e1:=wS (i:=i) (by omega)
  rw [e1]
  cases decide (nth c i=nth b i)<;>rfl
 ·unfold zZ
  dsimp only
  rw [if_neg (by rw [decide_eq_true_eq];omega)]
def zld (t:zkh):Bool:=decide (t.fBr.length≤12) && zmP (λ i=>zlC (nth t.fBr i).fEv && zmP (λ k=>decide ((zk7 (nth t.fBr k).fEv (nth t.fBr i).fEv).1 < 0) && !zk2 (nth t.fBr k).fEv (nth t.fBr i).fEv) i) t.fBr.length
theorem zc4 (t:zkh) (ht:zlb t):zao t=some (zld t):=by
 have h1:t.fBr.length≤9223372036854775807:=ht.1
 have hev:∀ i,i < t.fBr.length→zls (nth t.fBr i).fEv:=λ i hi=>ht.2 _ (zkJ hi)
 unfold zao zld
 have key:=zlx (step:=zaQ t) (λ i=>(⟨i⟩:zaO)) t.fBr.length
  (λ i=>zlC (nth t.fBr i).fEv && zmP (λ k=>decide ((zk7 (nth t.fBr k).fEv (nth t.fBr i).fEv).1 < 0) && !zk2 (nth t.fBr k).fEv (nth t.fBr i).fEv) i) (.inr ():Unit⊕Unit) (.inl ()) (λ i hi hv=>?_) (λ _=>?_)
 ·rw [key]
  have e2:decide (((t.fBr.length:Nat):Int)≤12)=decide (t.fBr.length≤12):=by congr 1;apply propext;omega
  split
  ·rename_i h;rw [h];simp [e2]
  ·rename_i h;simp only [qo] at h;rw [h];simp
 ·unfold zaQ
  dsimp only
  rw [if_pos (by rw [decide_eq_true_eq];omega),zj9 (by omega),qb,ziu _ (hev i hi)]
  simp only [qa]
  cases hn:zlC (nth t.fBr i).fEv
  ·simp
  have ht':(t.fBr.take i).length=i:=by rw [qe];omega
  rw [if_neg (by simp),zj9 (by omega)]
  have key2:=zlx (step:=zaP t (⟨(i:Int)⟩:zaO)) (λ k=>(⟨k⟩:zcZ)) i (λ k=>decide ((zk7 (nth t.fBr k).fEv (nth t.fBr i).fEv).1 < 0) && !zk2 (nth t.fBr k).fEv (nth t.fBr i).fEv) (.inr ():Unit⊕Unit) (.inl ()) (λ k hk _=>?_) (λ _=>?_)
  ·rw [key2,ql]
   have e1:=wS (i:=i) (by omega)
   rw [e1]
   split<;>rfl
  ·unfold zaP
   simp only [qb,ht']
   rw [if_pos (by rw [decide_eq_true_eq];omega),zj9 (by omega),zm3 hk,zea _ _ (hev k (by omega)).1 (hev i hi).1,zcV _ _ (hev i hi).1 (hev k (by omega)).1]
   have e1:=wS (i:=k) (by omega)
   simp only [qa,e1]
   by_cases hc:(zk7 (nth t.fBr k).fEv (nth t.fBr i).fEv).1 < 0
   ·rw [if_neg (by rw [decide_eq_true_eq];omega),decide_eq_true hc]
    cases zk2 (nth t.fBr k).fEv (nth t.fBr i).fEv
    ·have:¬ ((k:Int) > (i:Int)):=by omega
     simp [this]
    ·simp
   ·rw [if_pos (by rw [decide_eq_true_eq];omega),decide_eq_false hc]
    simp
  ·unfold zaP
   simp only [qb,ht']
   rw [if_neg (by simp)]
 ·unfold zaQ
  rw [if_neg (by simp)]
theorem zfc (t:zkh) (ht:zlb t):za0 t=some (zld t):=by
 have h1:t.fBr.length≤9223372036854775807:=ht.1
 have hev:∀ i,i < t.fBr.length→zls (nth t.fBr i).fEv:=λ i hi=>ht.2 _ (zkJ hi)
 unfold za0 zld
 by_cases h12:t.fBr.length≤12
 rotate_left
 ·rw [if_pos (by rw [decide_eq_true_eq];omega)];simp [h12]
 rw [if_neg (by rw [decide_eq_true_eq];omega),decide_eq_true h12,ql]
 have key:=zlx (step:=zaT t) (λ i=>(⟨i⟩:zaR)) t.fBr.length
  (λ i=>zlC (nth t.fBr i).fEv && zmP (λ k=>decide ((zk7 (nth t.fBr k).fEv (nth t.fBr i).fEv).1 < 0) && !zk2 (nth t.fBr k).fEv (nth t.fBr i).fEv) i) (.inr ():Unit⊕Unit) (.inl ()) (λ i hi hv=>?_) (λ _=>?_)
 ·rw [key]
  split
  ·rename_i h;rw [h];rfl
  ·rename_i h;simp only [qo] at h;rw [h];rfl
 ·unfold zaT
  dsimp only
  rw [if_pos (by rw [decide_eq_true_eq];omega),zj9 (by omega),qb,ziP _ (hev i hi).1]
  simp only [qa]
  cases hn:zlC (nth t.fBr i).fEv
  ·simp
  have ht':(t.fBr.take i).length=i:=by rw [qe];omega
  rw [if_neg (by simp),zj9 (by omega)]
  have key2:=zlx (step:=zaS t (⟨(i:Int)⟩:zaR)) (λ k=>(⟨k⟩:zc0)) i (λ k=>decide ((zk7 (nth t.fBr k).fEv (nth t.fBr i).fEv).1 < 0) && !zk2 (nth t.fBr k).fEv (nth t.fBr i).fEv) (.inr ():Unit⊕Unit) (.inl ()) (λ k hk _=>?_) (λ _=>?_)
  ·rw [key2,ql]
   have e1:=wS (i:=i) (by omega)
   rw [e1]
   split<;>rfl
  ·have hk':zlC (nth t.fBr k).fEv=true:=by
    have:=hv k hk
    simp only [qd] at this
    exact this.1
   unfold zaS
   simp only [qb,ht']
   rw [if_pos (by rw [decide_eq_true_eq];omega),zj9 (by omega),zm3 hk,zfu _ _ (hev k (by omega)).1 (hev i hi).1,zgQ _ _ (zkL hk') (zkL hn)]
   have e1:=wS (i:=k) (by omega)
   simp only [qa,e1]
   by_cases hc:(zk7 (nth t.fBr k).fEv (nth t.fBr i).fEv).1 < 0
   ·rw [if_neg (by rw [decide_eq_true_eq];omega),decide_eq_true hc]
    cases zk2 (nth t.fBr k).fEv (nth t.fBr i).fEv<;>simp
   ·rw [if_pos (by rw [decide_eq_true_eq];omega),decide_eq_false hc]
    simp
  ·unfold zaS
   simp only [qb,ht']
   rw [if_neg (by simp)]
 ·unfold zaT
  rw [if_neg (by simp)]
end Go.TL
namespace Go.TL
theorem znv {t:zkh} (h:zld t=true) {i:Nat} (hi:i < t.fBr.length):zlC (nth t.fBr i).fEv=true:=by
 unfold zld at h
 simp only [qd,zll] at h
 exact (h.2 i hi).1
theorem zla {t:zkh} (h:zld t=true):t.fBr.length≤12:=by
 unfold zld at h
 simp only [qd,decide_eq_true_eq] at h
 exact h.1
end Go.TL

import Derived.Test.YteonagfnhdlfcaaGreatDoorG23PpMark
import Derived.Test.YteonagfnhdlfcaaGreatDoorG19PlR1
open Option renaming bind_some → qa
open Array renaming length_toList → qb
open Bool renaming false_eq_true → qc, eq_iff_iff → qg
open List renaming dropWhile_cons_of_pos → qd, dropWhile_cons_of_neg → qe, all_eq_true → qf
set_option linter.unusedSimpArgs false
set_option linter.unusedVariables false
noncomputable section
set_option maxRecDepth 4000
namespace Go.TL
end Go.TL
namespace Go.TL
def zr8 (b:UInt8):Bool:=decide (97≤b.toNat∧b.toNat≤122) || decide (48≤b.toNat∧b.toNat≤57)
def zlq (s:ByteArray):Bool:=decide (s.size≤12) && s.data.toList.all zr8
def nameSet:ByteArray:=⟨#[97,98,99,100,101,102,103,104,105,106,107,108,109,110,111,112,113,114,115,116,117,118,119,120,121,122,48,49,50,51,52,53,54,55,56,57]⟩
set_option maxRecDepth 100000 in
theorem zxH (b:UInt8):nameSet.data.toList.contains b=zr8 b:=by
 have h:∀ n:Fin 256,nameSet.data.toList.contains (UInt8.ofNat n.val)=zr8 (UInt8.ofNat n.val):=by decide
 have:=h ⟨b.toNat,b.toNat_lt⟩
 simpa using this
theorem zn1 {p:UInt8→Bool} {l:List UInt8}:l.dropWhile p=[]↔∀ x∈l,p x=true:=by
 induction l with
 | nil=>simp
 | cons x r ih =>
  by_cases h:p x=true
  ·rw [qd h,ih];simp [h]
  ·rw [qe h];simp [h]
theorem zo3 {p:UInt8→Bool}:∀ {l:List UInt8} {x:UInt8} {r:List UInt8},l.dropWhile p=x :: r→¬ p x=true
 | [],x,r,h=>by simp at h
 | y :: q,x,r,h=>by
  by_cases hy:p y=true
  ·rw [qd hy] at h;exact zo3 h
  ·rw [qe hy] at h
   cases h;exact hy
theorem zza (l cs:List UInt8):Go.Lib.trimS l cs=[]↔∀ x∈l,cs.contains x=true:=by
 unfold Go.Lib.trimS Go.Lib.trimLeftS Go.Lib.trimRightS
 rw [zn1]
 constructor
 ·intro h
  have hn:l.reverse.dropWhile (cs.contains ·)=[]:=by
   cases hd:l.reverse.dropWhile (cs.contains ·) with
   | nil=>rfl
   | cons x r=>exact absurd (h x (by rw [hd];simp)) (zo3 hd)
  intro x hx
  exact zn1.1 hn x (by simpa using hx)
 ·intro h x hx
  have hn:l.reverse.dropWhile (cs.contains ·)=[]:=zn1.2 λ y hy=>h y (by simpa using hy)
  rw [hn] at hx;simp at hx
theorem zch (s:ByteArray):zbj s=some (zlq s):=by
 unfold zbj zlq
 by_cases h:s.size≤12
 rotate_left
 ·rw [if_neg (by simp;omega)];simp [h]
 rw [if_pos (by simp;omega)]
 have ht:zeK s nameSet=some (zuY s nameSet):=by
  unfold zeK
  exact zj9 ⟨by omega,by decide,by decide⟩ _
 have ht':zeK s (⟨#[97,98,99,100,101,102,103,104,105,106,107,108,109,110,111,112,113,114,115,116,117,118,119,120,121,122,48,49,50,51,52,53,54,55,56,57]⟩:ByteArray)=some (zuY s nameSet):=ht
 rw [ht']
 simp only [qa]
 rw [sEq]
 congr 1
 rw [decide_eq_true h,Bool.true_and,qg,decide_eq_true_eq,qf]
 have e:zuY s nameSet=ByteArray.empty↔Go.Lib.trimS s.data.toList nameSet.data.toList=[]:=by
  unfold zuY
  constructor
  ·intro h
   have:=congrArg (λ b:ByteArray=>b.data.toList) h
   simpa using this
  ·intro h;rw [h];rfl
 rw [e,zza]
 refine forall_congr' λ x=>forall_congr' λ _=>?_
 rw [zxH]
theorem zBR (s:ByteArray) (i:Nat) (h:i < s.size):bt s (i:Int)=(((s.data.toList[i]'(by rw [qb];exact h)).toNat:Nat):Int):=by
 unfold bt
 rw [Int.toNat_natCast]
 have:s[i]?=some (s[i]'h):=by rw [getElem?_pos]
 rw [this]
 rfl
theorem zu1 {s:ByteArray} {i:Nat} (h:i < s.size):zr8 (s.data.toList[i]'(by rw [qb];exact h))=(decide (97≤bt s i∧bt s i≤122) || decide (48≤bt s i∧bt s i≤57)):=by
 rw [zBR s i h]
 unfold zr8
 congr 1<;>(congr 1;apply propext;omega)
theorem zgP (s:ByteArray) (hs:s.size≤9223372036854775807):zen s=some (zlq s):=by
 unfold zen
 have key:=zlx (step:=zda s) (λ i=>(⟨i⟩:zfX)) s.size (λ i=>decide (97≤bt s i∧bt s i≤122) || decide (48≤bt s i∧bt s i≤57))
  (.inr ():Unit⊕Unit) (.inl ()) (λ i hi hv=>?_) (λ _=>?_)
 ·rw [key]
  have e:zmP (λ i=>decide (97≤bt s (i:Nat)∧bt s (i:Nat)≤122) || decide (48≤bt s (i:Nat)∧bt s (i:Nat)≤57)) s.size=s.data.toList.all zr8:=by
   rw [qg,zll,qf]
   constructor
   ·intro h x hx
    obtain ⟨i,hi,rfl⟩:=List.getElem_of_mem hx
    have hi':i < s.size:=by rw [qb] at hi;exact hi
    rw [zu1 hi'];exact h i hi'
   ·intro h i hi
    rw [← zu1 hi];exact h _ (List.getElem_mem _)
  rw [e]
  unfold zlq
  have hsz:decide ((s.size:Int)≤12)=decide (s.size≤12):=by congr 1;apply propext;omega
  cases s.data.toList.all zr8
  ·simp
  ·simp [hsz]
 ·unfold zda
  simp (disch:=omega) only [decide_eq_true_eq,if_pos,zj9,zkU]
  by_cases h1:bt s i ≥ 97
  ·rw [if_pos h1]
   by_cases h2:bt s i≤122
   ·rw [if_pos h2]
    simp only [qa]
    have hr:(decide (97≤bt s i∧bt s i≤122) || decide (48≤bt s i∧bt s i≤57))=true:=by simp;omega
    rw [hr];rfl
   ·have h3:bt s i ≥ 48:=by omega
    have h4:¬ bt s i≤57:=by omega
    have hr:(decide (97≤bt s i∧bt s i≤122) || decide (48≤bt s i∧bt s i≤57))=false:=by simp;omega
    rw [if_neg h2,hr,decide_eq_false h4];rfl
  ·rw [if_neg h1]
   by_cases h3:bt s i ≥ 48
   ·rw [if_pos h3]
    by_cases h4:bt s i≤57
    ·have hr:(decide (97≤bt s i∧bt s i≤122) || decide (48≤bt s i∧bt s i≤57))=true:=by simp;omega
     rw [hr,decide_eq_true h4];rfl
    ·have hr:(decide (97≤bt s i∧bt s i≤122) || decide (48≤bt s i∧bt s i≤57))=false:=by simp;omega
     rw [hr,decide_eq_false h4];rfl
   ·have hr:(decide (97≤bt s i∧bt s i≤122) || decide (48≤bt s i∧bt s i≤57))=false:=by simp;omega
    rw [if_neg h3,hr];rfl
 ·unfold zda
  rw [if_neg (by simp)]
def zp5 (n:Int):Bool:=decide (0≤n∧n≤1000000)
end Go.TL
namespace Go.TL
end Go.TL
namespace Go.TL
def znb (v r:Int):Int:=if v - v.tmod 10+r≤v then v - v.tmod 10+r+10 else v - v.tmod 10+r
def zly (v r:Int):Int×Bool:=if (0≤v∧v≤1000000)∧0≤r∧r≤9 then (if 0≤znb v r∧znb v r≤1000000 then (znb v r,true) else (0,false)) else (0,false)
theorem zzb {v:Int} (h:0≤v):0≤v.tmod 10∧v.tmod 10≤9∧v.tmod 10≤v:=by
 rw [Int.tmod_eq_emod_of_nonneg h];omega
theorem zim (v r:Int):zdp v r=some (zly v r):=by
 unfold zdp zly zbB
 simp only [zaF,qa]
 by_cases h1:0≤v∧v≤1000000
 rotate_left
 ·rw [decide_eq_false h1,if_pos (by simp),if_neg (λ h=>h1 h.1)];rfl
 rw [decide_eq_true h1,if_neg (by simp)]
 simp only [qa]
 by_cases h2:0≤r∧r≤9
 rotate_left
 ·rw [decide_eq_false h2,if_pos (by simp),if_neg (λ h=>h2 h.2)]
 rw [decide_eq_true h2,if_neg (by simp),if_pos ⟨h1,h2⟩]
 obtain ⟨m1,m2,m3⟩:=zzb h1.1
 have e:zfK v r=some (znb v r):=by
  unfold zfK znb
  rw [zkU (n:=v - v.tmod 10) (by omega),zkU (n:=v - v.tmod 10+r) (by omega),zkU (by omega)]
  by_cases h:v - v.tmod 10+r≤v
  ·rw [if_pos (decide_eq_true h),if_pos h]
  ·rw [if_neg (by simpa using h),if_neg h]
 rw [e]
 simp only [qa]
 by_cases h3:0≤znb v r∧znb v r≤1000000
 ·rw [decide_eq_true h3,if_neg (by simp),if_pos h3]
 ·rw [decide_eq_false h3,if_pos (by simp),if_neg h3]
theorem zin (v r:Int):zdq v r=some (zly v r):=by
 unfold zdq zU zdV
 simp only [zak,qa]
 by_cases h1:0≤v∧v≤1000000
 rotate_left
 ·have hP:zly v r=(0,false):=by unfold zly;rw [if_neg (λ h=>h1 h.1)]
  rw [hP,decide_eq_false h1,if_pos (by simp)];rfl
 rw [decide_eq_true h1,if_neg (by simp)]
 simp only [qa]
 by_cases h2:0≤r∧r≤9
 rotate_left
 ·have hP:zly v r=(0,false):=by unfold zly;rw [if_neg (λ h=>h2 h.2)]
  rw [hP,decide_eq_false h2,if_pos (by simp)]
 have hP:zly v r=if 0≤znb v r∧znb v r≤1000000 then (znb v r,true) else (0,false):=by unfold zly;rw [if_pos ⟨h1,h2⟩]
 rw [hP,decide_eq_true h2,if_neg (by simp)]
 obtain ⟨m1,m2,m3⟩:=zzb h1.1
 rw [zkU (n:=v - v.tmod 10) (by omega),zkU (n:=v - v.tmod 10+r) (by omega),zkU (n:=v - v.tmod 10+r+10) (by omega)]
 have e:(if decide (v - v.tmod 10+r≤v)=true then some (⟨v - v.tmod 10+r+10⟩:zcp) else some ⟨v - v.tmod 10+r⟩)=some ⟨znb v r⟩:=by
  unfold znb
  by_cases h:v - v.tmod 10+r≤v
  ·rw [if_pos (decide_eq_true h),if_pos h]
  ·rw [if_neg (by simpa using h),if_neg h]
 rw [e]
 simp only [qa]
 by_cases h3:0≤znb v r∧znb v r≤1000000
 ·rw [decide_eq_true h3,if_neg (by simp),if_pos h3]
 ·rw [decide_eq_false h3,if_pos (by simp),if_neg h3]
end Go.TL
namespace Go.TL
def zu2 (a b:Int):Int:=if a < b then -1 else if b < a then 1 else 0
def zBS (a b:ByteArray):Int:=if sLt a b=true then -1 else if a=b then 0 else 1
theorem zjm (a b:Int):za2 a b=some (zu2 a b):=by
 unfold za2 zfk zu2
 simp only [bne_self_eq_false,qa,qc,if_false,decide_eq_true_eq,gt_iff_lt]
 split
 ·rfl
 ·split<;>rfl
theorem zjN (a b:ByteArray):zcw a b=some (zBS a b):=by
 unfold zcw zaE zBS
 simp only [beq_self_eq_true,Bool.not_true,qa,qc,if_false,sEq]
 cases h:sLt a b
 ·simp only [qc,if_false,Bool.false_or]
  by_cases e:a=b
  ·rw [if_pos e,decide_eq_true e];rfl
  ·rw [if_neg e,decide_eq_false e];rfl
 ·simp
theorem zte (a:List UInt8):zlc a []=false:=by cases a<;>rfl
theorem zp6:∀ l:List UInt8,zlc l l=false
 | []=>rfl
 | x :: r=>by simp [zlc,zp6 r]
theorem zq7:∀ (a b c:List UInt8),zlc a b=true→zlc b c=true→zlc a c=true
 | a,b,[],_,h=>by rw [zte] at h;cases h
 | a,[],_ :: _,h,_=>by rw [zte] at h;cases h
 | [],_ :: _,_ :: _,_,_=>rfl
 | x :: r,y :: q,z :: s,h1,h2=>by
  simp only [zlc,Bool.or_eq_true,Bool.and_eq_true,decide_eq_true_eq,beq_iff_eq] at h1 h2 ⊢
  rcases h1 with h1 | ⟨rfl,h1⟩
  ·rcases h2 with h2 | ⟨rfl,h2⟩
   ·exact .inl (UInt8.lt_trans h1 h2)
   ·exact .inl h1
  ·rcases h2 with h2 | ⟨rfl,h2⟩
   ·exact .inl h2
   ·exact .inr ⟨rfl,zq7 r q s h1 h2⟩
end Go.TL

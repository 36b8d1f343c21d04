import Derived.Test.YteonagfnhdlfcaaGreatDoorG23PpMark
import Derived.Test.YteonagfnhdlfcaaGreatDoorG19PlR1
open Option renaming bind_some → qa
open Array renaming length_toList → qb
open Bool renaming false_eq_true → qc, eq_iff_iff → qg
open List renaming dropWhile_cons_of_pos → qd, dropWhile_cons_of_neg → qe, all_eq_true → qf
set_option linter.unusedSimpArgs false
set_option linter.unusedVariables false
noncomputable section
set_option maxRecDepth 4000
namespace Go.TL
end Go.TL
namespace Go.TL
def ztl (b:UInt8):Bool:=decide (97≤b.toNat∧b.toNat≤122) || decide (48≤b.toNat∧b.toNat≤57)
def zmk (s:ByteArray):Bool:=decide (s.size≤12) && s.data.toList.all ztl
def nameSet:ByteArray:=⟨#[97,98,99,100,101,102,103,104,105,106,107,108,109,110,111,112,113,114,115,116,117,118,119,120,121,122,48,49,50,51,52,53,54,55,56,57]⟩
set_option maxRecDepth 100000 in
theorem zyV (b:UInt8):nameSet.data.toList.contains b=ztl b:=by
 have h:∀ n:Fin 256,nameSet.data.toList.contains (UInt8.ofNat n.val)=ztl (UInt8.ofNat n.val):=by decide
 have:=h ⟨b.toNat,b.toNat_lt⟩
 simpa using this
theorem zoW {p:UInt8→Bool} {l:List UInt8}:l.dropWhile p=[]↔∀ x∈l,p x=true:=by
 induction l with
 | nil=>simp
 | cons x r ih =>
  by_cases h:p x=true
  ·rw [qd h,ih];simp [h]
  ·rw [qe h];simp [h]
theorem zp2 {p:UInt8→Bool}:∀ {l:List UInt8} {x:UInt8} {r:List UInt8},l.dropWhile p=x :: r→¬ p x=true
 | [],x,r,h=>by simp at h
 | y :: q,x,r,h=>by
  by_cases hy:p y=true
  ·rw [qd hy] at h;exact zp2 h
  ·rw [qe hy] at h
   cases h;exact hy
theorem zAf (l cs:List UInt8):Go.Lib.trimS l cs=[]↔∀ x∈l,cs.contains x=true:=by
 unfold Go.Lib.trimS Go.Lib.trimLeftS Go.Lib.trimRightS
 rw [zoW]
 constructor
 ·intro h
  have hn:l.reverse.dropWhile (cs.contains ·)=[]:=by
   cases hd:l.reverse.dropWhile (cs.contains ·) with
   | nil=>rfl
   | cons x r=>exact absurd (h x (by rw [hd];simp)) (zp2 hd)
  intro x hx
  exact zoW.1 hn x (by simpa using hx)
 ·intro h x hx
  have hn:l.reverse.dropWhile (cs.contains ·)=[]:=zoW.2 λ y hy=>h y (by simpa using hy)
  rw [hn] at hx;simp at hx
theorem zb5 (s:ByteArray):zbc s=some (zmk s):=by
 unfold zbc zmk
 by_cases h:s.size≤12
 rotate_left
 ·rw [if_neg (by simp;omega)];simp [h]
 rw [if_pos (by simp;omega)]
 have ht:zev s nameSet=some (zv8 s nameSet):=by
  unfold zev
  exact zlb ⟨by omega,by decide,by decide⟩ _
 have ht':zev s (⟨#[97,98,99,100,101,102,103,104,105,106,107,108,109,110,111,112,113,114,115,116,117,118,119,120,121,122,48,49,50,51,52,53,54,55,56,57]⟩:ByteArray)=some (zv8 s nameSet):=ht
 rw [ht']
 simp only [qa]
 rw [sEq]
 congr 1
 rw [decide_eq_true h,Bool.true_and,qg,decide_eq_true_eq,qf]
 have e:zv8 s nameSet=ByteArray.empty↔Go.Lib.trimS s.data.toList nameSet.data.toList=[]:=by
  unfold zv8
  constructor
  ·intro h
   have:=congrArg (λ b:ByteArray=>b.data.toList) h
   simpa using this
  ·intro h;rw [h];rfl
 rw [e,zAf]
 refine forall_congr' λ x=>forall_congr' λ _=>?_
 rw [zyV]
theorem zCy (s:ByteArray) (i:Nat) (h:i < s.size):bt s (i:Int)=(((s.data.toList[i]'(by rw [qb];exact h)).toNat:Nat):Int):=by
 unfold bt
 rw [Int.toNat_natCast]
 have:s[i]?=some (s[i]'h):=by rw [getElem?_pos]
 rw [this]
 rfl
theorem zwd {s:ByteArray} {i:Nat} (h:i < s.size):ztl (s.data.toList[i]'(by rw [qb];exact h))=(decide (97≤bt s i∧bt s i≤122) || decide (48≤bt s i∧bt s i≤57)):=by
 rw [zCy s i h]
 unfold ztl
 congr 1<;>(congr 1;apply propext;omega)
theorem zg9 (s:ByteArray) (hs:s.size≤9223372036854775807):zea s=some (zmk s):=by
 unfold zea
 have key:=zmg (step:=zc7 s) (λ i=>(⟨i⟩:zf9)) s.size (λ i=>decide (97≤bt s i∧bt s i≤122) || decide (48≤bt s i∧bt s i≤57))
  (.inr ():Unit⊕Unit) (.inl ()) (λ i hi hv=>?_) (λ _=>?_)
 ·rw [key]
  have e:znK (λ i=>decide (97≤bt s (i:Nat)∧bt s (i:Nat)≤122) || decide (48≤bt s (i:Nat)∧bt s (i:Nat)≤57)) s.size=s.data.toList.all ztl:=by
   rw [qg,zmf,qf]
   constructor
   ·intro h x hx
    obtain ⟨i,hi,rfl⟩:=List.getElem_of_mem hx
    have hi':i < s.size:=by rw [qb] at hi;exact hi
    rw [zwd hi'];exact h i hi'
   ·intro h i hi
    rw [← zwd hi];exact h _ (List.getElem_mem _)
  rw [e]
  unfold zmk
  have hsz:decide ((s.size:Int)≤12)=decide (s.size≤12):=by congr 1;apply propext;omega
  cases s.data.toList.all ztl
  ·simp
  ·simp [hsz]
 ·unfold zc7
  simp (disch:=omega) only [decide_eq_true_eq,if_pos,zlb,zls]
  by_cases h1:bt s i ≥ 97
  ·rw [if_pos h1]
   by_cases h2:bt s i≤122
   ·rw [if_pos h2]
    simp only [qa]
    have hr:(decide (97≤bt s i∧bt s i≤122) || decide (48≤bt s i∧bt s i≤57))=true:=by simp;omega
    rw [hr];rfl
   ·have h3:bt s i ≥ 48:=by omega
    have h4:¬ bt s i≤57:=by omega
    have hr:(decide (97≤bt s i∧bt s i≤122) || decide (48≤bt s i∧bt s i≤57))=false:=by simp;omega
    rw [if_neg h2,hr,decide_eq_false h4];rfl
  ·rw [if_neg h1]
   by_cases h3:bt s i ≥ 48
   ·rw [if_pos h3]
    by_cases h4:bt s i≤57
    ·have hr:(decide (97≤bt s i∧bt s i≤122) || decide (48≤bt s i∧bt s i≤57))=true:=by simp;omega
     rw [hr,decide_eq_true h4];rfl
    ·have hr:(decide (97≤bt s i∧bt s i≤122) || decide (48≤bt s i∧bt s i≤57))=false:=by simp;omega
     rw [hr,decide_eq_false h4];rfl
   ·have hr:(decide (97≤bt s i∧bt s i≤122) || decide (48≤bt s i∧bt s i≤57))=false:=by simp;omega
    rw [if_neg h3,hr];rfl
 ·unfold zc7
  rw [if_neg (by simp)]
def zvc (n:Int):Bool:=decide (0≤n∧n≤1000000)
end Go.TL
namespace Go.TL
end Go.TL
namespace Go.TL
end Go.TL
namespace Go.TL
def zwe (a b:Int):Int:=if a < b then -1 else if b < a then 1 else 0
def zCz (a b:ByteArray):Int:=if sLt a b=true then -1 else if a=b then 0 else 1
theorem zj6 (a b:Int):zaU a b=some (zwe a b):=by
 unfold zaU zfi zwe
 simp only [bne_self_eq_false,qa,qc,if_false,decide_eq_true_eq,gt_iff_lt]
 split
 ·rfl
 ·split<;>rfl
theorem zkS (a b:ByteArray):zch a b=some (zCz a b):=by
 unfold zch zaA zCz
 simp only [beq_self_eq_true,Bool.not_true,qa,qc,if_false,sEq]
 cases h:sLt a b
 ·simp only [qc,if_false,Bool.false_or]
  by_cases e:a=b
  ·rw [if_pos e,decide_eq_true e];rfl
  ·rw [if_neg e,decide_eq_false e];rfl
 ·simp
theorem zup (a:List UInt8):zl6 a []=false:=by cases a<;>rfl
theorem zrj:∀ l:List UInt8,zl6 l l=false
 | []=>rfl
 | x :: r=>by simp [zl6,zrj r]
theorem zsf:∀ (a b c:List UInt8),zl6 a b=true→zl6 b c=true→zl6 a c=true
 | a,b,[],_,h=>by rw [zup] at h;cases h
 | a,[],_ :: _,h,_=>by rw [zup] at h;cases h
 | [],_ :: _,_ :: _,_,_=>rfl
 | x :: r,y :: q,z :: s,h1,h2=>by
  simp only [zl6,Bool.or_eq_true,Bool.and_eq_true,decide_eq_true_eq,beq_iff_eq] at h1 h2 ⊢
  rcases h1 with h1 | ⟨rfl,h1⟩
  ·rcases h2 with h2 | ⟨rfl,h2⟩
   ·exact .inl (UInt8.lt_trans h1 h2)
   ·exact .inl h1
  ·rcases h2 with h2 | ⟨rfl,h2⟩
   ·exact .inl h2
   ·exact .inr ⟨rfl,zsf r q s h1 h2⟩
end Go.TL

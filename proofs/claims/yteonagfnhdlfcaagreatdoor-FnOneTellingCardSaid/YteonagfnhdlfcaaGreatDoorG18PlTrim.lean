import Derived.Lib.SlTrimSet
import Derived.Test.YteonagfnhdlfcaaGreatDoorG0TlCore
import Derived.Lib.SlicesCompact
open List renaming length_map → qO, pairwise_cons → qa
open Bool renaming and_eq_true → qb, or_eq_true → qc
set_option linter.unusedSimpArgs false
set_option linter.unusedVariables false
noncomputable section
namespace Go.TL
def zuY (a b:ByteArray):ByteArray:=⟨(Go.Lib.trimS a.data.toList b.data.toList).toArray⟩
end Go.TL
namespace Go.TL
section
variable {α:Type}
def zv9 (lt:α→α→Bool) (x:α):List α→List α
 | []=>[x]
 | y :: r=>if lt x y=true then x :: y :: r else y :: zv9 lt x r
def zr3 (lt:α→α→Bool):List α→List α
 | []=>[]
 | x :: r=>zv9 lt x (zr3 lt r)
def zuZ (lt:α→α→Bool):List α→Bool
 | []=>true
 | x :: r=>(r.all λ y=>lt x y || lt y x) && zuZ lt r
theorem zo1 {lt:α→α→Bool}:∀ {l:List α},zuZ lt l=true↔l.Pairwise λ x y=>lt x y=true∨lt y x=true
 | []=>by simp [zuZ]
 | x :: r=>by
  rw [qa,← zo1]
  simp [zuZ]
theorem zqA (lt:α→α→Bool) (x:α):∀ l:List α,(zv9 lt x l).Perm (x :: l)
 | []=>.refl _
 | y :: r=>by
  unfold zv9
  split
  ·exact .refl _
  ·exact ((zqA lt x r).cons y).trans (.swap x y r)
theorem zoz (lt:α→α→Bool):∀ l:List α,(zr3 lt l).Perm l
 | []=>.refl _
 | x :: r=>(zqA lt x _).trans ((zoz lt r).cons x)
theorem zu0 {lt:α→α→Bool} (ht:∀ x y z,lt x y=true→lt y z=true→lt x z=true) {x:α}:∀ {l:List α},(∀ y∈l,lt x y=true∨lt y x=true)→(l.Pairwise λ a b=>lt a b=true)→(zv9 lt x l).Pairwise λ a b=>lt a b=true
 | [],_,_=>by simp [zv9]
 | y :: r,h,hp=>by
  rw [qa] at hp
  unfold zv9
  split
  ·rename_i hxy
   rw [qa,qa]
   refine ⟨λ z hz=>?_,hp⟩
   rcases List.mem_cons.1 hz with e | e
   ·rw [e];exact hxy
   ·exact ht x y z hxy (hp.1 z e)
  ·rename_i hxy
   rw [qa]
   refine ⟨λ z hz=>?_,zu0 ht (λ z hz=>h z (List.mem_cons_of_mem _ hz)) hp.2⟩
   have hz':=(zqA lt x r).mem_iff.1 hz
   rcases List.mem_cons.1 hz' with e | e
   ·rw [e];exact (h y (by simp)).resolve_left hxy
   ·exact hp.1 z e
theorem zqB {lt:α→α→Bool} (ht:∀ x y z,lt x y=true→lt y z=true→lt x z=true):∀ {l:List α},zuZ lt l=true→(zr3 lt l).Pairwise λ a b=>lt a b=true
 | [],_=>by simp [zr3]
 | x :: r,h=>by
  rw [zo1,qa] at h
  exact zu0 ht (λ y hy=>h.1 y ((zoz lt r).mem_iff.1 hy)) (zqB ht (zo1.2 h.2))
theorem zt2 {lt:α→α→Bool} (hi:∀ x,lt x x=false) (ht:∀ x y z,lt x y=true→lt y z=true→lt x z=true):∀ {a b:List α},a.Perm b→(a.Pairwise λ x y=>lt x y=true)→(b.Pairwise λ x y=>lt x y=true)→a=b
 | [],b,hp,_,_=>(List.nil_perm.1 hp).symm
 | x :: r,[],hp,_,_=>absurd hp.length_eq (by simp)
 | x :: r,y :: q,hp,ha,hb=>by
  rw [qa] at ha hb
  have e:x=y:=by
   have h1:x∈y :: q:=hp.mem_iff.1 (by simp)
   have h2:y∈x :: r:=hp.mem_iff.2 (by simp)
   rcases List.mem_cons.1 h1 with h1 | h1
   ·exact h1
   ·rcases List.mem_cons.1 h2 with h2 | h2
    ·exact h2.symm
    ·have:=ht x y x (ha.1 y h2) (hb.1 x h1)
     rw [hi] at this;cases this
  subst e
  rw [zt2 hi ht (List.perm_cons x |>.1 hp) ha.2 hb.2]
end
theorem zt3:∀ l:List UInt8,zlc l l=false
 | []=>rfl
 | x :: r=>by simp [zlc,zt3 r]
theorem zo2:∀ a b c:List UInt8,zlc a b=true→zlc b c=true→zlc a c=true
 | _,[],_,h,_=>by simp [zlc] at h
 | _,_ :: _,[],_,h=>by simp [zlc] at h
 | [],_ :: _,_ :: _,_,_=>rfl
 | x :: r,y :: q,z :: s,h1,h2=>by
  simp only [zlc,qc,qb,decide_eq_true_eq,beq_iff_eq] at h1 h2 ⊢
  rcases h1 with h1 | ⟨rfl,h1⟩
  ·rcases h2 with h2 | ⟨rfl,h2⟩
   ·exact .inl (UInt8.lt_trans h1 h2)
   ·exact .inl h1
  ·rcases h2 with h2 | ⟨rfl,h2⟩
   ·exact .inl h2
   ·exact .inr ⟨rfl,zo2 r q s h1 h2⟩
theorem zr4:∀ a b:List UInt8,zlc a b=true∨a=b∨zlc b a=true
 | [],[]=>.inr (.inl rfl)
 | [],_ :: _=>.inl rfl
 | _ :: _,[]=>.inr (.inr rfl)
 | x :: r,y :: q=>by
  simp only [zlc,qc,qb,decide_eq_true_eq,beq_iff_eq,List.cons.injEq]
  rcases Nat.lt_trichotomy x.toNat y.toNat with h | h | h
  ·exact .inl (.inl (UInt8.lt_iff_toNat_lt.2 h))
  ·have e:x=y:=UInt8.toNat_inj.1 h
   subst e
   rcases zr4 r q with h | h | h
   ·exact .inl (.inr ⟨rfl,h⟩)
   ·exact .inr (.inl ⟨rfl,h⟩)
   ·exact .inr (.inr (.inr ⟨rfl,h⟩))
  ·exact .inr (.inr (.inl (UInt8.lt_iff_toNat_lt.2 h)))
theorem zxF (a b c:List UInt8) (h1:zlc a b=false) (h2:zlc b c=false):zlc a c=false:=by
 cases h:zlc a c with
 | false=>rfl
 | true =>
  rcases zr4 a b with h3 | h3 | h3
  ·rw [h1] at h3;cases h3
  ·subst h3;rw [h2] at h;cases h
  ·have:=zo2 b a c h3 h
   rw [h2] at this;cases this
end Go.TL
namespace Go.TL
def zl5 (s:ByteArray):List UInt8:=s.data.toList
def znO (l:List UInt8):ByteArray:=⟨l.toArray⟩
theorem zpK (s:ByteArray):znO (zl5 s)=s:=by unfold znO zl5;simp
theorem zpL (l:List UInt8):zl5 (znO l)=l:=by unfold znO zl5;simp
def zod (l:List ByteArray):List ByteArray:=((l.map zl5).mergeSort λ x y=>decide (x≤y)).map znO
def zmH (l:List ByteArray):List ByteArray:=(Go.Lib.compact (l.map zl5)).map znO
theorem zqC (l:List ByteArray):(zod l).length=l.length:=by
 unfold zod
 rw [qO,List.length_mergeSort,qO]
theorem zxG (l:List ByteArray):(zmH l).length≤l.length:=by
 unfold zmH Go.Lib.compact Go.Lib.compactUpTo
 rw [qO,qO]
 refine Nat.le_trans (List.length_filter_le _ _) ?_
 simp
end Go.TL

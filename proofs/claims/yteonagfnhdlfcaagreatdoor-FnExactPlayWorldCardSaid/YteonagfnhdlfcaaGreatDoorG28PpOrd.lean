import Derived.Test.YteonagfnhdlfcaaGreatDoorG27PpDeep
import Derived.Sort.Statements
open List renaming length_cons → qP, pairwise_cons → qa
open Int renaming lt_or_eq_of_le → qb
set_option linter.unusedSimpArgs false
set_option linter.unusedVariables false
noncomputable section
namespace Go.TL
theorem zoS {x y:EventT} (h:evC x y=0) (z:EventT):evC x z=evC y z:=by
 obtain ⟨h1,h2,h3⟩:=(znL x y).1 h
 unfold evC
 rw [h1,h2,h3]
theorem zzj {x y:EventT} (h:evC x y=0) (z:EventT):evC z x=evC z y:=by
 rw [zmZ x z,zmZ y z,zoS h z]
theorem zBO {x y:EventT}:evC x y < 0↔x.fVe < y.fVe∨(x.fVe=y.fVe∧(x.Kind < y.Kind∨(x.Kind=y.Kind∧sLt x.Name y.Name=true))):=by
 unfold evC
 by_cases h1:x.fVe=y.fVe
 ·by_cases h2:x.Kind=y.Kind
  ·cases h3:sLt x.Name y.Name
   ·cases h4:sLt y.Name x.Name<;>simp [h1,h2,h3,h4]
   ·simp [h1,h2,h3]
  ·simp only [h1,h2,ne_eq,not_true_eq_false,if_false,not_false_eq_true,if_true,false_and,or_false,true_and]
   by_cases h:x.Kind < y.Kind
   ·rw [if_pos h];simp [h]
   ·rw [if_neg h];simp [h]
 ·simp only [h1,ne_eq,not_false_eq_true,if_true,false_and,or_false]
  by_cases h:x.fVe < y.fVe
  ·rw [if_pos h];simp [h]
  ·rw [if_neg h];simp [h]
theorem zql {x y z:EventT} (h1:evC x y < 0) (h2:evC y z < 0):evC x z < 0:=by
 rw [zBO] at *
 rcases h1 with h1 | ⟨e1,h1 | ⟨f1,h1⟩⟩
 ·rcases h2 with h2 | ⟨e2,_⟩
  ·exact .inl (by omega)
  ·exact .inl (by omega)
 ·rcases h2 with h2 | ⟨e2,h2 | ⟨f2,h2⟩⟩
  ·exact .inl (by omega)
  ·exact .inr ⟨by omega,.inl (by omega)⟩
  ·exact .inr ⟨by omega,.inl (by omega)⟩
 ·rcases h2 with h2 | ⟨e2,h2 | ⟨f2,h2⟩⟩
  ·exact .inl (by omega)
  ·exact .inr ⟨by omega,.inl (by omega)⟩
  ·exact .inr ⟨by omega,.inr ⟨by omega,zml h1 h2⟩⟩
theorem zAB {x y z:EventT} (h1:evC x y < 0) (h2:evC y z≤0):evC x z < 0:=by
 rcases qb h2 with h | h
 ·exact zql h1 h
 ·rw [← zzj h x];exact h1
theorem zva {x y z:EventT} (h1:evC x y≤0) (h2:evC y z < 0):evC x z < 0:=by
 rcases qb h1 with h | h
 ·exact zql h h2
 ·rw [zoS h z];exact h2
def znP:List EventT→List EventT→Bool
 | _,[]=>false
 | [],_ :: _=>true
 | x :: r,y :: q=>decide (evC x y < 0) || (decide (evC x y=0) && znP r q)
theorem zr0:∀ a:List EventT,znP a a=false
 | []=>rfl
 | x :: r=>by
  have:evC x x=0:=(znL x x).2 ⟨rfl,rfl,rfl⟩
  simp [znP,this,zr0 r]
theorem zpk:∀ a b c:List EventT,znP a b=true→znP b c=true→znP a c=true
 | _,[],_,h,_=>by cases ‹List EventT›<;>simp [znP] at h
 | _,_ :: _,[],_,h=>by simp [znP] at h
 | [],_ :: _,_ :: _,_,_=>rfl
 | x :: r,y :: q,z :: s,h1,h2=>by
  simp only [znP,Bool.or_eq_true,Bool.and_eq_true,decide_eq_true_eq] at h1 h2 ⊢
  rcases h1 with h1 | ⟨e1,h1⟩
  ·rcases h2 with h2 | ⟨e2,h2⟩
   ·exact .inl (zql h1 h2)
   ·exact .inl (zAB h1 (by omega))
  ·rcases h2 with h2 | ⟨e2,h2⟩
   ·exact .inl (zva (by omega) h2)
   ·exact .inr ⟨by rw [zoS e1];exact e2,zpk r q s h1 h2⟩
theorem zqH:∀ a b c:List EventT,znP a b=false→znP b c=false→znP a c=false
 | a,_,[],_,_=>by cases a<;>rfl
 | _,[],_ :: _,_,h=>by simp [znP] at h
 | [],_ :: _,_ :: _,h,_=>by simp [znP] at h
 | x :: r,y :: q,z :: s,h1,h2=>by
  simp only [znP,Bool.or_eq_false_iff,Bool.and_eq_false_iff,decide_eq_false_iff_not] at h1 h2 ⊢
  obtain ⟨a1,a2⟩:=h1
  obtain ⟨b1,b2⟩:=h2
  have a3:evC y x≤0:=by rw [zmZ x y];omega
  have b3:evC z y≤0:=by rw [zmZ y z];omega
  by_cases ha:evC x y=0
  ·by_cases hb:evC y z=0
   ·refine ⟨by rw [zoS ha];omega,.inr (zqH r q s ?_ ?_)⟩
    ·rcases a2 with a2 | a2
     ·exact absurd ha a2
     ·exact a2
    ·rcases b2 with b2 | b2
     ·exact absurd hb b2
     ·exact b2
   ·exact ⟨by rw [zoS ha];omega,.inl (by rw [zoS ha];exact hb)⟩
  ·have a4:evC y x < 0:=by rw [zmZ x y];omega
   have h:=zva b3 a4
   rw [zmZ x z] at h
   exact ⟨by omega,.inl (by omega)⟩
theorem zxN (x y:EventT) (r q:List EventT):(zkR (x :: r) (y :: q)).1=if evC x y≠0 then evC x y else (zkR r q).1:=by
 have e0:∀ i,nth (x :: r) (i+1)=nth r i:=λ i=>rfl
 have f0:∀ i,nth (y :: q) (i+1)=nth q i:=λ i=>rfl
 by_cases h:evC x y=0
 ·rw [if_neg (by simpa using h)]
  cases hf:zlE r q with
  | some k =>
   obtain ⟨h1,h2,h3⟩:=zpH hf
   have:zlE (x :: r) (y :: q)=some (k+1):=zmj (by simp only [qP];omega) (by rw [e0,f0];exact h2) λ j hj=>by
    cases j with
    | zero=>show decide (evC x y≠0)=false;simp [h]
    | succ j=>rw [e0,f0];exact h3 j (by omega)
   unfold zkR
   rw [this,hf]
   simp only [e0,f0]
  | none =>
   have h1:=zrT hf
   have:zlE (x :: r) (y :: q)=none:=zn0 λ j hj=>by
    cases j with
    | zero=>show decide (evC x y≠0)=false;simp [h]
    | succ j=>rw [e0,f0];exact h1 j (by simp only [qP] at hj;omega)
   unfold zkR
   rw [this,hf]
   simp only [qP,Nat.add_lt_add_iff_right]
   split
   ·rfl
   ·split<;>rfl
 ·rw [if_pos h]
  have:zlE (x :: r) (y :: q)=some 0:=zmj (by simp only [qP];omega) (by show decide (evC x y≠0)=true;simp [h]) λ j hj=>by omega
  unfold zkR
  rw [this]
  rfl
theorem zo4 (b:List EventT):(zkR [] b).1=if b=[] then 0 else -1:=by
 unfold zkR zlE
 cases b with
 | nil=>rfl
 | cons y q =>
  have:zlH (λ i=>decide (evC (nth ([]:List EventT) i) (nth (y :: q) i)≠0)) (min ([]:List EventT).length (y :: q).length)=none:=zn0 λ j hj=>by simp at hj
  rw [this];simp
theorem znQ:∀ a b:List EventT,decide ((zkR a b).1 < 0)=znP a b
 | [],b=>by
  rw [zo4]
  cases b<;>simp [znP]
 | x :: r,[]=>by
  rw [zqj [] (x :: r),zo4]
  simp [znP]
 | x :: r,y :: q=>by
  have ih:=znQ r q
  rw [zxN]
  unfold znP
  rw [← ih]
  by_cases h:evC x y=0
  ·simp [h]
  ·simp [h]
theorem branch_swo:Go.Sort.SWO λ a b:List EventT=>decide ((zkR a b).1 < 0) where
 irrefl a:=by rw [znQ];exact zr0 a
 trans a b c h1 h2:=by rw [znQ] at *;exact zpk a b c h1 h2
 ntrans a b c h1 h2:=by rw [znQ] at *;exact zqH a b c h1 h2
end Go.TL
namespace Go.TL
def brL (a b:BranchT):Bool:=znP a.fEv b.fEv
theorem zq8 (a:BranchT):brL a a=false:=zr0 _
theorem zmn (a b c:BranchT) (h1:brL a b=true) (h2:brL b c=true):brL a c=true:=zpk _ _ _ h1 h2
theorem zoT {a b:BranchT}:brL a b=true↔(zkR a.fEv b.fEv).1 < 0:=by
 unfold brL
 rw [← znQ,decide_eq_true_eq]
def znw (h:List EventT):List BranchT→Bool→List BranchT
 | [],put=>if put=true then [] else [⟨h⟩]
 | b :: r,put=>if zkp b.fEv h=true then znw h r put else if ((zkR b.fEv h).1 > 0∧put=false) then ⟨h⟩ :: b :: znw h r true else b :: znw h r put
def zln (h:List EventT) (l:List BranchT):List BranchT:=l.filter λ b=>!zkp b.fEv h
theorem zqJ (h:List EventT) (b:BranchT) (r:List BranchT):zln h (b :: r)=if zkp b.fEv h=true then zln h r else b :: zln h r:=by
 unfold zln
 cases hb:zkp b.fEv h<;>simp [hb]
theorem zqm (h:List EventT):∀ l:List BranchT,znw h l true=zln h l
 | []=>rfl
 | b :: r=>by
  rw [zqJ]
  unfold znw
  rw [zqm h r]
  simp
theorem zle (h:List EventT):∀ l:List BranchT,(znw h l false).Perm (zln h l++[⟨h⟩])
 | []=>.refl _
 | b :: r=>by
  rw [zqJ]
  unfold znw
  split
  ·exact zle h r
  ·split
   ·rw [zqm]
    exact (List.perm_append_comm (l₁:=[(⟨h⟩:BranchT)]) (l₂:=b :: zln h r))
   ·exact (zle h r).cons b
theorem zwf {h:List EventT} {l:List BranchT} (hl:l.Pairwise λ a b=>brL a b=true):(zln h l).Pairwise λ a b=>brL a b=true:=hl.filter _
theorem zpO (h:List EventT):∀ l:List BranchT,(l.Pairwise λ a b=>brL a b=true)→(∀ b∈l,zkp b.fEv h=false→(zkR b.fEv h).1≠0)→(znw h l false).Pairwise λ a b=>brL a b=true
 | [],_,_=>by simp [znw]
 | b :: r,hl,hn=>by
  rw [qa] at hl
  have ih:=zpO h r hl.2 λ x hx=>hn x (List.mem_cons_of_mem _ hx)
  unfold znw
  split
  ·exact ih
  ·rename_i hb
   have hb':zkp b.fEv h=false:=by simpa using hb
   split
   ·rename_i hc
    have hhb:brL ⟨h⟩ b=true:=zoT.2 (by
     have:=zqj b.fEv h
     show (zkR h b.fEv).1 < 0
     omega)
    have hsub:∀ x∈zln h r,x∈r:=λ x hx=>(List.mem_filter.1 hx).1
    rw [zqm,qa,qa]
    refine ⟨λ x hx=>?_,λ x hx=>hl.1 x (hsub x hx),zwf hl.2⟩
    rcases List.mem_cons.1 hx with e | e
    ·rw [e];exact hhb
    ·exact zmn _ _ _ hhb (hl.1 x (hsub x e))
   ·rename_i hc
    have h1:=hn b (by simp) hb'
    have hbh:brL b ⟨h⟩=true:=zoT.2 (by
     show (zkR b.fEv h).1 < 0
     have:¬ (zkR b.fEv h).1 > 0:=λ e=>hc ⟨e,rfl⟩
     omega)
    rw [qa]
    refine ⟨λ x hx=>?_,ih⟩
    have:=(zle h r).mem_iff.1 hx
    rcases List.mem_append.1 this with e | e
    ·exact hl.1 x (List.mem_filter.1 e).1
    ·rw [List.mem_singleton.1 e];exact hbh
theorem zxO (h:List EventT) (l:List BranchT) (hl:l.Pairwise λ a b=>brL a b=true) (hn:∀ b∈l,zkp b.fEv h=false→(zkR b.fEv h).1≠0)
  {r:List BranchT} (hp:r.Perm (zln h l++[⟨h⟩])) (hs:r.Pairwise λ a b=>brL b a=false):r=znw h l false:=by
 have h1:=zpO h l hl hn
 have hpp:=hp.trans (zle h l).symm
 have hap:r.Pairwise λ a b=>brL a b=true∨brL b a=true:=(hpp.pairwise_iff λ h=>h.symm).2 (h1.imp λ h=>.inl h)
 refine ztR zq8 zmn hpp ?_ h1
 exact (hap.and hs).imp λ ⟨a,b⟩=>a.resolve_right (by rw [b];exact Bool.false_ne_true)
end Go.TL

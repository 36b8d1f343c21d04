import Derived.Test.YteonagfnhdlfcaaGreatDoorG27PpDeep
import Derived.Sort.Statements
open List renaming length_cons → qP, pairwise_cons → qa
open Int renaming lt_or_eq_of_le → qb
set_option linter.unusedSimpArgs false
set_option linter.unusedVariables false
noncomputable section
namespace Go.TL
theorem zpi {x y:zka} (h:evC x y=0) (z:zka):evC x z=evC y z:=by
 obtain ⟨h1,h2,h3⟩:=(zmK x y).1 h
 unfold evC
 rw [h1,h2,h3]
theorem zzp {x y:zka} (h:evC x y=0) (z:zka):evC z x=evC z y:=by
 rw [znw x z,znw y z,zpi h z]
theorem zBW {x y:zka}:evC x y < 0↔x.fVe < y.fVe∨(x.fVe=y.fVe∧(x.Kind < y.Kind∨(x.Kind=y.Kind∧sLt x.Name y.Name=true))):=by
 unfold evC
 by_cases h1:x.fVe=y.fVe
 ·by_cases h2:x.Kind=y.Kind
  ·cases h3:sLt x.Name y.Name
   ·cases h4:sLt y.Name x.Name<;>simp [h1,h2,h3,h4]
   ·simp [h1,h2,h3]
  ·simp only [h1,h2,ne_eq,not_true_eq_false,if_false,not_false_eq_true,if_true,false_and,or_false,true_and]
   by_cases h:x.Kind < y.Kind
   ·rw [if_pos h];simp [h]
   ·rw [if_neg h];simp [h]
 ·simp only [h1,ne_eq,not_false_eq_true,if_true,false_and,or_false]
  by_cases h:x.fVe < y.fVe
  ·rw [if_pos h];simp [h]
  ·rw [if_neg h];simp [h]
theorem zqM {x y z:zka} (h1:evC x y < 0) (h2:evC y z < 0):evC x z < 0:=by
 rw [zBW] at *
 rcases h1 with h1 | ⟨e1,h1 | ⟨f1,h1⟩⟩
 ·rcases h2 with h2 | ⟨e2,_⟩
  ·exact .inl (by omega)
  ·exact .inl (by omega)
 ·rcases h2 with h2 | ⟨e2,h2 | ⟨f2,h2⟩⟩
  ·exact .inl (by omega)
  ·exact .inr ⟨by omega,.inl (by omega)⟩
  ·exact .inr ⟨by omega,.inl (by omega)⟩
 ·rcases h2 with h2 | ⟨e2,h2 | ⟨f2,h2⟩⟩
  ·exact .inl (by omega)
  ·exact .inr ⟨by omega,.inl (by omega)⟩
  ·exact .inr ⟨by omega,.inr ⟨by omega,zmR h1 h2⟩⟩
theorem zAN {x y z:zka} (h1:evC x y < 0) (h2:evC y z≤0):evC x z < 0:=by
 rcases qb h2 with h | h
 ·exact zqM h1 h
 ·rw [← zzp h x];exact h1
theorem zve {x y z:zka} (h1:evC x y≤0) (h2:evC y z < 0):evC x z < 0:=by
 rcases qb h1 with h | h
 ·exact zqM h h2
 ·rw [zpi h z];exact h2
def zol:List zka→List zka→Bool
 | _,[]=>false
 | [],_ :: _=>true
 | x :: r,y :: q=>decide (evC x y < 0) || (decide (evC x y=0) && zol r q)
theorem zsi:∀ a:List zka,zol a a=false
 | []=>rfl
 | x :: r=>by
  have:evC x x=0:=(zmK x x).2 ⟨rfl,rfl,rfl⟩
  simp [zol,this,zsi r]
theorem zpM:∀ a b c:List zka,zol a b=true→zol b c=true→zol a c=true
 | _,[],_,h,_=>by cases ‹List zka›<;>simp [zol] at h
 | _,_ :: _,[],_,h=>by simp [zol] at h
 | [],_ :: _,_ :: _,_,_=>rfl
 | x :: r,y :: q,z :: s,h1,h2=>by
  simp only [zol,Bool.or_eq_true,Bool.and_eq_true,decide_eq_true_eq] at h1 h2 ⊢
  rcases h1 with h1 | ⟨e1,h1⟩
  ·rcases h2 with h2 | ⟨e2,h2⟩
   ·exact .inl (zqM h1 h2)
   ·exact .inl (zAN h1 (by omega))
  ·rcases h2 with h2 | ⟨e2,h2⟩
   ·exact .inl (zve (by omega) h2)
   ·exact .inr ⟨by rw [zpi e1];exact e2,zpM r q s h1 h2⟩
theorem zra:∀ a b c:List zka,zol a b=false→zol b c=false→zol a c=false
 | a,_,[],_,_=>by cases a<;>rfl
 | _,[],_ :: _,_,h=>by simp [zol] at h
 | [],_ :: _,_ :: _,h,_=>by simp [zol] at h
 | x :: r,y :: q,z :: s,h1,h2=>by
  simp only [zol,Bool.or_eq_false_iff,Bool.and_eq_false_iff,decide_eq_false_iff_not] at h1 h2 ⊢
  obtain ⟨a1,a2⟩:=h1
  obtain ⟨b1,b2⟩:=h2
  have a3:evC y x≤0:=by rw [znw x y];omega
  have b3:evC z y≤0:=by rw [znw y z];omega
  by_cases ha:evC x y=0
  ·by_cases hb:evC y z=0
   ·refine ⟨by rw [zpi ha];omega,.inr (zra r q s ?_ ?_)⟩
    ·rcases a2 with a2 | a2
     ·exact absurd ha a2
     ·exact a2
    ·rcases b2 with b2 | b2
     ·exact absurd hb b2
     ·exact b2
   ·exact ⟨by rw [zpi ha];omega,.inl (by rw [zpi ha];exact hb)⟩
  ·have a4:evC y x < 0:=by rw [znw x y];omega
   have h:=zve b3 a4
   rw [znw x z] at h
   exact ⟨by omega,.inl (by omega)⟩
theorem zxR (x y:zka) (r q:List zka):(zk7 (x :: r) (y :: q)).1=if evC x y≠0 then evC x y else (zk7 r q).1:=by
 have e0:∀ i,nth (x :: r) (i+1)=nth r i:=λ i=>rfl
 have f0:∀ i,nth (y :: q) (i+1)=nth q i:=λ i=>rfl
 by_cases h:evC x y=0
 ·rw [if_neg (by simpa using h)]
  cases hf:zl7 r q with
  | some k =>
   obtain ⟨h1,h2,h3⟩:=zm4 hf
   have:zl7 (x :: r) (y :: q)=some (k+1):=zmQ (by simp only [qP];omega) (by rw [e0,f0];exact h2) λ j hj=>by
    cases j with
    | zero=>show decide (evC x y≠0)=false;simp [h]
    | succ j=>rw [e0,f0];exact h3 j (by omega)
   unfold zk7
   rw [this,hf]
   simp only [e0,f0]
  | none =>
   have h1:=znu hf
   have:zl7 (x :: r) (y :: q)=none:=znr λ j hj=>by
    cases j with
    | zero=>show decide (evC x y≠0)=false;simp [h]
    | succ j=>rw [e0,f0];exact h1 j (by simp only [qP] at hj;omega)
   unfold zk7
   rw [this,hf]
   simp only [qP,Nat.add_lt_add_iff_right]
   split
   ·rfl
   ·split<;>rfl
 ·rw [if_pos h]
  have:zl7 (x :: r) (y :: q)=some 0:=zmQ (by simp only [qP];omega) (by show decide (evC x y≠0)=true;simp [h]) λ j hj=>by omega
  unfold zk7
  rw [this]
  rfl
theorem zpx (b:List zka):(zk7 [] b).1=if b=[] then 0 else -1:=by
 unfold zk7 zl7
 cases b with
 | nil=>rfl
 | cons y q =>
  have:zlp (λ i=>decide (evC (nth ([]:List zka) i) (nth (y :: q) i)≠0)) (min ([]:List zka).length (y :: q).length)=none:=znr λ j hj=>by simp at hj
  rw [this];simp
theorem zom:∀ a b:List zka,decide ((zk7 a b).1 < 0)=zol a b
 | [],b=>by
  rw [zpx]
  cases b<;>simp [zol]
 | x :: r,[]=>by
  rw [zqK [] (x :: r),zpx]
  simp [zol]
 | x :: r,y :: q=>by
  have ih:=zom r q
  rw [zxR]
  unfold zol
  rw [← ih]
  by_cases h:evC x y=0
  ·simp [h]
  ·simp [h]
theorem branch_swo:Go.Sort.SWO λ a b:List zka=>decide ((zk7 a b).1 < 0) where
 irrefl a:=by rw [zom];exact zsi a
 trans a b c h1 h2:=by rw [zom] at *;exact zpM a b c h1 h2
 ntrans a b c h1 h2:=by rw [zom] at *;exact zra a b c h1 h2
end Go.TL
namespace Go.TL
def brL (a b:zkd):Bool:=zol a.fEv b.fEv
theorem zrv (a:zkd):brL a a=false:=zsi _
theorem zmS (a b c:zkd) (h1:brL a b=true) (h2:brL b c=true):brL a c=true:=zpM _ _ _ h1 h2
theorem zpj {a b:zkd}:brL a b=true↔(zk7 a.fEv b.fEv).1 < 0:=by
 unfold brL
 rw [← zom,decide_eq_true_eq]
def zn4 (h:List zka):List zkd→Bool→List zkd
 | [],put=>if put=true then [] else [⟨h⟩]
 | b :: r,put=>if zk2 b.fEv h=true then zn4 h r put else if ((zk7 b.fEv h).1 > 0∧put=false) then ⟨h⟩ :: b :: zn4 h r true else b :: zn4 h r put
def zl1 (h:List zka) (l:List zkd):List zkd:=l.filter λ b=>!zk2 b.fEv h
theorem zrb (h:List zka) (b:zkd) (r:List zkd):zl1 h (b :: r)=if zk2 b.fEv h=true then zl1 h r else b :: zl1 h r:=by
 unfold zl1
 cases hb:zk2 b.fEv h<;>simp [hb]
theorem zqN (h:List zka):∀ l:List zkd,zn4 h l true=zl1 h l
 | []=>rfl
 | b :: r=>by
  rw [zrb]
  unfold zn4
  rw [zqN h r]
  simp
theorem zlU (h:List zka):∀ l:List zkd,(zn4 h l false).Perm (zl1 h l++[⟨h⟩])
 | []=>.refl _
 | b :: r=>by
  rw [zrb]
  unfold zn4
  split
  ·exact zlU h r
  ·split
   ·rw [zqN]
    exact (List.perm_append_comm (l₁:=[(⟨h⟩:zkd)]) (l₂:=b :: zl1 h r))
   ·exact (zlU h r).cons b
theorem zwh {h:List zka} {l:List zkd} (hl:l.Pairwise λ a b=>brL a b=true):(zl1 h l).Pairwise λ a b=>brL a b=true:=hl.filter _
theorem zqb (h:List zka):∀ l:List zkd,(l.Pairwise λ a b=>brL a b=true)→(∀ b∈l,zk2 b.fEv h=false→(zk7 b.fEv h).1≠0)→(zn4 h l false).Pairwise λ a b=>brL a b=true
 | [],_,_=>by simp [zn4]
 | b :: r,hl,hn=>by
  rw [qa] at hl
  have ih:=zqb h r hl.2 λ x hx=>hn x (List.mem_cons_of_mem _ hx)
  unfold zn4
  split
  ·exact ih
  ·rename_i hb
   have hb':zk2 b.fEv h=false:=by simpa using hb
   split
   ·rename_i hc
    have hhb:brL ⟨h⟩ b=true:=zpj.2 (by
     have:=zqK b.fEv h
     show (zk7 h b.fEv).1 < 0
     omega)
    have hsub:∀ x∈zl1 h r,x∈r:=λ x hx=>(List.mem_filter.1 hx).1
    rw [zqN,qa,qa]
    refine ⟨λ x hx=>?_,λ x hx=>hl.1 x (hsub x hx),zwh hl.2⟩
    rcases List.mem_cons.1 hx with e | e
    ·rw [e];exact hhb
    ·exact zmS _ _ _ hhb (hl.1 x (hsub x e))
   ·rename_i hc
    have h1:=hn b (by simp) hb'
    have hbh:brL b ⟨h⟩=true:=zpj.2 (by
     show (zk7 b.fEv h).1 < 0
     have:¬ (zk7 b.fEv h).1 > 0:=λ e=>hc ⟨e,rfl⟩
     omega)
    rw [qa]
    refine ⟨λ x hx=>?_,ih⟩
    have:=(zlU h r).mem_iff.1 hx
    rcases List.mem_append.1 this with e | e
    ·exact hl.1 x (List.mem_filter.1 e).1
    ·rw [List.mem_singleton.1 e];exact hbh
theorem zxS (h:List zka) (l:List zkd) (hl:l.Pairwise λ a b=>brL a b=true) (hn:∀ b∈l,zk2 b.fEv h=false→(zk7 b.fEv h).1≠0)
  {r:List zkd} (hp:r.Perm (zl1 h l++[⟨h⟩])) (hs:r.Pairwise λ a b=>brL b a=false):r=zn4 h l false:=by
 have h1:=zqb h l hl hn
 have hpp:=hp.trans (zlU h l).symm
 have hap:r.Pairwise λ a b=>brL a b=true∨brL b a=true:=(hpp.pairwise_iff λ h=>h.symm).2 (h1.imp λ h=>.inl h)
 refine zt2 zrv zmS hpp ?_ h1
 exact (hap.and hs).imp λ ⟨a,b⟩=>a.resolve_right (by rw [b];exact Bool.false_ne_true)
end Go.TL

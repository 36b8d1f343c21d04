import Derived.Test.YteonagfnhdlfcaaGreatDoorG27PpDeep
import Derived.Sort.Statements
open List renaming length_cons → qP, pairwise_cons → qa
open Int renaming lt_or_eq_of_le → qb
set_option linter.unusedSimpArgs false
set_option linter.unusedVariables false
noncomputable section
namespace Go.TL
theorem zqq {x y:EventT} (h:evC x y=0) (z:EventT):evC x z=evC y z:=by
 obtain ⟨h1,h2,h3⟩:=(zpf x y).1 h
 unfold evC
 rw [h1,h2,h3]
theorem zAt {x y:EventT} (h:evC x y=0) (z:EventT):evC z x=evC z y:=by
 rw [zow x z,zow y z,zqq h z]
theorem zCC {x y:EventT}:evC x y < 0↔x.fVe < y.fVe∨(x.fVe=y.fVe∧(x.Kind < y.Kind∨(x.Kind=y.Kind∧sLt x.Name y.Name=true))):=by
 unfold evC
 by_cases h1:x.fVe=y.fVe
 ·by_cases h2:x.Kind=y.Kind
  ·cases h3:sLt x.Name y.Name
   ·cases h4:sLt y.Name x.Name<;>simp [h1,h2,h3,h4]
   ·simp [h1,h2,h3]
  ·simp only [h1,h2,ne_eq,not_true_eq_false,if_false,not_false_eq_true,if_true,false_and,or_false,true_and]
   by_cases h:x.Kind < y.Kind
   ·rw [if_pos h];simp [h]
   ·rw [if_neg h];simp [h]
 ·simp only [h1,ne_eq,not_false_eq_true,if_true,false_and,or_false]
  by_cases h:x.fVe < y.fVe
  ·rw [if_pos h];simp [h]
  ·rw [if_neg h];simp [h]
theorem zrW {x y z:EventT} (h1:evC x y < 0) (h2:evC y z < 0):evC x z < 0:=by
 rw [zCC] at *
 rcases h1 with h1 | ⟨e1,h1 | ⟨f1,h1⟩⟩
 ·rcases h2 with h2 | ⟨e2,_⟩
  ·exact .inl (by omega)
  ·exact .inl (by omega)
 ·rcases h2 with h2 | ⟨e2,h2 | ⟨f2,h2⟩⟩
  ·exact .inl (by omega)
  ·exact .inr ⟨by omega,.inl (by omega)⟩
  ·exact .inr ⟨by omega,.inl (by omega)⟩
 ·rcases h2 with h2 | ⟨e2,h2 | ⟨f2,h2⟩⟩
  ·exact .inl (by omega)
  ·exact .inr ⟨by omega,.inl (by omega)⟩
  ·exact .inr ⟨by omega,.inr ⟨by omega,znQ h1 h2⟩⟩
theorem zBC {x y z:EventT} (h1:evC x y < 0) (h2:evC y z≤0):evC x z < 0:=by
 rcases qb h2 with h | h
 ·exact zrW h1 h
 ·rw [← zAt h x];exact h1
theorem zws {x y z:EventT} (h1:evC x y≤0) (h2:evC y z < 0):evC x z < 0:=by
 rcases qb h1 with h | h
 ·exact zrW h h2
 ·rw [zqq h z];exact h2
def zpj:List EventT→List EventT→Bool
 | _,[]=>false
 | [],_ :: _=>true
 | x :: r,y :: q=>decide (evC x y < 0) || (decide (evC x y=0) && zpj r q)
theorem ztw:∀ a:List EventT,zpj a a=false
 | []=>rfl
 | x :: r=>by
  have:evC x x=0:=(zpf x x).2 ⟨rfl,rfl,rfl⟩
  simp [zpj,this,ztw r]
theorem zq1:∀ a b c:List EventT,zpj a b=true→zpj b c=true→zpj a c=true
 | _,[],_,h,_=>by cases ‹List EventT›<;>simp [zpj] at h
 | _,_ :: _,[],_,h=>by simp [zpj] at h
 | [],_ :: _,_ :: _,_,_=>rfl
 | x :: r,y :: q,z :: s,h1,h2=>by
  simp only [zpj,Bool.or_eq_true,Bool.and_eq_true,decide_eq_true_eq] at h1 h2 ⊢
  rcases h1 with h1 | ⟨e1,h1⟩
  ·rcases h2 with h2 | ⟨e2,h2⟩
   ·exact .inl (zrW h1 h2)
   ·exact .inl (zBC h1 (by omega))
  ·rcases h2 with h2 | ⟨e2,h2⟩
   ·exact .inl (zws (by omega) h2)
   ·exact .inr ⟨by rw [zqq e1];exact e2,zq1 r q s h1 h2⟩
theorem zsj:∀ a b c:List EventT,zpj a b=false→zpj b c=false→zpj a c=false
 | a,_,[],_,_=>by cases a<;>rfl
 | _,[],_ :: _,_,h=>by simp [zpj] at h
 | [],_ :: _,_ :: _,h,_=>by simp [zpj] at h
 | x :: r,y :: q,z :: s,h1,h2=>by
  simp only [zpj,Bool.or_eq_false_iff,Bool.and_eq_false_iff,decide_eq_false_iff_not] at h1 h2 ⊢
  obtain ⟨a1,a2⟩:=h1
  obtain ⟨b1,b2⟩:=h2
  have a3:evC y x≤0:=by rw [zow x y];omega
  have b3:evC z y≤0:=by rw [zow y z];omega
  by_cases ha:evC x y=0
  ·by_cases hb:evC y z=0
   ·refine ⟨by rw [zqq ha];omega,.inr (zsj r q s ?_ ?_)⟩
    ·rcases a2 with a2 | a2
     ·exact absurd ha a2
     ·exact a2
    ·rcases b2 with b2 | b2
     ·exact absurd hb b2
     ·exact b2
   ·exact ⟨by rw [zqq ha];omega,.inl (by rw [zqq ha];exact hb)⟩
  ·have a4:evC y x < 0:=by rw [zow x y];omega
   have h:=zws b3 a4
   rw [zow x z] at h
   exact ⟨by omega,.inl (by omega)⟩
theorem zy6 (x y:EventT) (r q:List EventT):(zmo (x :: r) (y :: q)).1=if evC x y≠0 then evC x y else (zmo r q).1:=by
 have e0:∀ i,nth (x :: r) (i+1)=nth r i:=λ i=>rfl
 have f0:∀ i,nth (y :: q) (i+1)=nth q i:=λ i=>rfl
 by_cases h:evC x y=0
 ·rw [if_neg (by simpa using h)]
  cases hf:znd r q with
  | some k =>
   obtain ⟨h1,h2,h3⟩:=zrm hf
   have:znd (x :: r) (y :: q)=some (k+1):=znP (by simp only [qP];omega) (by rw [e0,f0];exact h2) λ j hj=>by
    cases j with
    | zero=>show decide (evC x y≠0)=false;simp [h]
    | succ j=>rw [e0,f0];exact h3 j (by omega)
   unfold zmo
   rw [this,hf]
   simp only [e0,f0]
  | none =>
   have h1:=zts hf
   have:znd (x :: r) (y :: q)=none:=zpw λ j hj=>by
    cases j with
    | zero=>show decide (evC x y≠0)=false;simp [h]
    | succ j=>rw [e0,f0];exact h1 j (by simp only [qP] at hj;omega)
   unfold zmo
   rw [this,hf]
   simp only [qP,Nat.add_lt_add_iff_right]
   split
   ·rfl
   ·split<;>rfl
 ·rw [if_pos h]
  have:znd (x :: r) (y :: q)=some 0:=znP (by simp only [qP];omega) (by show decide (evC x y≠0)=true;simp [h]) λ j hj=>by omega
  unfold zmo
  rw [this]
  rfl
theorem zqJ (b:List EventT):(zmo [] b).1=if b=[] then 0 else -1:=by
 unfold zmo znd
 cases b with
 | nil=>rfl
 | cons y q =>
  have:zm2 (λ i=>decide (evC (nth ([]:List EventT) i) (nth (y :: q) i)≠0)) (min ([]:List EventT).length (y :: q).length)=none:=zpw λ j hj=>by simp at hj
  rw [this];simp
theorem zpk:∀ a b:List EventT,decide ((zmo a b).1 < 0)=zpj a b
 | [],b=>by
  rw [zqJ]
  cases b<;>simp [zpj]
 | x :: r,[]=>by
  rw [zrU [] (x :: r),zqJ]
  simp [zpj]
 | x :: r,y :: q=>by
  have ih:=zpk r q
  rw [zy6]
  unfold zpj
  rw [← ih]
  by_cases h:evC x y=0
  ·simp [h]
  ·simp [h]
theorem branch_swo:Go.Sort.SWO λ a b:List EventT=>decide ((zmo a b).1 < 0) where
 irrefl a:=by rw [zpk];exact ztw a
 trans a b c h1 h2:=by rw [zpk] at *;exact zq1 a b c h1 h2
 ntrans a b c h1 h2:=by rw [zpk] at *;exact zsj a b c h1 h2
end Go.TL
namespace Go.TL
def brL (a b:BranchT):Bool:=zpj a.fEv b.fEv
theorem zsL (a:BranchT):brL a a=false:=ztw _
theorem znU (a b c:BranchT) (h1:brL a b=true) (h2:brL b c=true):brL a c=true:=zq1 _ _ _ h1 h2
theorem zqr {a b:BranchT}:brL a b=true↔(zmo a.fEv b.fEv).1 < 0:=by
 unfold brL
 rw [← zpk,decide_eq_true_eq]
def zo0 (h:List EventT):List BranchT→Bool→List BranchT
 | [],put=>if put=true then [] else [⟨h⟩]
 | b :: r,put=>if zlW b.fEv h=true then zo0 h r put else if ((zmo b.fEv h).1 > 0∧put=false) then ⟨h⟩ :: b :: zo0 h r true else b :: zo0 h r put
def zmX (h:List EventT) (l:List BranchT):List BranchT:=l.filter λ b=>!zlW b.fEv h
theorem zsk (h:List EventT) (b:BranchT) (r:List BranchT):zmX h (b :: r)=if zlW b.fEv h=true then zmX h r else b :: zmX h r:=by
 unfold zmX
 cases hb:zlW b.fEv h<;>simp [hb]
theorem zrX (h:List EventT):∀ l:List BranchT,zo0 h l true=zmX h l
 | []=>rfl
 | b :: r=>by
  rw [zsk]
  unfold zo0
  rw [zrX h r]
  simp
theorem zmO (h:List EventT):∀ l:List BranchT,(zo0 h l false).Perm (zmX h l++[⟨h⟩])
 | []=>.refl _
 | b :: r=>by
  rw [zsk]
  unfold zo0
  split
  ·exact zmO h r
  ·split
   ·rw [zrX]
    exact (List.perm_append_comm (l₁:=[(⟨h⟩:BranchT)]) (l₂:=b :: zmX h r))
   ·exact (zmO h r).cons b
theorem zxu {h:List EventT} {l:List BranchT} (hl:l.Pairwise λ a b=>brL a b=true):(zmX h l).Pairwise λ a b=>brL a b=true:=hl.filter _
theorem zrr (h:List EventT):∀ l:List BranchT,(l.Pairwise λ a b=>brL a b=true)→(∀ b∈l,zlW b.fEv h=false→(zmo b.fEv h).1≠0)→(zo0 h l false).Pairwise λ a b=>brL a b=true
 | [],_,_=>by simp [zo0]
 | b :: r,hl,hn=>by
  rw [qa] at hl
  have ih:=zrr h r hl.2 λ x hx=>hn x (List.mem_cons_of_mem _ hx)
  unfold zo0
  split
  ·exact ih
  ·rename_i hb
   have hb':zlW b.fEv h=false:=by simpa using hb
   split
   ·rename_i hc
    have hhb:brL ⟨h⟩ b=true:=zqr.2 (by
     have:=zrU b.fEv h
     show (zmo h b.fEv).1 < 0
     omega)
    have hsub:∀ x∈zmX h r,x∈r:=λ x hx=>(List.mem_filter.1 hx).1
    rw [zrX,qa,qa]
    refine ⟨λ x hx=>?_,λ x hx=>hl.1 x (hsub x hx),zxu hl.2⟩
    rcases List.mem_cons.1 hx with e | e
    ·rw [e];exact hhb
    ·exact znU _ _ _ hhb (hl.1 x (hsub x e))
   ·rename_i hc
    have h1:=hn b (by simp) hb'
    have hbh:brL b ⟨h⟩=true:=zqr.2 (by
     show (zmo b.fEv h).1 < 0
     have:¬ (zmo b.fEv h).1 > 0:=λ e=>hc ⟨e,rfl⟩
     omega)
    rw [qa]
    refine ⟨λ x hx=>?_,ih⟩
    have:=(zmO h r).mem_iff.1 hx
    rcases List.mem_append.1 this with e | e
    ·exact hl.1 x (List.mem_filter.1 e).1
    ·rw [List.mem_singleton.1 e];exact hbh
theorem zy7 (h:List EventT) (l:List BranchT) (hl:l.Pairwise λ a b=>brL a b=true) (hn:∀ b∈l,zlW b.fEv h=false→(zmo b.fEv h).1≠0)
  {r:List BranchT} (hp:r.Perm (zmX h l++[⟨h⟩])) (hs:r.Pairwise λ a b=>brL b a=false):r=zo0 h l false:=by
 have h1:=zrr h l hl hn
 have hpp:=hp.trans (zmO h l).symm
 have hap:r.Pairwise λ a b=>brL a b=true∨brL b a=true:=(hpp.pairwise_iff λ h=>h.symm).2 (h1.imp λ h=>.inl h)
 refine zu9 zsL znU hpp ?_ h1
 exact (hap.and hs).imp λ ⟨a,b⟩=>a.resolve_right (by rw [b];exact Bool.false_ne_true)
end Go.TL

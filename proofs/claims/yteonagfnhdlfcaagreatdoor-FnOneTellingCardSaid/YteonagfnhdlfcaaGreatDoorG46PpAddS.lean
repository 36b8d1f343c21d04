import Derived.Test.YteonagfnhdlfcaaGreatDoorG28PpOrd
import Derived.Test.YteonagfnhdlfcaaGreatDoorG29PlR5C
import Derived.Test.YteonagfnhdlfcaaGreatDoorG27PpDeep
import Derived.Test.YteonagfnhdlfcaaGreatDoorG45PpMerge
open List renaming length_set → qL, length_append → qM, length_cons → qP, length_singleton → qd, take_length → qg, getElem_append_left → qi, all_eq_true → qk, length_take → ql, mem_cons_of_mem → qm, getElem_of_mem → qn, nil_append → qo, mem_of_mem_take → qq, getElem_mem → qr, takeWhile_cons_of_pos → qt, takeWhile_cons_of_neg → qu, foldl_append → qw, length_filter_le → qx, prefix_refl → qy, mem_append → qba, take_zero → qbb, pairwise_iff_getElem → qbc, length_drop → qbj
open Option renaming bind_some → qa, isSome_some → qbe
open Bool renaming false_eq_true → qb, and_eq_true → qe, not_true → qf, true_and → qv, or_eq_true → qz, not_eq_false → qbh, eq_iff_iff → qbk, not_false → qbl
open Int renaming toNat_natCast → qc, le_refl → qp
open Nat renaming le_refl → qh, eq_zero_or_pos → qj, add_sub_cancel → qbd, lt_or_ge → qbf, le_trans → qbg, lt_trichotomy → qbi
set_option linter.unusedSimpArgs false
set_option linter.unusedVariables false
noncomputable section
set_option maxRecDepth 4000
namespace Go.TL
def zqS (l:List zkd):Prop:=∀ i,i < l.length→(nth l i).fEv.length≤1000
theorem zm5 (l:List zka) (h:l.length≤1000):zp l=some l:=by
 unfold zp
 rw [zj9 (by omega),qo]
theorem zzL (l:List zkd) (h:List zka) (hl:l.length≤1000) (hs:zqS l) (hh:h.length≤1000):∀ (r:List zkd) (i:Nat) (put:Bool) (c:List zkd),l.drop i=r→i≤l.length→c.length≤2 * i →
  ∃ put' c',zkx (zdh l h) ⟨put,(i:Int),c⟩=some ⟨put',c'⟩∧(if put'=true then c' else c'++[⟨h⟩])=c++zn4 h r put∧c'.length≤2 * l.length:=by
 intro r
 induction r with
 | nil =>
  intro i put c hd hi hc
  have e:=zp8 hd hi
  refine ⟨put,c,zk3 ?_,?_,by omega⟩
  ·unfold zdh
   dsimp only
   rw [if_neg (by rw [decide_eq_true_eq];omega)]
  ·unfold zn4
   cases put<;>simp
 | cons b r ih =>
  intro i put c hd hi hc
  obtain ⟨hlt,hb,hr⟩:=zpd hd
  have hbs:b.fEv.length≤1000:=by rw [← hb];exact hs i hlt
  have e1:=wS (i:=i) (by omega)
  have ebb:(⟨b.fEv⟩:zkd)=b:=rfl
  have hstep:zdh l h ⟨put,(i:Int),c⟩=some (.inl (if zk2 b.fEv h=true then ⟨put,((i+1:Nat):Int),c⟩ else if ((zk7 b.fEv h).1 > 0∧put=false) then ⟨true,((i+1:Nat):Int),(c++[⟨h⟩])++[b]⟩ else ⟨put,((i+1:Nat):Int),c++[b]⟩)):=by
   unfold zdh
   simp only [qc,hb,e1]
   rw [if_pos (by rw [decide_eq_true_eq];omega),zj9 (by omega),zcV _ _ (by omega) (by omega)]
   simp only [qa]
   cases hbg:zk2 b.fEv h
   ·rw [if_neg (by simp),if_neg (by simp),zea _ _ (by omega) (by omega)]
    simp only [qa,zm5 _ hh,zm5 _ hbs,ebb]
    by_cases hc1:(zk7 b.fEv h).1 > 0
    ·rw [if_pos (decide_eq_true hc1)]
     cases put
     ·simp only [qa,qbl,if_true]
      rw [zj9 (by omega),zj9 (by omega),if_pos ⟨hc1,trivial⟩]
     ·simp only [qa,qf,qb,if_false]
      rw [zj9 (by omega),if_neg (by simp)]
    ·rw [if_neg (by simpa using hc1)]
     simp only [qa,qb,if_false]
     rw [zj9 (by omega),if_neg (λ h=>hc1 h.1)]
   ·rw [if_pos rfl,if_pos rfl]
  rw [zlQ hstep]
  unfold zn4
  by_cases hbg:zk2 b.fEv h=true
  ·rw [if_pos hbg,if_pos hbg]
   exact ih (i+1) put c hr (by omega) (by omega)
  ·rw [if_neg hbg,if_neg hbg]
   by_cases hc1:(zk7 b.fEv h).1 > 0∧put=false
   ·rw [if_pos hc1,if_pos hc1]
    obtain ⟨p',c',g1,g2,g3⟩:=ih (i+1) true ((c++[⟨h⟩])++[b]) hr (by omega) (by simp only [qM,qd];omega)
    exact ⟨p',c',g1,by rw [g2];simp,g3⟩
   ·rw [if_neg hc1,if_neg hc1]
    obtain ⟨p',c',g1,g2,g3⟩:=ih (i+1) put (c++[b]) hr (by omega) (by simp only [qM,qd];omega)
    exact ⟨p',c',g1,by rw [g2];simp,g3⟩
def zmn (l:List zkd) (h:List zka):List zkd:=if (l.any λ b=>zk2 h b.fEv)=true then l else zn4 h l false
theorem zjK (l:List zkd) (h:List zka) (hl:l.length≤1000) (hs:zqS l) (hh:h.length≤1000):zgg l h=some (zmn l h):=by
 unfold zgg zmn
 have key:=zlm (step:=zci l h) (λ i=>(⟨i⟩:zf0)) l.length (λ i=>zk2 h (nth l i).fEv) (λ _=>(.inl ():Unit⊕Unit)) (.inr ()) (λ i hi hv=>?_) ?_
 ·have e:zkx (zci l h) ⟨0⟩=some (if (l.any λ b=>zk2 h b.fEv)=true then .inl () else .inr ()):=by
   rw [key]
   have:=zmz l λ b=>zk2 h b.fEv
   cases hf:zlp (λ i=>zk2 h (nth l i).fEv) l.length with
   | none=>rw [hf] at this;rw [← this];rfl
   | some k=>rw [hf] at this;rw [← this];rfl
  rw [e]
  simp only [qa]
  cases l.any λ b=>zk2 h b.fEv
  ·simp only [qb,if_false]
   obtain ⟨p',c',g1,g2,g3⟩:=zzL l h hl hs hh l 0 false [] rfl (by omega) (by simp)
   have e0:((0:Nat):Int)=0:=rfl
   rw [e0] at g1
   rw [g1]
   simp only [qa,zm5 _ hh]
   rw [qo] at g2
   rw [← g2]
   cases p'
   ·rw [if_pos (by rfl),zj9 (by omega)];rfl
   ·rfl
  ·rfl
 ·unfold zci
  have hi':i < l.length:=hi
  have hbs:=hs i hi'
  have e1:=wS (i:=i) (by omega)
  simp only [qc,e1]
  rw [if_pos (by rw [decide_eq_true_eq];omega),zj9 (by omega),zcV _ _ (by omega) (by omega)]
  simp only [qa]
  cases zk2 h (nth l i).fEv<;>rfl
 ·unfold zci
  dsimp only
  rw [if_neg (by simp)]
theorem ze4 (t:zkh) (hl:t.fBr.length≤1000) (hs:zqS t.fBr):zbA t=some t:=by
 unfold zbA
 have key:=zkZ (step:=zdi t) (λ i c=>(⟨i,c⟩:zf1)) t.fBr.length (λ i=>t.fBr.take i) (λ c=>(⟨c⟩:zhm)) (λ i hi=>?_) ?_
 ·simp only [qbb,qg] at key
  rw [key];rfl
 ·have ht:(t.fBr.take i).length=i:=by rw [ql];omega
  have e1:=wS (i:=i) (by omega)
  unfold zdi
  simp only [qc,e1,← zlJ hi]
  rw [if_pos (by rw [decide_eq_true_eq];omega),zj9 (by omega),zm5 _ (hs i hi)]
  simp only [qa]
  rw [zj9 (by omega)]
 ·unfold zdi
  dsimp only
  rw [if_neg (by simp)]
theorem zzM (h:List zka) (l:List zkd):(zn4 h l false).length≤l.length+1:=by
 have h1:=(zlU h l).length_eq
 have h2:=qx (λ b:zkd=>!zk2 b.fEv h) l
 unfold zl1 at h1
 rw [qM,qd] at h1
 omega
theorem zo8 (l:List zkd) (h:List zka):(zmn l h).length≤l.length+1:=by
 unfold zmn
 split
 ·omega
 ·exact zzM h l
theorem zqd {l:List zkd} {h:List zka} {b:zkd} (hb:b∈zmn l h):b∈l∨b=⟨h⟩:=by
 unfold zmn at hb
 split at hb
 ·exact .inl hb
 ·rcases List.mem_append.1 ((zlU h l).mem_iff.1 hb) with e | e
  ·exact .inl (List.mem_filter.1 e).1
  ·exact .inr (List.mem_singleton.1 e)
theorem zw6 {x y:List zka} (h:zk2 y x=true):0≤(zk7 x y).1:=by
 unfold zk2 at h
 rw [decide_eq_true_eq,zse] at h
 cases hf:zl7 x y with
 | some i =>
  rw [hf] at h
  unfold zl7 at hf
  have:=(zm4 hf).1
  simp only at h
  omega
 | none =>
  rw [hf] at h
  simp only at h
  unfold zk7
  rw [hf]
  simp only
  rw [if_neg (by omega)]
  split<;>simp
theorem zx8 {h:List zka} (hh:zkP h=true):zk2 h h=true:=(zo6 hh hh).2 ⟨qh _,λ _ _=>rfl⟩
theorem zvp {b h:List zka} (hb:zkP b=true) (hh:zkP h=true) (hn:zk2 b h=false):(zk7 b h).1≠0:=λ e=>by
 have:=(zzf hb hh).1 e
 rw [this,zx8 hh] at hn
 cases hn
theorem zqT (l:List zkd):zld ⟨l⟩=true↔l.length≤12∧(∀ b∈l,zlC b.fEv=true)∧l.Pairwise λ a b=>brL a b=true∧zk2 a.fEv b.fEv=false:=by
 unfold zld
 simp only [qe,decide_eq_true_eq,zll,Bool.not_eq_true']
 constructor
 ·rintro ⟨h1,h2⟩
  refine ⟨h1,λ b hb=>?_,?_⟩
  ·obtain ⟨i,hi,rfl⟩:=qn hb
   have:=(h2 i hi).1
   rwa [zkQ hi] at this
  ·rw [qbc]
   intro k i hk hi hki
   have:=(h2 i hi).2 k hki
   rw [zkQ hk,zkQ hi] at this
   exact ⟨zpj.2 this.1,this.2⟩
 ·rintro ⟨h1,h2,h3⟩
  refine ⟨h1,λ i hi=>⟨?_,λ k hk=>?_⟩⟩
  ·rw [zkQ hi];exact h2 _ (qr _)
  ·have:=List.pairwise_iff_getElem.1 h3 k i (by omega) hi hk
   rw [zkQ (show k < l.length by omega),zkQ hi]
   exact ⟨zpj.1 this.1,this.2⟩
def zop (l:List zkd):Prop:=(∀ b∈l,zlC b.fEv=true)∧l.Pairwise λ a b=>brL a b=true∧zk2 a.fEv b.fEv=false
theorem zsl {l:List zkd} (h:zop l):zld ⟨l⟩=decide (l.length≤12):=by
 by_cases h1:l.length≤12
 ·rw [(zqT l).2 ⟨h1,h⟩];simp [h1]
 ·cases hg:zld ⟨l⟩
  ·simp [h1]
  ·exact absurd ((zqT l).1 hg).1 h1
theorem zrx {l:List zkd} {h:List zka} (hl:zop l) (hh:zlC h=true):zop (zmn l h):=by
 unfold zmn
 split
 ·exact hl
 ·rename_i ha
  have hno:∀ b∈l,zk2 h b.fEv=false:=λ b hb=>by
   cases e:zk2 h b.fEv
   ·rfl
   ·exact absurd (List.any_eq_true.2 ⟨b,hb,e⟩) ha
  refine ⟨λ b hb=>?_,?_⟩
  ·rcases List.mem_append.1 ((zlU h l).mem_iff.1 hb) with e | e
   ·exact hl.1 b (List.mem_filter.1 e).1
   ·rw [List.mem_singleton.1 e];exact hh
  ·have hasc:=zqb h l (hl.2.imp λ h=>h.1) λ b hb hn=>zvp (zkL (hl.1 b hb)) (zkL hh) hn
   have hS:l.Pairwise λ a b=>zk2 a.fEv b.fEv=false∧zk2 b.fEv a.fEv=false:=hl.2.imp λ {a b} ⟨h1,h2⟩=>⟨h2,by
    cases e:zk2 b.fEv a.fEv
    ·rfl
    ·have:=zw6 e
     have:=zpj.1 h1
     omega⟩
   have hS2:(zl1 h l++[(⟨h⟩:zkd)]).Pairwise λ a b=>zk2 a.fEv b.fEv=false∧zk2 b.fEv a.fEv=false:=by
    rw [List.pairwise_append]
    refine ⟨hS.filter _,by simp,λ a ha b hb=>?_⟩
    rw [List.mem_singleton.1 hb]
    have ha':=List.mem_filter.1 ha
    exact ⟨by simpa using ha'.2,hno a ha'.1⟩
   have hS3:=((zlU h l).pairwise_iff (R:=λ a b:zkd=>zk2 a.fEv b.fEv=false∧zk2 b.fEv a.fEv=false) λ h=>⟨h.2,h.1⟩).2 hS2
   exact (hasc.and hS3).imp λ ⟨a,b⟩=>⟨a,b.1⟩
theorem zk4 {t:zkh} (h:zld t=true):zop t.fBr:=((zqT t.fBr).1 h).2
theorem zzN {l:List zkd} {h:List zka} (hl:zns l) (hn:l.length≤1000) (hh:zls h):zlb ⟨zmn l h⟩:=by
 refine ⟨by have:=zo8 l h;show (zmn l h).length≤_;omega,λ y hy=>?_⟩
 rcases zqd hy with e | e
 ·exact hl.2 y e
 ·rw [e];exact hh
end Go.TL
set_option maxRecDepth 4000
namespace Go.TL
def zrj (l:List zkd):Prop:=l.length≤1000∧zqS l
theorem znj {t:zkh} (h:zzg t):zrj t.fBr:=⟨by have:=h.1;omega,λ i hi=>by have:=h.2 i hi;omega⟩
theorem zqe {l:List zkd} (h:zop l) (hl:l.length≤1000):zrj l:=⟨hl,λ i hi=>by
 have:=zk8 (zkL (h.1 (nth l i) (by rw [zkQ hi];exact qr _)))
 omega⟩
theorem znS (t:zkh) (h:zrj t.fBr):zah t=some t:=by
 unfold zah
 have key:=zkZ (step:=zax t) (λ i c=>(⟨i,c⟩:zcL)) t.fBr.length (λ i=>t.fBr.take i) (λ c=>(⟨c⟩:zf7)) (λ i hi=>?_) ?_
 ·simp only [qbb,qg] at key
  rw [key];rfl
 ·have hl:=h.1
  have he:=h.2 i hi
  have ht:(t.fBr.take i).length=i:=by rw [ql];omega
  have e1:=wS (i:=i) (by omega)
  unfold zax zh
  simp only [qc,e1,← zlJ hi]
  rw [if_pos (by rw [decide_eq_true_eq];omega),zj9 (by omega),zj9 (by omega)]
  simp only [qa]
  rw [zj9 (by rw [ht];omega)]
 ·unfold zax
  dsimp only
  rw [if_neg (by simp)]
theorem zwn (l:List zkd) (h:List zka) (hl:l.length≤1000) (hb:∀ b∈l,zlC b.fEv=true) (hh:zlC h=true) :
  zo l h=some (l.any λ b=>zk2 h b.fEv):=by
 unfold zo zL
 have key:=zlm (step:=zg l h) (λ i=>(⟨i⟩:zz)) l.length (λ i=>zk2 h (nth l i).fEv)
  (λ i=>(.inl ⟨i⟩:zaG⊕Unit)) (.inr ()) (λ i hi hv=>?_) ?_
 ·rw [key]
  have:=zmz l λ b=>zk2 h b.fEv
  cases hf:zlp (λ i=>zk2 h (nth l i).fEv) l.length with
  | none=>rw [hf] at this;rw [← this];rfl
  | some k =>
   rw [hf] at this
   rw [← this]
   simp
 ·unfold zg zfE
  have hi':i < l.length:=hi
  have hbi:=hb (nth l i) (by rw [zkQ hi'];exact qr _)
  have e1:=wS (i:=i) (by omega)
  simp only [qc,e1]
  rw [if_pos (by rw [decide_eq_true_eq];omega),zj9 (by omega),zgQ _ _ (zkL hh) (zkL hbi)]
  simp only [qa]
  cases zk2 h (nth l i).fEv<;>rfl
 ·unfold zg
  dsimp only
  rw [if_neg (by simp)]
theorem zg1 (t:zkh) (h:List zka) (ht:zop t.fBr) (hl:t.fBr.length≤900) (hh:zlC h=true):zct t h=some ⟨zmn t.fBr h⟩:=by
 have hm:=zqe ht (by omega)
 have hhl:=zk8 (zkL hh)
 unfold zct
 rw [znS _ hm]
 simp only [qa]
 rw [zwn _ _ hm.1 ht.1 hh]
 simp only [qa]
 unfold zmn
 cases ha:t.fBr.any λ b=>zk2 h b.fEv
 rotate_left
 ·rfl
 simp only [qb,if_false]
 have hc:∀ b∈t.fBr,za6 b h=some (zk2 b.fEv h):=λ b hb=>by
  unfold za6
  rw [zgQ _ _ (zkL (ht.1 b hb)) (zkL hh)]
  rfl
 have e1:zP t.fBr h=some (zl1 h t.fBr):=by
  unfold zP zl1
  have hal:(t.fBr.all λ b=>(za6 b h).isSome)=true:=by
   rw [qk]
   intro b hb
   rw [hc b hb]
   rfl
  rw [zj9 ⟨by omega,hal⟩]
  refine congrArg some (List.filter_congr λ b hb=>?_)
  rw [hc b hb]
  rfl
 rw [e1]
 simp only [qa]
 have hll:=qx (λ b:zkd=>!zk2 b.fEv h) t.fBr
 change (zl1 h t.fBr).length≤_ at hll
 unfold zh
 rw [zj9 (by omega)]
 simp only [qa]
 rw [zj9 (by omega)]
 have hno:∀ b∈t.fBr,zk2 h b.fEv=false:=λ b hb=>by
  cases e:zk2 h b.fEv
  ·rfl
  ·have:(t.fBr.any λ b=>zk2 h b.fEv)=true:=List.any_eq_true.2 ⟨b,hb,e⟩
   rw [this] at ha;cases ha
 have hne:∀ b∈t.fBr,zk2 b.fEv h=false→(zk7 b.fEv h).1≠0:=λ b hb hn=>zvp (zkL (ht.1 b hb)) (zkL hh) hn
 have hlt:t.fBr.Pairwise λ a b=>brL a b=true:=ht.2.imp λ h=>h.1
 have hapt:zuZ brL (zl1 h t.fBr++[(⟨h⟩:zkd)])=true:=by
  refine zo1.2 ?_
  have h1:=zqb h t.fBr hlt hne
  exact ((zlU h t.fBr).pairwise_iff (R:=λ a b:zkd=>brL a b=true∨brL b a=true) λ h=>h.symm).1 (h1.imp λ h=>.inl h)
 have e2:zY (zl1 h t.fBr++[(⟨h⟩:zkd)])=some (zn4 h t.fBr false):=by
  unfold zY
  have hal:((zl1 h t.fBr++[(⟨h⟩:zkd)]).all λ b=>decide (b.fEv.length≤1000))=true:=by
   rw [qk]
   intro b hb
   rw [decide_eq_true_eq]
   rcases List.mem_append.1 hb with e | e
   ·have:=zk8 (zkL (ht.1 b (List.mem_filter.1 e).1))
    omega
   ·rw [List.mem_singleton.1 e]
    show h.length≤1000
    omega
  rw [zj9 ⟨by simp only [qM,qd];omega,hal,hapt⟩]
  refine congrArg some (zxS h t.fBr hlt hne (zoz brL _) ?_)
  refine (zqB zmS hapt).imp λ {a b} hab=>?_
  cases e:brL b a
  ·rfl
  ·have:=zmS _ _ _ hab e
   rw [zrv] at this
   cases this
 rw [e2]
 simp only [qa]
 rw [zj9 (by have:=(zlU h t.fBr).length_eq;simp only [qM,qd] at this;exact this)]
def zl2 (l:List zkd) (m:List zkd):List zkd:=m.foldl (λ l x=>zmn l x.fEv) l
theorem zmW:∀ {m l:List zkd},zop l→(∀ x∈m,zlC x.fEv=true)→zop (zl2 l m)
 | [],l,h,_=>h
 | x :: m,l,h,hm=>zmW (m:=m) (l:=zmn l x.fEv) (zrx h (hm x (by simp))) λ y hy=>hm y (qm _ hy)
theorem zub:∀ (m l:List zkd),(zl2 l m).length≤l.length+m.length
 | [],l=>by simp [zl2]
 | x :: m,l=>by
  have:=zub m (zmn l x.fEv)
  have:=zo8 l x.fEv
  show (zl2 (zmn l x.fEv) m).length≤_
  simp only [qP]
  omega
theorem zzO {m l:List zkd} (hl:zns l) (hm:zns m) (h:l.length+m.length≤1000):zns (zl2 l m):=by
 induction m generalizing l with
 | nil=>exact hl
 | cons x m ih =>
  simp only [qP] at h
  have h1:=hm.2 x (by simp)
  refine ih (l:=zmn l x.fEv) (zzN hl (by omega) h1) ⟨by omega,λ y hy=>hm.2 y (qm _ hy)⟩ ?_
  have:=zo8 l x.fEv
  omega
theorem zvq {l m:List zkd} {i:Nat} (h:i < m.length):zl2 l (m.take (i+1))=zmn (zl2 l (m.take i)) (nth m i).fEv:=by
 rw [← zlJ h]
 unfold zl2
 rw [qw]
 rfl
theorem zjj (a b:zkh) (ha:zop a.fBr) (hb:∀ x∈b.fBr,zlC x.fEv=true) (hl:a.fBr.length+b.fBr.length≤900):zfn a b=some ⟨zl2 a.fBr b.fBr⟩:=by
 have hsm:∀ i,zop (zl2 a.fBr (b.fBr.take i))∧(zl2 a.fBr (b.fBr.take i)).length≤900:=λ i=>by
  refine ⟨zmW ha λ x hx=>hb x (qq hx),?_⟩
  have:=zub (b.fBr.take i) a.fBr
  have:(b.fBr.take i).length≤b.fBr.length:=by rw [ql];omega
  omega
 unfold zfn
 have key:=zkZ (step:=zcj b) (λ i c=>(⟨c,i⟩:zfd)) b.fBr.length (λ i=>zl2 a.fBr (b.fBr.take i)) (λ c=>(⟨c⟩:zgW)) (λ i hi=>?_) ?_
 ·have e0:zl2 a.fBr (b.fBr.take 0)=a.fBr:=rfl
  rw [e0,qg] at key
  rw [key]
  simp only [qa]
  have h2:=hsm b.fBr.length
  rw [qg] at h2
  have h3:=zqe h2.1 (by omega)
  rw [ze4 ⟨zl2 a.fBr b.fBr⟩ h3.1 h3.2]
  rfl
 ·have h2:=hsm i
  have h3:=zqe h2.1 (by omega)
  have h4:=zk8 (zkL (hb (nth b.fBr i) (by rw [zkQ hi];exact qr _)))
  have e1:=wS (i:=i) (by omega)
  unfold zcj
  simp only [qc,e1,zvq hi]
  rw [if_pos (by rw [decide_eq_true_eq];omega),zj9 (by omega),zjK _ _ h3.1 h3.2 (by omega)]
  rfl
 ·unfold zcj
  dsimp only
  rw [if_neg (by simp)]
def zx9 (a b:zkh):zkh×Bool:=if (zld a && zld b && decide ((zl2 a.fBr b.fBr).length≤12))=true then (⟨zl2 a.fBr b.fBr⟩,true) else (⟨[]⟩,false)
theorem zia (a b:zkh) (ha:zlb a) (hb:zlb b):zcA a b=some (zx9 a b):=by
 unfold zcA zx9
 rw [zc4 _ ha]
 simp only [qa]
 cases hg:zld a
 ·simp
 rw [zc4 _ hb]
 simp only [qa]
 cases hg2:zld b
 ·simp
 have h1:=zla hg
 have h2:=zla hg2
 have hr:=zmW (zk4 hg) (zk4 hg2).1
 simp only [qf,qb,if_false,qa]
 rw [zjj _ _ (zk4 hg) (zk4 hg2).1 (by omega)]
 simp only [qa]
 rw [zc4 ⟨zl2 a.fBr b.fBr⟩ (zzO ha hb (by omega)),zsl hr]
 simp only [qa,qv]
 by_cases hc:(zl2 a.fBr b.fBr).length≤12
 ·simp [hc]
 ·simp [hc]
theorem zib (a b:zkh) (ha:zlb a) (hb:zlb b):zcB a b=some (zx9 a b):=by
 unfold zcB zx9
 rw [zfc _ ha]
 simp only [qa]
 cases hg:zld a
 ·simp
 rw [zfc _ hb]
 simp only [qa]
 cases hg2:zld b
 ·simp
 have h1:=zla hg
 have h2:=zla hg2
 have hr:=zmW (zk4 hg) (zk4 hg2).1
 simp only [qf,qb,if_false,qa]
 rw [znS _ (znj (zmB hg))]
 simp only [qa]
 have key:=zkZ (step:=zay b) (λ i c=>(⟨i,c⟩:zcO)) b.fBr.length (λ i=>zl2 a.fBr (b.fBr.take i)) (λ c=>(⟨c⟩:zf8)) (λ i hi=>?_) ?_
 ·have e0:zl2 a.fBr (b.fBr.take 0)=a.fBr:=rfl
  rw [e0,qg] at key
  rw [key]
  simp only [qa,qv]
  by_cases hc:(zl2 a.fBr b.fBr).length≤12
  ·rw [if_neg (by simp;omega),if_pos (by simpa using hc)]
  ·rw [if_pos (by simp;omega),if_neg (by simpa using hc)]
 ·have h3:=zmW (zk4 hg) (m:=b.fBr.take i) λ x hx=>(zk4 hg2).1 x (qq hx)
  have h4:=zub (b.fBr.take i) a.fBr
  have h5:(b.fBr.take i).length≤b.fBr.length:=by rw [ql];omega
  have e1:=wS (i:=i) (by omega)
  unfold zay
  simp only [qc,e1,zvq hi]
  rw [if_pos (by rw [decide_eq_true_eq];omega),zj9 (by omega),zg1 ⟨zl2 a.fBr (b.fBr.take i)⟩ _ h3 (by simp only;omega) (znv hg2 hi)]
  rfl
 ·unfold zay
  dsimp only
  rw [if_neg (by simp)]
def zln (r:zkb) (w:zlF):zkb×Bool:=if (zkG r && zkG ⟨0,w.fVe,w.fTe⟩ && decide ((zl2 r.fTe.fBr w.fTe.fBr).length≤12))=true then (⟨r.Id,max r.fVe w.fVe,⟨zl2 r.fTe.fBr w.fTe.fBr⟩⟩,true) else (⟨0,0,⟨[]⟩⟩,false)
end Go.TL
set_option maxRecDepth 4000
namespace Go.TL
theorem zsm (e:zka):∀ (l:List zka) (s:zkq) (n:Nat),(zlr l s n).2=n+l.length →
  zlr (l++[e]) s n=match zkR (zlr l s n).1 e with
   | some t=>(t,n+l.length+1)
   | none=>zlr l s n
 | [],s,n,_=>by
  show (match zkR s e with | some t=>zlr [] t (n+1) | none=>(s,n))=(match zkR s e with | some t=>(t,n+0+1) | none=>(s,n))
  cases zkR s e<;>rfl
 | x :: l,s,n,h=>by
  unfold zlr at h
  cases ha:zkR s x with
  | none=>rw [ha] at h;simp only [qP] at h;omega
  | some u =>
   rw [ha] at h
   have ih:=zsm e l u (n+1) (by simp only [qP] at h;omega)
   have e1:zlr (x :: l) s n=zlr l u (n+1):=by conv=>lhs;unfold zlr;rw [ha]
   have e2:zlr (x :: l++[e]) s n=zlr (l++[e]) u (n+1):=by
    show zlr (x :: (l++[e])) s n=_
    conv=>lhs;unfold zlr;rw [ha]
   rw [e1,e2,ih]
   simp only [qP]
   rw [show n+1+l.length+1=n+(l.length+1)+1 by omega]
theorem zzP {l:List zka} {e:zka} (h:zu7 l=true) (hv:l=[]∨lastV l≤e.fVe):zu7 (l++[e])=true:=by
 unfold zu7 at h ⊢
 rw [zll] at h ⊢
 intro i hi
 rw [qM,qd] at hi
 by_cases hlt:i < l.length
 ·have:=h i hlt
  have e1:nth (l++[e]) i=nth l i:=by rw [zkQ (by simp;omega),zkQ hlt,qi hlt]
  by_cases h0:i=0
  ·simp [h0]
  ·have e2:nth (l++[e]) (i - 1)=nth l (i - 1):=by rw [zkQ (by simp;omega),zkQ (show i - 1 < l.length by omega),qi (by omega)]
   rw [e1,e2]
   exact this
 ·have hi':i=l.length:=by omega
  subst hi'
  by_cases h0:l.length=0
  ·simp [h0]
  ·have e1:nth (l++[e]) l.length=e:=by rw [zkQ (by simp)];simp
   have e2:nth (l++[e]) (l.length - 1)=nth l (l.length - 1):=by rw [zkQ (by simp;omega),zkQ (show l.length - 1 < l.length by omega),qi (by omega)]
   rw [e1,e2]
   have hv':lastV l≤e.fVe:=hv.resolve_left λ h=>h0 (by rw [h];rfl)
   unfold lastV at hv'
   simp only [qz,decide_eq_true_eq,Bool.not_eq_true',decide_eq_false_iff_not]
   exact .inr (by omega)
theorem zmT {l:List zka}:zkP l=true↔zu7 l=true∧(zkX l).2=l.length∧l.length≤60:=by
 unfold zkP
 simp only [qe,decide_eq_true_eq]
 exact ⟨λ h=>⟨h.1.1,h.1.2,h.2⟩,λ h=>⟨⟨h.1,h.2.1⟩,h.2.2⟩⟩
theorem zya {l:List zka} {e:zka} {t:zkq} (h:zkP l=true) (ha:zkR (zkX l).1 e=some t) (hl:l.length < 60) (hv:l=[]∨lastV l≤e.fVe) :
  zkP (l++[e])=true∧(zkX (l++[e])).1=t:=by
 obtain ⟨h1,h2,h3⟩:=zmT.1 h
 have h2':(zlr l zp7 0).2=0+l.length:=by have:=h2;unfold zkX at this;omega
 have hs:=zsm e l zp7 0 h2'
 have ha':zkR (zlr l zp7 0).1 e=some t:=ha
 rw [ha'] at hs
 simp only at hs
 have hf:zkX (l++[e])=(t,0+l.length+1):=hs
 refine ⟨zmT.2 ⟨zzP h1 hv,?_,?_⟩,?_⟩
 ·rw [hf];simp
 ·simp;omega
 ·rw [hf]
theorem zyb {l:List zka} {e:zka} {t:zkq} (h:zkP l=true) (ha:zkR (zkX l).1 e=some t) (hl:l.length < 60) (hv:l=[]∨lastV l≤e.fVe):zlC (l++[e])=true:=by
 unfold zlC
 rw [(zya h ha hl hv).1]
 simp
theorem zpk {t:zkh} (h0:t.fBr.length≠0):(⟨zkM t⟩:zkd)∈t.fBr:=by
 unfold zkM
 rw [if_neg h0]
 have:=znR t.fBr (t.fBr.length - 1)
 exact zkJ (by omega)
theorem zqf {t:zkh} (hg:zld t=true):zkP (zkM t)=true:=by
 by_cases h0:t.fBr.length=0
 ·unfold zkM;rw [if_pos h0];rfl
 ·exact zkL ((zk4 hg).1 _ (zpk h0))
theorem zuc {v:Int} {t:zkh} (ho:znA v t=true):∀ e∈zkM t,e.fVe≤v:=by
 by_cases h0:t.fBr.length=0
 ·unfold zkM;rw [if_pos h0];simp
 ·unfold znA at ho
  rw [qk] at ho
  have:=ho _ (zpk h0)
  unfold zoh at this
  rw [qk] at this
  intro e he
  have:=this e he
  simp at this
  omega
theorem zkW {r:zkb} (h:zkG r=true):(0≤r.Id∧r.Id≤9)∧zp5 r.fVe=true∧zld r.fTe=true∧znA r.fVe r.fTe=true:=by
 unfold zkG zo7 at h
 simp only [qe,decide_eq_true_eq] at h
 exact ⟨h.1,h.2.1.1,h.2.1.2,h.2.2⟩
theorem zms {r:zkb} (h1:0≤r.Id∧r.Id≤9) (h2:zp5 r.fVe=true) (h3:zld r.fTe=true) (h4:znA r.fVe r.fTe=true):zkG r=true:=by
 unfold zkG zo7
 simp only [qe,decide_eq_true_eq]
 exact ⟨h1,⟨h2,h3⟩,h4⟩
def zmg (r:zkb) (k:Int) (n:ByteArray):zka:=⟨(zkX (zkM r.fTe)).1.Next,r.fVe,k,n⟩
def zqg (r:zkb) (k:Int) (n:ByteArray):zkb:=⟨r.Id,r.fVe,⟨zmn r.fTe.fBr (zkM r.fTe++[zmg r k n])⟩⟩
def zlk (r:zkb) (k:Int) (n:ByteArray):Int :=
 if (decide (1≤k∧k≤6) && zlq n)=false then 1
 else if zok r=false then 2
 else if (decide (k=2) && zk5 (zkX (zkM r.fTe)).1.fSi n)=true then 5
 else if (zkR (zkX (zkM r.fTe)).1 (zmg r k n)).isSome=false then 3
 else if (zkM r.fTe).length=60 then 4
 else 0
def callP (r:zkb) (k:Int) (n:ByteArray):zkb×Int:=(if zlk r k n=0 then zqg r k n else r,zlk r k n)
theorem zqU {r:zkb} {k:Int} {n:ByteArray} (h:zlk r k n=0):(1≤k∧k≤6)∧zlq n=true∧zok r=true∧(k=2→zk5 (zkX (zkM r.fTe)).1.fSi n=false) ∧
  (∃ t,zkR (zkX (zkM r.fTe)).1 (zmg r k n)=some t)∧(zkM r.fTe).length≠60:=by
 unfold zlk at h
 split at h
 ·cases h
 rename_i h1
 split at h
 ·cases h
 rename_i h2
 split at h
 ·cases h
 rename_i h3
 split at h
 ·cases h
 rename_i h4
 split at h
 ·cases h
 rename_i h5
 simp only [qbh,qe,decide_eq_true_eq] at h1
 simp only [qbh] at h2 h4
 refine ⟨h1.1,h1.2,h2,λ hk=>?_,Option.isSome_iff_exists.1 h4,h5⟩
 cases hs:zk5 (zkX (zkM r.fTe)).1.fSi n
 ·rfl
 ·exact absurd (by simp [hk,hs]) h3
theorem zzQ {v:Int} {t:zkh} (ho:znA v t=true):zkM t=[]∨lastV (zkM t)≤v:=by
 by_cases h0:zkM t=[]
 ·exact .inl h0
 ·right
  have hl:0 < (zkM t).length:=List.length_pos_iff.2 h0
  exact zuc ho _ (zkJ (by omega))
theorem zoq {r:zkb} {k:Int} {n:ByteArray} (hg:zkG r=true) (h:zlk r k n=0):zlC (zkM r.fTe++[zmg r k n])=true:=by
 obtain ⟨g1,g2,g3,g4⟩:=zkW hg
 obtain ⟨c1,c2,c3,c4,⟨t,c5⟩,c6⟩:=zqU h
 have hh:=zqf g3
 have hl:=zk8 hh
 exact zyb hh c5 (by omega) (zzQ g4)
theorem zwo {l:List zkd} {h h2:List zka} (hm:(⟨h⟩:zkd)∈l) (hb:zk2 h h2=true):(zmn l h2).length≤l.length:=by
 unfold zmn
 split
 ·exact qh _
 ·rw [(zlU h2 l).length_eq,qM,qd]
  have:(zl1 h2 l).length < l.length:=by
   unfold zl1
   have hle:=qx (λ b:zkd=>!zk2 b.fEv h2) l
   rcases qbf (l.filter λ b:zkd=>!zk2 b.fEv h2).length l.length with h | h
   ·exact h
   ·have:=(List.filter_eq_self (l:=l) (p:=λ b:zkd=>!zk2 b.fEv h2)).1 ((List.filter_sublist).eq_of_length_le (by omega)) _ hm
    simp [hb] at this
  omega
theorem zzR {l:List zka} {e:zka} (h:zkP l=true) (h2:zkP (l++[e])=true):zk2 l (l++[e])=true :=
 (zo6 h h2).2 ⟨by simp,λ i hi=>by rw [zkQ hi,zkQ (by simp;omega),qi hi]⟩
theorem zqV {r:zkb} {k:Int} {n:ByteArray} (hg:zkG r=true) (h:zlk r k n=0):zkG (zqg r k n)=true:=by
 obtain ⟨g1,g2,g3,g4⟩:=zkW hg
 have ht:=zoq hg h
 have hr:=zrx (zk4 g3) ht
 have h12:=zla g3
 have hle:(zmn r.fTe.fBr (zkM r.fTe++[zmg r k n])).length≤12:=by
  by_cases h0:r.fTe.fBr.length=0
  ·have:=zo8 r.fTe.fBr (zkM r.fTe++[zmg r k n])
   omega
  ·have:=zwo (zpk h0) (zzR (zqf g3) (zkL ht))
   omega
 refine zms g1 g2 (by show zld ⟨zmn _ _⟩=true;rw [zsl hr];simpa using hle) ?_
 show znA r.fVe ⟨zmn _ _⟩=true
 unfold znA
 rw [qk]
 intro b hb
 rcases zqd hb with hb | hb
 ·unfold znA at g4
  exact List.all_eq_true.1 g4 b hb
 ·subst hb
  unfold zoh
  rw [qk]
  intro e he
  rcases List.mem_append.1 he with he | he
  ·have:=zuc g4 e he
   simp;omega
  ·rw [List.mem_singleton.1 he]
   simp [zmg]
theorem zyc {r:zkb} {k:Int} {n:ByteArray} (hg:zkG r=true):zkG (callP r k n).1=true:=by
 unfold callP
 by_cases h:zlk r k n=0
 ·simp only [if_pos h];exact zqV hg h
 ·simp only [if_neg h];exact hg
theorem zzS {r:zkb} {k:Int} {n:ByteArray} (hr:zkY r) (hk:zl6 k) (hn:zoA n):zu3 (zmg r k n):=by
 have:=zmd (zoC (zkM r.fTe))
 exact ⟨(⟨by omega,by omega⟩:zl6 (zkX (zkM r.fTe)).1.Next),hr.2.1,hk,hn⟩
theorem zw7 {r:zkb} {k:Int} {n:ByteArray} (hg:zkG r=true) (hr:zkY r) (hk:zl6 k) (hn:zoA n):zkY (zqg r k n):=by
 obtain ⟨g1,g2,g3,g4⟩:=zkW hg
 have h12:=zla g3
 have hc:=zt5 hr.2.2
 have hcl:=znx g3
 refine ⟨hr.1,hr.2.1,zzN hr.2.2 (by omega) ⟨by simp;omega,λ y hy=>?_⟩⟩
 rcases List.mem_append.1 hy with hy | hy
 ·exact hc.2 y hy
 ·rw [List.mem_singleton.1 hy];exact zzS hr hk hn
theorem zzT {r:zkb} {k:Int} {n:ByteArray} (hg:zkG r=true) (hr:zkY r) (hk:zl6 k) (hn:zoA n):zkY (callP r k n).1:=by
 unfold callP
 by_cases h:zlk r k n=0
 ·simp only [if_pos h];exact zw7 hg hr hk hn
 ·simp only [if_neg h];exact hr
theorem zwp (r:zkb) (k:Int) (n:ByteArray):(callP r k n).1.Id=r.Id∧(callP r k n).1.fVe=r.fVe:=by
 unfold callP zqg
 by_cases h:zlk r k n=0
 ·rw [if_pos h];exact ⟨rfl,rfl⟩
 ·rw [if_neg h];exact ⟨rfl,rfl⟩
def zlv (p:zkb×Nat) (n:ByteArray):zkb×Nat:=if zlk p.1 2 n=0 then (zqg p.1 2 n,p.2+1) else p
def reapP (r:zkb) (l:List ByteArray):zkb×Nat:=l.foldl zlv (r,0)
theorem zwq {p:zkb×Nat} {n:ByteArray} (h:zkG p.1=true):zkG (zlv p n).1=true:=by
 unfold zlv
 split
 ·rename_i h0;exact zqV h h0
 ·exact h
theorem zzU {p:zkb×Nat} {n:ByteArray} (hg:zkG p.1=true) (h:zkY p.1) (hn:zoA n):zkY (zlv p n).1:=by
 unfold zlv
 split
 ·exact zw7 hg h (⟨by omega,by omega⟩:zl6 2) hn
 ·exact h
theorem zud (p:zkb×Nat) (n:ByteArray):p.2≤(zlv p n).2∧(zlv p n).2≤p.2+1:=by
 unfold zlv
 split
 ·exact ⟨Nat.le_succ _,qh _⟩
 ·exact ⟨qh _,Nat.le_succ _⟩
theorem zvr:∀ (l:List ByteArray) (p:zkb×Nat),zkG p.1=true→zkY p.1→(∀ n∈l,zoA n)→zkG (l.foldl zlv p).1=true∧zkY (l.foldl zlv p).1∧(l.foldl zlv p).2≤p.2+l.length
 | [],p,hg,ho,_=>⟨hg,ho,by simp⟩
 | n :: l,p,hg,ho,hn=>by
  have:=zud p n
  obtain ⟨h1,h2,h3⟩:=zvr l (zlv p n) (zwq hg) (zzU hg ho (hn n (by simp))) λ m hm=>hn m (qm _ hm)
  refine ⟨h1,h2,?_⟩
  simp only [List.foldl_cons,qP]
  omega
end Go.TL
set_option maxRecDepth 4000
namespace Go.TL
theorem zwr (l:List zkd) (h:List zka) (hl:l.length≤1000) (hs:zqS l) (hh:h.length≤1000):∀ (r:List zkd) (i:Nat) (put:Bool) (c:List zkd),l.drop i=r→i≤l.length→c.length≤2 * i →
  ∃ put' c',zkx (zck l h) ⟨put,(i:Int),c⟩=some ⟨put',c'⟩∧(if put'=true then c' else c'++[⟨h⟩])=c++zn4 h r put∧c'.length≤2 * l.length:=by
 intro r
 induction r with
 | nil =>
  intro i put c hd hi hc
  have e:=zp8 hd hi
  refine ⟨put,c,zk3 ?_,?_,by omega⟩
  ·unfold zck
   dsimp only
   rw [if_neg (by rw [decide_eq_true_eq];omega)]
  ·unfold zn4
   cases put<;>simp
 | cons b r ih =>
  intro i put c hd hi hc
  obtain ⟨hlt,hb,hr⟩:=zpd hd
  have hbs:b.fEv.length≤1000:=by rw [← hb];exact hs i hlt
  have e1:=wS (i:=i) (by omega)
  have ebb:(⟨b.fEv⟩:zkd)=b:=rfl
  have hstep:zck l h ⟨put,(i:Int),c⟩=some (.inl (if zk2 b.fEv h=true then ⟨put,((i+1:Nat):Int),c⟩ else if ((zk7 b.fEv h).1 > 0∧put=false) then ⟨true,((i+1:Nat):Int),(c++[⟨h⟩])++[b]⟩ else ⟨put,((i+1:Nat):Int),c++[b]⟩)):=by
   unfold zck
   simp only [qc,hb,e1]
   rw [if_pos (by rw [decide_eq_true_eq];omega),zj9 (by omega),zcV _ _ (by omega) (by omega)]
   simp only [qa]
   cases hbg:zk2 b.fEv h
   ·rw [if_neg (by simp),if_neg (by simp),zea _ _ (by omega) (by omega)]
    simp only [qa,zm5 _ hh,zm5 _ hbs,ebb]
    by_cases hc1:(zk7 b.fEv h).1 > 0
    ·rw [if_pos (decide_eq_true hc1)]
     cases put
     ·simp only [qa,qbl,if_true]
      rw [zj9 (by omega),zj9 (by omega),if_pos ⟨hc1,trivial⟩]
     ·simp only [qa,qf,qb,if_false]
      rw [zj9 (by omega),if_neg (by simp)]
    ·rw [if_neg (by simpa using hc1)]
     simp only [qa,qb,if_false]
     rw [zj9 (by omega),if_neg (λ h=>hc1 h.1)]
   ·rw [if_pos rfl,if_pos rfl]
  rw [zlQ hstep]
  unfold zn4
  by_cases hbg:zk2 b.fEv h=true
  ·rw [if_pos hbg,if_pos hbg]
   exact ih (i+1) put c hr (by omega) (by omega)
  ·rw [if_neg hbg,if_neg hbg]
   by_cases hc1:(zk7 b.fEv h).1 > 0∧put=false
   ·rw [if_pos hc1,if_pos hc1]
    obtain ⟨p',c',g1,g2,g3⟩:=ih (i+1) true ((c++[⟨h⟩])++[b]) hr (by omega) (by simp only [qM,qd];omega)
    exact ⟨p',c',g1,by rw [g2];simp,g3⟩
   ·rw [if_neg hc1,if_neg hc1]
    obtain ⟨p',c',g1,g2,g3⟩:=ih (i+1) put (c++[b]) hr (by omega) (by simp only [qM,qd];omega)
    exact ⟨p',c',g1,by rw [g2];simp,g3⟩
theorem zjk (l:List zkd) (h:List zka) (hl:l.length≤1000) (hs:zqS l) (hh:h.length≤1000):zd1 l h=some (zmn l h):=by
 unfold zd1 zmn
 have key:=zlm (step:=zbn l h) (λ i=>(⟨i⟩:zfe)) l.length (λ i=>zk2 h (nth l i).fEv) (λ _=>(.inl ():Unit⊕Unit)) (.inr ()) (λ i hi hv=>?_) ?_
 ·have e:zkx (zbn l h) ⟨0⟩=some (if (l.any λ b=>zk2 h b.fEv)=true then .inl () else .inr ()):=by
   rw [key]
   have:=zmz l λ b=>zk2 h b.fEv
   cases hf:zlp (λ i=>zk2 h (nth l i).fEv) l.length with
   | none=>rw [hf] at this;rw [← this];rfl
   | some k=>rw [hf] at this;rw [← this];rfl
  rw [e]
  simp only [qa]
  cases l.any λ b=>zk2 h b.fEv
  ·simp only [qb,if_false]
   obtain ⟨p',c',g1,g2,g3⟩:=zwr l h hl hs hh l 0 false [] rfl (by omega) (by simp)
   have e0:((0:Nat):Int)=0:=rfl
   rw [e0] at g1
   rw [g1]
   simp only [qa,zm5 _ hh]
   rw [qo] at g2
   rw [← g2]
   cases p'
   ·rw [if_pos (by rfl),zj9 (by omega)];rfl
   ·rfl
  ·rfl
 ·unfold zbn
  have hi':i < l.length:=hi
  have hbs:=hs i hi'
  have e1:=wS (i:=i) (by omega)
  simp only [qc,e1]
  rw [if_pos (by rw [decide_eq_true_eq];omega),zj9 (by omega),zcV _ _ (by omega) (by omega)]
  simp only [qa]
  cases zk2 h (nth l i).fEv<;>rfl
 ·unfold zbn
  dsimp only
  rw [if_neg (by simp)]
theorem zsn:∀ (r:List zka) (s:zkq) (n:Nat),(zlr r s n).2=n+r.length→(zlr r s n).1.Next=s.Next+(r.length:Int)
 | [],s,n,_=>by simp [zlr]
 | e :: r,s,n,h=>by
  unfold zlr at h ⊢
  cases ha:zkR s e with
  | none=>rw [ha] at h;simp only [qP] at h;omega
  | some t =>
   rw [ha] at h
   have ih:=zsn r t (n+1) (by simp only [qP] at h;omega)
   have:=(zq8 ha).2
   simp only [qP] at ih ⊢
   rw [ih,this]
   omega
theorem zyd {l:List zka} (h:zkP l=true):(zkX l).1.Next=1+(l.length:Int):=by
 obtain ⟨h1,h2,h3⟩:=zmT.1 h
 exact zsn l zp7 0 (by unfold zkX at h2;omega)
theorem zvs (s:zkq) (k:Int) (n:ByteArray) (hg:zlY s=true) (hk:(decide (1≤k∧k≤6) && zlq n)=false):zbG s k n=some (false,false):=by
 have g:=zmd hg
 have n1:=zlo g.2.2.2.1
 have n2:=zlo g.2.2.2.2
 unfold zbG zal
 rw [zcU s (by omega) (by omega),hg]
 simp only [qa,zak,zch,qf,qb,if_false]
 cases h1:decide (1≤k∧k≤6)
 ·simp
 ·rw [h1] at hk
  simp only [qv] at hk
  rw [hk]
  simp
theorem zA1 {r:zkb} {k:Int} {n:ByteArray} (hg:zkG r=true) (hk:(decide (1≤k∧k≤6) && zlq n)=true):evP (zmg r k n)=true:=by
 obtain ⟨g1,g2,g3,g4⟩:=zkW hg
 have hh:=zqf g3
 have hl:=zk8 hh
 have hn:=zyd hh
 simp only [qe,decide_eq_true_eq] at hk
 unfold evP
 simp only [qe,decide_eq_true_eq]
 exact ⟨⟨⟨by show 1≤(zkX (zkM r.fTe)).1.Next∧_;show _∧(zkX (zkM r.fTe)).1.Next≤1000;omega,g2⟩,hk.1⟩,hk.2⟩
theorem zws (r:zkb) (hg:zld r.fTe=true):zd9 r=some (zkM r.fTe):=by
 obtain ⟨hf,ho⟩:=zpf hg
 unfold zd9
 rw [zgV _ hf]
 simp only [qa]
 unfold zwZ zkM
 by_cases h0:r.fTe.fBr.length=0
 ·rw [if_pos h0,if_pos (by simp),if_pos h0]
 ·have hc:=znR r.fTe.fBr (r.fTe.fBr.length - 1)
  rw [if_neg h0,if_neg (by simp),if_neg h0,zj9 (by omega),qc]
  rfl
theorem zhQ (r:zkb) (k:Int) (n:ByteArray) (hg:zkG r=true) (hr:zkY r) (hk:zl6 k) (hn:zoA n):zdw r k n=some (callP r k n):=by
 obtain ⟨g1,g2,g3,g4⟩:=zkW hg
 have hh:=zqf g3
 have hl:=zk8 hh
 have hok:=zt5 hr.2.2
 have h12:=zla g3
 obtain ⟨f1,f2⟩:=zqH (zkM r.fTe)
 have hgs:=zoC (zkM r.fTe)
 unfold zdw zdf
 rw [zaF,zgP _ hn]
 simp only [qa]
 have e1:(if (!decide (1≤k∧k≤6))=true then some (⟨true⟩:zed) else some ⟨!zlq n⟩)=some ⟨!(decide (1≤k∧k≤6) && zlq n)⟩:=by
  cases decide (1≤k∧k≤6)<;>simp
 rw [e1]
 simp only [qa]
 cases c1:decide (1≤k∧k≤6) && zlq n
 ·have:zlk r k n=1:=by unfold zlk;rw [if_pos c1]
  unfold callP
  rw [this];rfl
 simp only [qf,qb,if_false]
 have e2:((r.fVe.tmod 10) == r.Id)=zok r:=rfl
 rw [e2]
 cases c2:zok r
 ·have:zlk r k n=2:=by unfold zlk;rw [if_neg (by rw [c1];simp),if_pos c2]
  unfold callP
  rw [this];rfl
 simp only [qf,qb,if_false]
 rw [zws r g3]
 simp only [qa]
 rw [zfC _ hok]
 simp only [qa]
 obtain ⟨x,hx,hxp⟩:=zdZ (zkX (zkM r.fTe)).1.fSi n (by omega)
 have e3:(if (k == 2)=true then ((zbC (zkX (zkM r.fTe)).1.fSi n).bind λ c193=>some (⟨(decide (c193 ≥ 0))⟩:zcC)) else some (⟨false⟩:zcC))=some ⟨decide (k=2) && zk5 (zkX (zkM r.fTe)).1.fSi n⟩:=by
  rw [hx]
  simp only [qa,hxp]
  by_cases hk2:k=2<;>simp [hk2]
 rw [e3]
 simp only [qa]
 cases c3:decide (k=2) && zk5 (zkX (zkM r.fTe)).1.fSi n
 rotate_left
 ·have:zlk r k n=5:=by unfold zlk;rw [if_neg (by rw [c1];simp),if_neg (by rw [c2];simp),if_pos c3]
  unfold callP
  rw [this];rfl
 simp only [qb,if_false]
 obtain ⟨q,hq,ha⟩:=zhl (zkX (zkM r.fTe)).1 (zmg r k n) hgs hn
 have hq':zb1 (zkX (zkM r.fTe)).1 ⟨(zkX (zkM r.fTe)).1.Next,r.fVe,k,n⟩=some q:=hq
 rw [hq']
 simp only [qa]
 have c4:(zkR (zkX (zkM r.fTe)).1 (zmg r k n)).isSome=q.2:=by rw [ha];cases q.2<;>rfl
 cases c5:q.2
 ·rw [c5] at c4
  have:zlk r k n=3:=by unfold zlk;rw [if_neg (by rw [c1];simp),if_neg (by rw [c2];simp),if_neg (by rw [c3];simp),if_pos c4]
  unfold callP
  rw [this];rfl
 rw [c5] at c4
 simp only [qf,qb,if_false]
 by_cases c6:(zkM r.fTe).length=60
 ·have:zlk r k n=4:=by unfold zlk;rw [if_neg (by rw [c1];simp),if_neg (by rw [c2];simp),if_neg (by rw [c3];simp),if_neg (by rw [c4];simp),if_pos c6]
  unfold callP
  rw [this,if_pos (by rw [c6];rfl)];rfl
 have c0:zlk r k n=0:=by unfold zlk;rw [if_neg (by rw [c1];simp),if_neg (by rw [c2];simp),if_neg (by rw [c3];simp),if_neg (by rw [c4];simp),if_neg c6]
 rw [if_neg (by simpa using (show ¬ ((zkM r.fTe).length:Int)=60 by omega)),zm5 _ (by omega)]
 simp only [qa]
 rw [zj9 (by omega)]
 have hm:=zqe (zk4 g3) (by omega)
 have ht:=zoq hg c0
 have hra:=zrx (zk4 g3) ht
 have hal:=zo8 r.fTe.fBr (zkM r.fTe++[zmg r k n])
 have hma:=zqe hra (by omega)
 have e6:zd1 r.fTe.fBr (zkM r.fTe++[⟨(zkX (zkM r.fTe)).1.Next,r.fVe,k,n⟩])=some (zmn r.fTe.fBr (zkM r.fTe++[zmg r k n])):=zjk r.fTe.fBr (zkM r.fTe++[zmg r k n]) hm.1 hm.2 (by simp;omega)
 rw [e6]
 simp only [qa]
 rw [ze4 ⟨zmn r.fTe.fBr (zkM r.fTe++[zmg r k n])⟩ hma.1 hma.2]
 simp only [qa]
 unfold callP
 rw [c0]
 rfl
theorem zi7 (r:zkb) (k:Int) (n:ByteArray) (hg:zkG r=true):∃ m,zbG (zkX (zkM r.fTe)).1 k n=some m∧((decide (1≤k∧k≤6) && zlq n)=true→m.1=(zkR (zkX (zkM r.fTe)).1 (zmg r k n)).isSome):=by
 have hgs:=zoC (zkM r.fTe)
 cases c1:decide (1≤k∧k≤6) && zlq n
 ·exact ⟨_,zvs _ _ _ hgs c1,λ h=>by cases h⟩
 ·exact ⟨_,zwm (zkX (zkM r.fTe)).1 (zmg r k n) hgs (zA1 hg c1) rfl,λ _=>rfl⟩
theorem zvt (r:zkb) (hg:zld r.fTe=true):zba r=some (zkX (zkM r.fTe)).1:=by
 have hl:=znx hg
 unfold zba
 rw [zfD _ hg]
 simp only [qa]
 rw [zgU _ (by omega)]
 rfl
theorem ziG (r:zkb) (k:Int) (n:ByteArray) (hg:zkG r=true):zS r k n=if zlk r k n=0 then none else some (zlk r k n):=by
 obtain ⟨g1,g2,g3,g4⟩:=zkW hg
 have hl:=znx g3
 have h12:=zla g3
 obtain ⟨f1,f2⟩:=zqH (zkM r.fTe)
 obtain ⟨m,hm,hm2⟩:=zi7 r k n hg
 unfold zS zal z8
 rw [zfD _ g3,zvt r g3]
 simp only [qa]
 rw [hm,zak,zch]
 simp only [qa]
 have e1:(if (!decide (1≤k∧k≤6))=true then some (⟨true⟩:zbJ) else some ⟨!zlq n⟩)=some ⟨!(decide (1≤k∧k≤6) && zlq n)⟩:=by
  cases decide (1≤k∧k≤6)<;>simp
 rw [e1]
 simp only [qa]
 cases c1:decide (1≤k∧k≤6) && zlq n
 ·have:zlk r k n=1:=by unfold zlk;rw [if_pos c1]
  rw [this];rfl
 have hm3:=hm2 c1
 simp only [qf,qb,if_false]
 have e2:((r.fVe.tmod 10) == r.Id)=zok r:=rfl
 rw [e2]
 cases c2:zok r
 ·have:zlk r k n=2:=by unfold zlk;rw [if_neg (by rw [c1];simp),if_pos c2]
  rw [this];rfl
 simp only [qf,qb,if_false]
 rw [zmJ _ _ (by omega)]
 simp only [qa]
 have e3:(if (k == 2)=true then some (⟨zk5 (zkX (zkM r.fTe)).1.fSi n⟩:zbK) else some ⟨false⟩)=some ⟨decide (k=2) && zk5 (zkX (zkM r.fTe)).1.fSi n⟩:=by
  by_cases hk2:k=2<;>simp [hk2]
 rw [e3]
 simp only [qa]
 cases c3:decide (k=2) && zk5 (zkX (zkM r.fTe)).1.fSi n
 rotate_left
 ·have:zlk r k n=5:=by unfold zlk;rw [if_neg (by rw [c1];simp),if_neg (by rw [c2];simp),if_pos c3]
  rw [this];rfl
 simp only [qb,if_false]
 rw [hm3]
 cases c4:(zkR (zkX (zkM r.fTe)).1 (zmg r k n)).isSome
 ·have:zlk r k n=3:=by unfold zlk;rw [if_neg (by rw [c1];simp),if_neg (by rw [c2];simp),if_neg (by rw [c3];simp),if_pos c4]
  rw [this];rfl
 simp only [qf,qb,if_false]
 by_cases c6:(zkM r.fTe).length=60
 ·have:zlk r k n=4:=by unfold zlk;rw [if_neg (by rw [c1];simp),if_neg (by rw [c2];simp),if_neg (by rw [c3];simp),if_neg (by rw [c4];simp),if_pos c6]
  rw [this,if_pos (by rw [c6];rfl)];rfl
 have c0:zlk r k n=0:=by unfold zlk;rw [if_neg (by rw [c1];simp),if_neg (by rw [c2];simp),if_neg (by rw [c3];simp),if_neg (by rw [c4];simp),if_neg c6]
 rw [if_neg (by simpa using (show ¬ ((zkM r.fTe).length:Int)=60 by omega)),c0]
 unfold zh
 rw [zj9 (by omega)]
 simp only [qa]
 rw [zj9 (by omega)]
 have ht:=zoq hg c0
 have e6:zct r.fTe (zkM r.fTe++[⟨(zkX (zkM r.fTe)).1.Next,r.fVe,k,n⟩])=some ⟨zmn r.fTe.fBr (zkM r.fTe++[zmg r k n])⟩:=zg1 r.fTe (zkM r.fTe++[zmg r k n]) (zk4 g3) (by omega) ht
 rw [e6]
 rfl
theorem zso {t:zkh} (ht:zlb t):∀ n∈zkH t,zoA n:=by
 intro n hn
 have:=((zt8 (zoj t) (zn3 t.fBr) [] (by simp [zqL])).2 n).1 hn
 rcases this with h | ⟨h,_⟩
 ·simp at h
 ·unfold zn3 at h
  rw [List.mem_flatMap] at h
  obtain ⟨b,hb,h⟩:=h
  unfold zn2 at h
  rw [List.mem_map] at h
  obtain ⟨e,he,rfl⟩:=h
  exact ((ht.2 b hb).2 e (List.mem_filter.1 he).1).2.2.2
def zme (r:zkb) (l:List ByteArray) (i:Nat):zkb×Nat:=(l.take i).foldl zlv (r,0)
theorem zto {r:zkb} {l:List ByteArray} {i:Nat} (h:i < l.length):zme r l (i+1)=zlv (zme r l i) (nth l i):=by
 unfold zme
 rw [← zlJ h,qw]
 rfl
theorem zsp {r:zkb} {l:List ByteArray} (hg:zkG r=true) (hr:zkY r) (hl:∀ n∈l,zoA n) (i:Nat):zkG (zme r l i).1=true∧zkY (zme r l i).1∧(zme r l i).2≤i:=by
 obtain ⟨h1,h2,h3⟩:=zvr (l.take i) (r,0) hg hr λ n hn=>hl n (qq hn)
 refine ⟨h1,h2,?_⟩
 have:(l.take i).length≤i:=by rw [ql];omega
 unfold zme
 simp only at h3
 omega
theorem ziH (r:zkb) (hg:zkG r=true) (hr:zkY r):zef r=some ((reapP r (zkH r.fTe)).1,(((reapP r (zkH r.fTe)).2:Nat):Int)):=by
 obtain ⟨g1,g2,g3,g4⟩:=zkW hg
 have hls:=zso hr.2.2
 have hll:(zkH r.fTe).length≤720:=by
  have:=ztk r.fTe
  unfold zw0 at this
  rw [if_pos g3] at this
  exact this
 unfold zef
 rw [zjn _ hr.2.2 g3]
 simp only [qa]
 have key:=zkZ (step:=zaH (zkH r.fTe)) (λ i (c:zkb×Nat)=>(⟨(c.2:Int),i,c.1.Id,c.1.fVe,c.1.fTe.fBr⟩:zee)) (zkH r.fTe).length (λ i=>zme r (zkH r.fTe) i) (λ c=>(⟨(c.2:Int),c.1.Id,c.1.fVe,c.1.fTe.fBr⟩:zgD)) (λ i hi=>?_) ?_
 ·have e0:zme r (zkH r.fTe) 0=(r,0):=rfl
  rw [e0] at key
  have e1:zme r (zkH r.fTe) (zkH r.fTe).length=reapP r (zkH r.fTe):=by unfold zme reapP;rw [qg]
  rw [e1] at key
  have key':zkx (zaH (zkH r.fTe)) ⟨0,0,r.Id,r.fVe,r.fTe.fBr⟩=_:=key
  rw [key']
  rfl
 ·obtain ⟨i1,i2,i3⟩:=zsp hg hr hls i
  have e1:=wS (i:=i) (by omega)
  have e2:wI (((zme r (zkH r.fTe) i).2:Int)+1)=(((zme r (zkH r.fTe) i).2+1:Nat):Int):=by rw [zkU (by omega)];omega
  unfold zaH
  simp only [qc,e1,e2]
  rw [if_pos (by rw [decide_eq_true_eq];omega),zj9 (by omega)]
  have hc:zdw ⟨(zme r (zkH r.fTe) i).1.Id,(zme r (zkH r.fTe) i).1.fVe,⟨(zme r (zkH r.fTe) i).1.fTe.fBr⟩⟩ 2 (nth (zkH r.fTe) i)=some (callP (zme r (zkH r.fTe) i).1 2 (nth (zkH r.fTe) i)):=zhQ _ _ _ i1 i2 (⟨by omega,by omega⟩:zl6 2) (hls _ (zkJ hi))
  rw [hc,zto hi]
  simp only [qa]
  unfold callP zlv
  by_cases c0:zlk (zme r (zkH r.fTe) i).1 2 (nth (zkH r.fTe) i)=0
  ·simp only [c0,if_true,beq_self_eq_true]
  ·simp only [c0,if_false]
   rw [if_neg (by simpa using c0)]
 ·unfold zaH
  dsimp only
  rw [if_neg (by simp)]
end Go.TL
set_option maxRecDepth 4000
namespace Go.TL
end Go.TL
set_option maxRecDepth 4000
namespace Go.TL
theorem zsR (a b:List zka) (ha:a.length≤9223372036854775807):zec a b=some (decide (a=b)):=by
 unfold zec
 by_cases hl:a.length=b.length
 ·rw [if_neg (by simp [hl])]
  have key:=zAH (step:=zbx a b) (λ i=>(⟨i⟩:zeb)) a b hl (λ i hi=>?_) ?_
  ·rw [key];by_cases h:a=b<;>simp [h]
  ·unfold zbx
   simp (disch:=omega) only [decide_eq_true_eq,if_pos,zj9,qc,zkU]
   rw [zBT]
   by_cases h:nth a i=nth b i<;>simp [h]
  ·unfold zbx
   rw [if_neg (by simp)]
 ·rw [if_pos (by simp;omega)]
  simp [show a≠b from λ h=>hl (by rw [h])]
theorem zke {α β:Type} {o:Option α} {x:α} {f:α→Option β} {r:Option β} (h:o=some x) (h2:f x=r):o.bind f=r:=by rw [h];exact h2
end Go.TL
set_option maxRecDepth 4000
namespace Go.TL
theorem zqh {c b:List zka} (h:c <+: b) {i:Nat} (hi:i < c.length):nth c i=nth b i:=by
 obtain ⟨t,rfl⟩:=h
 rw [zkQ hi,zkQ (by rw [qM];omega),qi hi]
theorem zue {c b:List zka} (hc:zkP c=true) (hb:zkP b=true):zk2 c b=true↔c <+: b:=by
 rw [zo6 hc hb]
 constructor
 ·rintro ⟨h1,h2⟩
  rw [List.prefix_iff_eq_take]
  refine zr5 (by rw [ql];omega) λ j hj=>?_
  rw [zm3 hj]
  exact h2 j hj
 ·intro h
  exact ⟨h.length_le,λ i hi=>zqh h hi⟩
def zoH (l:List zkd) (e:List zka):Prop:=∃ b∈l,e <+: b.fEv
def zCG (l:List zkd):Prop:=∀ b∈l,zkP b.fEv=true
theorem zry {h:List zka} {l:List zkd} {b:zkd}:b∈zn4 h l false↔(b∈l∧zk2 b.fEv h=false)∨b=⟨h⟩:=by
 rw [(zlU h l).mem_iff,qba,List.mem_singleton]
 unfold zl1
 rw [List.mem_filter]
 simp
theorem zvu {l:List zkd} {h e:List zka} (hl:zCG l) (hh:zkP h=true):zoH (zmn l h) e↔zoH l e∨e <+: h:=by
 unfold zmn
 split
 ·rename_i ha
  refine ⟨.inl,λ hc=>hc.elim id λ he=>?_⟩
  obtain ⟨b,hb,h1⟩:=List.any_eq_true.1 ha
  exact ⟨b,hb,he.trans ((zue hh (hl b hb)).1 h1)⟩
 ·constructor
  ·rintro ⟨b,hb,h1⟩
   rcases zry.1 hb with h2 | h2
   ·exact .inl ⟨b,h2.1,h1⟩
   ·subst h2;exact .inr h1
  ·rintro (⟨b,hb,h1⟩ | h1)
   ·cases hbh:zk2 b.fEv h
    ·exact ⟨b,zry.2 (.inl ⟨hb,hbh⟩),h1⟩
    ·exact ⟨⟨h⟩,zry.2 (.inr rfl),h1.trans ((zue (hl b hb) hh).1 hbh)⟩
   ·exact ⟨⟨h⟩,zry.2 (.inr rfl),h1⟩
theorem zvv {l:List zkd} (h:zop l):zCG l:=λ b hb=>zkL (h.1 b hb)
theorem zqi {e:List zka}:∀ {m l:List zkd},zop l→(∀ x∈m,zlC x.fEv=true)→(zoH (zl2 l m) e↔zoH l e∨zoH m e)
 | [],l,h,_=>by
  show zoH l e↔_
  refine ⟨.inl,λ h=>h.elim id λ ⟨b,hb,_⟩=>by simp at hb⟩
 | x :: m,l,h,hm=>by
  have hx:=hm x (by simp)
  have ih:=zqi (e:=e) (m:=m) (l:=zmn l x.fEv) (zrx h hx) λ y hy=>hm y (qm _ hy)
  show zoH (zl2 (zmn l x.fEv) m) e↔_
  rw [ih,zvu (zvv h) (zkL hx)]
  constructor
  ·rintro ((h1 | h1) | ⟨b,hb,h1⟩)
   ·exact .inl h1
   ·exact .inr ⟨x,by simp,h1⟩
   ·exact .inr ⟨b,qm _ hb,h1⟩
  ·rintro (h1 | ⟨b,hb,h1⟩)
   ·exact .inl (.inl h1)
   ·rcases List.mem_cons.1 hb with e1 | e1
    ·subst e1;exact .inl (.inr h1)
    ·exact .inr ⟨b,e1,h1⟩
theorem ztp {l:List zkd} (h:zop l) {a b:zkd} (ha:a∈l) (hb:b∈l) (hab:a.fEv <+: b.fEv):a=b:=by
 have hp:l.Pairwise λ a b=>(zk2 a.fEv b.fEv=false∧zk2 b.fEv a.fEv=false):=h.2.imp λ {a b} ⟨h1,h2⟩=>⟨h2,by
  cases e:zk2 b.fEv a.fEv
  ·rfl
  ·have:=zw6 e
   have:=zpj.1 h1
   omega⟩
 have hbeg:=(zue (zkL (h.1 a ha)) (zkL (h.1 b hb))).2 hab
 obtain ⟨i,hi,rfl⟩:=qn ha
 obtain ⟨j,hj,rfl⟩:=qn hb
 rw [qbc] at hp
 rcases qbi i j with h1 | h1 | h1
 ·have:=(hp i j hi hj h1).1
  rw [hbeg] at this;cases this
 ·subst h1;rfl
 ·have:=(hp j i hj hi h1).2
  rw [hbeg] at this;cases this
theorem zw8 {l m:List zkd} (hl:zop l) (hm:zop m) (h:∀ e,zoH l e↔zoH m e) {x:zkd} (hx:x∈l):x∈m:=by
 obtain ⟨y,hy,h1⟩:=(h x.fEv).1 ⟨x,hx,qy _⟩
 obtain ⟨z,hz,h2⟩:=(h y.fEv).2 ⟨y,hy,qy _⟩
 have hxz:=ztp hl hx hz (h1.trans h2)
 subst hxz
 have:x.fEv=y.fEv:=h1.eq_of_length_le h2.length_le
 have:x=y:=by
  cases x;cases y
  simp only at this
  rw [this]
 rw [this];exact hy
theorem zA2 {l m:List zkd} (hl:zop l) (hm:zop m) (h:∀ e,zoH l e↔zoH m e):l=m :=
 zt7 zrv zmS (hl.2.imp λ h=>h.1) (hm.2.imp λ h=>h.1) λ z=>⟨λ hz=>zw8 hl hm h hz,λ hz=>zw8 hm hl (λ e=>(h e).symm) hz⟩
theorem zwt {l m:List zkd} (hl:zop l) (hm:zop m):zl2 (zl2 l m) m=zl2 l m :=
 zA2 (zmW (zmW hl hm.1) hm.1) (zmW hl hm.1) λ e=>by
  rw [zqi (zmW hl hm.1) hm.1,zqi hl hm.1]
  constructor
  ·rintro (h | h)
   ·exact h
   ·exact .inr h
  ·exact .inl
theorem zoG (t:zkh) (h:zrj t.fBr):zbV t t=some true:=by
 unfold zbV
 rw [if_neg (by simp)]
 have key:=zlx (step:=zaU t t) (λ i=>(⟨i⟩:zc5)) t.fBr.length (λ _=>true) (.inr ():Unit⊕Unit) (.inl ()) (λ i hi hv=>?_) (λ _=>?_)
 ·rw [key,if_pos (zll.2 λ _ _=>rfl)]
  rfl
 ·have hl:=h.1
  have hb:=h.2 i hi
  have e1:=wS (i:=i) (by omega)
  unfold zaU
  simp only [qc,e1]
  rw [if_pos (by rw [decide_eq_true_eq];omega),zj9 (by omega),zj9 (by omega),zsR _ _ (by omega)]
  simp
 ·unfold zaU
  dsimp only
  rw [if_neg (by simp)]
end Go.TL
set_option maxRecDepth 4000
namespace Go.TL
theorem zsq {r:zkb} (hg:zkG r=true):zbA r.fTe=some r.fTe:=by
 have hm:=znj (zmB (zkV hg))
 exact ze4 _ hm.1 hm.2
theorem zqj (r:zkb) (hr:zkY r):zd2 r=some (zzh r):=by
 unfold zd2 zzh zd0
 rw [zbw _ hr]
 simp only [qa]
 cases hg:zkG r
 ·simp
 rw [if_neg (by simp),if_pos rfl,zim]
 simp only [qa]
 cases hn:(zly r.fVe r.Id).2
 ·simp
 rw [if_neg (by simp),if_pos rfl,zsq hg]
 rfl
theorem ziJ (r:zkb) (w:zlF) (hr:zkY r) (hw:zwY w):zeg r w=some (zln r w):=by
 unfold zeg zln
 rw [zbw _ hr]
 simp only [qa]
 cases hg:zkG r
 ·simp
 rw [zbw _ (show zkY ⟨0,w.fVe,w.fTe⟩ from ⟨by unfold zl6;simp only;omega,hw.1,hw.2⟩)]
 simp only [qa]
 cases hg2:zkG ⟨0,w.fVe,w.fTe⟩
 ·simp
 have g1:=zkV hg
 have g2:=zkV hg2
 simp only [qf,qb,if_false,qa]
 rw [zia _ _ hr.2.2 hw.2]
 simp only [qa]
 unfold zx9
 rw [g1,show zld w.fTe=true from g2]
 simp only [qv]
 by_cases hc:(zl2 r.fTe.fBr w.fTe.fBr).length≤12
 ·simp only [hc,decide_true,if_true,qf,qb,if_false]
  by_cases hv:w.fVe > r.fVe
  ·simp only [hv,decide_true,if_true,qa]
   rw [Int.max_eq_right (by omega)]
  ·simp only [hv,decide_false,qb,if_false,qa]
   rw [Int.max_eq_left (by omega)]
 ·simp [hc]
theorem zuf {b:zkd}:∀ {m l:List zkd},b∈zl2 l m→b∈l∨b∈m
 | [],l,h=>.inl h
 | x :: m,l,h=>by
  have h':b∈zl2 (zmn l x.fEv) m:=h
  rcases zuf h' with h1 | h1
  ·rcases zqd h1 with h2 | h2
   ·exact .inl h2
   ·right
    have:b=x:=h2
    rw [this];exact List.mem_cons_self
  ·exact .inr (qm _ h1)
end Go.TL
set_option maxRecDepth 4000
namespace Go.TL
theorem ztq:∀ (r:List zka) (s:zkq) (n:Nat),(zlr r s n).2=n+r.length→∀ e∈r,evP e=true
 | [],s,n,_=>by simp
 | e :: r,s,n,h=>by
  unfold zlr at h
  cases ha:zkR s e with
  | none=>rw [ha] at h;simp only [qP] at h;omega
  | some t =>
   rw [ha] at h
   have ih:=ztq r t (n+1) (by simp only [qP] at h;omega)
   intro y hy
   rcases List.mem_cons.1 hy with hy | hy
   ·rw [hy]
    unfold zkR at ha
    split at ha
    ·rename_i hm
     unfold zqF at hm
     simp only [qe] at hm
     exact hm.1.1.1
    ·cases ha
   ·exact ih y hy
theorem zzV {l:List zka} (h:zkP l=true):∀ e∈l,evP e=true:=by
 obtain ⟨h1,h2,h3⟩:=zmT.1 h
 exact ztq l zp7 0 (by unfold zkX at h2;omega)
theorem zvw (l:List zkd):∀ n i,i≤n→lastV (bev l i) < lastV (bev l (zlT l n))∨(lastV (bev l i)=lastV (bev l (zlT l n))∧(bev l i).length≤(bev l (zlT l n)).length)
 | 0,i,h=>by
  have:i=0:=by omega
  subst this
  exact .inr ⟨rfl,qh _⟩
 | n+1,i,h=>by
  unfold zlT
  have ih:=zvw l n
  by_cases hi:i=n+1
  ·subst hi
   split
   ·exact .inr ⟨rfl,qh _⟩
   ·rename_i hb
    unfold zt4 at hb
    simp only [qz,qe,decide_eq_true_eq,not_or,not_and] at hb
    omega
  ·have:=ih i (by omega)
   split
   ·rename_i hb
    unfold zt4 at hb
    simp only [qz,qe,decide_eq_true_eq] at hb
    omega
   ·exact this
theorem zA3 {t:zkh} {b:zkd} (hb:b∈t.fBr):lastV b.fEv < lastV (zkM t)∨(lastV b.fEv=lastV (zkM t)∧b.fEv.length≤(zkM t).length):=by
 obtain ⟨i,hi,e⟩:=List.mem_iff_getElem.1 hb
 have h0:t.fBr.length≠0:=by omega
 unfold zkM
 rw [if_neg h0]
 have:=zvw t.fBr (t.fBr.length - 1) i (by omega)
 have e1:bev t.fBr i=b.fEv:=by unfold bev;rw [zkQ hi,e]
 rw [e1] at this
 exact this
theorem zA4 {v:Int} {t:zkh} (ho:znA v t=true) {b:zkd} (hb:b∈t.fBr) (hn:b.fEv≠[]):lastV b.fEv≤v:=by
 unfold znA at ho
 have h1:=List.all_eq_true.1 ho b hb
 unfold zoh at h1
 have hl:0 < b.fEv.length:=List.length_pos_iff.2 hn
 have:=List.all_eq_true.1 h1 _ (zkJ (show b.fEv.length - 1 < b.fEv.length by omega))
 simp at this
 unfold lastV
 omega
end Go.TL
set_option maxRecDepth 4000
namespace Go.TL
theorem zsr (r:zkb) (h:zrj r.fTe.fBr):zdx r r=some true:=by
 unfold zdx
 rw [if_pos (by simp),if_pos (by simp),zoG _ h]
 rfl
theorem zrz {v u:Int} {l:List zka} (h:zoh v l=true) (hv:v≤u):zoh u l=true:=by
 unfold zoh at h ⊢
 rw [qk] at h ⊢
 intro e he
 have:=h e he
 simp at this ⊢
 omega
theorem zss {r:zkb} {w:zlF} (h:(zln r w).2=true) :
  zkG (zln r w).1=true∧zln (zln r w).1 w=((zln r w).1,true)∧r.fVe≤(zln r w).1.fVe∧w.fVe≤(zln r w).1.fVe∧zkG r=true ∧
  (∀ e,zoH r.fTe.fBr e→zoH (zln r w).1.fTe.fBr e):=by
 have hx:zkG r=true∧zkG ⟨0,w.fVe,w.fTe⟩=true∧(zl2 r.fTe.fBr w.fTe.fBr).length≤12:=by
  unfold zln at h
  split at h
  ·rename_i hc
   simp only [qe,decide_eq_true_eq] at hc
   exact ⟨hc.1.1,hc.1.2,hc.2⟩
  ·cases h
 obtain ⟨a1,a2,a3⟩:=hx
 have e:zln r w=(⟨r.Id,max r.fVe w.fVe,⟨zl2 r.fTe.fBr w.fTe.fBr⟩⟩,true):=by
  unfold zln
  rw [if_pos (by simp [a1,a2,a3])]
 have t1:=zk4 (zkV a1)
 have t2:zop w.fTe.fBr:=zk4 (t:=w.fTe) (zkV a2)
 have hm:=zmW t1 t2.1
 obtain ⟨g1,g2,g3,g4⟩:=zkW a1
 obtain ⟨k1,k2,k3,k4⟩:=zkW a2
 have hgood:zkG ⟨r.Id,max r.fVe w.fVe,⟨zl2 r.fTe.fBr w.fTe.fBr⟩⟩=true:=by
  refine zms g1 ?_ ?_ ?_
  ·unfold zp5 at *
   simp only [decide_eq_true_eq] at *
   omega
  ·show zld ⟨_⟩=true
   rw [zsl hm]
   simpa using a3
  ·show znA (max r.fVe w.fVe) ⟨_⟩=true
   unfold znA at *
   rw [qk] at *
   intro b hb
   rcases zuf hb with hb | hb
   ·exact zrz (g4 b hb) (by omega)
   ·exact zrz (k4 b hb) (by show w.fVe≤_;omega)
 rw [e]
 refine ⟨hgood,?_,by show r.fVe≤max r.fVe w.fVe;omega,by show w.fVe≤max r.fVe w.fVe;omega,a1,λ e he=>(zqi t1 t2.1).2 (.inl he)⟩
 have hag:zl2 (zl2 r.fTe.fBr w.fTe.fBr) w.fTe.fBr=zl2 r.fTe.fBr w.fTe.fBr:=zwt t1 t2
 unfold zln
 simp only [hag]
 rw [if_pos (by simp [hgood,a2,a3]),show max (max r.fVe w.fVe) w.fVe=max r.fVe w.fVe by omega]
end Go.TL
set_option maxRecDepth 4000
namespace Go.TL
abbrev okr (r:zkb):Prop:=zkG r=true∧zkY r
def wd (r:zkb):zlF:=⟨r.fVe,r.fTe⟩
theorem zzW {r q:zkb} (hr:okr r) (hq:okr q) (h:(zln r (wd q)).2=true):okr (zln r (wd q)).1:=by
 refine ⟨(zss h).1,?_⟩
 have h12:=zla (zkV hr.1)
 have h13:=zla (zkV hq.1)
 have h1:=hr.2.2.1
 have h2:=hq.2.2.1
 unfold zln
 split
 ·refine ⟨hr.2.1,?_,zzO hr.2.2.2 hq.2.2.2 (by show r.fTe.fBr.length+q.fTe.fBr.length≤1000;omega)⟩
  have h1:=hr.2.2.1
  have h2:zl6 (wd q).fVe:=hq.2.2.1
  unfold zl6 at *
  simp only
  omega
 ·exact ⟨(⟨by omega,by omega⟩:zl6 0),(⟨by omega,by omega⟩:zl6 0),⟨by simp,λ b hb=>by simp at hb⟩⟩
theorem zzX {r:zkb} (hr:okr r):okr (reapP r (zkH r.fTe)).1:=by
 have:=zsp hr.1 hr.2 (zso hr.2.2.2) (zkH r.fTe).length
 have e1:zme r (zkH r.fTe) (zkH r.fTe).length=reapP r (zkH r.fTe):=by unfold zme reapP;rw [qg]
 rw [e1] at this
 exact ⟨this.1,this.2.1⟩
theorem zug {r:zkb} (hr:okr r):zrj r.fTe.fBr:=znj (zmB (zkV hr.1))
theorem zzY (l:List zkb) (s:List zkB) (hl:l.length≤1000) (h:∀ i,i < l.length→zrj (nth l i).fTe.fBr):zkx (zcl ⟨l,s⟩) ⟨0,[]⟩=some ⟨l⟩:=by
 have key:=zkZ (step:=zcl ⟨l,s⟩) (λ i c=>(⟨i,c⟩:zf2)) l.length (λ i=>l.take i) (λ c=>(⟨c⟩:zhn)) (λ i hi=>?_) ?_
 ·simp only [qbb,qg] at key
  exact key
 ·have hm:=h i hi
  have ht:(l.take i).length=i:=by rw [ql];omega
  have e1:=wS (i:=i) (by omega)
  unfold zcl zd0
  simp only [qc,e1,← zlJ hi]
  rw [if_pos (by rw [decide_eq_true_eq];omega),zj9 (by omega),ze4 _ hm.1 hm.2]
  simp only [qa]
  rw [zj9 (by rw [ht];omega)]
 ·unfold zcl
  dsimp only
  rw [if_neg (by simp)]
theorem zzZ (l:List zkb) (s:List zkB) (hl:s.length≤1000) (h:∀ i,i < s.length→zrj (nth s i).Word.fTe.fBr):zkx (zdj ⟨l,s⟩) ⟨0,[]⟩=some ⟨s⟩:=by
 have key:=zkZ (step:=zdj ⟨l,s⟩) (λ i c=>(⟨i,c⟩:zf3)) s.length (λ i=>s.take i) (λ c=>(⟨c⟩:zho)) (λ i hi=>?_) ?_
 ·simp only [qbb,qg] at key
  exact key
 ·have hm:=h i hi
  have ht:(s.take i).length=i:=by rw [ql];omega
  have e1:=wS (i:=i) (by omega)
  unfold zdj za1
  simp only [qc,e1,← zlJ hi]
  rw [if_pos (by rw [decide_eq_true_eq];omega),zj9 (by omega),ze4 _ hm.1 hm.2]
  simp only [qa]
  rw [zj9 (by rw [ht];omega)]
 ·unfold zdj
  dsimp only
  rw [if_neg (by simp)]
theorem zye (w:zkn) (h1:w.fRe.length≤1000) (h2:w.Line.length≤1000) (h3:∀ i,i < w.fRe.length→zrj (nth w.fRe i).fTe.fBr) (h4:∀ i,i < w.Line.length→zrj (nth w.Line i).Word.fTe.fBr):zes w=some w:=by
 unfold zes
 refine zke (zzY w.fRe w.Line h1 h3) ?_
 exact zke (zzZ w.fRe w.Line h2 h4) rfl
end Go.TL
set_option maxRecDepth 4000
namespace Go.TL
def zrk (v:Int) (h:List zka):Prop:=∃ e∈h,e.fVe=v
def zmL (v:Int) (h:List zka):List zka:=h.takeWhile λ e=>decide (e.fVe≤v)
theorem zqk (v:Int) (h:List zka):zmL v h <+: h:=List.takeWhile_prefix _
theorem zql {v:Int}:∀ {h:List zka},(∀ e∈h,e.fVe≤v)→zmL v h=h
 | [],_=>rfl
 | e :: r,h=>by
  have h1:=h e (by simp)
  unfold zmL
  rw [qt (by simpa using h1)]
  congr 1
  exact zql λ x hx=>h x (qm _ hx)
theorem ztr {v:Int} {e:zka} (he:v < e.fVe):∀ (h:List zka),zmL v (h++[e])=zmL v h
 | []=>by
  unfold zmL
  rw [qo,qu (by simp;omega)]
  rfl
 | x :: r=>by
  have ih:=ztr he r
  unfold zmL at ih ⊢
  rw [List.cons_append]
  by_cases hx:x.fVe≤v
  ·rw [qt (by simpa using hx),qt (by simpa using hx),ih]
  ·rw [qu (by simp;omega),qu (by simp;omega)]
theorem zor {l:List zka} (h:zkP l=true):∀ (k i:Nat),i≤k→k < l.length→(nth l i).fVe≤(nth l k).fVe
 | 0,i,hi,_=>by
  have:i=0:=by omega
  subst this
  exact qp _
 | k+1,i,hi,hk=>by
  by_cases e:i=k+1
  ·subst e;exact qp _
  ·have h1:=zor h k i (by omega) (by omega)
   have h2:=(zmT.1 h).1
   unfold zu7 at h2
   have h3:=zll.1 h2 (k+1) hk
   simp only [qz,decide_eq_true_eq,Bool.not_eq_true',decide_eq_false_iff_not,qbd] at h3
   omega
theorem zst {v:Int} {l:List zka} (h:zkP l=true) {i:Nat} (hi:i < l.length) (hv:(nth l i).fVe≤v):i < (zmL v l).length:=by
 rcases qbf i (zmL v l).length with h1 | h1
 ·exact h1
 exfalso
 have hk:(zmL v l).length < l.length:=by omega
 have e:l=zmL v l++l.dropWhile (λ e=>decide (e.fVe≤v)):=(List.takeWhile_append_dropWhile ..).symm
 have h2:∀ (r:List zka),r=l.dropWhile (λ e=>decide (e.fVe≤v))→r≠[]→∀ x∈r.head?,¬ x.fVe≤v:=λ r hr hn x hx=>by
  subst hr
  have:=List.head?_dropWhile_not (λ e:zka=>decide (e.fVe≤v)) l
  rw [Option.mem_def] at hx
  rw [hx] at this
  simpa using this
 obtain ⟨r,hr⟩:∃ r,r=l.dropWhile (λ e=>decide (e.fVe≤v)):=⟨_,rfl⟩
 rw [← hr] at e
 cases r with
 | nil =>
  have:=congrArg List.length e
  simp at this
  omega
 | cons x q =>
  have h3:=h2 (x :: q) hr (by simp) x (by simp)
  have h4:nth l (zmL v l).length=x:=by
   rw [zkQ hk]
   have:l[(zmL v l).length]?=some x:=by
    conv=>lhs;lhs;rw [e]
    rw [List.getElem?_append_right (qh _)]
    simp
   rw [List.getElem?_eq_getElem hk] at this
   exact Option.some.inj this
  have h5:=zor h i (zmL v l).length h1 hi
  rw [h4] at h5
  omega
theorem zz0 {v:Int} {l:List zka} (h:zkP l=true) {e:zka} (he:e∈l) (hv:e.fVe=v):e∈zmL v l:=by
 obtain ⟨i,hi,rfl⟩:=qn he
 have h1:=zst (v:=v) h hi (by rw [zkQ hi];omega)
 have:(zmL v l)[i]=l[i]:=by
  obtain ⟨t,ht⟩:=zqk v l
  have:(zmL v l++t)[i]'(by rw [qM];omega)=l[i]:=by simp only [ht]
  rw [qi h1] at this
  exact this
 rw [← this]
 exact qr _
def inO (x y:zkb) (L:List zkB) (h:List zka):Prop:=(⟨h⟩:zkd)∈x.fTe.fBr∨(⟨h⟩:zkd)∈y.fTe.fBr∨∃ s∈L,(⟨h⟩:zkd)∈s.Word.fTe.fBr
def compV (v:Int) (a b:List zka):Prop:=zmL v a <+: zmL v b∨zmL v b <+: zmL v a
theorem compV.symm {v:Int} {a b:List zka} (h:compV v a b):compV v b a:=Or.symm h
structure One (x y:zkb) (L:List zkB):Prop where
 id:x.Id≠y.Id
 gx:zkG x=true
 gy:zkG y=true
 gl:∀ s∈L,zkG ⟨0,s.Word.fVe,s.Word.fTe⟩=true
 j:∀ h1 h2,inO x y L h1→inO x y L h2→∀ v,zrk v h1→zrk v h2→compV v h1 h2
 kx:zok x=true→∀ h,inO x y L h→zrk x.fVe h→zoH x.fTe.fBr (zmL x.fVe h)
 ky:zok y=true→∀ h,inO x y L h→zrk y.fVe h→zoH y.fTe.fBr (zmL y.fVe h)
 mx:∀ h,inO x y L h→∀ e∈h,e.fVe.tmod 10=x.Id→e.fVe≤x.fVe
 my:∀ h,inO x y L h→∀ e∈h,e.fVe.tmod 10=y.Id→e.fVe≤y.fVe
 wx:∀ s∈L,s.Word.fVe.tmod 10=x.Id→s.Word.fVe≤x.fVe
 wy:∀ s∈L,s.Word.fVe.tmod 10=y.Id→s.Word.fVe≤y.fVe
 vx:y.fVe.tmod 10=x.Id→y.fVe≤x.fVe
 vy:x.fVe.tmod 10=y.Id→x.fVe≤y.fVe
theorem zos {x y:zkb} {L:List zkB} {h:List zka} (hh:inO y x L h):inO x y L h:=by
 rcases hh with a | a | a
 ·exact .inr (.inl a)
 ·exact .inl a
 ·exact .inr (.inr a)
theorem One.symm {x y:zkb} {L:List zkB} (o:One x y L):One y x L where
 id:=Ne.symm o.id
 gx:=o.gy
 gy:=o.gx
 gl:=o.gl
 j h1 h2 a b:=o.j h1 h2 (zos a) (zos b)
 kx a h b:=o.ky a h (zos b)
 ky a h b:=o.kx a h (zos b)
 mx h a:=o.my h (zos a)
 my h a:=o.mx h (zos a)
 wx:=o.wy
 wy:=o.wx
 vx:=o.vy
 vy:=o.vx
theorem One.less {x y:zkb} {L L':List zkB} (o:One x y L) (hs:∀ s∈L',s∈L):One x y L':=by
 have hi:∀ {h},inO x y L' h→inO x y L h:=λ {h} a=>by
  rcases a with a | a | ⟨s,h1,h2⟩
  ·exact .inl a
  ·exact .inr (.inl a)
  ·exact .inr (.inr ⟨s,hs s h1,h2⟩)
 exact ⟨o.id,o.gx,o.gy,λ s h=>o.gl s (hs s h),λ h1 h2 a b=>o.j h1 h2 (hi a) (hi b),λ a h b=>o.kx a h (hi b),λ a h b=>o.ky a h (hi b),λ h a=>o.mx h (hi a),λ h a=>o.my h (hi a),
  λ s h=>o.wx s (hs s h),λ s h=>o.wy s (hs s h),o.vx,o.vy⟩
theorem One.say {x y:zkb} {L:List zkB} (o:One x y L) (t:Int):One x y (L++[⟨t,wd x⟩]):=by
 have hi:∀ {h},inO x y (L++[⟨t,wd x⟩]) h→inO x y L h:=λ {h} a=>by
  rcases a with a | a | ⟨s,h1,h2⟩
  ·exact .inl a
  ·exact .inr (.inl a)
  ·rcases List.mem_append.1 h1 with h1 | h1
   ·exact .inr (.inr ⟨s,h1,h2⟩)
   ·rw [List.mem_singleton.1 h1] at h2
    exact .inl h2
 obtain ⟨g1,g2,g3,g4⟩:=zkW o.gx
 refine ⟨o.id,o.gx,o.gy,λ s h=>?_,λ h1 h2 a b=>o.j h1 h2 (hi a) (hi b),λ a h b=>o.kx a h (hi b),λ a h b=>o.ky a h (hi b),λ h a=>o.mx h (hi a),λ h a=>o.my h (hi a),λ s h hm=>?_,λ s h hm=>?_,o.vx,o.vy⟩
 ·rcases List.mem_append.1 h with h | h
  ·exact o.gl s h
  ·rw [List.mem_singleton.1 h]
   exact zms ⟨qp _,by simp⟩ g2 g3 g4
 ·rcases List.mem_append.1 h with h | h
  ·exact o.wx s h hm
  ·rw [List.mem_singleton.1 h]
   exact qp _
 ·rcases List.mem_append.1 h with h | h
  ·exact o.wy s h hm
  ·rw [List.mem_singleton.1 h] at hm ⊢
   exact o.vy hm
theorem One.lead {x y:zkb} {L:List zkB} (o:One x y L) (hn:(zly x.fVe x.Id).2=true):One ⟨x.Id,(zly x.fVe x.Id).1,x.fTe⟩ y L:=by
 obtain ⟨n1,n2,n3,n4⟩:=zsk hn
 obtain ⟨g1,g2,g3,g4⟩:=zkW o.gx
 have hi:∀ {h},inO ⟨x.Id,(zly x.fVe x.Id).1,x.fTe⟩ y L h→inO x y L h:=λ {h} a=>a
 refine ⟨o.id,?_,o.gy,o.gl,λ h1 h2 a b=>o.j h1 h2 (hi a) (hi b),λ a h b hv=>?_,λ a h b=>o.ky a h (hi b),λ h a e he hm=>?_,λ h a=>o.my h (hi a),λ s h hm=>?_,o.wy,λ hm=>?_,λ hm=>?_⟩
 ·refine zms g1 (by unfold zp5;rw [decide_eq_true_eq];exact ⟨n3,n4⟩) g3 ?_
  unfold znA at g4 ⊢
  rw [qk] at g4 ⊢
  exact λ b hb=>zrz (g4 b hb) (Int.le_of_lt n2)
 ·obtain ⟨e,he,hv⟩:=hv
  have hv:e.fVe=(zly x.fVe x.Id).1:=hv
  have:=o.mx h (hi b) e he (by rw [hv];exact n1)
  omega
 ·have:=o.mx h (hi a) e he hm
  show e.fVe≤(zly x.fVe x.Id).1
  omega
 ·have:=o.wx s h hm
  show s.Word.fVe≤(zly x.fVe x.Id).1
  omega
 ·have:=o.vx hm
  show y.fVe≤(zly x.fVe x.Id).1
  omega
 ·have hm:(zly x.fVe x.Id).1.tmod 10=y.Id:=hm
  exact absurd (n1.symm.trans hm) o.id
theorem One.hear {x y:zkb} {L:List zkB} (o:One x y L) {s:zkB} (hs:s∈L) (hh:(zln x s.Word).2=true):One (zln x s.Word).1 y L:=by
 obtain ⟨f1,f2,f3,f4,f5,f6⟩:=zss hh
 have e:zln x s.Word=(⟨x.Id,max x.fVe s.Word.fVe,⟨zl2 x.fTe.fBr s.Word.fTe.fBr⟩⟩,true):=by
  unfold zln at hh ⊢
  split at hh
  ·rename_i hc
   rw [if_pos hc]
  ·cases hh
 rw [e] at f1 f6 ⊢
 have hi:∀ {h},inO ⟨x.Id,max x.fVe s.Word.fVe,⟨zl2 x.fTe.fBr s.Word.fTe.fBr⟩⟩ y L h→inO x y L h:=λ {h} a=>by
  rcases a with a | a | a
  ·rcases zuf a with a | a
   ·exact .inl a
   ·exact .inr (.inr ⟨s,hs,a⟩)
  ·exact .inr (.inl a)
  ·exact .inr (.inr a)
 have hx:s.Word.fVe.tmod 10=x.Id→max x.fVe s.Word.fVe=x.fVe:=λ hm=>by
  have:=o.wx s hs hm
  omega
 have hcase:max x.fVe s.Word.fVe=x.fVe∨max x.fVe s.Word.fVe=s.Word.fVe:=by omega
 refine ⟨o.id,f1,o.gy,o.gl,λ h1 h2 a b=>o.j h1 h2 (hi a) (hi b),λ a h b hv=>?_,λ a h b=>o.ky a h (hi b),λ h a e he hm=>?_,λ h a=>o.my h (hi a),λ s' h hm=>?_,o.wy,λ hm=>?_,λ hm=>?_⟩
 ·have ha:(max x.fVe s.Word.fVe).tmod 10=x.Id:=by
   unfold zok at a
   simpa using a
  have hm:max x.fVe s.Word.fVe=x.fVe:=hcase.elim (λ h=>h) λ h=>hx (by have h2:=ha;rw [h] at h2;exact h2)
  have ha':zok x=true:=by
   unfold zok
   rw [hm] at ha
   simpa using ha
  have hv':zrk x.fVe h:=by
   have:zrk (max x.fVe s.Word.fVe) h:=hv
   rwa [hm] at this
  have:=f6 _ (o.kx ha' h (hi b) hv')
  show zoH _ (zmL (max x.fVe s.Word.fVe) h)
  rw [hm]
  exact this
 ·have:=o.mx h (hi a) e he hm
  show e.fVe≤max x.fVe s.Word.fVe
  omega
 ·have:=o.wx s' h hm
  show s'.Word.fVe≤max x.fVe s.Word.fVe
  omega
 ·have:=o.vx hm
  show y.fVe≤max x.fVe s.Word.fVe
  omega
 ·have hm:(max x.fVe s.Word.fVe).tmod 10=y.Id:=hm
  show max x.fVe s.Word.fVe≤y.fVe
  rcases hcase with h | h
  ·rw [h] at hm ⊢;exact o.vy hm
  ·rw [h] at hm ⊢;exact o.wy s hs hm
theorem zsu {x y:zkb} {L:List zkB} (o:One x y L) {h:List zka} (a:inO x y L h):zlC h=true∧zkP h=true:=by
 have:zlC h=true:=by
  rcases a with a | a | ⟨s,h1,a⟩
  ·exact (zk4 (zkV o.gx)).1 _ a
  ·exact (zk4 (zkV o.gy)).1 _ a
  ·exact (zk4 (t:=s.Word.fTe) (zkV (o.gl s h1))).1 _ a
 exact ⟨this,zkL this⟩
theorem zsv {h:List zka} (hn:h≠[]):nth h (h.length - 1)∈h:=zkJ (by have:=List.length_pos_iff.2 hn;omega)
theorem zuh {h:List zka} (hh:zkP h=true):∀ e∈h,e.fVe≤lastV h:=by
 intro e he
 obtain ⟨i,hi,e1⟩:=qn he
 have:=zor hh (h.length - 1) i (by omega) (by omega)
 rw [zkQ hi,e1] at this
 exact this
theorem One.call {x y:zkb} {L:List zkB} (o:One x y L) {k:Int} {n:ByteArray} (c0:zlk x k n=0):One (zqg x k n) y L:=by
 obtain ⟨g1,g2,g3,g4⟩:=zkW o.gx
 have ht:=zoq o.gx c0
 have hact:zok x=true:=(zqU c0).2.2.1
 have hac:x.fVe.tmod 10=x.Id:=by unfold zok at hact;simpa using hact
 have hris:=zk4 g3
 have hv':(zmg x k n).fVe=x.fVe:=rfl
 obtain ⟨h',eh'⟩:∃ h',h'=zkM x.fTe++[zmg x k n]:=⟨_,rfl⟩
 rw [← eh'] at ht
 have hold:∀ e∈zkM x.fTe,e.fVe≤x.fVe:=zuc g4
 have hall:∀ e∈h',e.fVe≤x.fVe:=λ e he=>by
  rw [eh',qba] at he
  rcases he with he | he
  ·exact hold e he
  ·rw [List.mem_singleton.1 he];exact qp _
 have hcut:zmL x.fVe h'=h':=zql hall
 have hcur:∀ e∈zkM x.fTe,inO x y L (zkM x.fTe):=λ e he=>by
  refine .inl (zpk λ h0=>?_)
  unfold zkM at he
  rw [if_pos h0] at he
  cases he
 have hi:∀ {h},inO (zqg x k n) y L h→inO x y L h∨h=h':=λ {h} a=>by
  rcases a with a | a | a
  ·rcases zqd a with a | a
   ·exact .inl (.inl a)
   ·rw [← eh'] at a
    exact .inr (by simpa using a)
  ·exact .inl (.inr (.inl a))
  ·exact .inl (.inr (.inr a))
 have hvs:∀ v,zrk v h'→v=x.fVe∨(v < x.fVe∧zrk v (zkM x.fTe)∧inO x y L (zkM x.fTe)):=λ v hv=>by
  obtain ⟨e,he,hv⟩:=hv
  rw [eh',qba] at he
  rcases he with he | he
  ·by_cases hx:v=x.fVe
   ·exact .inl hx
   ·have:=hold e he
    exact .inr ⟨by omega,⟨e,he,hv⟩,hcur e he⟩
  ·rw [List.mem_singleton.1 he] at hv
   exact .inl (hv.symm.trans hv')
 have hcutlt:∀ v,v < x.fVe→zmL v h'=zmL v (zkM x.fTe):=λ v hv=>by
  rw [eh']
  exact ztr (by rw [hv'];exact hv) _
 have hmain:∀ h2,inO x y L h2→zrk x.fVe h2→zmL x.fVe h2 <+: h':=λ h2 a h2v=>by
  obtain ⟨b,hb,hp⟩:=o.kx hact h2 a h2v
  have hbh:zkP b.fEv=true:=zkL (hris.1 b hb)
  have hbv:∀ e∈b.fEv,e.fVe≤x.fVe:=λ e he=>by
   unfold znA at g4
   have h1:=List.all_eq_true.1 g4 b hb
   unfold zoh at h1
   have:=List.all_eq_true.1 h1 e he
   simp at this
   omega
  have hbx:zrk x.fVe b.fEv:=by
   obtain ⟨e,he,hev⟩:=h2v
   exact ⟨e,hp.subset (zz0 (zsu o a).2 he hev),hev⟩
  have hne:b.fEv≠[]:=λ h=>by
   obtain ⟨e,he,_⟩:=hbx
   rw [h] at he;cases he
  have hlb:lastV b.fEv=x.fVe:=by
   obtain ⟨e,he,hev⟩:=hbx
   have h1:=zuh hbh e he
   have h2:=zA4 g4 hb hne
   omega
  have h0:x.fTe.fBr.length≠0:=by have:=List.length_pos_of_mem hb;omega
  have hcn:zkM x.fTe≠[]:=λ h=>by
   have h1:=hris.1 _ (zpk h0)
   rw [h] at h1
   simp [zlC] at h1
  have hlc:lastV (zkM x.fTe)=x.fVe:=by
   have h1:=zA3 hb
   have h2:=hold _ (zsv hcn)
   have h3:(nth (zkM x.fTe) ((zkM x.fTe).length - 1)).fVe=lastV (zkM x.fTe):=rfl
   omega
  have hj:=o.j _ _ (hcur _ (zsv hcn)) (.inl hb) x.fVe ⟨_,zsv hcn,hlc⟩ hbx
  unfold compV at hj
  rw [zql hold,zql hbv] at hj
  have hbe:b.fEv <+: zkM x.fTe:=by
   rcases hj with hj | hj
   ·have:=ztp hris (zpk h0) hb hj
    rw [← this]
    exact qy _
   ·exact hj
  exact (hp.trans hbe).trans (by rw [eh'];exact List.prefix_append _ _)
 have hnew:∀ h2,inO x y L h2→∀ v,zrk v h'→zrk v h2→compV v h' h2:=λ h2 a v hv h2v=>by
  rcases hvs v hv with rfl | ⟨hlt,hc,hin⟩
  ·refine .inr ?_
   rw [hcut]
   exact hmain h2 a h2v
  ·have:=o.j _ h2 hin a v hc h2v
   unfold compV at this ⊢
   rw [hcutlt v hlt]
   exact this
 have hcov:∀ e,zoH (zqg x k n).fTe.fBr e↔zoH x.fTe.fBr e∨e <+: h':=λ e=>by
  have:=zvu (e:=e) (zvv hris) (zkL ht)
  rw [eh'] at this ⊢
  exact this
 refine ⟨o.id,zqV o.gx c0,o.gy,o.gl,λ h1 h2 a b v v1 v2=>?_,λ a h b hv=>?_,λ a h b hv=>?_,λ h a e he hm=>?_,λ h a e he hm=>?_,o.wx,o.wy,o.vx,o.vy⟩
 ·rcases hi a with a | rfl<;>rcases hi b with b | rfl
  ·exact o.j h1 h2 a b v v1 v2
  ·exact (hnew h1 a v v2 v1).symm
  ·exact hnew h2 b v v1 v2
  ·exact .inl (qy _)
 ·refine (hcov _).2 ?_
  rcases hi b with b | rfl
  ·exact .inl (o.kx hact h b hv)
  ·exact .inr (zqk _ _)
 ·rcases hi b with b | rfl
  ·exact o.ky a h b hv
  ·have hne:y.fVe≠x.fVe:=λ e=>by
    unfold zok at a
    have a':y.fVe.tmod 10=y.Id:=by simpa using a
    rw [e] at a'
    exact o.id (hac.symm.trans a')
   rcases hvs _ hv with h | ⟨hlt,hc,hin⟩
   ·exact absurd h hne
   ·rw [hcutlt _ hlt]
    exact o.ky a _ hin hc
 ·rcases hi a with a | rfl
  ·exact o.mx h a e he hm
  ·exact hall e he
 ·rcases hi a with a | rfl
  ·exact o.my h a e he hm
  ·rw [eh',qba] at he
   rcases he with he | he
   ·exact o.my _ (hcur e he) e he hm
   ·rw [List.mem_singleton.1 he] at hm
    exact absurd (hac.symm.trans hm) o.id
theorem One.reap {y:zkb} {L:List zkB}:∀ (l:List ByteArray) (p:zkb×Nat),One p.1 y L→One (l.foldl zlv p).1 y L
 | [],p,o=>o
 | n :: r,p,o=>by
  refine One.reap r (zlv p n) ?_
  unfold zlv
  split
  ·rename_i c0
   exact o.call c0
  ·exact o
theorem One.reapP {x y:zkb} {L:List zkB} (o:One x y L):One (TL.reapP x (zkH x.fTe)).1 y L:=One.reap _ (x,0) o
theorem One.callP {x y:zkb} {L:List zkB} (o:One x y L) (k:Int) (n:ByteArray):One (TL.callP x k n).1 y L:=by
 unfold TL.callP
 dsimp only
 split
 ·rename_i c0
  exact o.call c0
 ·exact o
theorem One.same {x y:zkb} {L:List zkB} (o:One x y L) {a b:List zka} (ha:inO x y L a) (hb:inO x y L b) {i:Nat} (hi:i < a.length) (hj:i < b.length) (hv:(nth a i).fVe=(nth b i).fVe) :
  ∀ k,k≤i→nth a k=nth b k:=by
 have hA:=(zsu o ha).2
 have hB:=(zsu o hb).2
 have h1:=zst (v:=(nth a i).fVe) hA hi (qp _)
 have h2:=zst (v:=(nth a i).fVe) hB hj (by omega)
 have hc:=o.j a b ha hb (nth a i).fVe ⟨_,zkJ hi,rfl⟩ ⟨_,zkJ hj,hv.symm⟩
 intro k hk
 have e1:=zqh (zqk (nth a i).fVe a) (i:=k) (by omega)
 have e2:=zqh (zqk (nth a i).fVe b) (i:=k) (by omega)
 rw [← e1,← e2]
 rcases hc with hc | hc
 ·exact zqh hc (by omega)
 ·exact (zqh hc (by omega)).symm
theorem One.start:One ⟨0,0,⟨[]⟩⟩ ⟨1,0,⟨[]⟩⟩ []:=by
 have hn:∀ {h},¬ inO ⟨0,0,⟨[]⟩⟩ ⟨1,0,⟨[]⟩⟩ [] h:=λ {h} a=>by
  rcases a with a | a | ⟨s,a,_⟩<;>cases a
 have hg:∀ i:Int,(0≤i∧i≤9)→zkG ⟨i,0,⟨[]⟩⟩=true:=λ i hi=>zms hi (by show zp5 0=true;decide) (by show zld ⟨[]⟩=true;rfl) (by show znA 0 ⟨[]⟩=true;rfl)
 exact ⟨by decide,hg 0 (by omega),hg 1 (by omega),(λ s h=>by cases h),λ h1 h2 a=>(hn a).elim,λ _ h a=>(hn a).elim,λ _ h a=>(hn a).elim,λ h a=>(hn a).elim,λ h a=>(hn a).elim,(λ s h=>by cases h),(λ s h=>by cases h),λ _=>qp _,λ _=>qp _⟩
end Go.TL
set_option maxRecDepth 4000
namespace Go.TL
theorem zyf {x:zkb} (hx:okr x):zcz x=some (wd x):=by
 unfold zcz
 rw [znS _ (zug hx)]
 rfl
theorem zui {r q:zkb} (hr:okr r) (hq:okr q):zln r (wd q)=if (zl2 r.fTe.fBr q.fTe.fBr).length≤12 then (⟨r.Id,max r.fVe q.fVe,⟨zl2 r.fTe.fBr q.fTe.fBr⟩⟩,true) else (⟨0,0,⟨[]⟩⟩,false):=by
 have hq0:zkG ⟨0,(wd q).fVe,(wd q).fTe⟩=true:=by
  obtain ⟨k1,k2,k3,k4⟩:=zkW hq.1
  exact zms ⟨by show (0:Int)≤0;omega,by show (0:Int)≤9;omega⟩ k2 k3 k4
 unfold zln
 rw [hr.1,hq0]
 simp only [qv,decide_eq_true_eq]
 rfl
theorem zyg (l:List zkb) (i:Nat) (r q:zkb) (hi:i < l.length) (hn:nth l i=r) (hr:okr r) (hq:okr q):zaz l i (wd q)=some ((zln r (wd q)).2,if (zln r (wd q)).2=true then l.set i (zln r (wd q)).1 else l):=by
 unfold zaz
 rw [zj9 hi,hn,zib r.fTe (wd q).fTe hr.2.2.2 hq.2.2.2]
 simp only [qa]
 rw [zui hr hq]
 unfold zx9
 rw [zkV hr.1,show zld (wd q).fTe=true from zkV hq.1]
 have e:(wd q).fTe.fBr=q.fTe.fBr:=rfl
 simp only [qv,e,decide_eq_true_eq]
 by_cases hc:(zl2 r.fTe.fBr q.fTe.fBr).length≤12
 ·simp only [hc,if_true]
  rfl
 ·simp only [hc,if_false]
  have e2:(⟨r.Id,r.fVe,r.fTe⟩:zkb)=nth l i:=by rw [hn]
  rw [if_neg (by simp),if_neg (by simp),e2,zru hi]
theorem zts (l:List zkb) (i:Nat) (r:zkb) (k:Int) (n:ByteArray) (hg:zkG r=true) (c0:zlk r k n=0):zai l i r k n=some (0,l.set i (zqg r k n)):=by
 obtain ⟨g1,g2,g3,g4⟩:=zkW hg
 have hl:=znx g3
 have h12:=zla g3
 obtain ⟨f1,f2⟩:=zqH (zkM r.fTe)
 obtain ⟨m,hm,hm2⟩:=zi7 r k n hg
 obtain ⟨z1,z2,z3,z4,⟨t,z5⟩,z6⟩:=zqU c0
 have c1:(decide (1≤k∧k≤6) && zlq n)=true:=by simp [z1,z2]
 have hm3:=hm2 c1
 rw [z5] at hm3
 have ht:=zoq hg c0
 have e6:zct r.fTe (zkM r.fTe++[⟨(zkX (zkM r.fTe)).1.Next,r.fVe,k,n⟩])=some ⟨zmn r.fTe.fBr (zkM r.fTe++[zmg r k n])⟩:=zg1 r.fTe (zkM r.fTe++[zmg r k n]) (zk4 g3) (by omega) ht
 have e2:((r.fVe.tmod 10) == r.Id)=zok r:=rfl
 unfold zai zal z8
 rw [zfD _ g3,zvt r g3]
 simp only [qa]
 rw [hm,zak,zch]
 simp only [qa]
 rw [decide_eq_true z1,z2]
 simp only [qf,qb,if_false,qa]
 rw [e2,z3]
 simp only [qf,qb,if_false]
 by_cases hk2:k=2
 ·rw [if_pos (by simp [hk2]),zmJ _ _ (by omega)]
  simp only [qa]
  rw [z4 hk2]
  simp only [qb,if_false]
  rw [hm3]
  simp only [qbe,qf,qb,if_false]
  rw [if_neg (by simpa using (show ¬ ((zkM r.fTe).length:Int)=60 by omega))]
  unfold zh
  rw [zj9 (by omega)]
  simp only [qa]
  rw [zj9 (by omega),e6]
  rfl
 ·rw [if_neg (by simp [hk2]),hm3]
  simp only [qbe,qf,qb,if_false]
  rw [if_neg (by simpa using (show ¬ ((zkM r.fTe).length:Int)=60 by omega))]
  unfold zh
  rw [zj9 (by omega)]
  simp only [qa]
  rw [zj9 (by omega),e6]
  rfl
theorem zwu {α:Type} [Inhabited α] {l:List α} {i:Nat} (h:i < l.length) (a:α):nth (l.set i a) i=a:=by
 rw [zkQ (by simpa using h)]
 simp
theorem zvx (l:List zkb) (i:Nat) (r:zkb) (hi:i < l.length) (hn:nth l i=r) (hr:okr r):zbh l i=some ((((reapP r (zkH r.fTe)).2:Nat):Int),l.set i (reapP r (zkH r.fTe)).1):=by
 obtain ⟨g1,g2,g3,g4⟩:=zkW hr.1
 have hls:=zso hr.2.2.2
 have hll:(zkH r.fTe).length≤720:=by
  have:=ztk r.fTe
  unfold zw0 at this
  rw [if_pos g3] at this
  exact this
 unfold zbh
 rw [zj9 hi,hn,zio _ g3,zxQ]
 simp only [qa]
 have key:=zkZ (step:=zQ (zkH r.fTe) i) (λ j (c:zkb×Nat)=>(⟨(c.2:Int),j,l.set i c.1⟩:zbz)) (zkH r.fTe).length (λ j=>zme r (zkH r.fTe) j) (λ c=>(⟨(c.2:Int),l.set i c.1⟩:ze6)) (λ j hj=>?_) ?_
 ·have e0:zme r (zkH r.fTe) 0=(r,0):=rfl
  rw [e0] at key
  have e1:zme r (zkH r.fTe) (zkH r.fTe).length=reapP r (zkH r.fTe):=by unfold zme reapP;rw [qg]
  rw [e1] at key
  have key':zkx (zQ (zkH r.fTe) i) ⟨0,0,l.set i ⟨r.Id,r.fVe,r.fTe⟩⟩=_:=key
  rw [key']
  rfl
 ·obtain ⟨i1,i2,i3⟩:=zsp hr.1 hr.2 hls j
  have e1:=wS (i:=j) (by omega)
  have e2:wI (((zme r (zkH r.fTe) j).2:Int)+1)=(((zme r (zkH r.fTe) j).2+1:Nat):Int):=by rw [zkU (by omega)];omega
  have es:∀ a b:zkb,(l.set i a).set i b=l.set i b:=λ a b=>List.set_set ..
  unfold zQ
  simp only [qc,e1,e2,zwu hi,es]
  rw [if_pos (by rw [decide_eq_true_eq];omega),zj9 (by omega),zj9 (by simpa using hi)]
  have hc:zS ⟨(zme r (zkH r.fTe) j).1.Id,(zme r (zkH r.fTe) j).1.fVe,(zme r (zkH r.fTe) j).1.fTe⟩ 2 (nth (zkH r.fTe) j)=_:=ziG (zme r (zkH r.fTe) j).1 2 (nth (zkH r.fTe) j) i1
  rw [hc,zto hj]
  unfold zlv
  by_cases c0:zlk (zme r (zkH r.fTe) j).1 2 (nth (zkH r.fTe) j)=0
  ·have hd:zai (l.set i (zme r (zkH r.fTe) j).1) i ⟨(zme r (zkH r.fTe) j).1.Id,(zme r (zkH r.fTe) j).1.fVe,(zme r (zkH r.fTe) j).1.fTe⟩ 2 (nth (zkH r.fTe) j)=_:=zts (l.set i (zme r (zkH r.fTe) j).1) i (zme r (zkH r.fTe) j).1 2 (nth (zkH r.fTe) j) i1 c0
   simp only [c0,if_true]
   rw [hd,es]
   rfl
  ·simp only [c0,if_false]
   rw [if_neg (by simpa using c0)]
 ·unfold zQ
  dsimp only
  rw [if_neg (by simp)]
end Go.TL
set_option maxRecDepth 4000
namespace Go.TL
def zk9 (x:zks):Prop:=zl6 x.Kind∧zl6 x.Region∧zl6 x.What∧zoA x.Name∧zl6 x.K
end Go.TL
set_option maxRecDepth 4000
namespace Go.TL
theorem zrc {α:Type} [Inhabited α] {l:List α} {i j:Nat} (h:i≠j) (a:α):nth (l.set i a) j=nth l j:=by
 unfold nth
 rw [List.getD_eq_getElem?_getD,List.getD_eq_getElem?_getD,List.getElem?_set_ne h]
def zrl (L:List zkB) (k:Nat):List zkB:=L.take k++L.drop (k+1)
def zpy (w:zkn) (s:zks):zkn×Int :=
  if 0≤s.K∧s.K≤(w.Line.length:Int) - 1 then
    (if s.Kind=6 then (if w.Line.length=20 then (w,1) else (⟨w.fRe,w.Line++[nth w.Line s.K.toNat]⟩,0))
     else if s.Kind=5 then (⟨w.fRe,zrl w.Line s.K.toNat⟩,0)
     else if (zln (nth w.fRe (nth w.Line s.K.toNat).To.toNat) (nth w.Line s.K.toNat).Word).2=true then
       (⟨w.fRe.set (nth w.Line s.K.toNat).To.toNat (zln (nth w.fRe (nth w.Line s.K.toNat).To.toNat) (nth w.Line s.K.toNat).Word).1,zrl w.Line s.K.toNat⟩,0)
     else (⟨w.fRe,zrl w.Line s.K.toNat⟩,2))
  else (w,1)
def ztt (r:zkb):zkb:=⟨r.Id,(zly r.fVe r.Id).1,r.fTe⟩
def zqW (w:zkn) (s:zks):zkn×Int :=
  if 0≤s.Region∧s.Region≤1 then
    (if s.Kind=1 then (⟨w.fRe.set s.Region.toNat (callP (nth w.fRe s.Region.toNat) s.What s.Name).1,w.Line⟩,(callP (nth w.fRe s.Region.toNat) s.What s.Name).2)
     else if s.Kind=2 then (if (zly (nth w.fRe s.Region.toNat).fVe (nth w.fRe s.Region.toNat).Id).2=true then (⟨w.fRe.set s.Region.toNat (ztt (nth w.fRe s.Region.toNat)),w.Line⟩,0) else (w,1))
     else if s.Kind=3 then (if w.Line.length=20 then (w,1) else (⟨w.fRe,w.Line++[⟨1 - s.Region,wd (nth w.fRe s.Region.toNat)⟩]⟩,0))
     else if s.Kind=7 then (if zok (nth w.fRe s.Region.toNat)=true then
        (if (reapP (nth w.fRe s.Region.toNat) (zkH (nth w.fRe s.Region.toNat).fTe)).2=0 then (w,1)
         else (⟨w.fRe.set s.Region.toNat (reapP (nth w.fRe s.Region.toNat) (zkH (nth w.fRe s.Region.toNat).fTe)).1,w.Line⟩,0)) else (w,1))
     else (w,1))
  else (w,1)
def zlH (w:zkn) (s:zks):zkn×Int:=if s.Kind=4∨s.Kind=5∨s.Kind=6 then zpy w s else zqW w s
structure GW (w:zkn):Prop where
 len:w.fRe.length=2
 reg:∀ i,i < 2→okr (nth w.fRe i)∧(nth w.fRe i).Id=(i:Int)
 line:w.Line.length≤20
 said:∀ s∈w.Line,(0≤s.To∧s.To≤1)∧zkG ⟨0,s.Word.fVe,s.Word.fTe⟩=true∧znP s
theorem GW.good {w:zkn} (h:GW w):zth w=true∧zsf w:=by
 obtain ⟨h1,h2,h3,h4⟩:=h
 constructor
 ·unfold zth
  simp only [qe,decide_eq_true_eq]
  refine ⟨⟨⟨h1,h3⟩,?_⟩,List.all_eq_true.2 λ s hs=>?_⟩
  ·rw [h1,zll]
   intro i hi
   obtain ⟨a,b⟩:=h2 i hi
   simp [a.1,b]
  ·obtain ⟨a,b,c⟩:=h4 s hs
   unfold znQ
   rw [zsg] at b
   simp only [qe,decide_eq_true_eq]
   exact ⟨a,b⟩
 ·refine ⟨⟨by omega,λ y hy=>?_⟩,⟨by omega,λ s hs=>(h4 s hs).2.2⟩⟩
  obtain ⟨i,hi,e⟩:=qn hy
  have:=(h2 i (by omega)).1.2
  rw [zkQ hi,e] at this
  exact this
theorem GW.set {w:zkn} (h:GW w) {i:Nat} (hi:i < 2) {r:zkb} (hr:okr r) (hid:r.Id=(i:Int)):GW ⟨w.fRe.set i r,w.Line⟩:=by
 refine ⟨by rw [qL];exact h.len,λ j hj=>?_,h.line,h.said⟩
 show okr (nth (w.fRe.set i r) j)∧(nth (w.fRe.set i r) j).Id=(j:Int)
 by_cases e:i=j
 ·subst e
  rw [Go.TL.nth_set_same (by have:=h.len;omega)]
  exact ⟨hr,hid⟩
 ·rw [zrc e]
  exact h.reg j hj
theorem GW.put {w:zkn} (h:GW w) {L:List zkB} (hl:L.length≤20) (hs:∀ s∈L,(0≤s.To∧s.To≤1)∧zkG ⟨0,s.Word.fVe,s.Word.fTe⟩=true∧znP s):GW ⟨w.fRe,L⟩ :=
 ⟨h.len,h.reg,hl,hs⟩
theorem zw9 {L:List zkB} {k:Nat} {s:zkB} (h:s∈zrl L k):s∈L:=by
 unfold zrl at h
 rcases List.mem_append.1 h with h | h
 ·exact qq h
 ·exact List.mem_of_mem_drop h
theorem zA5 (L:List zkB) (k:Nat):(zrl L k).length≤L.length:=by
 unfold zrl
 rw [qM,ql,qbj]
 omega
theorem zA6 (r:zkb) (k:Int) (n:ByteArray):(callP r k n).1.Id=r.Id:=(zwp r k n).1
theorem zz1 (p:zkb×Nat) (n:ByteArray):(zlv p n).1.Id=p.1.Id:=by
 unfold zlv
 split<;>rfl
theorem zxa:∀ (l:List ByteArray) (p:zkb×Nat),(l.foldl zlv p).1.Id=p.1.Id
 | [],_=>rfl
 | n :: r,p=>(zxa r (zlv p n)).trans (zz1 p n)
theorem zA7 {r:zkb} {w:zlF} (h:(zln r w).2=true):(zln r w).1.Id=r.Id:=by
 unfold zln at h ⊢
 split at h
 ·rename_i hc
  rw [if_pos hc]
 ·cases h
theorem zz2 {r:zkb} (hr:okr r) (h:(zly r.fVe r.Id).2=true):okr (ztt r):=by
 obtain ⟨n1,n2,n3,n4⟩:=zsk h
 obtain ⟨g1,g2,g3,g4⟩:=zkW hr.1
 refine ⟨zms g1 (by unfold zp5;rw [decide_eq_true_eq];exact ⟨n3,n4⟩) g3 ?_,hr.2.1,?_,hr.2.2.2⟩
 ·unfold znA at g4 ⊢
  rw [qk] at g4 ⊢
  exact λ b hb=>zrz (g4 b hb) (Int.le_of_lt n2)
 ·show zl6 (zly r.fVe r.Id).1
  unfold zl6
  omega
theorem zz3 {r:zkb} (hr:okr r) {k:Int} {n:ByteArray} (hk:zl6 k) (hn:zoA n):okr (callP r k n).1:=⟨zyc hr.1,zzT hr.1 hr.2 hk hn⟩
theorem ztu {x:zkB} (h:zkG ⟨0,x.Word.fVe,x.Word.fTe⟩=true∧znP x):okr ⟨0,x.Word.fVe,x.Word.fTe⟩ :=
 ⟨h.1,(⟨by omega,by omega⟩:zl6 0),h.2.2.1,h.2.2.2⟩
theorem zyh {r:zkb} {x:zkB} (hr:okr r) (h:zkG ⟨0,x.Word.fVe,x.Word.fTe⟩=true∧znP x) (hh:(zln r x.Word).2=true):okr (zln r x.Word).1:=by
 have hq:=ztu h
 obtain ⟨to,v,t⟩:=x
 exact zzW (q:=⟨0,v,t⟩) hr hq hh
theorem zqm {w:zkn} (h:GW w) {k:Int} (hk:0≤k∧k≤(w.Line.length:Int) - 1):nth w.Line k.toNat∈w.Line:=zkJ (by omega)
theorem GW.step {w:zkn} (h:GW w) {s:zks} (hs:zk9 s):GW (zlH w s).1:=by
 have hl:=h.len
 unfold zlH
 split
 ·unfold zpy
  split
  ·rename_i hk
   have hm:=zqm h hk
   obtain ⟨a,b,c⟩:=h.said _ hm
   have hcut:GW ⟨w.fRe,zrl w.Line s.K.toNat⟩:=h.put (qbg (zA5 _ _) h.line) λ x hx=>h.said x (zw9 hx)
   split
   ·split
    ·exact h
    ·refine h.put (by rw [qM,qd];have:=h.line;omega) λ x hx=>?_
     rcases List.mem_append.1 hx with hx | hx
     ·exact h.said x hx
     ·rw [List.mem_singleton.1 hx];exact h.said _ hm
   ·split
    ·exact hcut
    ·split
     ·rename_i hh
      have hr:=h.reg (nth w.Line s.K.toNat).To.toNat (by omega)
      exact hcut.set (i:=(nth w.Line s.K.toNat).To.toNat) (by omega) (zyh hr.1 ⟨b,c⟩ hh) ((zA7 hh).trans hr.2)
     ·exact hcut
  ·exact h
 ·unfold zqW
  split
  ·rename_i hk
   have hr:=h.reg s.Region.toNat (by omega)
   split
   ·exact h.set (by omega) (zz3 hr.1 hs.2.2.1 hs.2.2.2.1) ((zA6 _ _ _).trans hr.2)
   ·split
    ·split
     ·rename_i hn
      exact h.set (by omega) (zz2 hr.1 hn) hr.2
     ·exact h
    ·split
     ·split
      ·exact h
      ·refine h.put (by rw [qM,qd];have:=h.line;omega) λ x hx=>?_
       rcases List.mem_append.1 hx with hx | hx
       ·exact h.said x hx
       ·rw [List.mem_singleton.1 hx]
        obtain ⟨g1,g2,g3,g4⟩:=zkW hr.1.1
        refine ⟨⟨by show 0≤1 - s.Region;omega,by show 1 - s.Region≤1;omega⟩,zms ⟨by simp,by simp⟩ g2 g3 g4,?_,hr.1.2.2.1,hr.1.2.2.2⟩
        show zl6 (1 - s.Region)
        unfold zl6
        omega
     ·split
      ·split
       ·split
        ·exact h
        ·exact h.set (by omega) (zzX hr.1) ((zxa _ _).trans hr.2)
       ·exact h
      ·exact h
  ·exact h
theorem zz4 {x:zkB} (h:zkG ⟨0,x.Word.fVe,x.Word.fTe⟩=true):za1 ⟨x.Word.fVe,x.Word.fTe⟩=some x.Word:=by
 unfold za1
 have:=zsq h
 dsimp only at this ⊢
 rw [this]
 rfl
theorem zz5 {r:zkb} (hr:okr r):zfo ⟨r.Id,r.fVe,r.fTe⟩=some (wd r,true):=by
 unfold zfo
 have e:zW ⟨r.Id,r.fVe,r.fTe⟩=some true:=(zbw r hr.2).trans (by rw [hr.1])
 refine zke e ?_
 refine (if_neg (by simp)).trans ?_
 exact zke (zsq hr.1) rfl
theorem zyi {r:zkb} (hr:okr r):zd2 ⟨r.Id,r.fVe,r.fTe⟩=some (if (zly r.fVe r.Id).2=true then (ztt r,true) else (⟨0,0,⟨[]⟩⟩,false)):=by
 refine (zqj r hr.2).trans ?_
 unfold zzh ztt
 rw [if_pos hr.1]
theorem zyj (L:List zkB) (k:Nat):((([]:List zkB))++L.take k)++((L.drop (k+1)).take (L.length - (k+1)))=zrl L k:=by
 unfold zrl
 rw [qo]
 congr 1
 exact List.take_of_length_le (Nat.le_of_eq qbj)
theorem zj2 {w:zkn} (h:GW w) {s:zks} (hs:zk9 s):zeh w s=some ((zlH w s).1,(zlH w s).2,(zlH w s).1.fRe):=by
 have hl:=h.len
 have hL:=h.line
 have hk:((if (s.Kind == 4)=true then some (⟨true⟩:zaA) else (if (s.Kind == 5)=true then some ⟨true⟩ else some ⟨(s.Kind == 6)⟩)):Option zaA)=some ⟨decide (s.Kind=4∨s.Kind=5∨s.Kind=6)⟩:=by
  by_cases h4:s.Kind=4
  ·simp [h4]
  ·by_cases h5:s.Kind=5
   ·simp [h5]
   ·by_cases h6:s.Kind=6
    ·simp [h6]
    ·simp [h4,h5,h6]
 unfold zeh
 refine zke hk ?_
 unfold zlH
 by_cases hline:s.Kind=4∨s.Kind=5∨s.Kind=6
 ·rw [if_pos hline]
  refine (if_pos (by simpa using hline)).trans ?_
  have e0:wI ((w.Line.length:Int) - 1)=(w.Line.length:Int) - 1:=zkU (by omega)
  rw [e0]
  refine zke (zaF ..) ?_
  unfold zpy
  by_cases hK:0≤s.K∧s.K≤(w.Line.length:Int) - 1
  rotate_left
  ·rw [if_neg hK]
   exact if_pos (by rw [Bool.not_eq_true',decide_eq_false_iff_not];exact hK)
  rw [if_pos hK]
  refine (if_neg (by simpa using hK)).trans ?_
  refine (zj9 (by omega) _).trans ?_
  obtain ⟨a,b,c⟩:=h.said _ (zqm h hK)
  by_cases h6:s.Kind=6
  ·rw [if_pos h6]
   refine (if_pos (by simpa using h6)).trans ?_
   by_cases h20:w.Line.length=20
   ·rw [if_pos h20]
    exact if_pos (by rw [beq_iff_eq];omega)
   ·rw [if_neg h20]
    refine (if_neg (by rw [beq_iff_eq];omega)).trans ?_
    refine zke (zz4 b) ?_
    exact zj9 (by omega) _
  rw [if_neg h6]
  refine (if_neg (by simpa using h6)).trans ?_
  have e1:wI (s.K+1)=s.K+1:=zkU (by omega)
  have e2:(s.K+1).toNat=s.K.toNat+1:=by omega
  rw [e1,e2,zyj]
  refine (zj9 (by omega) _).trans ?_
  refine (zj9 (by omega) _).trans ?_
  refine (zj9 (by omega) _).trans ?_
  refine (zj9 (by omega) _).trans ?_
  by_cases h5:s.Kind=5
  ·rw [if_pos h5]
   exact if_pos (by simpa using h5)
  rw [if_neg h5]
  refine (if_neg (by simpa using h5)).trans ?_
  refine (zj9 (by rw [hl];omega) _).trans ?_
  have hr:=(h.reg (nth w.Line s.K.toNat).To.toNat (by omega)).1
  refine zke (ziJ (nth w.fRe (nth w.Line s.K.toNat).To.toNat) (nth w.Line s.K.toNat).Word hr.2 c.2) ?_
  cases hh:(zln (nth w.fRe (nth w.Line s.K.toNat).To.toNat) (nth w.Line s.K.toNat).Word).2
  ·rfl
  ·refine (if_neg (by simp)).trans ?_
   exact zj9 (by rw [hl];omega) _
 ·rw [if_neg hline]
  refine (if_neg (by simpa using hline)).trans ?_
  refine zke (zaF ..) ?_
  unfold zqW
  by_cases hR:0≤s.Region∧s.Region≤1
  rotate_left
  ·rw [if_neg hR]
   exact if_pos (by rw [Bool.not_eq_true',decide_eq_false_iff_not];exact hR)
  rw [if_pos hR]
  refine (if_neg (by simpa using hR)).trans ?_
  refine (zj9 (by rw [hl];omega) _).trans ?_
  have hr:=(h.reg s.Region.toNat (by omega)).1
  by_cases h1:s.Kind=1
  ·rw [if_pos h1]
   refine (if_pos (by simpa using h1)).trans ?_
   refine zke (zhQ (nth w.fRe s.Region.toNat) s.What s.Name hr.1 hr.2 hs.2.2.1 hs.2.2.2.1) ?_
   exact zj9 (by rw [hl];omega) _
  rw [if_neg h1]
  refine (if_neg (by simpa using h1)).trans ?_
  by_cases h2:s.Kind=2
  ·rw [if_pos h2]
   refine (if_pos (by simpa using h2)).trans ?_
   refine zke (zyi hr) ?_
   cases hn:(zly (nth w.fRe s.Region.toNat).fVe (nth w.fRe s.Region.toNat).Id).2
   ·rfl
   ·refine (if_neg (by simp)).trans ?_
    exact zj9 (by rw [hl];omega) _
  rw [if_neg h2]
  refine (if_neg (by simpa using h2)).trans ?_
  by_cases h3:s.Kind=3
  ·rw [if_pos h3]
   refine (if_pos (by simpa using h3)).trans ?_
   by_cases h20:w.Line.length=20
   ·rw [if_pos h20]
    exact if_pos (by rw [beq_iff_eq];omega)
   ·rw [if_neg h20]
    refine (if_neg (by rw [beq_iff_eq];omega)).trans ?_
    refine zke (zz5 hr) ?_
    have e3:wI (1 - s.Region)=1 - s.Region:=zkU (by omega)
    rw [e3]
    exact zj9 (by omega) _
  rw [if_neg h3]
  refine (if_neg (by simpa using h3)).trans ?_
  by_cases h7:s.Kind=7
  rotate_left
  ·rw [if_neg h7]
   exact if_neg (by simpa using h7)
  rw [if_pos h7]
  refine (if_pos (by simpa using h7)).trans ?_
  have ea:zdf (nth w.fRe s.Region.toNat)=some (zok (nth w.fRe s.Region.toNat)):=rfl
  refine zke ea ?_
  cases hact:zok (nth w.fRe s.Region.toNat)
  ·rfl
  refine (if_neg (by simp)).trans ?_
  refine zke (ziH (nth w.fRe s.Region.toNat) hr.1 hr.2) ?_
  by_cases h0:(reapP (nth w.fRe s.Region.toNat) (zkH (nth w.fRe s.Region.toNat).fTe)).2=0
  ·rw [if_pos rfl,if_pos h0]
   exact if_pos (by rw [beq_iff_eq];omega)
  ·rw [if_pos rfl,if_neg h0]
   refine (if_neg (by rw [beq_iff_eq];omega)).trans ?_
   exact zj9 (by rw [hl];omega) _
end Go.TL
set_option maxRecDepth 4000
namespace Go.TL
theorem znT (b:Bool):zcu b=some (if b=true then 0 else 1):=by
 unfold zcu
 cases b<;>rfl
theorem ztv {x:zkB} (h:zkG ⟨0,x.Word.fVe,x.Word.fTe⟩=true):zdk x=some x:=by
 unfold zdk
 have hm:zrj x.Word.fTe.fBr:=znj (zmB (t:=x.Word.fTe) (zkV h))
 rw [znS _ hm]
 rfl
theorem zA8 {w:zkn} (hl:w.Line.length≤20) {x:zkB} (h:zkG ⟨0,x.Word.fVe,x.Word.fTe⟩=true):zbL w x=some (if w.Line.length=20 then (false,w) else (true,⟨w.fRe,w.Line++[x]⟩)):=by
 unfold zbL
 by_cases h20:w.Line.length=20
 ·rw [if_pos h20]
  exact if_pos (by rw [beq_iff_eq];omega)
 ·rw [if_neg h20]
  refine (if_neg (by rw [beq_iff_eq];omega)).trans ?_
  refine zke (ztv h) ?_
  exact zj9 (by omega) _
theorem zA9 {w:zkn} (hl:w.Line.length≤20) {i:Nat} (hi:i < w.Line.length) (h:zkG ⟨0,(nth w.Line i).Word.fVe,(nth w.Line i).Word.fTe⟩=true) :
  zbM w i (nth w.Line i) (nth w.Line i)=some (if w.Line.length=20 then (false,w) else (true,⟨w.fRe,w.Line++[nth w.Line i]⟩)):=by
 unfold zbM
 rw [zru hi]
 by_cases h20:w.Line.length=20
 ·rw [if_pos h20]
  exact if_pos (by rw [beq_iff_eq];omega)
 ·rw [if_neg h20]
  refine (if_neg (by rw [beq_iff_eq];omega)).trans ?_
  refine zke (ztv h) ?_
  exact zj9 (by omega) _
theorem zz6 {l:List zkb} {i:Nat} {x:zkB} (hi:i < l.length) (hr:okr (nth l i)) (hx:zkG ⟨0,x.Word.fVe,x.Word.fTe⟩=true∧znP x) :
  zaz l i ⟨x.Word.fVe,x.Word.fTe⟩=some ((zln (nth l i) x.Word).2,if (zln (nth l i) x.Word).2=true then l.set i (zln (nth l i) x.Word).1 else l):=by
 have hq:=ztu hx
 obtain ⟨to,v,t⟩:=x
 exact zyg l i (nth l i) ⟨0,v,t⟩ hi rfl hr hq
theorem zj3 {w:zkn} (h:GW w) {s:zks} (hk:s.Kind=4∨s.Kind=5∨s.Kind=6):zae w s=some ((zpy w s).2,(zpy w s).1,(zpy w s).1.fRe):=by
 have hl:=h.len
 have hL:=h.line
 unfold zae zpy
 have e0:wI ((w.Line.length:Int) - 1)=(w.Line.length:Int) - 1:=zkU (by omega)
 rw [e0]
 refine zke (zak ..) ?_
 by_cases hK:0≤s.K∧s.K≤(w.Line.length:Int) - 1
 rotate_left
 ·rw [if_neg hK]
  exact if_pos (by rw [Bool.not_eq_true',decide_eq_false_iff_not];exact hK)
 rw [if_pos hK]
 refine (if_neg (by simpa using hK)).trans ?_
 refine (zj9 (by omega) _).trans ?_
 refine (zj9 (by omega) _).trans ?_
 have hm:=h.said _ (zqm h hK)
 obtain ⟨a,b⟩:=hm
 have hkn:s.K.toNat < w.Line.length:=by omega
 by_cases h6:s.Kind=6
 ·rw [if_pos h6]
  refine (if_pos (by simpa using h6)).trans ?_
  refine zke (zA9 hL hkn b.1) ?_
  by_cases h20:w.Line.length=20
  ·rw [if_pos h20,if_pos h20]
   exact zke (znT _) rfl
  ·rw [if_neg h20,if_neg h20]
   exact zke (znT _) rfl
 rw [if_neg h6]
 refine (if_neg (by simpa using h6)).trans ?_
 have e1:wI (s.K+1)=s.K+1:=zkU (by omega)
 rw [e1]
 have ed:zas w.Line s.K.toNat (nth w.Line s.K.toNat) s.K (s.K+1)=some (zrl w.Line s.K.toNat):=by
  unfold zas
  exact zj9 ⟨hkn,by omega,by omega,by omega⟩ _
 refine zke ed ?_
 by_cases h5:s.Kind=5
 ·rw [if_pos h5]
  exact if_neg (by simp [h5])
 rw [if_neg h5]
 have h4:s.Kind=4:=by omega
 refine (if_pos (by simpa using h4)).trans ?_
 refine (zj9 (by rw [hl];omega) _).trans ?_
 have hr:=(h.reg (nth w.Line s.K.toNat).To.toNat (by omega)).1
 refine zke (zz6 (by rw [hl];omega) hr b) ?_
 cases hh:(zln (nth w.fRe (nth w.Line s.K.toNat).To.toNat) (nth w.Line s.K.toNat).Word).2
 ·refine (zj9 (by simp) _).trans ?_
  rfl
 ·refine (zj9 (by simp) _).trans ?_
  rfl
theorem zz7 (n:Int):zds n=some (decide (0≤n∧n≤1)):=by
 unfold zds
 exact zke (zak ..) rfl
theorem zwv {p:zkb×Nat} {n:ByteArray} (h:(zlv p n).2=p.2):zlv p n=p:=by
 unfold zlv at h ⊢
 split
 ·rename_i c0
  rw [if_pos c0] at h
  simp at h
 ·rfl
theorem ztw:∀ (l:List ByteArray) (p:zkb×Nat),(l.foldl zlv p).2=p.2→l.foldl zlv p=p
 | [],p,_=>rfl
 | n :: r,p,h=>by
  have h1:=(zud p n).1
  have h2:∀ (l:List ByteArray) (q:zkb×Nat),q.2≤(l.foldl zlv q).2:=λ l=>by
   induction l with
   | nil=>intro q;exact qh _
   | cons a l ih=>intro q;exact qbg (zud q a).1 (ih (zlv q a))
  have h3:=h2 r (zlv p n)
  have h4:(r.foldl zlv (zlv p n)).2=p.2:=h
  have e1:zlv p n=p:=zwv (by omega)
  show r.foldl zlv (zlv p n)=p
  rw [e1]
  exact ztw r p (by rw [e1] at h4;exact h4)
theorem zyk {r:zkb} {l:List ByteArray} (h:(reapP r l).2=0):(reapP r l).1=r:=by
 unfold reapP at h ⊢
 rw [ztw l (r,0) h]
theorem zjZ {w:zkn} (h:GW w) {s:zks} (hs:zk9 s) (hk:s.Kind=1∨s.Kind=2∨s.Kind=3∨s.Kind=7):zaY w s=some ((zqW w s).2,(zqW w s).1,(zqW w s).1.fRe):=by
 have hl:=h.len
 have hL:=h.line
 unfold zaY zqW
 refine zke (zz7 _) ?_
 by_cases hR:0≤s.Region∧s.Region≤1
 rotate_left
 ·rw [if_neg hR]
  exact if_pos (by rw [Bool.not_eq_true',decide_eq_false_iff_not];exact hR)
 rw [if_pos hR]
 refine (if_neg (by simpa using hR)).trans ?_
 refine (zj9 (by rw [hl];omega) _).trans ?_
 have hr:=(h.reg s.Region.toNat (by omega)).1
 have hi:s.Region.toNat < w.fRe.length:=by omega
 by_cases h1:s.Kind=1
 ·rw [if_pos h1]
  refine (if_pos (by simpa using h1)).trans ?_
  refine (zj9 hi _).trans ?_
  have el:zS ⟨(nth w.fRe s.Region.toNat).Id,(nth w.fRe s.Region.toNat).fVe,(nth w.fRe s.Region.toNat).fTe⟩ s.What s.Name=_:=ziG (nth w.fRe s.Region.toNat) s.What s.Name hr.1
  rw [el]
  unfold callP
  by_cases c0:zlk (nth w.fRe s.Region.toNat) s.What s.Name=0
  ·have eg:zai w.fRe s.Region.toNat ⟨(nth w.fRe s.Region.toNat).Id,(nth w.fRe s.Region.toNat).fVe,(nth w.fRe s.Region.toNat).fTe⟩ s.What s.Name=_:=zts w.fRe s.Region.toNat (nth w.fRe s.Region.toNat) s.What s.Name hr.1 c0
   simp only [c0,if_true]
   refine zke eg ?_
   exact zj9 (by simp) _
  ·simp only [c0,if_false]
 rw [if_neg h1]
 refine (if_neg (by simpa using h1)).trans ?_
 by_cases h2:s.Kind=2
 ·rw [if_pos h2]
  refine (if_pos (by simpa using h2)).trans ?_
  have el:zb8 w.fRe s.Region.toNat=some (if (zly (nth w.fRe s.Region.toNat).fVe (nth w.fRe s.Region.toNat).Id).2=true then (true,w.fRe.set s.Region.toNat (ztt (nth w.fRe s.Region.toNat))) else (false,w.fRe)):=by
   unfold zb8 ztt
   refine (zj9 hi _).trans ?_
   refine (zj9 hi _).trans ?_
   refine zke (zin ..) ?_
   cases hn:(zly (nth w.fRe s.Region.toNat).fVe (nth w.fRe s.Region.toNat).Id).2
   ·rfl
   ·exact zj9 hi _
  refine zke el ?_
  cases hn:(zly (nth w.fRe s.Region.toNat).fVe (nth w.fRe s.Region.toNat).Id).2
  ·refine (zj9 rfl _).trans ?_
   exact zke (znT _) rfl
  ·refine (zj9 (by simp) _).trans ?_
   exact zke (znT _) rfl
 rw [if_neg h2]
 refine (if_neg (by simpa using h2)).trans ?_
 by_cases h3:s.Kind=3
 ·rw [if_pos h3]
  refine (if_pos (by simpa using h3)).trans ?_
  refine zke (zyf hr) ?_
  have e3:wI (1 - s.Region)=1 - s.Region:=zkU (by omega)
  rw [e3]
  have hg:zkG ⟨0,(⟨1 - s.Region,wd (nth w.fRe s.Region.toNat)⟩:zkB).Word.fVe,(⟨1 - s.Region,wd (nth w.fRe s.Region.toNat)⟩:zkB).Word.fTe⟩=true:=by
   obtain ⟨g1,g2,g3,g4⟩:=zkW hr.1
   exact zms ⟨by simp,by simp⟩ g2 g3 g4
  refine zke (zA8 hL hg) ?_
  by_cases h20:w.Line.length=20
  ·rw [if_pos h20,if_pos h20]
   exact zke (znT _) rfl
  ·rw [if_neg h20,if_neg h20]
   exact zke (znT _) rfl
 rw [if_neg h3]
 refine (if_neg (by simpa using h3)).trans ?_
 have h7:s.Kind=7:=by omega
 rw [if_pos h7]
 have ea:z8 (nth w.fRe s.Region.toNat)=some (zok (nth w.fRe s.Region.toNat)):=rfl
 refine zke ea ?_
 cases hact:zok (nth w.fRe s.Region.toNat)
 ·refine (if_neg (by simp)).trans ?_
  exact zke (znT _) rfl
 refine (if_pos rfl).trans ?_
 refine zke (zvx w.fRe s.Region.toNat (nth w.fRe s.Region.toNat) hi rfl hr) ?_
 refine (zj9 (by simp) _).trans ?_
 refine zke (znT _) ?_
 by_cases h0:(reapP (nth w.fRe s.Region.toNat) (zkH (nth w.fRe s.Region.toNat).fTe)).2=0
 ·have hz:=zyk h0
  rw [if_pos rfl,if_pos h0,hz,zru hi,h0]
  rfl
 ·rw [if_pos rfl,if_neg h0,if_pos (by rw [decide_eq_true_eq];show 0 < (((reapP (nth w.fRe s.Region.toNat) (zkH (nth w.fRe s.Region.toNat).fTe)).2:Nat):Int);omega)]
theorem zj4 {w:zkn} (h:GW w) {s:zks} (hs:zk9 s):zb9 w s=some ((zlH w s).2,(zlH w s).1,(zlH w s).1.fRe):=by
 have hk:((if (s.Kind == 1)=true then some (⟨true⟩:zR) else (if (s.Kind == 2)=true then some ⟨true⟩ else (if (s.Kind == 3)=true then some ⟨true⟩ else some ⟨(s.Kind == 7)⟩))):Option zR)=some ⟨decide (s.Kind=1∨s.Kind=2∨s.Kind=3∨s.Kind=7)⟩:=by
  by_cases h1:s.Kind=1
  ·simp [h1]
  ·by_cases h2:s.Kind=2
   ·simp [h2]
   ·by_cases h3:s.Kind=3
    ·simp [h3]
    ·by_cases h7:s.Kind=7
     ·simp [h7]
     ·simp [h1,h2,h3,h7]
 unfold zb9
 refine zke hk ?_
 by_cases hr:s.Kind=1∨s.Kind=2∨s.Kind=3∨s.Kind=7
 ·have es:zlH w s=zqW w s:=if_neg (by omega)
  rw [es]
  refine (if_pos (by simpa using hr)).trans ?_
  exact zke (zjZ h hs hr) rfl
 refine (if_neg (by simpa using hr)).trans ?_
 by_cases hl:s.Kind=4∨s.Kind=5∨s.Kind=6
 ·have es:zlH w s=zpy w s:=if_pos hl
  rw [es]
  have key:=zj3 h hl
  rcases hl with h4 | h5 | h6
  ·refine (if_pos (by simpa using h4)).trans ?_
   exact zke key rfl
  ·refine (if_neg (by simp [h5])).trans ?_
   refine (if_pos (by simpa using h5)).trans ?_
   exact zke key rfl
  ·refine (if_neg (by simp [h6])).trans ?_
   refine (if_neg (by simp [h6])).trans ?_
   refine (if_pos (by simpa using h6)).trans ?_
   exact zke key rfl
 ·have es:zlH w s=zqW w s:=if_neg hl
  rw [es]
  refine (if_neg (by simp;omega)).trans ?_
  refine (if_neg (by simp;omega)).trans ?_
  refine (if_neg (by simp;omega)).trans ?_
  have e:zqW w s=(w,1):=by
   unfold zqW
   split
   ·rw [if_neg (by omega),if_neg (by omega),if_neg (by omega),if_neg (by omega)]
   ·rfl
  rw [e]
end Go.TL
set_option maxRecDepth 4000
namespace Go.TL
theorem zyl {r:zkb} {k:Int} {n:ByteArray} (h:(callP r k n).2≠0):(callP r k n).1=r:=by
 unfold callP at h ⊢
 dsimp only at h ⊢
 rw [if_neg h]
theorem zym {w:zkn} (h:GW w) {s:zks} (h0:(zlH w s).2≠0) (h2:(zlH w s).2=2→s.Kind≠4):(zlH w s).1=w:=by
 have hl:=h.len
 unfold zlH at h0 h2 ⊢
 split
 ·rename_i hk
  rw [if_pos hk] at h0 h2
  unfold zpy at h0 h2 ⊢
  split
  ·rename_i hK
   rw [if_pos hK] at h0 h2
   split
   ·rename_i h6
    rw [if_pos h6] at h0
    split
    ·rfl
    ·rename_i h20
     rw [if_neg h20] at h0
     exact absurd rfl h0
   ·rename_i h6
    rw [if_neg h6] at h0 h2
    split
    ·rename_i h5
     rw [if_pos h5] at h0
     exact absurd rfl h0
    ·rename_i h5
     rw [if_neg h5] at h0 h2
     split
     ·rename_i hh
      rw [if_pos hh] at h0
      exact absurd rfl h0
     ·rename_i hh
      rw [if_neg hh] at h2
      have:=h2 rfl
      omega
  ·rfl
 ·rename_i hk
  rw [if_neg hk] at h0 h2
  unfold zqW at h0 h2 ⊢
  split
  ·rename_i hR
   rw [if_pos hR] at h0 h2
   split
   ·rename_i h1
    rw [if_pos h1] at h0
    have hc:=zyl h0
    show (⟨w.fRe.set s.Region.toNat (callP (nth w.fRe s.Region.toNat) s.What s.Name).1,w.Line⟩:zkn)=w
    rw [hc,zru (by omega)]
   ·rename_i h1
    rw [if_neg h1] at h0
    split
    ·rename_i h2'
     rw [if_pos h2'] at h0
     split
     ·rename_i hn
      rw [if_pos hn] at h0
      exact absurd rfl h0
     ·rfl
    ·rename_i h2'
     rw [if_neg h2'] at h0
     split
     ·rename_i h3
      rw [if_pos h3] at h0
      split
      ·rfl
      ·rename_i h20
       rw [if_neg h20] at h0
       exact absurd rfl h0
     ·rename_i h3
      rw [if_neg h3] at h0
      split
      ·rename_i h7
       rw [if_pos h7] at h0
       split
       ·rename_i ha
        rw [if_pos ha] at h0
        split
        ·rfl
        ·rename_i hz
         rw [if_neg hz] at h0
         exact absurd rfl h0
       ·rfl
      ·rfl
  ·rfl
theorem zz8 {w:zkn} (h:GW w):zes w=some w :=
 zye w (by rw [h.len];omega) (by have:=h.line;omega) (λ i hi=>zug (h.reg i (by rw [← h.len];exact hi)).1) λ i hi=>znj (zmB (t:=(nth w.Line i).Word.fTe) (zkV (h.said _ (zkJ hi)).2.1))
theorem zj0 {w:zkn} (h:GW w) {s:zks} (hs:zk9 s):zdy w s=some (zlH w s):=by
 unfold zdy
 refine zke ((zg7 w h.good.2).trans (by rw [h.good.1])) ?_
 refine (if_neg (by simp)).trans ?_
 refine zke (zz8 h) ?_
 refine zke (zj2 h hs) ?_
 refine (zj9 (by show (zlH w s).1.fRe.length=w.fRe.length;rw [(h.step hs).len,h.len]) _).trans ?_
 have hj:((if ((zlH w s).2 != 0)=true then (if ((zlH w s).2 != 2)=true then some (⟨true⟩:zT) else (if ((zlH w s).2 == 2)=true then some ⟨(s.Kind != 4)⟩ else some ⟨false⟩))
   else (if ((zlH w s).2 == 2)=true then some ⟨(s.Kind != 4)⟩ else some ⟨false⟩)):Option zT)=some ⟨decide ((zlH w s).2≠0∧((zlH w s).2=2→s.Kind≠4))⟩:=by
  by_cases h0:(zlH w s).2=0
  ·simp [h0]
  ·by_cases h2:(zlH w s).2=2
   ·by_cases h4:s.Kind=4
    ·simp [h2,h4]
    ·simp [h2,h4]
   ·simp [h0,h2]
 refine zke hj ?_
 by_cases hc:(zlH w s).2≠0∧((zlH w s).2=2→s.Kind≠4)
 ·refine (if_pos (decide_eq_true hc)).trans ?_
  refine zke (zz8 h) ?_
  exact congrArg some (Prod.ext (zym h hc.1 hc.2).symm rfl)
 ·exact if_neg (by rw [decide_eq_true_eq];exact hc)
def zz9:zkn:=⟨[⟨0,0,⟨[]⟩⟩,⟨1,0,⟨[]⟩⟩],[]⟩
theorem zBa:GW zz9:=by
 have hg:∀ i:Int,(0≤i∧i≤9)→okr ⟨i,0,⟨[]⟩⟩:=λ i hi=>⟨zms hi (by show zp5 0=true;decide) (by show zld ⟨[]⟩=true;rfl) (by show znA 0 ⟨[]⟩=true;rfl),(⟨by omega,by omega⟩:zl6 i),(⟨by omega,by omega⟩:zl6 0),⟨by simp,λ b hb=>by simp at hb⟩⟩
 refine ⟨rfl,λ i hi=>?_,by simp [zz9],λ s hs=>by cases hs⟩
 match i,hi with
 | 0,_=>exact ⟨hg 0 (by omega),rfl⟩
 | 1,_=>exact ⟨hg 1 (by omega),rfl⟩
def zBs (p:zkn×List Int) (s:zks):zkn×List Int:=((zlH p.1 s).1,p.2++[(zlH p.1 s).2])
def zrd (l:List zks):zkn×List Int:=l.foldl zBs (zz9,[])
def zny (l:List zks) (i:Nat):zkn×List Int:=zrd (l.take i)
theorem znU {l:List zks} {i:Nat} (h:i < l.length):zny l (i+1)=zBs (zny l i) (nth l i):=by
 unfold zny zrd
 rw [← zlJ h,qw]
 rfl
theorem zo9 {l:List zks} (hl:∀ s∈l,zk9 s):∀ i,i≤l.length→GW (zny l i).1∧(zny l i).2.length=i
 | 0,_=>⟨zBa,rfl⟩
 | i+1,hi=>by
  obtain ⟨h1,h2⟩:=zo9 hl i (by omega)
  rw [znU (by omega)]
  refine ⟨h1.step (hl _ (zkJ (by omega))),?_⟩
  show ((zny l i).2++[_]).length=i+1
  rw [qM,h2]
  rfl
def ztx (l:List zks):zkn×List Int×Bool:=if l.length > 120 then (⟨[],[]⟩,[],false) else ((zrd l).1,(zrd l).2,true)
theorem zpN (l:List zks):zny l l.length=zrd l:=by unfold zny;rw [qg]
theorem zj5 {l:List zks} (hl:∀ s∈l,zk9 s):zeZ l=some (ztx l):=by
 unfold zeZ ztx
 by_cases h:l.length > 120
 ·rw [if_pos h]
  exact if_pos (by rw [decide_eq_true_eq];omega)
 rw [if_neg h]
 refine (if_neg (by rw [decide_eq_true_eq];omega)).trans ?_
 have e0:zfF=some zz9:=rfl
 refine zke e0 ?_
 have key:=zkZ (step:=zbW l) (λ i (c:zkn×List Int)=>(⟨i,c.1.fRe,c.1.Line,c.2⟩:zeD)) l.length (λ i=>zny l i) (λ c=>(⟨c.1.fRe,c.1.Line,c.2⟩:zgL)) (λ i hi=>?_) ?_
 ·rw [zpN] at key
  refine zke key ?_
  rfl
 ·obtain ⟨h1,h2⟩:=zo9 hl i (by omega)
  have e1:=wS (i:=i) (by omega)
  unfold zbW
  simp only [qc,e1]
  refine (if_pos (by rw [decide_eq_true_eq];omega)).trans ?_
  refine (zj9 (by omega) _).trans ?_
  refine zke (zj0 h1 (hl _ (zkJ hi))) ?_
  rw [znU hi]
  exact zj9 (by omega) _
 ·unfold zbW
  exact if_neg (by simp)
end Go.TL
set_option maxRecDepth 4000
namespace Go.TL
theorem zuj {l:List zka} (h:zkP l=true) {i:Nat} (hi:i < l.length):(nth l i).Id=((i+1:Nat):Int):=by
 obtain ⟨h1,h2,h3⟩:=zmT.1 h
 have:=zqJ l zp7 0 (by unfold zkX at h2;omega) i hi
 rw [this]
 show (1:Int)+i=_
 omega
def zlZ (l:List zkv):zkv:=nth l (l.length - 1)
def zpO (l:List zkv) (e:zka):List zkv:=if 0 < l.length∧(zlZ l).fVe=e.fVe then l.set (l.length - 1) ⟨e.Id,(zlZ l).fVe⟩ else l++[⟨e.Id,e.fVe⟩]
def zmx (h:List zka):List zkv:=h.foldl zpO []
def zlS (h:List zka) (i:Nat):List zkv:=zmx (h.take i)
theorem zng {h:List zka} {i:Nat} (hi:i < h.length):zlS h (i+1)=zpO (zlS h i) (nth h i):=by
 unfold zlS zmx
 rw [← zlJ hi,qw]
 rfl
structure Its (l:List zkv) (h:List zka) (n:Nat):Prop where
 z:l.length=0↔n=0
 up:0 < n→(zlZ l).Upto=(n:Int)
 asc:∀ i,i+1 < l.length→(nth l i).Upto < (nth l (i+1)).Upto∧(nth l i).fVe < (nth l (i+1)).fVe
 lo:∀ i,i < l.length→1≤(nth l i).Upto∧(nth l i).Upto≤(n:Int)
 ver:∀ i,i < l.length→∀ k:Nat,(i=0∨(nth l (i - 1)).Upto≤(k:Int))→(k:Int) < (nth l i).Upto→(nth h k).fVe=(nth l i).fVe
theorem Its.lastV {l:List zkv} {h:List zka} {n:Nat} (t:Its l h n) (hn:0 < n):(zlZ l).fVe=(nth h (n - 1)).fVe:=by
 have hl:0 < l.length:=by
  rcases qj l.length with h0 | h0
  ·have:=t.z.1 h0;omega
  ·exact h0
 have hu:=t.up hn
 refine (t.ver (l.length - 1) (by omega) (n - 1) ?_ (by show ((n - 1:Nat):Int) < (zlZ l).Upto;omega)).symm
 by_cases h1:l.length=1
 ·exact .inl (by omega)
 ·right
  have h2:=(t.asc (l.length - 1 - 1) (by omega)).1
  have e:l.length - 1 - 1+1=l.length - 1:=by omega
  rw [e] at h2
  have h3:(nth l (l.length - 1)).Upto=(n:Int):=hu
  omega
theorem znk {α:Type} [Inhabited α] {l m:List α} {i:Nat} (h:i < l.length):nth (l++m) i=nth l i:=by
 rw [zkQ (by rw [qM];omega),zkQ h,qi h]
theorem znh {α:Type} [Inhabited α] (l:List α) (a:α):nth (l++[a]) l.length=a:=by
 rw [zkQ (by simp)]
 simp
theorem Its.step {l:List zkv} {h:List zka} {n:Nat} (t:Its l h n) (hh:zkP h=true) (hn:n < h.length):Its (zpO l (nth h n)) h (n+1):=by
 have hid:=zuj hh hn
 unfold zpO
 by_cases hc:0 < l.length∧(zlZ l).fVe=(nth h n).fVe
 ·rw [if_pos hc]
  obtain ⟨c1,c2⟩:=hc
  have hn0:0 < n:=by
   rcases qj n with h0 | h0
   ·have:=t.z.2 h0;omega
   ·exact h0
  have hlen:(l.set (l.length - 1) (⟨(nth h n).Id,(zlZ l).fVe⟩:zkv)).length=l.length:=qL
  have hlast:nth (l.set (l.length - 1) (⟨(nth h n).Id,(zlZ l).fVe⟩:zkv)) (l.length - 1)=⟨(nth h n).Id,(zlZ l).fVe⟩:=Go.TL.nth_set_same (by omega)
  have hoff:∀ i,i≠l.length - 1→nth (l.set (l.length - 1) (⟨(nth h n).Id,(zlZ l).fVe⟩:zkv)) i=nth l i:=λ i hi=>zrc (Ne.symm hi) _
  have hup:=t.up hn0
  refine ⟨by rw [hlen];omega,λ _=>?_,λ i hi=>?_,λ i hi=>?_,λ i hi k hk hk2=>?_⟩
  ·have e0:∀ m:List zkv,m.length=l.length→zlZ m=nth m (l.length - 1):=λ m hm=>by unfold zlZ;rw [hm]
   rw [e0 _ hlen,hlast]
   exact hid
  ·rw [hlen] at hi
   have ha:=t.asc i hi
   rw [hoff i (by omega)]
   by_cases e:i+1=l.length - 1
   ·rw [e,hlast]
    have e2:nth l (i+1)=zlZ l:=by unfold zlZ;rw [e]
    rw [e2] at ha
    refine ⟨?_,ha.2⟩
    show (nth l i).Upto < (nth h n).Id
    rw [hid]
    omega
   ·rw [hoff _ e]
    exact ha
  ·rw [hlen] at hi
   by_cases e:i=l.length - 1
   ·rw [e,hlast]
    show 1≤(nth h n).Id∧(nth h n).Id≤_
    rw [hid]
    omega
   ·rw [hoff i e]
    have:=t.lo i hi
    omega
  ·rw [hlen] at hi
   by_cases e:i=l.length - 1
   ·rw [e,hlast] at hk2 ⊢
    have hk2':(k:Int) < (nth h n).Id:=hk2
    rw [hid] at hk2'
    by_cases ek:k=n
    ·rw [ek];exact c2.symm
    ·refine t.ver (l.length - 1) (by omega) k ?_ (by show (k:Int) < (zlZ l).Upto;omega)
     rcases hk with hk | hk
     ·exact .inl (by omega)
     ·by_cases h1:l.length - 1=0
      ·exact .inl h1
      ·rw [e,hoff _ (by omega)] at hk
       exact .inr hk
   ·rw [hoff i e] at hk2 ⊢
    refine t.ver i hi k ?_ hk2
    rcases hk with hk | hk
    ·exact .inl hk
    ·by_cases h1:i=0
     ·exact .inl h1
     ·rw [hoff _ (by omega)] at hk
      exact .inr hk
 ·rw [if_neg hc]
  have hlen:(l++[(⟨(nth h n).Id,(nth h n).fVe⟩:zkv)]).length=l.length+1:=by simp
  have hnew:0 < n→(zlZ l).fVe < (nth h n).fVe:=λ h0=>by
   have h1:=t.lastV h0
   have h2:=zor hh n (n - 1) (by omega) hn
   have h3:0 < l.length:=by
    rcases qj l.length with h0 | h0
    ·have:=t.z.1 h0;omega
    ·exact h0
   have h4:(zlZ l).fVe≠(nth h n).fVe:=λ e=>hc ⟨h3,e⟩
   omega
  refine ⟨by rw [hlen];omega,λ _=>?_,λ i hi=>?_,λ i hi=>?_,λ i hi k hk hk2=>?_⟩
  ·unfold zlZ
   rw [hlen,qbd,znh]
   exact hid
  ·rw [hlen] at hi
   rw [znk (show i < l.length by omega)]
   by_cases e:i+1=l.length
   ·rw [e,znh]
    have h0:0 < n:=by
     rcases qj n with h0 | h0
     ·have:=t.z.2 h0;omega
     ·exact h0
    have e2:nth l i=zlZ l:=by unfold zlZ;congr 1;omega
    rw [e2]
    refine ⟨?_,hnew h0⟩
    show (zlZ l).Upto < (nth h n).Id
    rw [hid,t.up h0]
    omega
   ·rw [znk (by omega)]
    exact t.asc i (by omega)
  ·rw [hlen] at hi
   by_cases e:i=l.length
   ·rw [e,znh]
    show 1≤(nth h n).Id∧(nth h n).Id≤_
    rw [hid]
    omega
   ·rw [znk (by omega)]
    have:=t.lo i (by omega)
    omega
  ·rw [hlen] at hi
   by_cases e:i=l.length
   ·rw [e,znh] at hk2 ⊢
    have hk2':(k:Int) < (nth h n).Id:=hk2
    rw [hid] at hk2'
    have hkn:k=n:=by
     rcases hk with hk | hk
     ·have h0:n=0:=t.z.1 (by omega)
      omega
     ·by_cases h0:n=0
      ·omega
      ·have hl0:0 < l.length:=by
        rcases qj l.length with h1 | h1
        ·exact absurd (t.z.1 h1) h0
        ·exact h1
       rw [e,znk (by omega)] at hk
       have h2:=t.up (by omega)
       have h3:(nth l (l.length - 1)).Upto=(n:Int):=h2
       omega
    rw [hkn]
   ·rw [znk (by omega)] at hk2 ⊢
    refine t.ver i (by omega) k ?_ hk2
    rcases hk with hk | hk
    ·exact .inl hk
    ·by_cases h1:i=0
     ·exact .inl h1
     ·rw [znk (by omega)] at hk
      exact .inr hk
theorem zsw {h:List zka} (hh:zkP h=true):∀ n,n≤h.length→Its (zlS h n) h n
 | 0,_=>⟨⟨λ _=>rfl,λ _=>rfl⟩,λ h0=>by omega,λ i hi=>by simp [zlS,zmx] at hi,λ i hi=>by simp [zlS,zmx] at hi,λ i hi=>by simp [zlS,zmx] at hi⟩
 | n+1,hn=>by
  rw [zng (by omega)]
  exact (zsw hh n (by omega)).step hh (by omega)
theorem zxb {h:List zka} (hh:zkP h=true):Its (zmx h) h h.length:=by
 have:=zsw hh h.length (qh _)
 unfold zlS at this
 rwa [qg] at this
theorem Its.len {l:List zkv} {h:List zka} {n:Nat} (t:Its l h n):l.length≤n:=by
 have key:∀ i,i < l.length→((i+1:Nat):Int)≤(nth l i).Upto:=by
  intro i
  induction i with
  | zero=>intro hi;have:=(t.lo 0 hi).1;omega
  | succ i ih =>
   intro hi
   have h1:=ih (by omega)
   have h2:=(t.asc i hi).1
   omega
 rcases qj l.length with h0 | h0
 ·omega
 ·have h1:=key (l.length - 1) (by omega)
  have h2:=(t.lo (l.length - 1) (by omega)).2
  omega
theorem zBb (l:List zkv) (e:zka):l.length≤(zpO l e).length∧(zpO l e).length≤l.length+1:=by
 unfold zpO
 split
 ·rw [qL];omega
 ·rw [qM,qd];omega
theorem zsx {h:List zka} {i:Nat}:∀ {j:Nat},i≤j→j≤h.length→(zlS h i).length≤(zlS h j).length
 | 0,hij,_=>by
  have:i=0:=by omega
  subst this;exact qh _
 | j+1,hij,hj=>by
  by_cases e:i=j+1
  ·subst e;exact qh _
  ·rw [zng (by omega)]
   exact qbg (zsx (by omega) (by omega)) (zBb _ _).1
theorem Its.find {l:List zkv} {h:List zka} {n k:Nat} (t:Its l h n) (hk:k < n):∃ i,zlp (λ i=>decide (((k+1:Nat):Int)≤(nth l i).Upto)) l.length=some i∧i < l.length∧(nth l i).fVe=(nth h k).fVe:=by
 have hl:0 < l.length:=by
  rcases qj l.length with h0 | h0
  ·have:=t.z.1 h0;omega
  ·exact h0
 cases hf:zlp (λ i=>decide (((k+1:Nat):Int)≤(nth l i).Upto)) l.length with
 | none =>
  exfalso
  have hu:(nth l (l.length - 1)).Upto=(n:Int):=t.up (by omega)
  have:=znu hf (l.length - 1) (by omega)
  simp only [decide_eq_false_iff_not] at this
  omega
 | some i =>
  obtain ⟨h1,h2,h3⟩:=zm4 hf
  refine ⟨i,rfl,h1,(t.ver i h1 k ?_ ?_).symm⟩
  ·by_cases h0:i=0
   ·exact .inl h0
   ·right
    have:=h3 (i - 1) (by omega)
    simp only [decide_eq_false_iff_not] at this
    omega
  ·simp only [decide_eq_true_eq] at h2
   omega
end Go.TL
set_option maxRecDepth 4000
namespace Go.TL
theorem zqn {l:List zka} (h:zkP l=true) {i:Nat} (hi:i < l.length):evP (nth l i)=true∧0≤(nth l i).fVe∧(nth l i).fVe≤1000000:=by
 have he:=zzV h _ (zkJ hi)
 refine ⟨he,?_⟩
 unfold evP zp5 at he
 simp only [qe,decide_eq_true_eq] at he
 exact he.1.1.2
theorem Its.vok {l:List zkv} {h:List zka} {n:Nat} (t:Its l h n) (hh:zkP h=true) (hn:n≤h.length) {i:Nat} (hi:i < l.length):0≤(nth l i).fVe∧(nth l i).fVe≤1000000:=by
 have hlo:=t.lo i hi
 have hv:=t.ver i hi ((nth l i).Upto - 1).toNat ?_ (by omega)
 ·rw [← hv]
  exact (zqn hh (by omega)).2
 ·by_cases h0:i=0
  ·exact .inl h0
  ·right
   have:=(t.asc (i - 1) (by omega)).1
   rw [show i - 1+1=i by omega] at this
   omega
theorem zsy (n:Int):zU n=some (decide (0≤n∧n≤1000000)):=by
 unfold zU
 first | exact zke (zak ..) rfl | exact zak ..
theorem zgK {l:List zkv} {h:List zka} {n:Nat} (t:Its l h n) (hh:zkP h=true) (hn:n≤h.length):zby l=some (decide (l.length≤20)):=by
 have h60:=zk8 hh
 unfold zby
 by_cases h20:l.length≤20
 rotate_left
 ·rw [if_pos (by rw [decide_eq_true_eq];omega)];simp [h20]
 refine (if_neg (by rw [decide_eq_true_eq];omega)).trans ?_
 have key:=zkZ (step:=zbX l) (λ i (_:Unit)=>(⟨i⟩:zeE)) l.length (λ _=>()) (λ _=>(.inr ():Unit⊕Unit)) (λ i hi=>?_) ?_
 ·refine zke key ?_
  simp [h20]
 ·have hlo:=t.lo i hi
  have hv:=t.vok hh hn hi
  have e1:=wS (i:=i) (by omega)
  have e2:wI ((i:Int) - 1)=(i:Int) - 1:=zkU (by omega)
  unfold zbX
  simp only [qc,e1,e2]
  refine (if_pos (by rw [decide_eq_true_eq];omega)).trans ?_
  refine (zj9 (by omega) _).trans ?_
  refine zke (x:=⟨false⟩) ?_ rfl
  refine zke (zak ..) ?_
  refine (if_neg (by simp;omega)).trans ?_
  refine zke (zsy _) ?_
  refine (if_neg (by simp;omega)).trans ?_
  by_cases h0:i=0
  ·exact if_neg (by simp;omega)
  ·refine (if_pos (by simp;omega)).trans ?_
   have ha:=t.asc (i - 1) (by omega)
   rw [show i - 1+1=i by omega] at ha
   have et:((i:Int) - 1).toNat=i - 1:=by omega
   rw [et]
   refine (zj9 (by omega) _).trans ?_
   refine (if_neg (by simp;omega)).trans ?_
   refine (zj9 (by omega) _).trans ?_
   rw [decide_eq_false (by omega)]
 ·unfold zbX
  exact if_neg (by simp)
theorem zjz {l:List zkv} {h:List zka} {n:Nat} (t:Its l h n) (hh:zkP h=true) (hn:n≤h.length):ze3 l=some (decide (l.length≤20)):=by
 have h60:=zk8 hh
 have hl:=t.len
 unfold ze3
 have key:=zkZ (step:=zbY l) (λ i (_:Unit)=>(⟨i⟩:zeF)) l.length (λ _=>()) (λ _=>(.inr ():Unit⊕Unit)) (λ i hi=>?_) ?_
 ·refine zke key ?_
  show some (decide (((l.length:Nat):Int)≤20))=_
  congr 1
  rw [decide_eq_decide]
  omega
 ·have hlo:=t.lo i hi
  have hv:=t.vok hh hn hi
  have e1:=wS (i:=i) (by omega)
  have e2:wI ((i:Int) - 1)=(i:Int) - 1:=zkU (by omega)
  unfold zbY
  simp only [qc,e1,e2]
  refine (if_pos (by rw [decide_eq_true_eq];omega)).trans ?_
  refine (zj9 (by omega) _).trans ?_
  refine zke (x:=⟨false⟩) ?_ rfl
  refine zke (zaF ..) ?_
  refine (if_neg (by simp;omega)).trans ?_
  refine zke (zaF ..) ?_
  refine (if_neg (by simp;omega)).trans ?_
  by_cases h0:i=0
  ·exact if_neg (by simp;omega)
  ·refine (if_pos (by simp;omega)).trans ?_
   have ha:=t.asc (i - 1) (by omega)
   rw [show i - 1+1=i by omega] at ha
   have et:((i:Int) - 1).toNat=i - 1:=by omega
   rw [et]
   refine (zj9 (by omega) _).trans ?_
   refine (if_neg (by simp;omega)).trans ?_
   refine (zj9 (by omega) _).trans ?_
   rw [decide_eq_false (by omega)]
 ·unfold zbY
  exact if_neg (by simp)
theorem zot {l:List zkv} {h:List zka} {n:Nat} (t:Its l h n) (h60:n≤60):zfQ l=some (n:Int):=by
 have hl:=t.len
 unfold zfQ
 by_cases h0:l.length=0
 ·have:=t.z.1 h0
  rw [if_pos (by rw [beq_iff_eq];omega),this]
  rfl
 ·have hn:0 < n:=by
   rcases qj n with h1 | h1
   ·exact absurd (t.z.2 h1) h0
   ·exact h1
  have e2:wI ((l.length:Int) - 1)=(l.length:Int) - 1:=zkU (by omega)
  have et:((l.length:Int) - 1).toNat=l.length - 1:=by omega
  rw [if_neg (by rw [beq_iff_eq];omega),e2,et]
  refine (zj9 (by omega) _).trans ?_
  exact congrArg some (t.up hn)
theorem zvy {l:List zkv} {h:List zka} {n:Nat} (t:Its l h n) (h60:n≤60):zcm l=some (if l.length=0 then 0 else (zlZ l).fVe):=by
 have hl:=t.len
 unfold zcm
 by_cases h0:l.length=0
 ·rw [if_pos (by rw [beq_iff_eq];omega),if_pos h0]
 ·have e2:wI ((l.length:Int) - 1)=(l.length:Int) - 1:=zkU (by omega)
  have et:((l.length:Int) - 1).toNat=l.length - 1:=by omega
  rw [if_neg (by rw [beq_iff_eq];omega),e2,et,if_neg h0]
  exact zj9 (by omega) _
theorem zjl {l:List zkv} {h:List zka} {n:Nat} (t:Its l h n) (hh:zkP h=true) (hn:n < h.length):zfp l (nth h n).Id (nth h n).fVe=some (zpO l (nth h n),decide ((zpO l (nth h n)).length≤20)):=by
 have h60:=zk8 hh
 have hl:=t.len
 have hid:=zuj hh hn
 obtain ⟨_,v1,v2⟩:=zqn hh hn
 have hz:=t.z
 have hlv:(if l.length=0 then (0:Int) else (zlZ l).fVe)≤(nth h n).fVe:=by
  by_cases h0:l.length=0
  ·rw [if_pos h0];exact v1
  ·rw [if_neg h0]
   have hn0:0 < n:=by omega
   rw [t.lastV hn0]
   exact zor hh n (n - 1) (by omega) hn
 have e1:=wS (i:=n) (by omega)
 unfold zfp
 refine zke (x:=⟨false⟩) ?_ ?_
 ·refine zke (zot t (by omega)) ?_
  rw [e1]
  refine (if_neg (by rw [hid];simp)).trans ?_
  refine zke (zvy t (by omega)) ?_
  refine (if_neg (by rw [decide_eq_true_eq];omega)).trans ?_
  refine zke (zsy _) ?_
  rw [decide_eq_true (show 0≤(nth h n).fVe∧(nth h n).fVe≤1000000 from ⟨v1,v2⟩)]
  rfl
 refine (if_neg (by simp)).trans ?_
 have ec:zbi l=some l:=by
  unfold zbi
  exact zj9 (by omega) _
 refine zke ec ?_
 have e2:wI ((l.length:Int) - 1)=(l.length:Int) - 1:=zkU (by omega)
 refine zke (x:=⟨decide (0 < l.length∧(zlZ l).fVe=(nth h n).fVe)⟩) ?_ ?_
 ·by_cases h0:0 < l.length
  ·refine (if_pos (by rw [decide_eq_true_eq];omega)).trans ?_
   refine zke (zvy t (by omega)) ?_
   rw [if_neg (by omega)]
   congr 2
   rw [qbk,beq_iff_eq,decide_eq_true_eq]
   exact ⟨λ h=>⟨h0,h.symm⟩,λ h=>h.2.symm⟩
  ·refine (if_neg (by rw [decide_eq_true_eq];omega)).trans ?_
   rw [decide_eq_false (by omega)]
 have hg:=zgK (t.step hh hn) hh (by omega)
 by_cases hc:0 < l.length∧(zlZ l).fVe=(nth h n).fVe
 ·have ea:zpO l (nth h n)=l.set (l.length - 1) ⟨(nth h n).Id,(zlZ l).fVe⟩:=if_pos hc
  have et:((l.length:Int) - 1).toNat=l.length - 1:=by omega
  refine (if_pos (decide_eq_true hc)).trans ?_
  rw [e2,et]
  refine (zj9 (by omega) _).trans ?_
  rw [ea] at hg ⊢
  exact zke hg rfl
 ·have ea:zpO l (nth h n)=l++[⟨(nth h n).Id,(nth h n).fVe⟩]:=if_neg hc
  refine (if_neg (by rw [decide_eq_true_eq];exact hc)).trans ?_
  refine (zj9 (by omega) _).trans ?_
  rw [ea] at hg ⊢
  exact zke hg rfl
theorem zjL {l:List zkv} {h:List zka} {n:Nat} (t:Its l h n) (hh:zkP h=true) (hn:n < h.length):ze2 l (nth h n).Id (nth h n).fVe=some (zpO l (nth h n)):=by
 have h60:=zk8 hh
 have hl:=t.len
 unfold ze2
 have e2:wI ((l.length:Int) - 1)=(l.length:Int) - 1:=zkU (by omega)
 rw [e2]
 simp only [qo]
 refine (zj9 (by omega) _).trans ?_
 refine zke (x:=⟨decide (0 < l.length∧(zlZ l).fVe=(nth h n).fVe)⟩) ?_ ?_
 ·by_cases h0:0 < l.length
  ·have et:((l.length:Int) - 1).toNat=l.length - 1:=by omega
   refine (if_pos (by rw [decide_eq_true_eq];omega)).trans ?_
   refine (zj9 (by omega) _).trans ?_
   rw [et]
   congr 2
   rw [qbk,beq_iff_eq,decide_eq_true_eq]
   exact ⟨λ h=>⟨h0,h⟩,λ h=>h.2⟩
  ·refine (if_neg (by rw [decide_eq_true_eq];omega)).trans ?_
   rw [decide_eq_false (by omega)]
 by_cases hc:0 < l.length∧(zlZ l).fVe=(nth h n).fVe
 ·have ea:zpO l (nth h n)=l.set (l.length - 1) ⟨(nth h n).Id,(zlZ l).fVe⟩:=if_pos hc
  have et:((l.length:Int) - 1).toNat=l.length - 1:=by omega
  refine (if_pos (decide_eq_true hc)).trans ?_
  rw [et,ea]
  exact zj9 (by omega) _
 ·have ea:zpO l (nth h n)=l++[⟨(nth h n).Id,(nth h n).fVe⟩]:=if_neg hc
  refine (if_neg (by rw [decide_eq_true_eq];exact hc)).trans ?_
  rw [ea]
  exact zj9 (by omega) _
def itD (h:List zka):List zkv×Bool:=if (zmx h).length≤20 then (zmx h,true) else ([],false)
theorem zpl (h:List zka):zlS h h.length=zmx h:=by unfold zlS;rw [qg]
theorem zhR {h:List zka} (hh:zkP h=true):ze1 h=some (itD h):=by
 have h60:=zk8 hh
 unfold ze1 itD
 refine (if_neg (by rw [decide_eq_true_eq];omega)).trans ?_
 have key:=zlm (step:=zcP h) (λ i=>(⟨i,zlS h i.toNat⟩:zfG)) h.length (λ i=>decide (20 < (zlS h (i+1)).length)) (λ _=>(.inl ():Unit⊕zg8)) (.inr ⟨zmx h⟩) (λ i hi _=>?_) ?_
 ·refine zke key ?_
  by_cases h20:(zmx h).length≤20
  ·have hf:zlp (λ i=>decide (20 < (zlS h (i+1)).length)) h.length=none:=znr λ j hj=>by
    have:=zsx (h:=h) (i:=j+1) (j:=h.length) (by omega) (qh _)
    rw [zpl] at this
    simp only [decide_eq_false_iff_not]
    omega
   rw [hf,if_pos h20]
  ·cases hf:zlp (λ i=>decide (20 < (zlS h (i+1)).length)) h.length with
   | some i=>rw [if_neg h20]
   | none =>
    exfalso
    have h0:0 < h.length:=by
     rcases qj h.length with h1 | h1
     ·have:h=[]:=List.length_eq_zero_iff.1 h1
      rw [this] at h20
      simp [zmx] at h20
     ·exact h1
    have:=znu hf (h.length - 1) (by omega)
    rw [show h.length - 1+1=h.length by omega,zpl] at this
    simp only [decide_eq_false_iff_not] at this
    omega
 ·have t:=zsw hh i (by omega)
  obtain ⟨v0,_⟩:=zqn hh hi
  have e1:=wS (i:=i) (by omega)
  unfold zcP
  simp only [qc,e1]
  refine (if_pos (by rw [decide_eq_true_eq];omega)).trans ?_
  refine (zj9 (by omega) _).trans ?_
  refine zke (zjl t hh hi) ?_
  rw [zng hi]
  by_cases h20:(zpO (zlS h i) (nth h i)).length≤20
  ·rw [decide_eq_true h20,decide_eq_false (by omega)]
   refine zke (x:=⟨false⟩) ?_ rfl
   refine (if_neg (by simp)).trans ?_
   refine zke (zg6 _) ?_
   rw [v0]
   rfl
  ·rw [decide_eq_false h20,decide_eq_true (by omega)]
   refine zke (x:=⟨true⟩) ?_ rfl
   exact if_pos rfl
 ·unfold zcP
  simp only [qc,zpl]
  exact if_neg (by simp)
theorem zjA {h:List zka} (hh:zkP h=true) (ho:zls h):zfS h=some (itD h):=by
 have h60:=zk8 hh
 unfold zfS itD
 have key:=zkZ (step:=zcQ h) (λ i c=>(⟨i,c⟩:zfH)) h.length (λ i=>zlS h i) (λ c=>(.inr ⟨c⟩:Unit⊕zg9)) (λ i hi=>?_) ?_
 ·rw [zpl] at key
  refine zke key ?_
  have hg:=zjz (zxb hh) hh (qh _)
  refine zke (x:=⟨!decide ((zmx h).length≤20)⟩) ?_ ?_
  ·refine (if_neg (by rw [decide_eq_true_eq];omega)).trans ?_
   exact zke hg rfl
  ·by_cases h20:(zmx h).length≤20
   ·rw [if_pos h20]
    exact if_neg (by simp [h20])
   ·rw [if_neg h20]
    exact if_pos (by simp [h20])
 ·have t:=zsw hh i (by omega)
  obtain ⟨v0,_⟩:=zqn hh hi
  have hid:=zuj hh hi
  have e1:=wS (i:=i) (by omega)
  have e2:wI ((i:Int) - 1)=(i:Int) - 1:=zkU (by omega)
  unfold zcQ
  simp only [qc,e1,e2]
  refine (if_pos (by rw [decide_eq_true_eq];omega)).trans ?_
  refine (zj9 (by omega) _).trans ?_
  refine zke (x:=⟨false⟩) ?_ ?_
  ·refine zke (zg5 _ (ho.2 _ (zkJ hi)).2.2.2) ?_
   rw [v0]
   refine (if_neg (by simp)).trans ?_
   refine (if_neg (by rw [hid];simp)).trans ?_
   by_cases h0:i=0
   ·exact if_neg (by simp;omega)
   ·refine (if_pos (by simp;omega)).trans ?_
    have et:((i:Int) - 1).toNat=i - 1:=by omega
    rw [et]
    refine (zj9 (by omega) _).trans ?_
    have:=zor hh i (i - 1) (by omega) hi
    rw [decide_eq_false (by omega)]
  ·refine (if_neg (by simp)).trans ?_
   refine zke (zjL t hh hi) ?_
   rw [zng hi]
 ·unfold zcQ
  exact if_neg (by simp)
end Go.TL
set_option maxRecDepth 4000
namespace Go.TL
theorem zsz {l:List zkv} {h:List zka} {n k:Nat} (t:Its l h n) (h60:n≤60) (hk:k < n):zcn l (((k+1:Nat):Int))=some (nth h k).fVe:=by
 have hl:=t.len
 obtain ⟨i,h1,h2,h3⟩:=t.find hk
 unfold zcn zD
 have key:=zlm (step:=zd l (((k+1:Nat):Int))) (λ i=>(⟨i⟩:zu)) l.length (λ i=>decide (((k+1:Nat):Int)≤(nth l i).Upto)) (λ i=>(.inl ⟨i⟩:zat⊕Unit)) (.inr ()) (λ j hj _=>?_) ?_
 ·rw [h1] at key
  refine zke (x:=(i:Int)) (zke key rfl) ?_
  refine (zj9 (by omega) _).trans ?_
  rw [qc,h3]
 ·have e1:=wS (i:=j) (by omega)
  unfold zd
  simp only [qc,e1]
  refine (if_pos (by rw [decide_eq_true_eq];omega)).trans ?_
  refine (zj9 (by omega) _).trans ?_
  have ec:zdL (nth l j) (((k+1:Nat):Int))=some (decide (((k+1:Nat):Int)≤(nth l j).Upto)):=rfl
  refine zke ec ?_
  cases decide (((k+1:Nat):Int)≤(nth l j).Upto)<;>rfl
 ·unfold zd
  exact if_neg (by simp)
def zqX (a b:List zka) (m:Nat):Nat:=match zlp (λ k=>decide ((nth a k).fVe≠(nth b k).fVe)) m with
 | some k=>k
 | none=>m
theorem zBc (a b:List zka) (m:Nat):zqX a b m≤m:=by
 unfold zqX
 cases hf:zlp (λ k=>decide ((nth a k).fVe≠(nth b k).fVe)) m with
 | none=>exact qh _
 | some k=>exact Nat.le_of_lt (zm4 hf).1
theorem zjM {p q:List zkv} {a b:List zka} {n m:Nat} (s:Its p a n) (t:Its q b m) (hn:n≤60) (hm:m≤60):zgh p q=some ((zqX a b (min n m):Nat):Int):=by
 unfold zgh zqX
 have key:=zlm (step:=zdl p q) (λ i=>(⟨i⟩:zf4)) (min n m) (λ k=>decide ((nth a k).fVe≠(nth b k).fVe)) (λ k=>(⟨k⟩:zhp)) ⟨((min n m:Nat):Int)⟩ (λ k hk _=>?_) ?_
 ·refine zke key ?_
  cases zlp (λ k=>decide ((nth a k).fVe≠(nth b k).fVe)) (min n m)<;>rfl
 ·have e1:=wS (i:=k) (by omega)
  unfold zdl
  refine zke (zot s hn) ?_
  refine zke (zot t hm) ?_
  simp only [e1]
  refine (if_pos (by rw [decide_eq_true_eq];omega)).trans ?_
  refine zke (zsz s hn (by omega)) ?_
  refine zke (zsz t hm (by omega)) ?_
  by_cases hv:(nth a k).fVe=(nth b k).fVe
  ·rw [if_pos (by simpa using hv),if_neg (by simp [hv])]
  ·rw [if_neg (by simpa using hv),if_pos (by simp [hv])]
 ·unfold zdl
  refine zke (zot s hn) ?_
  refine zke (zot t hm) ?_
  exact if_neg (by rw [decide_eq_true_eq];show ¬ (((min n m:Nat):Int) < min (n:Int) m);omega)
def zB3 (a b:List zka) (m:Nat):zkv×Bool:=if zqX a b m=0 then (⟨0,0⟩,false) else (⟨((zqX a b m:Nat):Int),(nth a (zqX a b m - 1)).fVe⟩,true)
theorem zjU {p q:List zkv} {a b:List zka} {n m:Nat} (s:Its p a n) (t:Its q b m) (ha:zkP a=true) (hb:zkP b=true) (hn:n≤a.length) (hm:m≤b.length) (hp:p.length≤20) (hq:q.length≤20) :
  zgE p q=some (zB3 a b (min n m)):=by
 have h1:=zk8 ha
 have h2:=zk8 hb
 have hc:=zBc a b (min n m)
 unfold zgE zB3
 refine zke (x:=⟨false⟩) ?_ ?_
 ·refine zke (zgK s ha hn) ?_
  rw [decide_eq_true hp]
  refine (if_neg (by simp)).trans ?_
  refine zke (zgK t hb hm) ?_
  rw [decide_eq_true hq]
  rfl
 refine (if_neg (by simp)).trans ?_
 refine zke (zjM s t (by omega) (by omega)) ?_
 by_cases h0:zqX a b (min n m)=0
 ·rw [if_pos h0,h0]
  rfl
 ·rw [if_neg h0]
  refine (if_neg (by simp;omega)).trans ?_
  have e:((zqX a b (min n m):Nat):Int)=((zqX a b (min n m) - 1+1:Nat):Int):=by omega
  have hv:=zsz s (by omega) (k:=zqX a b (min n m) - 1) (by omega)
  rw [← e] at hv
  exact zke hv rfl
theorem zxc {h:List zka} (hh:zkP h=true):Its (itD h).1 h (if (itD h).2=true then h.length else 0)∧(itD h).1.length≤20:=by
 unfold itD
 by_cases h20:(zmx h).length≤20
 ·rw [if_pos h20]
  exact ⟨zxb hh,h20⟩
 ·rw [if_neg h20]
  exact ⟨zsw hh 0 (Nat.zero_le _),by simp⟩
theorem zj6 (a b:List zka):(zk7 a b).2≤min a.length b.length∧(∀ k,k < (zk7 a b).2→evC (nth a k) (nth b k)=0)∧((zk7 a b).2 < min a.length b.length→evC (nth a (zk7 a b).2) (nth b (zk7 a b).2)≠0):=by
 unfold zk7 zl7
 cases hf:zlp (λ i=>decide (evC (nth a i) (nth b i)≠0)) (min a.length b.length) with
 | some i =>
  obtain ⟨h1,h2,h3⟩:=zm4 hf
  refine ⟨by show i≤_;omega,λ k hk=>?_,λ _=>?_⟩
  ·have:=h3 k hk
   simpa using this
  ·simpa using h2
 | none =>
  have hno:=znu hf
  have hd:∀ d:Int×Nat,(d=if a.length < b.length then ((-1:Int),a.length) else if b.length < a.length then (1,b.length) else (0,a.length))→d.2=min a.length b.length:=λ d hd=>by
   rw [hd]
   split
   ·show a.length=_;omega
   ·split
    ·show b.length=_;omega
    ·show a.length=_;omega
  have he:=hd _ rfl
  simp only at he ⊢
  rw [he]
  refine ⟨qh _,λ k hk=>?_,λ h=>absurd h (Nat.lt_irrefl _)⟩
  have:=hno k hk
  simpa using this
theorem One.com {x y:zkb} {L:List zkB} (o:One x y L) {a b:List zka} (ha:inO x y L a) (hb:inO x y L b):zqX a b (min a.length b.length)=(zk7 a b).2:=by
 obtain ⟨c1,c2,c3⟩:=zj6 a b
 unfold zqX
 cases hf:zlp (λ k=>decide ((nth a k).fVe≠(nth b k).fVe)) (min a.length b.length) with
 | some k =>
  obtain ⟨h1,h2,h3⟩:=zm4 hf
  have h2':(nth a k).fVe≠(nth b k).fVe:=by simpa using h2
  show k=_
  rcases qbi k (zk7 a b).2 with h | h | h
  ·exact absurd ((zmK _ _).1 (c2 k h)).1 h2'
  ·exact h
  ·have h4:=h3 _ h
   have h4':(nth a (zk7 a b).2).fVe=(nth b (zk7 a b).2).fVe:=by simpa using h4
   have:=o.same ha hb (i:=(zk7 a b).2) (by omega) (by omega) h4' _ (qh _)
   exact absurd ((zmK _ _).2 (by rw [this];exact ⟨rfl,rfl,rfl⟩)) (c3 (by omega))
 | none =>
  show min a.length b.length=_
  rcases qbf (zk7 a b).2 (min a.length b.length) with h | h
  ·have h4:=znu hf _ h
   have h4':(nth a (zk7 a b).2).fVe=(nth b (zk7 a b).2).fVe:=by simpa using h4
   have:=o.same ha hb (i:=(zk7 a b).2) (by omega) (by omega) h4' _ (qh _)
   exact absurd ((zmK _ _).2 (by rw [this];exact ⟨rfl,rfl,rfl⟩)) (c3 h)
  ·omega
def zrm (w:zkn):Prop:=∃ x y,w.fRe=[x,y]∧One x y w.Line
theorem zrA {w:zkn} {L:List zkB} {i:Nat} (hi:i < 2) {r:zkb} (o:zrm w) (st:∀ a b,One a b w.Line→nth w.fRe i=a→One r b L):zrm ⟨w.fRe.set i r,L⟩:=by
 obtain ⟨x,y,e,h⟩:=o
 match i,hi with
 | 0,_=>exact ⟨r,y,by rw [e];rfl,st x y h (by rw [e];rfl)⟩
 | 1,_=>exact ⟨x,r,by rw [e];rfl,(st y x h.symm (by rw [e];rfl)).symm⟩
theorem zsA {w:zkn} {L:List zkB} (o:zrm w) (h:∀ s∈L,s∈w.Line):zrm ⟨w.fRe,L⟩:=by
 obtain ⟨x,y,e,h1⟩:=o
 exact ⟨x,y,e,h1.less h⟩
theorem zBd {w:zkn} {i:Nat} (hi:i < 2) (o:zrm w) (t:Int):zrm ⟨w.fRe,w.Line++[⟨t,wd (nth w.fRe i)⟩]⟩:=by
 obtain ⟨x,y,e,h⟩:=o
 match i,hi with
 | 0,_=>exact ⟨x,y,e,by rw [e];exact h.say t⟩
 | 1,_=>exact ⟨x,y,e,by rw [e];exact (h.symm.say t).symm⟩
theorem zAa {w:zkn} (g:GW w) (o:zrm w) (s:zks):zrm (zlH w s).1:=by
 have hl:=g.len
 unfold zlH
 split
 ·unfold zpy
  split
  ·rename_i hk
   have hm:=zqm g hk
   obtain ⟨a,b,c⟩:=g.said _ hm
   have hcut:∀ s'∈zrl w.Line s.K.toNat,s'∈w.Line:=λ s' h=>zw9 h
   split
   ·split
    ·exact o
    ·refine zsA o λ s' h=>?_
     rcases List.mem_append.1 h with h | h
     ·exact h
     ·rw [List.mem_singleton.1 h];exact hm
   ·split
    ·exact zsA o hcut
    ·split
     ·rename_i hh
      exact zrA (by omega) o λ x y h e=>by
       rw [e] at hh ⊢
       exact (h.hear hm hh).less hcut
     ·exact zsA o hcut
  ·exact o
 ·unfold zqW
  split
  ·rename_i hk
   have hi:s.Region.toNat < 2:=by omega
   split
   ·exact zrA hi o λ x y h e=>by rw [e];exact h.callP _ _
   ·split
    ·split
     ·rename_i hn
      exact zrA hi o λ x y h e=>by
       rw [e] at hn ⊢
       exact h.lead hn
     ·exact o
    ·split
     ·split
      ·exact o
      ·exact zBd hi o _
     ·split
      ·split
       ·split
        ·exact o
        ·exact zrA hi o λ x y h e=>by rw [e];exact h.reapP
       ·exact o
      ·exact o
  ·exact o
theorem zvz {l:List zks} (hl:∀ s∈l,zk9 s):∀ i,i≤l.length→zrm (zny l i).1
 | 0,_=>⟨_,_,rfl,One.start⟩
 | i+1,hi=>by
  have h1:=zvz hl i (by omega)
  rw [znU (by omega)]
  exact zAa (zo9 hl i (by omega)).1 h1 _
theorem zAb {c:zkK} {K:Int} (hc:cur c K) (h0:0≤K) (hK:K≤1000):okO (λ r=>(∀ s∈r.1,zk9 s)∧r.1.length≤121) (zaZ c):=by
 unfold zaZ
 refine zn0 hc (by omega) (by omega) λ x1 c1 p1 _ q1 h1=>?_
 have q1:=q1 (by omega)
 refine okO.bind (P:=λ p=>0≤p.t4∧p.t4≤121∧cur ⟨p.b0_0,p.b0_1,p.b0_2⟩ (K+10)) ?_ λ p ⟨m1,m2,m3⟩=>?_
 ·refine zy9 h1 (by omega) (by omega) λ b c2 h2=>okO.ite (λ _=>?_) (λ _=>okO.some ⟨p1,by simp only;omega,h2.up (by omega)⟩)
  refine zn0 h2 (by omega) (by omega) λ x3 c3 p3 _ q3 h3=>?_
  have q3:=q3 (by omega)
  have e:wI (100+x3)=100+x3:=zkU (by omega)
  refine okO.some ⟨by simp only [e];omega,by simp only [e];omega,h3.up (by omega)⟩
 refine okO.bind (P:=λ y=>(∀ s∈y.c1,zk9 s)∧y.c1.length≤121) ?_ λ y hy=>okO.some hy
 refine okO.loop (λ g=>0≤g.t4∧g.t4≤121∧(g.c1.length:Int)+g.t4≤121∧(∀ s∈g.c1,zk9 s)∧cur ⟨g.b0_0,g.b0_1,g.b0_2⟩ (K+10+40 * (121 - g.t4))) (λ g=>g.t4.toNat)
  ⟨m1,m2,by simp;omega,λ s hs=>by simp at hs,m3.up (by simp only;omega)⟩ λ g ⟨g1,g2,g3,g4,g5⟩=>?_
 unfold zbl
 refine okO.ite (λ hc=>?_) (λ hc=>okO.some ⟨g4,by simp only;omega⟩)
 have hc':g.t4 > 0:=by simpa using hc
 have hw:wI (g.t4 - 1)=g.t4 - 1:=zkU (by omega)
 refine zw4 g5 (by omega) (by simp) λ y1 c1 hy1 k1=>?_
 refine zn0 k1 (by omega) (by omega) λ y2 c2 p2 _ q2 k2=>?_
 have q2:=q2 (by omega)
 refine zw4 k2 (by omega) (by simp) λ y3 c3 hy3 k3=>?_
 refine zB2 k3 (by omega) λ y4 c4 hy4 k4=>?_
 refine zn0 k4 (by omega) (by omega) λ y5 c5 p5 _ q5 k5=>?_
 have q5:=q5 (by omega)
 refine okO.bind (P:=λ p=>zl6 p.b2_2∧cur ⟨p.b0_0,p.b0_1,p.b0_2⟩ (K+10+40 * (121 - g.t4)+14)) ?_ λ p ⟨z1,z2⟩=>?_
 ·exact zy9 k5 (by omega) (by omega) λ b c6 k6=>okO.ite (λ _=>okO.some ⟨(⟨by omega,by omega⟩:zl6 6),k6.up (by omega)⟩) (λ _=>okO.some ⟨zw5 (by decide) hy3,k6.up (by omega)⟩)
 refine zy9 z2 (by omega) (by omega) λ b c7 k7=>okO.ite (λ _=>?_) (λ _=>?_)
 ·refine zn0 k7 (by omega) (by omega) λ a1 d1 r1 _ s1 j1=>?_
  have s1:=s1 (by omega)
  refine zn0 j1 (by omega) (by omega) λ a2 d2 r2 _ s2 j2=>?_
  have s2:=s2 (by omega)
  refine zn0 j2 (by omega) (by omega) λ a3 d3 r3 _ s3 j3=>?_
  have s3:=s3 (by omega)
  refine zn0 j3 (by omega) (by omega) λ a4 d4 r4 _ s4 j4=>?_
  have s4:=s4 (by omega)
  have w1:wI (a1 - 1)=a1 - 1:=zkU (by omega)
  have w2:wI (a2 - 1)=a2 - 1:=zkU (by omega)
  have w4:wI (a4 - 1)=a4 - 1:=zkU (by omega)
  refine okO.guard (by omega) (okO.some ?_)
  simp only [hw,w1,w2,w4]
  refine ⟨⟨by omega,by omega,by rw [qM,qd];omega,λ s hs=>?_,j4.up (by omega)⟩,by omega⟩
  rcases List.mem_append.1 hs with hs | hs
  ·exact g4 s hs
  ·rw [List.mem_singleton.1 hs]
   exact ⟨(⟨by simp only;omega,by simp only;omega⟩:zl6 _),(⟨by simp only;omega,by simp only;omega⟩:zl6 _),(⟨by simp only;omega,by simp only;omega⟩:zl6 _),zvo (show (⟨#[65]⟩:ByteArray).size≤100 by decide),(⟨by simp only;omega,by simp only;omega⟩:zl6 _)⟩
 ·refine okO.guard (by omega) (okO.some ?_)
  simp only [hw]
  refine ⟨⟨by omega,by omega,by rw [qM,qd];omega,λ s hs=>?_,k7.up (by omega)⟩,by omega⟩
  rcases List.mem_append.1 hs with hs | hs
  ·exact g4 s hs
  ·rw [List.mem_singleton.1 hs]
   exact ⟨zw5 (by decide) hy1,(⟨by simp only;omega,by simp only;omega⟩:zl6 _),z1,zvo hy4,(⟨by simp only;omega,by simp only;omega⟩:zl6 _)⟩
theorem zAc {code:List Int} (h:∀ y∈code,0≤y∧y≤255):∃ l,zaV code=some l∧(∀ s∈l,zk9 s):=by
 have key:okO (λ l=>∀ s∈l,zk9 s) (zaV code):=by
  unfold zaV
  exact okO.bind (zAb (zEL h) (by omega) (by omega)) λ r hr=>okO.some hr.1
 exact key
end Go.TL

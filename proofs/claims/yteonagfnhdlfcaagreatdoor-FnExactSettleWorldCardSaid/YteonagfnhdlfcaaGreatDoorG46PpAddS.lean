import Derived.Test.YteonagfnhdlfcaaGreatDoorG28PpOrd
import Derived.Test.YteonagfnhdlfcaaGreatDoorG29PlR5C
import Derived.Test.YteonagfnhdlfcaaGreatDoorG27PpDeep
import Derived.Test.YteonagfnhdlfcaaGreatDoorG45PpMerge
open List renaming length_append → qM, length_cons → qP, length_singleton → qe, take_length → qf, length_take → qg, all_eq_true → qi, getElem_append_left → qj, mem_cons_of_mem → qk, take_zero → ql, getElem_of_mem → qm, length_filter_le → qo, getElem_mem → qp, mem_of_mem_take → qq, pairwise_iff_getElem → qr, nil_append → qu, foldl_append → qx, prefix_refl → qz
open Option renaming bind_some → qa, isSome_some → qw
open Bool renaming false_eq_true → qb, not_true → qd, and_eq_true → qh, true_and → qn, not_eq_false → qy, not_false → qba
open Int renaming toNat_natCast → qc
open Nat renaming le_trans → qt, le_refl → qv
set_option linter.unusedSimpArgs false
set_option linter.unusedVariables false
noncomputable section
set_option maxRecDepth 4000
namespace Go.TL
def zr1 (l:List BranchT):Prop:=∀ i,i < l.length→(nth l i).fEv.length≤1000
theorem zn8 (l:List EventT) (h:l.length≤1000):zq l=some l:=by
 unfold zq
 rw [zlb (by omega),qu]
theorem zAL (l:List BranchT) (h:List EventT) (hl:l.length≤1000) (hs:zr1 l) (hh:h.length≤1000):∀ (r:List BranchT) (i:Nat) (put:Bool) (c:List BranchT),l.drop i=r→i≤l.length→c.length≤2 * i →
  ∃ put' c',zln (zdb l h) ⟨put,(i:Int),c⟩=some ⟨put',c'⟩∧(if put'=true then c' else c'++[⟨h⟩])=c++zo0 h r put∧c'.length≤2 * l.length:=by
 intro r
 induction r with
 | nil =>
  intro i put c hd hi hc
  have e:=zrl hd hi
  refine ⟨put,c,zly ?_,?_,by omega⟩
  ·unfold zdb
   dsimp only
   rw [if_neg (by rw [decide_eq_true_eq];omega)]
  ·unfold zo0
   cases put<;>simp
 | cons b r ih =>
  intro i put c hd hi hc
  obtain ⟨hlt,hb,hr⟩:=zqj hd
  have hbs:b.fEv.length≤1000:=by rw [← hb];exact hs i hlt
  have e1:wI ((i:Int)+1)=((i+1:Nat):Int):=by rw [zls (by omega)];omega
  have ebb:(⟨b.fEv⟩:BranchT)=b:=rfl
  have hstep:zdb l h ⟨put,(i:Int),c⟩=some (.inl (if zlW b.fEv h=true then ⟨put,((i+1:Nat):Int),c⟩ else if ((zmo b.fEv h).1 > 0∧put=false) then ⟨true,((i+1:Nat):Int),(c++[⟨h⟩])++[b]⟩ else ⟨put,((i+1:Nat):Int),c++[b]⟩)):=by
   unfold zdb
   simp only [qc,hb,e1]
   rw [if_pos (by rw [decide_eq_true_eq];omega),zlb (by omega),zcP _ _ (by omega) (by omega)]
   simp only [qa]
   cases hbg:zlW b.fEv h
   ·rw [if_neg (by simp),if_neg (by simp),zcl _ _ (by omega) (by omega)]
    simp only [qa,zn8 _ hh,zn8 _ hbs,ebb]
    by_cases hc1:(zmo b.fEv h).1 > 0
    ·rw [if_pos (decide_eq_true hc1)]
     cases put
     ·simp only [qa,qba,if_true]
      rw [zlb (by omega),zlb (by omega),if_pos ⟨hc1,trivial⟩]
     ·simp only [qa,qd,qb,if_false]
      rw [zlb (by omega),if_neg (by simp)]
    ·rw [if_neg (by simpa using hc1)]
     simp only [qa,qb,if_false]
     rw [zlb (by omega),if_neg (λ h=>hc1 h.1)]
   ·rw [if_pos rfl,if_pos rfl]
  rw [zl4 hstep]
  unfold zo0
  by_cases hbg:zlW b.fEv h=true
  ·rw [if_pos hbg,if_pos hbg]
   exact ih (i+1) put c hr (by omega) (by omega)
  ·rw [if_neg hbg,if_neg hbg]
   by_cases hc1:(zmo b.fEv h).1 > 0∧put=false
   ·rw [if_pos hc1,if_pos hc1]
    obtain ⟨p',c',g1,g2,g3⟩:=ih (i+1) true ((c++[⟨h⟩])++[b]) hr (by omega) (by simp only [qM,qe];omega)
    exact ⟨p',c',g1,by rw [g2];simp,g3⟩
   ·rw [if_neg hc1,if_neg hc1]
    obtain ⟨p',c',g1,g2,g3⟩:=ih (i+1) put (c++[b]) hr (by omega) (by simp only [qM,qe];omega)
    exact ⟨p',c',g1,by rw [g2];simp,g3⟩
def znq (l:List BranchT) (h:List EventT):List BranchT:=if (l.any λ b=>zlW h b.fEv)=true then l else zo0 h l false
theorem zkR (l:List BranchT) (h:List EventT) (hl:l.length≤1000) (hs:zr1 l) (hh:h.length≤1000):zgx l h=some (znq l h):=by
 unfold zgx znq
 have key:=zmN (step:=zb6 l h) (λ i=>(⟨i⟩:zgb)) l.length (λ i=>zlW h (nth l i).fEv) (λ _=>(.inl ():Unit⊕Unit)) (.inr ()) (λ i hi hv=>?_) ?_
 ·have e:zln (zb6 l h) ⟨0⟩=some (if (l.any λ b=>zlW h b.fEv)=true then .inl () else .inr ()):=by
   rw [key]
   have:=znC l λ b=>zlW h b.fEv
   cases hf:zm2 (λ i=>zlW h (nth l i).fEv) l.length with
   | none=>rw [hf] at this;rw [← this];rfl
   | some k=>rw [hf] at this;rw [← this];rfl
  rw [e]
  simp only [qa]
  cases l.any λ b=>zlW h b.fEv
  ·simp only [qb,if_false]
   obtain ⟨p',c',g1,g2,g3⟩:=zAL l h hl hs hh l 0 false [] rfl (by omega) (by simp)
   have e0:((0:Nat):Int)=0:=rfl
   rw [e0] at g1
   rw [g1]
   simp only [qa,zn8 _ hh]
   rw [qu] at g2
   rw [← g2]
   cases p'
   ·rw [if_pos (by rfl),zlb (by omega)];rfl
   ·rfl
  ·rfl
 ·unfold zb6
  have hi':i < l.length:=hi
  have hbs:=hs i hi'
  have e1:wI ((i:Int)+1)=((i+1:Nat):Int):=by rw [zls (by omega)];omega
  simp only [qc,e1]
  rw [if_pos (by rw [decide_eq_true_eq];omega),zlb (by omega),zcP _ _ (by omega) (by omega)]
  simp only [qa]
  cases zlW h (nth l i).fEv<;>rfl
 ·unfold zb6
  dsimp only
  rw [if_neg (by simp)]
theorem zeZ (t:TellingsT) (hl:t.fBr.length≤1000) (hs:zr1 t.fBr):zbt t=some t:=by
 unfold zbt
 have key:=zmp (step:=zdc t) (λ i c=>(⟨i,c⟩:zgc)) t.fBr.length (λ i=>t.fBr.take i) (λ c=>(⟨c⟩:zhN)) (λ i hi=>?_) ?_
 ·simp only [ql,qf] at key
  rw [key];rfl
 ·have ht:(t.fBr.take i).length=i:=by rw [qg];omega
  have e1:wI ((i:Int)+1)=((i+1:Nat):Int):=by rw [zls (by omega)];omega
  unfold zdc
  simp only [qc,e1,← zmD hi]
  rw [if_pos (by rw [decide_eq_true_eq];omega),zlb (by omega),zn8 _ (hs i hi)]
  simp only [qa]
  rw [zlb (by omega)]
 ·unfold zdc
  dsimp only
  rw [if_neg (by simp)]
theorem zAM (h:List EventT) (l:List BranchT):(zo0 h l false).length≤l.length+1:=by
 have h1:=(zmO h l).length_eq
 have h2:=qo (λ b:BranchT=>!zlW b.fEv h) l
 unfold zmX at h1
 rw [qM,qe] at h1
 omega
theorem zp9 (l:List BranchT) (h:List EventT):(znq l h).length≤l.length+1:=by
 unfold znq
 split
 ·omega
 ·exact zAM h l
theorem zty {l:List BranchT} {h:List EventT} {b:BranchT} (hb:b∈znq l h):b∈l∨b=⟨h⟩:=by
 unfold znq at hb
 split at hb
 ·exact .inl hb
 ·rcases List.mem_append.1 ((zmO h l).mem_iff.1 hb) with e | e
  ·exact .inl (List.mem_filter.1 e).1
  ·exact .inr (List.mem_singleton.1 e)
theorem zye {x y:List EventT} (h:zlW y x=true):0≤(zmo x y).1:=by
 unfold zlW at h
 rw [decide_eq_true_eq,zwk] at h
 cases hf:znd x y with
 | some i =>
  rw [hf] at h
  unfold znd at hf
  have:=(zrm hf).1
  simp only at h
  omega
 | none =>
  rw [hf] at h
  simp only at h
  unfold zmo
  rw [hf]
  simp only
  rw [if_neg (by omega)]
  split<;>simp
theorem zzl {h:List EventT} (hh:zml h=true):zlW h h=true:=(zp6 hh hh).2 ⟨qv _,λ _ _=>rfl⟩
theorem zwB {b h:List EventT} (hb:zml b=true) (hh:zml h=true) (hn:zlW b h=false):(zmo b h).1≠0:=λ e=>by
 have:=(zwm hb hh).1 e
 rw [this,zzl hh] at hn
 cases hn
theorem zr2 (l:List BranchT):zl5 ⟨l⟩=true↔l.length≤12∧(∀ b∈l,zm8 b.fEv=true)∧l.Pairwise λ a b=>brL a b=true∧zlW a.fEv b.fEv=false:=by
 unfold zl5
 simp only [qh,decide_eq_true_eq,zmf,Bool.not_eq_true']
 constructor
 ·rintro ⟨h1,h2⟩
  refine ⟨h1,λ b hb=>?_,?_⟩
  ·obtain ⟨i,hi,rfl⟩:=qm hb
   have:=(h2 i hi).1
   rwa [zlT hi] at this
  ·rw [qr]
   intro k i hk hi hki
   have:=(h2 i hi).2 k hki
   rw [zlT hk,zlT hi] at this
   exact ⟨zqr.2 this.1,this.2⟩
 ·rintro ⟨h1,h2,h3⟩
  refine ⟨h1,λ i hi=>⟨?_,λ k hk=>?_⟩⟩
  ·rw [zlT hi];exact h2 _ (qp _)
  ·have:=List.pairwise_iff_getElem.1 h3 k i (by omega) hi hk
   rw [zlT (show k < l.length by omega),zlT hi]
   exact ⟨zqr.1 this.1,this.2⟩
def zpn (l:List BranchT):Prop:=(∀ b∈l,zm8 b.fEv=true)∧l.Pairwise λ a b=>brL a b=true∧zlW a.fEv b.fEv=false
theorem ztz {l:List BranchT} (h:zpn l):zl5 ⟨l⟩=decide (l.length≤12):=by
 by_cases h1:l.length≤12
 ·rw [(zr2 l).2 ⟨h1,h⟩];simp [h1]
 ·cases hg:zl5 ⟨l⟩
  ·simp [h1]
  ·exact absurd ((zr2 l).1 hg).1 h1
theorem zsN {l:List BranchT} {h:List EventT} (hl:zpn l) (hh:zm8 h=true):zpn (znq l h):=by
 unfold znq
 split
 ·exact hl
 ·rename_i ha
  have hno:∀ b∈l,zlW h b.fEv=false:=λ b hb=>by
   cases e:zlW h b.fEv
   ·rfl
   ·exact absurd (List.any_eq_true.2 ⟨b,hb,e⟩) ha
  refine ⟨λ b hb=>?_,?_⟩
  ·rcases List.mem_append.1 ((zmO h l).mem_iff.1 hb) with e | e
   ·exact hl.1 b (List.mem_filter.1 e).1
   ·rw [List.mem_singleton.1 e];exact hh
  ·have hasc:=zrr h l (hl.2.imp λ h=>h.1) λ b hb hn=>zwB (zlL (hl.1 b hb)) (zlL hh) hn
   have hS:l.Pairwise λ a b=>zlW a.fEv b.fEv=false∧zlW b.fEv a.fEv=false:=hl.2.imp λ {a b} ⟨h1,h2⟩=>⟨h2,by
    cases e:zlW b.fEv a.fEv
    ·rfl
    ·have:=zye e
     have:=zqr.1 h1
     omega⟩
   have hS2:(zmX h l++[(⟨h⟩:BranchT)]).Pairwise λ a b=>zlW a.fEv b.fEv=false∧zlW b.fEv a.fEv=false:=by
    rw [List.pairwise_append]
    refine ⟨hS.filter _,by simp,λ a ha b hb=>?_⟩
    rw [List.mem_singleton.1 hb]
    have ha':=List.mem_filter.1 ha
    exact ⟨by simpa using ha'.2,hno a ha'.1⟩
   have hS3:=((zmO h l).pairwise_iff (R:=λ a b:BranchT=>zlW a.fEv b.fEv=false∧zlW b.fEv a.fEv=false) λ h=>⟨h.2,h.1⟩).2 hS2
   exact (hasc.and hS3).imp λ ⟨a,b⟩=>⟨a,b.1⟩
theorem zmh {t:TellingsT} (h:zl5 t=true):zpn t.fBr:=((zr2 t.fBr).1 h).2
theorem zAN {l:List BranchT} {h:List EventT} (hl:znn l) (hn:l.length≤1000) (hh:zmB h):zlF ⟨znq l h⟩:=by
 refine ⟨by have:=zp9 l h;show (znq l h).length≤_;omega,λ y hy=>?_⟩
 rcases zty hy with e | e
 ·exact hl.2 y e
 ·rw [e];exact hh
end Go.TL
set_option maxRecDepth 4000
namespace Go.TL
def zq2 (l:List BranchT):Prop:=l.length≤1000∧zr1 l
theorem zqs {t:TellingsT} (h:zAk t):zq2 t.fBr:=⟨by have:=h.1;omega,λ i hi=>by have:=h.2 i hi;omega⟩
theorem zrs {l:List BranchT} (h:zpn l) (hl:l.length≤1000):zq2 l:=⟨hl,λ i hi=>by
 have:=zm3 (zlL (h.1 (nth l i) (by rw [zlT hi];exact qp _)))
 omega⟩
theorem zn9 (t:TellingsT) (h:zq2 t.fBr):zY t=some t:=by
 unfold zY
 have key:=zmp (step:=zaw t) (λ i c=>(⟨i,c⟩:zcE)) t.fBr.length (λ i=>t.fBr.take i) (λ c=>(⟨c⟩:zgj)) (λ i hi=>?_) ?_
 ·simp only [ql,qf] at key
  rw [key];rfl
 ·have hl:=h.1
  have he:=h.2 i hi
  have ht:(t.fBr.take i).length=i:=by rw [qg];omega
  have e1:wI ((i:Int)+1)=((i+1:Nat):Int):=by rw [zls (by omega)];omega
  unfold zaw zh
  simp only [qc,e1,← zmD hi]
  rw [if_pos (by rw [decide_eq_true_eq];omega),zlb (by omega),zlb (by omega)]
  simp only [qa]
  rw [zlb (by rw [ht];omega)]
 ·unfold zaw
  dsimp only
  rw [if_neg (by simp)]
theorem zxA (l:List BranchT) (h:List EventT) (hl:l.length≤1000) (hb:∀ b∈l,zm8 b.fEv=true) (hh:zm8 h=true) :
  zn l h=some (l.any λ b=>zlW h b.fEv):=by
 unfold zn zK
 have key:=zmN (step:=zg l h) (λ i=>(⟨i⟩:zB)) l.length (λ i=>zlW h (nth l i).fEv)
  (λ i=>(.inl ⟨i⟩:zaB⊕Unit)) (.inr ()) (λ i hi hv=>?_) ?_
 ·rw [key]
  have:=znC l λ b=>zlW h b.fEv
  cases hf:zm2 (λ i=>zlW h (nth l i).fEv) l.length with
  | none=>rw [hf] at this;rw [← this];rfl
  | some k =>
   rw [hf] at this
   rw [← this]
   simp
 ·unfold zg zfP
  have hi':i < l.length:=hi
  have hbi:=hb (nth l i) (by rw [zlT hi'];exact qp _)
  have e1:wI ((i:Int)+1)=((i+1:Nat):Int):=by rw [zls (by omega)];omega
  simp only [qc,e1]
  rw [if_pos (by rw [decide_eq_true_eq];omega),zlb (by omega),zha _ _ (zlL hh) (zlL hbi)]
  simp only [qa]
  cases zlW h (nth l i).fEv<;>rfl
 ·unfold zg
  dsimp only
  rw [if_neg (by simp)]
theorem zht (t:TellingsT) (h:List EventT) (ht:zpn t.fBr) (hl:t.fBr.length≤900) (hh:zm8 h=true):zcg t h=some ⟨znq t.fBr h⟩:=by
 have hm:=zrs ht (by omega)
 have hhl:=zm3 (zlL hh)
 unfold zcg
 rw [zn9 _ hm]
 simp only [qa]
 rw [zxA _ _ hm.1 ht.1 hh]
 simp only [qa]
 unfold znq
 cases ha:t.fBr.any λ b=>zlW h b.fEv
 rotate_left
 ·rfl
 simp only [qb,if_false]
 have hc:∀ b∈t.fBr,zaX b h=some (zlW b.fEv h):=λ b hb=>by
  unfold zaX
  rw [zha _ _ (zlL (ht.1 b hb)) (zlL hh)]
  rfl
 have e1:zO t.fBr h=some (zmX h t.fBr):=by
  unfold zO zmX
  have hal:(t.fBr.all λ b=>(zaX b h).isSome)=true:=by
   rw [qi]
   intro b hb
   rw [hc b hb]
   rfl
  rw [zlb ⟨by omega,hal⟩]
  refine congrArg some (List.filter_congr λ b hb=>?_)
  rw [hc b hb]
  rfl
 rw [e1]
 simp only [qa]
 have hll:=qo (λ b:BranchT=>!zlW b.fEv h) t.fBr
 change (zmX h t.fBr).length≤_ at hll
 unfold zh
 rw [zlb (by omega)]
 simp only [qa]
 rw [zlb (by omega)]
 have hno:∀ b∈t.fBr,zlW h b.fEv=false:=λ b hb=>by
  cases e:zlW h b.fEv
  ·rfl
  ·have:(t.fBr.any λ b=>zlW h b.fEv)=true:=List.any_eq_true.2 ⟨b,hb,e⟩
   rw [this] at ha;cases ha
 have hne:∀ b∈t.fBr,zlW b.fEv h=false→(zmo b.fEv h).1≠0:=λ b hb hn=>zwB (zlL (ht.1 b hb)) (zlL hh) hn
 have hlt:t.fBr.Pairwise λ a b=>brL a b=true:=ht.2.imp λ h=>h.1
 have hapt:zv9 brL (zmX h t.fBr++[(⟨h⟩:BranchT)])=true:=by
  refine zpZ.2 ?_
  have h1:=zrr h t.fBr hlt hne
  exact ((zmO h t.fBr).pairwise_iff (R:=λ a b:BranchT=>brL a b=true∨brL b a=true) λ h=>h.symm).1 (h1.imp λ h=>.inl h)
 have e2:zS (zmX h t.fBr++[(⟨h⟩:BranchT)])=some (zo0 h t.fBr false):=by
  unfold zS
  have hal:((zmX h t.fBr++[(⟨h⟩:BranchT)]).all λ b=>decide (b.fEv.length≤1000))=true:=by
   rw [qi]
   intro b hb
   rw [decide_eq_true_eq]
   rcases List.mem_append.1 hb with e | e
   ·have:=zm3 (zlL (ht.1 b (List.mem_filter.1 e).1))
    omega
   ·rw [List.mem_singleton.1 e]
    show h.length≤1000
    omega
  rw [zlb ⟨by simp only [qM,qe];omega,hal,hapt⟩]
  refine congrArg some (zy7 h t.fBr hlt hne (zpv brL _) ?_)
  refine (zrM znU hapt).imp λ {a b} hab=>?_
  cases e:brL b a
  ·rfl
  ·have:=znU _ _ _ hab e
   rw [zsL] at this
   cases this
 rw [e2]
 simp only [qa]
 rw [zlb (by have:=(zmO h t.fBr).length_eq;simp only [qM,qe] at this;exact this)]
theorem zyf {t:TellingsT} (h:zl5 t=true):t.fBr.length≤12∧zpH t.fBr≤4000:=by
 have h12:=zl7 h
 refine ⟨h12,?_⟩
 have:zm6 znX t.fBr≤250 * t.fBr.length:=zxk λ b hb=>by
  obtain ⟨i,hi,rfl⟩:=qm hb
  have:=zm3 (zlL (zno h hi))
  rw [zlT hi] at this
  unfold znX
  omega
 unfold zpH
 omega
def zm5 (l:List BranchT) (m:List BranchT):List BranchT:=m.foldl (λ l x=>znq l x.fEv) l
theorem znY:∀ {m l:List BranchT},zpn l→(∀ x∈m,zm8 x.fEv=true)→zpn (zm5 l m)
 | [],l,h,_=>h
 | x :: m,l,h,hm=>znY (m:=m) (l:=znq l x.fEv) (zsN h (hm x (by simp))) λ y hy=>hm y (qk _ hy)
theorem zvn:∀ (m l:List BranchT),(zm5 l m).length≤l.length+m.length
 | [],l=>by simp [zm5]
 | x :: m,l=>by
  have:=zvn m (znq l x.fEv)
  have:=zp9 l x.fEv
  show (zm5 (znq l x.fEv) m).length≤_
  simp only [qP]
  omega
theorem zAO {m l:List BranchT} (hl:znn l) (hm:znn m) (h:l.length+m.length≤1000):znn (zm5 l m):=by
 induction m generalizing l with
 | nil=>exact hl
 | cons x m ih =>
  simp only [qP] at h
  have h1:=hm.2 x (by simp)
  refine ih (l:=znq l x.fEv) (zAN hl (by omega) h1) ⟨by omega,λ y hy=>hm.2 y (qk _ hy)⟩ ?_
  have:=zp9 l x.fEv
  omega
theorem zwC {l m:List BranchT} {i:Nat} (h:i < m.length):zm5 l (m.take (i+1))=znq (zm5 l (m.take i)) (nth m i).fEv:=by
 rw [← zmD h]
 unfold zm5
 rw [qx]
 rfl
theorem zj4 (a b:TellingsT) (ha:zpn a.fBr) (hb:∀ x∈b.fBr,zm8 x.fEv=true) (hl:a.fBr.length+b.fBr.length≤900):zft a b=some ⟨zm5 a.fBr b.fBr⟩:=by
 have hsm:∀ i,zpn (zm5 a.fBr (b.fBr.take i))∧(zm5 a.fBr (b.fBr.take i)).length≤900:=λ i=>by
  refine ⟨znY ha λ x hx=>hb x (qq hx),?_⟩
  have:=zvn (b.fBr.take i) a.fBr
  have:(b.fBr.take i).length≤b.fBr.length:=by rw [qg];omega
  omega
 unfold zft
 have key:=zmp (step:=zb7 b) (λ i c=>(⟨c,i⟩:zfd)) b.fBr.length (λ i=>zm5 a.fBr (b.fBr.take i)) (λ c=>(⟨c⟩:zhk)) (λ i hi=>?_) ?_
 ·have e0:zm5 a.fBr (b.fBr.take 0)=a.fBr:=rfl
  rw [e0,qf] at key
  rw [key]
  simp only [qa]
  have h2:=hsm b.fBr.length
  rw [qf] at h2
  have h3:=zrs h2.1 (by omega)
  rw [zeZ ⟨zm5 a.fBr b.fBr⟩ h3.1 h3.2]
  rfl
 ·have h2:=hsm i
  have h3:=zrs h2.1 (by omega)
  have h4:=zm3 (zlL (hb (nth b.fBr i) (by rw [zlT hi];exact qp _)))
  have e1:wI ((i:Int)+1)=((i+1:Nat):Int):=by rw [zls (by omega)];omega
  unfold zb7
  simp only [qc,e1,zwC hi]
  rw [if_pos (by rw [decide_eq_true_eq];omega),zlb (by omega),zkR _ _ h3.1 h3.2 (by omega)]
  rfl
 ·unfold zb7
  dsimp only
  rw [if_neg (by simp)]
def zzm (a b:TellingsT):TellingsT×Bool:=if (zl5 a && zl5 b && decide ((zm5 a.fBr b.fBr).length≤12))=true then (⟨zm5 a.fBr b.fBr⟩,true) else (⟨[]⟩,false)
theorem zio (a b:TellingsT) (ha:zlF a) (hb:zlF b):zcn a b=some (zzm a b):=by
 unfold zcn zzm
 rw [zc6 _ ha]
 simp only [qa]
 cases hg:zl5 a
 ·simp
 rw [zc6 _ hb]
 simp only [qa]
 cases hg2:zl5 b
 ·simp
 have h1:=zl7 hg
 have h2:=zl7 hg2
 have hr:=znY (zmh hg) (zmh hg2).1
 simp only [qd,qb,if_false,qa]
 rw [zj4 _ _ (zmh hg) (zmh hg2).1 (by omega)]
 simp only [qa]
 rw [zc6 ⟨zm5 a.fBr b.fBr⟩ (zAO ha hb (by omega)),ztz hr]
 simp only [qa,qn]
 by_cases hc:(zm5 a.fBr b.fBr).length≤12
 ·simp [hc]
 ·simp [hc]
theorem zip (a b:TellingsT) (ha:zlF a) (hb:zlF b):zco a b=some (zzm a b):=by
 unfold zco zzm
 rw [zfc _ ha]
 simp only [qa]
 cases hg:zl5 a
 ·simp
 rw [zfc _ hb]
 simp only [qa]
 cases hg2:zl5 b
 ·simp
 have h1:=zl7 hg
 have h2:=zl7 hg2
 have hr:=znY (zmh hg) (zmh hg2).1
 simp only [qd,qb,if_false,qa]
 rw [zn9 _ (zqs (zoP hg))]
 simp only [qa]
 have key:=zmp (step:=zax b) (λ i c=>(⟨i,c⟩:zcH)) b.fBr.length (λ i=>zm5 a.fBr (b.fBr.take i)) (λ c=>(⟨c⟩:zgk)) (λ i hi=>?_) ?_
 ·have e0:zm5 a.fBr (b.fBr.take 0)=a.fBr:=rfl
  rw [e0,qf] at key
  rw [key]
  simp only [qa,qn]
  by_cases hc:(zm5 a.fBr b.fBr).length≤12
  ·rw [if_neg (by simp;omega),if_pos (by simpa using hc)]
  ·rw [if_pos (by simp;omega),if_neg (by simpa using hc)]
 ·have h3:=znY (zmh hg) (m:=b.fBr.take i) λ x hx=>(zmh hg2).1 x (qq hx)
  have h4:=zvn (b.fBr.take i) a.fBr
  have h5:(b.fBr.take i).length≤b.fBr.length:=by rw [qg];omega
  have e1:wI ((i:Int)+1)=((i+1:Nat):Int):=by rw [zls (by omega)];omega
  unfold zax
  simp only [qc,e1,zwC hi]
  rw [if_pos (by rw [decide_eq_true_eq];omega),zlb (by omega),zht ⟨zm5 a.fBr (b.fBr.take i)⟩ _ h3 (by simp only;omega) (zno hg2 hi)]
  rfl
 ·unfold zax
  dsimp only
  rw [if_neg (by simp)]
def zlH (r:RegionT) (w:WordT):RegionT×Bool:=if (zlZ r && zlZ ⟨0,w.fVe,w.fTe⟩ && decide ((zm5 r.fTe.fBr w.fTe.fBr).length≤12))=true then (⟨r.Id,max r.fVe w.fVe,⟨zm5 r.fTe.fBr w.fTe.fBr⟩⟩,true) else (⟨0,0,⟨[]⟩⟩,false)
end Go.TL
set_option maxRecDepth 4000
namespace Go.TL
theorem ztA (e:EventT):∀ (l:List EventT) (s:zlm) (n:Nat),(zms l s n).2=n+l.length →
  zms (l++[e]) s n=match zlQ (zms l s n).1 e with
   | some t=>(t,n+l.length+1)
   | none=>zms l s n
 | [],s,n,_=>by
  show (match zlQ s e with | some t=>zms [] t (n+1) | none=>(s,n))=(match zlQ s e with | some t=>(t,n+0+1) | none=>(s,n))
  cases zlQ s e<;>rfl
 | x :: l,s,n,h=>by
  unfold zms at h
  cases ha:zlQ s x with
  | none=>rw [ha] at h;simp only [qP] at h;omega
  | some u =>
   rw [ha] at h
   have ih:=ztA e l u (n+1) (by simp only [qP] at h;omega)
   have e1:zms (x :: l) s n=zms l u (n+1):=by conv=>lhs;unfold zms;rw [ha]
   have e2:zms (x :: l++[e]) s n=zms (l++[e]) u (n+1):=by
    show zms (x :: (l++[e])) s n=_
    conv=>lhs;unfold zms;rw [ha]
   rw [e1,e2,ih]
   simp only [qP]
   rw [show n+1+l.length+1=n+(l.length+1)+1 by omega]
theorem zAP {l:List EventT} {e:EventT} (h:zxj l=true) (hv:l=[]∨zmA l≤e.fVe):zxj (l++[e])=true:=by
 unfold zxj at h ⊢
 rw [zmf] at h ⊢
 intro i hi
 rw [qM,qe] at hi
 by_cases hlt:i < l.length
 ·have:=h i hlt
  have e1:nth (l++[e]) i=nth l i:=by rw [zlT (by simp;omega),zlT hlt,qj hlt]
  by_cases h0:i=0
  ·simp [h0]
  ·have e2:nth (l++[e]) (i - 1)=nth l (i - 1):=by rw [zlT (by simp;omega),zlT (show i - 1 < l.length by omega),qj (by omega)]
   rw [e1,e2]
   exact this
 ·have hi':i=l.length:=by omega
  subst hi'
  by_cases h0:l.length=0
  ·simp [h0]
  ·have e1:nth (l++[e]) l.length=e:=by rw [zlT (by simp)];simp
   have e2:nth (l++[e]) (l.length - 1)=nth l (l.length - 1):=by rw [zlT (by simp;omega),zlT (show l.length - 1 < l.length by omega),qj (by omega)]
   rw [e1,e2]
   have hv':zmA l≤e.fVe:=hv.resolve_left λ h=>h0 (by rw [h];rfl)
   unfold zmA at hv'
   simp only [Bool.or_eq_true,decide_eq_true_eq,Bool.not_eq_true',decide_eq_false_iff_not]
   exact .inr (by omega)
theorem zq3 {l:List EventT}:zml l=true↔zxj l=true∧(zlX l).2=l.length∧l.length≤60:=by
 unfold zml
 simp only [qh,decide_eq_true_eq]
 exact ⟨λ h=>⟨h.1.1,h.1.2,h.2⟩,λ h=>⟨⟨h.1,h.2.1⟩,h.2.2⟩⟩
theorem zzn {l:List EventT} {e:EventT} {t:zlm} (h:zml l=true) (ha:zlQ (zlX l).1 e=some t) (hl:l.length < 60) (hv:l=[]∨zmA l≤e.fVe) :
  zml (l++[e])=true∧(zlX (l++[e])).1=t:=by
 obtain ⟨h1,h2,h3⟩:=zq3.1 h
 have h2':(zms l zsr 0).2=0+l.length:=by have:=h2;unfold zlX at this;omega
 have hs:=ztA e l zsr 0 h2'
 have ha':zlQ (zms l zsr 0).1 e=some t:=ha
 rw [ha'] at hs
 simp only at hs
 have hf:zlX (l++[e])=(t,0+l.length+1):=hs
 refine ⟨zq3.2 ⟨zAP h1 hv,?_,?_⟩,?_⟩
 ·rw [hf];simp
 ·simp;omega
 ·rw [hf]
theorem zzo {l:List EventT} {e:EventT} {t:zlm} (h:zml l=true) (ha:zlQ (zlX l).1 e=some t) (hl:l.length < 60) (hv:l=[]∨zmA l≤e.fVe):zm8 (l++[e])=true:=by
 unfold zm8
 rw [(zzn h ha hl hv).1]
 simp
theorem zvo {t:TellingsT} (h0:t.fBr.length≠0):(⟨zlV t⟩:BranchT)∈t.fBr:=by
 unfold zlV
 rw [if_neg h0]
 have:=zoQ t.fBr (t.fBr.length - 1)
 exact zlJ (by omega)
theorem zrt {t:TellingsT} (hg:zl5 t=true):zml (zlV t)=true:=by
 by_cases h0:t.fBr.length=0
 ·unfold zlV;rw [if_pos h0];rfl
 ·exact zlL ((zmh hg).1 _ (zvo h0))
theorem zyg {v:Int} {t:TellingsT} (ho:zq0 v t=true):∀ e∈zlV t,e.fVe≤v:=by
 by_cases h0:t.fBr.length=0
 ·unfold zlV;rw [if_pos h0];simp
 ·unfold zq0 at ho
  rw [qi] at ho
  have:=ho _ (zvo h0)
  unfold zpJ at this
  rw [qi] at this
  intro e he
  have:=this e he
  simp at this
  omega
theorem zmi {r:RegionT} (h:zlZ r=true):(0≤r.Id∧r.Id≤9)∧zvc r.fVe=true∧zl5 r.fTe=true∧zq0 r.fVe r.fTe=true:=by
 unfold zlZ zpE at h
 simp only [qh,decide_eq_true_eq] at h
 exact ⟨h.1,h.2.1.1,h.2.1.2,h.2.2⟩
theorem ztB {r:RegionT} (h1:0≤r.Id∧r.Id≤9) (h2:zvc r.fVe=true) (h3:zl5 r.fTe=true) (h4:zq0 r.fVe r.fTe=true):zlZ r=true:=by
 unfold zlZ zpE
 simp only [qh,decide_eq_true_eq]
 exact ⟨h1,⟨h2,h3⟩,h4⟩
def znu (r:RegionT) (k:Int) (n:ByteArray):EventT:=⟨(zlX (zlV r.fTe)).1.Next,r.fVe,k,n⟩
def zwD (r:RegionT) (k:Int) (n:ByteArray):RegionT:=⟨r.Id,r.fVe,⟨znq r.fTe.fBr (zlV r.fTe++[znu r k n])⟩⟩
def zmq (r:RegionT) (k:Int) (n:ByteArray):Int :=
 if (decide (1≤k∧k≤6) && zmk n)=false then 1
 else if zst r=false then 2
 else if (decide (k=2) && zl3 (zlX (zlV r.fTe)).1.fSi n)=true then 5
 else if (zlQ (zlX (zlV r.fTe)).1 (znu r k n)).isSome=false then 3
 else if (zlV r.fTe).length=60 then 4
 else 0
def zru (r:RegionT) (k:Int) (n:ByteArray):RegionT×Int:=(if zmq r k n=0 then zwD r k n else r,zmq r k n)
theorem zuB {r:RegionT} {k:Int} {n:ByteArray} (h:zmq r k n=0):(1≤k∧k≤6)∧zmk n=true∧zst r=true∧(k=2→zl3 (zlX (zlV r.fTe)).1.fSi n=false) ∧
  (∃ t,zlQ (zlX (zlV r.fTe)).1 (znu r k n)=some t)∧(zlV r.fTe).length≠60:=by
 unfold zmq at h
 split at h
 ·cases h
 rename_i h1
 split at h
 ·cases h
 rename_i h2
 split at h
 ·cases h
 rename_i h3
 split at h
 ·cases h
 rename_i h4
 split at h
 ·cases h
 rename_i h5
 simp only [qy,qh,decide_eq_true_eq] at h1
 simp only [qy] at h2 h4
 refine ⟨h1.1,h1.2,h2,λ hk=>?_,Option.isSome_iff_exists.1 h4,h5⟩
 cases hs:zl3 (zlX (zlV r.fTe)).1.fSi n
 ·rfl
 ·exact absurd (by simp [hk,hs]) h3
theorem zAQ {v:Int} {t:TellingsT} (ho:zq0 v t=true):zlV t=[]∨zmA (zlV t)≤v:=by
 by_cases h0:zlV t=[]
 ·exact .inl h0
 ·right
  have hl:0 < (zlV t).length:=List.length_pos_iff.2 h0
  exact zyg ho _ (zlJ (by omega))
theorem zqt {r:RegionT} {k:Int} {n:ByteArray} (hg:zlZ r=true) (h:zmq r k n=0):zm8 (zlV r.fTe++[znu r k n])=true:=by
 obtain ⟨g1,g2,g3,g4⟩:=zmi hg
 obtain ⟨c1,c2,c3,c4,⟨t,c5⟩,c6⟩:=zuB h
 have hh:=zrt g3
 have hl:=zm3 hh
 exact zzo hh c5 (by omega) (zAQ g4)
theorem zxB {l:List BranchT} {h h2:List EventT} (hm:(⟨h⟩:BranchT)∈l) (hb:zlW h h2=true):(znq l h2).length≤l.length:=by
 unfold znq
 split
 ·exact qv _
 ·rw [(zmO h2 l).length_eq,qM,qe]
  have:(zmX h2 l).length < l.length:=by
   unfold zmX
   have hle:=qo (λ b:BranchT=>!zlW b.fEv h2) l
   rcases Nat.lt_or_ge (l.filter λ b:BranchT=>!zlW b.fEv h2).length l.length with h | h
   ·exact h
   ·have:=(List.filter_eq_self (l:=l) (p:=λ b:BranchT=>!zlW b.fEv h2)).1 ((List.filter_sublist).eq_of_length_le (by omega)) _ hm
    simp [hb] at this
  omega
theorem zAR {l:List EventT} {e:EventT} (h:zml l=true) (h2:zml (l++[e])=true):zlW l (l++[e])=true :=
 (zp6 h h2).2 ⟨by simp,λ i hi=>by rw [zlT hi,zlT (by simp;omega),qj hi]⟩
theorem zzp {r:RegionT} {k:Int} {n:ByteArray} (hg:zlZ r=true) (h:zmq r k n=0):zlZ (zwD r k n)=true:=by
 obtain ⟨g1,g2,g3,g4⟩:=zmi hg
 have ht:=zqt hg h
 have hr:=zsN (zmh g3) ht
 have h12:=zl7 g3
 have hle:(znq r.fTe.fBr (zlV r.fTe++[znu r k n])).length≤12:=by
  by_cases h0:r.fTe.fBr.length=0
  ·have:=zp9 r.fTe.fBr (zlV r.fTe++[znu r k n])
   omega
  ·have:=zxB (zvo h0) (zAR (zrt g3) (zlL ht))
   omega
 refine ztB g1 g2 (by show zl5 ⟨znq _ _⟩=true;rw [ztz hr];simpa using hle) ?_
 show zq0 r.fVe ⟨znq _ _⟩=true
 unfold zq0
 rw [qi]
 intro b hb
 rcases zty hb with hb | hb
 ·unfold zq0 at g4
  exact List.all_eq_true.1 g4 b hb
 ·subst hb
  unfold zpJ
  rw [qi]
  intro e he
  rcases List.mem_append.1 he with he | he
  ·have:=zyg g4 e he
   simp;omega
  ·rw [List.mem_singleton.1 he]
   simp [znu]
theorem zAS {r:RegionT} {k:Int} {n:ByteArray} (hr:zlP r) (hk:zoV k) (hn:zqy n):zot (znu r k n):=by
 have:=znc (zpz (zlV r.fTe))
 exact ⟨(⟨by omega,by omega⟩:zoV (zlX (zlV r.fTe)).1.Next),hr.2.1,hk,hn⟩
theorem zBQ {r:RegionT} {k:Int} {n:ByteArray} (hg:zlZ r=true) (hr:zlP r) (hk:zoV k) (hn:zqy n):zlP (zwD r k n):=by
 obtain ⟨g1,g2,g3,g4⟩:=zmi hg
 have h12:=zl7 g3
 have hc:=zvh hr.2.2
 have hcl:=zox g3
 refine ⟨hr.1,hr.2.1,zAN hr.2.2 (by omega) ⟨by simp;omega,λ y hy=>?_⟩⟩
 rcases List.mem_append.1 hy with hy | hy
 ·exact hc.2 y hy
 ·rw [List.mem_singleton.1 hy];exact zAS hr hk hn
def zof (p:RegionT×Nat) (n:ByteArray):RegionT×Nat:=if zmq p.1 2 n=0 then (zwD p.1 2 n,p.2+1) else p
def zpG (r:RegionT) (l:List ByteArray):RegionT×Nat:=l.foldl zof (r,0)
theorem zxC {p:RegionT×Nat} {n:ByteArray} (h:zlZ p.1=true):zlZ (zof p n).1=true:=by
 unfold zof
 split
 ·rename_i h0;exact zzp h h0
 ·exact h
theorem zAT {p:RegionT×Nat} {n:ByteArray} (hg:zlZ p.1=true) (h:zlP p.1) (hn:zqy n):zlP (zof p n).1:=by
 unfold zof
 split
 ·exact zBQ hg h (⟨by omega,by omega⟩:zoV 2) hn
 ·exact h
theorem zBR (p:RegionT×Nat) (n:ByteArray):p.2≤(zof p n).2∧(zof p n).2≤p.2+1:=by
 unfold zof
 split
 ·exact ⟨Nat.le_succ _,qv _⟩
 ·exact ⟨qv _,Nat.le_succ _⟩
theorem zwE:∀ (l:List ByteArray) (p:RegionT×Nat),zlZ p.1=true→zlP p.1→(∀ n∈l,zqy n)→zlZ (l.foldl zof p).1=true∧zlP (l.foldl zof p).1∧(l.foldl zof p).2≤p.2+l.length
 | [],p,hg,ho,_=>⟨hg,ho,by simp⟩
 | n :: l,p,hg,ho,hn=>by
  have:=zBR p n
  obtain ⟨h1,h2,h3⟩:=zwE l (zof p n) (zxC hg) (zAT hg ho (hn n (by simp))) λ m hm=>hn m (qk _ hm)
  refine ⟨h1,h2,?_⟩
  simp only [List.foldl_cons,qP]
  omega
end Go.TL
set_option maxRecDepth 4000
namespace Go.TL
theorem zxD (l:List BranchT) (h:List EventT) (hl:l.length≤1000) (hs:zr1 l) (hh:h.length≤1000):∀ (r:List BranchT) (i:Nat) (put:Bool) (c:List BranchT),l.drop i=r→i≤l.length→c.length≤2 * i →
  ∃ put' c',zln (zb8 l h) ⟨put,(i:Int),c⟩=some ⟨put',c'⟩∧(if put'=true then c' else c'++[⟨h⟩])=c++zo0 h r put∧c'.length≤2 * l.length:=by
 intro r
 induction r with
 | nil =>
  intro i put c hd hi hc
  have e:=zrl hd hi
  refine ⟨put,c,zly ?_,?_,by omega⟩
  ·unfold zb8
   dsimp only
   rw [if_neg (by rw [decide_eq_true_eq];omega)]
  ·unfold zo0
   cases put<;>simp
 | cons b r ih =>
  intro i put c hd hi hc
  obtain ⟨hlt,hb,hr⟩:=zqj hd
  have hbs:b.fEv.length≤1000:=by rw [← hb];exact hs i hlt
  have e1:wI ((i:Int)+1)=((i+1:Nat):Int):=by rw [zls (by omega)];omega
  have ebb:(⟨b.fEv⟩:BranchT)=b:=rfl
  have hstep:zb8 l h ⟨put,(i:Int),c⟩=some (.inl (if zlW b.fEv h=true then ⟨put,((i+1:Nat):Int),c⟩ else if ((zmo b.fEv h).1 > 0∧put=false) then ⟨true,((i+1:Nat):Int),(c++[⟨h⟩])++[b]⟩ else ⟨put,((i+1:Nat):Int),c++[b]⟩)):=by
   unfold zb8
   simp only [qc,hb,e1]
   rw [if_pos (by rw [decide_eq_true_eq];omega),zlb (by omega),zcP _ _ (by omega) (by omega)]
   simp only [qa]
   cases hbg:zlW b.fEv h
   ·rw [if_neg (by simp),if_neg (by simp),zcl _ _ (by omega) (by omega)]
    simp only [qa,zn8 _ hh,zn8 _ hbs,ebb]
    by_cases hc1:(zmo b.fEv h).1 > 0
    ·rw [if_pos (decide_eq_true hc1)]
     cases put
     ·simp only [qa,qba,if_true]
      rw [zlb (by omega),zlb (by omega),if_pos ⟨hc1,trivial⟩]
     ·simp only [qa,qd,qb,if_false]
      rw [zlb (by omega),if_neg (by simp)]
    ·rw [if_neg (by simpa using hc1)]
     simp only [qa,qb,if_false]
     rw [zlb (by omega),if_neg (λ h=>hc1 h.1)]
   ·rw [if_pos rfl,if_pos rfl]
  rw [zl4 hstep]
  unfold zo0
  by_cases hbg:zlW b.fEv h=true
  ·rw [if_pos hbg,if_pos hbg]
   exact ih (i+1) put c hr (by omega) (by omega)
  ·rw [if_neg hbg,if_neg hbg]
   by_cases hc1:(zmo b.fEv h).1 > 0∧put=false
   ·rw [if_pos hc1,if_pos hc1]
    obtain ⟨p',c',g1,g2,g3⟩:=ih (i+1) true ((c++[⟨h⟩])++[b]) hr (by omega) (by simp only [qM,qe];omega)
    exact ⟨p',c',g1,by rw [g2];simp,g3⟩
   ·rw [if_neg hc1,if_neg hc1]
    obtain ⟨p',c',g1,g2,g3⟩:=ih (i+1) put (c++[b]) hr (by omega) (by simp only [qM,qe];omega)
    exact ⟨p',c',g1,by rw [g2];simp,g3⟩
theorem zj5 (l:List BranchT) (h:List EventT) (hl:l.length≤1000) (hs:zr1 l) (hh:h.length≤1000):zdQ l h=some (znq l h):=by
 unfold zdQ znq
 have key:=zmN (step:=zbe l h) (λ i=>(⟨i⟩:zfe)) l.length (λ i=>zlW h (nth l i).fEv) (λ _=>(.inl ():Unit⊕Unit)) (.inr ()) (λ i hi hv=>?_) ?_
 ·have e:zln (zbe l h) ⟨0⟩=some (if (l.any λ b=>zlW h b.fEv)=true then .inl () else .inr ()):=by
   rw [key]
   have:=znC l λ b=>zlW h b.fEv
   cases hf:zm2 (λ i=>zlW h (nth l i).fEv) l.length with
   | none=>rw [hf] at this;rw [← this];rfl
   | some k=>rw [hf] at this;rw [← this];rfl
  rw [e]
  simp only [qa]
  cases l.any λ b=>zlW h b.fEv
  ·simp only [qb,if_false]
   obtain ⟨p',c',g1,g2,g3⟩:=zxD l h hl hs hh l 0 false [] rfl (by omega) (by simp)
   have e0:((0:Nat):Int)=0:=rfl
   rw [e0] at g1
   rw [g1]
   simp only [qa,zn8 _ hh]
   rw [qu] at g2
   rw [← g2]
   cases p'
   ·rw [if_pos (by rfl),zlb (by omega)];rfl
   ·rfl
  ·rfl
 ·unfold zbe
  have hi':i < l.length:=hi
  have hbs:=hs i hi'
  have e1:wI ((i:Int)+1)=((i+1:Nat):Int):=by rw [zls (by omega)];omega
  simp only [qc,e1]
  rw [if_pos (by rw [decide_eq_true_eq];omega),zlb (by omega),zcP _ _ (by omega) (by omega)]
  simp only [qa]
  cases zlW h (nth l i).fEv<;>rfl
 ·unfold zbe
  dsimp only
  rw [if_neg (by simp)]
theorem ztC:∀ (r:List EventT) (s:zlm) (n:Nat),(zms r s n).2=n+r.length→(zms r s n).1.Next=s.Next+(r.length:Int)
 | [],s,n,_=>by simp [zms]
 | e :: r,s,n,h=>by
  unfold zms at h ⊢
  cases ha:zlQ s e with
  | none=>rw [ha] at h;simp only [qP] at h;omega
  | some t =>
   rw [ha] at h
   have ih:=ztC r t (n+1) (by simp only [qP] at h;omega)
   have:=(zsg ha).2
   simp only [qP] at ih ⊢
   rw [ih,this]
   omega
theorem zzq {l:List EventT} (h:zml l=true):(zlX l).1.Next=1+(l.length:Int):=by
 obtain ⟨h1,h2,h3⟩:=zq3.1 h
 exact ztC l zsr 0 (by unfold zlX at h2;omega)
theorem zwF (s:zlm) (k:Int) (n:ByteArray) (hg:zmU s=true) (hk:(decide (1≤k∧k≤6) && zmk n)=false):zbA s k n=some (false,false):=by
 have g:=znc hg
 have n1:=zmj g.2.2.2.1
 have n2:=zmj g.2.2.2.2
 unfold zbA zai
 rw [zcO s (by omega) (by omega),hg]
 simp only [qa,zc5,zb5,qd,qb,if_false]
 cases h1:decide (1≤k∧k≤6)
 ·simp
 ·rw [h1] at hk
  simp only [qn] at hk
  rw [hk]
  simp
theorem zBS {r:RegionT} {k:Int} {n:ByteArray} (hg:zlZ r=true) (hk:(decide (1≤k∧k≤6) && zmk n)=true):evP (znu r k n)=true:=by
 obtain ⟨g1,g2,g3,g4⟩:=zmi hg
 have hh:=zrt g3
 have hl:=zm3 hh
 have hn:=zzq hh
 simp only [qh,decide_eq_true_eq] at hk
 unfold evP
 simp only [qh,decide_eq_true_eq]
 exact ⟨⟨⟨by show 1≤(zlX (zlV r.fTe)).1.Next∧_;show _∧(zlX (zlV r.fTe)).1.Next≤1000;omega,g2⟩,hk.1⟩,hk.2⟩
theorem zxE (r:RegionT) (hg:zl5 r.fTe=true):zd0 r=some (zlV r.fTe):=by
 obtain ⟨hf,ho⟩:=zqn hg
 unfold zd0
 rw [zhj _ hf]
 simp only [qa]
 unfold zx8 zlV
 by_cases h0:r.fTe.fBr.length=0
 ·rw [if_pos h0,if_pos (by simp),if_pos h0]
 ·have hc:=zoQ r.fTe.fBr (r.fTe.fBr.length - 1)
  rw [if_neg h0,if_neg (by simp),if_neg h0,zlb (by omega),qc]
  rfl
theorem zkv (r:RegionT) (k:Int) (n:ByteArray) (hg:zlZ r=true) (hr:zlP r) (hk:zoV k) (hn:zqy n):zeU r k n=some (zru r k n):=by
 obtain ⟨g1,g2,g3,g4⟩:=zmi hg
 have hh:=zrt g3
 have hl:=zm3 hh
 have hok:=zvh hr.2.2
 have h12:=zl7 g3
 obtain ⟨f1,f2⟩:=zrS (zlV r.fTe)
 have hgs:=zpz (zlV r.fTe)
 unfold zeU zda
 rw [zeT,zg9 _ hn]
 simp only [qa]
 have e1:(if (!decide (1≤k∧k≤6))=true then some (⟨true⟩:zd1) else some ⟨!zmk n⟩)=some ⟨!(decide (1≤k∧k≤6) && zmk n)⟩:=by
  cases decide (1≤k∧k≤6)<;>simp
 rw [e1]
 simp only [qa]
 cases c1:decide (1≤k∧k≤6) && zmk n
 ·have:zmq r k n=1:=by unfold zmq;rw [if_pos c1]
  unfold zru
  rw [this];rfl
 simp only [qd,qb,if_false]
 have e2:((r.fVe.tmod 10) == r.Id)=zst r:=rfl
 rw [e2]
 cases c2:zst r
 ·have:zmq r k n=2:=by unfold zmq;rw [if_neg (by rw [c1];simp),if_pos c2]
  unfold zru
  rw [this];rfl
 simp only [qd,qb,if_false]
 rw [zxE r g3]
 simp only [qa]
 rw [zfN _ hok]
 simp only [qa]
 obtain ⟨x,hx,hxp⟩:=zdP (zlX (zlV r.fTe)).1.fSi n (by omega)
 have e3:(if (k == 2)=true then ((zbv (zlX (zlV r.fTe)).1.fSi n).bind λ c193=>some (⟨(decide (c193 ≥ 0))⟩:zcp)) else some (⟨false⟩:zcp))=some ⟨decide (k=2) && zl3 (zlX (zlV r.fTe)).1.fSi n⟩:=by
  rw [hx]
  simp only [qa,hxp]
  by_cases hk2:k=2<;>simp [hk2]
 rw [e3]
 simp only [qa]
 cases c3:decide (k=2) && zl3 (zlX (zlV r.fTe)).1.fSi n
 rotate_left
 ·have:zmq r k n=5:=by unfold zmq;rw [if_neg (by rw [c1];simp),if_neg (by rw [c2];simp),if_pos c3]
  unfold zru
  rw [this];rfl
 simp only [qb,if_false]
 obtain ⟨q,hq,ha⟩:=zhM (zlX (zlV r.fTe)).1 (znu r k n) hgs hn
 have hq':zbQ (zlX (zlV r.fTe)).1 ⟨(zlX (zlV r.fTe)).1.Next,r.fVe,k,n⟩=some q:=hq
 rw [hq']
 simp only [qa]
 have c4:(zlQ (zlX (zlV r.fTe)).1 (znu r k n)).isSome=q.2:=by rw [ha];cases q.2<;>rfl
 cases c5:q.2
 ·rw [c5] at c4
  have:zmq r k n=3:=by unfold zmq;rw [if_neg (by rw [c1];simp),if_neg (by rw [c2];simp),if_neg (by rw [c3];simp),if_pos c4]
  unfold zru
  rw [this];rfl
 rw [c5] at c4
 simp only [qd,qb,if_false]
 by_cases c6:(zlV r.fTe).length=60
 ·have:zmq r k n=4:=by unfold zmq;rw [if_neg (by rw [c1];simp),if_neg (by rw [c2];simp),if_neg (by rw [c3];simp),if_neg (by rw [c4];simp),if_pos c6]
  unfold zru
  rw [this,if_pos (by rw [c6];rfl)];rfl
 have c0:zmq r k n=0:=by unfold zmq;rw [if_neg (by rw [c1];simp),if_neg (by rw [c2];simp),if_neg (by rw [c3];simp),if_neg (by rw [c4];simp),if_neg c6]
 rw [if_neg (by simpa using (show ¬ ((zlV r.fTe).length:Int)=60 by omega)),zn8 _ (by omega)]
 simp only [qa]
 rw [zlb (by omega)]
 have hm:=zrs (zmh g3) (by omega)
 have ht:=zqt hg c0
 have hra:=zsN (zmh g3) ht
 have hal:=zp9 r.fTe.fBr (zlV r.fTe++[znu r k n])
 have hma:=zrs hra (by omega)
 have e6:zdQ r.fTe.fBr (zlV r.fTe++[⟨(zlX (zlV r.fTe)).1.Next,r.fVe,k,n⟩])=some (znq r.fTe.fBr (zlV r.fTe++[znu r k n])):=zj5 r.fTe.fBr (zlV r.fTe++[znu r k n]) hm.1 hm.2 (by simp;omega)
 rw [e6]
 simp only [qa]
 rw [zeZ ⟨znq r.fTe.fBr (zlV r.fTe++[znu r k n])⟩ hma.1 hma.2]
 simp only [qa]
 unfold zru
 rw [c0]
 rfl
theorem zjA (r:RegionT) (k:Int) (n:ByteArray) (hg:zlZ r=true):∃ m,zbA (zlX (zlV r.fTe)).1 k n=some m∧((decide (1≤k∧k≤6) && zmk n)=true→m.1=(zlQ (zlX (zlV r.fTe)).1 (znu r k n)).isSome):=by
 have hgs:=zpz (zlV r.fTe)
 cases c1:decide (1≤k∧k≤6) && zmk n
 ·exact ⟨_,zwF _ _ _ hgs c1,λ h=>by cases h⟩
 ·exact ⟨_,zxz (zlX (zlV r.fTe)).1 (znu r k n) hgs (zBS hg c1) rfl,λ _=>rfl⟩
theorem zwG (r:RegionT) (hg:zl5 r.fTe=true):za2 r=some (zlX (zlV r.fTe)).1:=by
 have hl:=zox hg
 unfold za2
 rw [zfO _ hg]
 simp only [qa]
 rw [zhi _ (by omega)]
 rfl
theorem zk7 (r:RegionT) (k:Int) (n:ByteArray) (hg:zlZ r=true):zaD r k n=if zmq r k n=0 then none else some (zmq r k n):=by
 obtain ⟨g1,g2,g3,g4⟩:=zmi hg
 have hl:=zox g3
 have h12:=zl7 g3
 obtain ⟨f1,f2⟩:=zrS (zlV r.fTe)
 obtain ⟨m,hm,hm2⟩:=zjA r k n hg
 unfold zaD zai zW
 rw [zfO _ g3,zwG r g3]
 simp only [qa]
 rw [hm,zc5,zb5]
 simp only [qa]
 have e1:(if (!decide (1≤k∧k≤6))=true then some (⟨true⟩:zbC) else some ⟨!zmk n⟩)=some ⟨!(decide (1≤k∧k≤6) && zmk n)⟩:=by
  cases decide (1≤k∧k≤6)<;>simp
 rw [e1]
 simp only [qa]
 cases c1:decide (1≤k∧k≤6) && zmk n
 ·have:zmq r k n=1:=by unfold zmq;rw [if_pos c1]
  rw [this];rfl
 have hm3:=hm2 c1
 simp only [qd,qb,if_false]
 have e2:((r.fVe.tmod 10) == r.Id)=zst r:=rfl
 rw [e2]
 cases c2:zst r
 ·have:zmq r k n=2:=by unfold zmq;rw [if_neg (by rw [c1];simp),if_pos c2]
  rw [this];rfl
 simp only [qd,qb,if_false]
 rw [znL _ _ (by omega)]
 simp only [qa]
 have e3:(if (k == 2)=true then some (⟨zl3 (zlX (zlV r.fTe)).1.fSi n⟩:zbD) else some ⟨false⟩)=some ⟨decide (k=2) && zl3 (zlX (zlV r.fTe)).1.fSi n⟩:=by
  by_cases hk2:k=2<;>simp [hk2]
 rw [e3]
 simp only [qa]
 cases c3:decide (k=2) && zl3 (zlX (zlV r.fTe)).1.fSi n
 rotate_left
 ·have:zmq r k n=5:=by unfold zmq;rw [if_neg (by rw [c1];simp),if_neg (by rw [c2];simp),if_pos c3]
  rw [this];rfl
 simp only [qb,if_false]
 rw [hm3]
 cases c4:(zlQ (zlX (zlV r.fTe)).1 (znu r k n)).isSome
 ·have:zmq r k n=3:=by unfold zmq;rw [if_neg (by rw [c1];simp),if_neg (by rw [c2];simp),if_neg (by rw [c3];simp),if_pos c4]
  rw [this];rfl
 simp only [qd,qb,if_false]
 by_cases c6:(zlV r.fTe).length=60
 ·have:zmq r k n=4:=by unfold zmq;rw [if_neg (by rw [c1];simp),if_neg (by rw [c2];simp),if_neg (by rw [c3];simp),if_neg (by rw [c4];simp),if_pos c6]
  rw [this,if_pos (by rw [c6];rfl)];rfl
 have c0:zmq r k n=0:=by unfold zmq;rw [if_neg (by rw [c1];simp),if_neg (by rw [c2];simp),if_neg (by rw [c3];simp),if_neg (by rw [c4];simp),if_neg c6]
 rw [if_neg (by simpa using (show ¬ ((zlV r.fTe).length:Int)=60 by omega)),c0]
 unfold zh
 rw [zlb (by omega)]
 simp only [qa]
 rw [zlb (by omega)]
 have ht:=zqt hg c0
 have e6:zcg r.fTe (zlV r.fTe++[⟨(zlX (zlV r.fTe)).1.Next,r.fVe,k,n⟩])=some ⟨znq r.fTe.fBr (zlV r.fTe++[znu r k n])⟩:=zht r.fTe (zlV r.fTe++[znu r k n]) (zmh g3) (by omega) ht
 rw [e6]
 rfl
theorem ztD {t:TellingsT} (ht:zlF t):∀ n∈zlN t,zqy n:=by
 intro n hn
 have:=((zvk (zpi t) (zoZ t.fBr) [] (by simp [zrV])).2 n).1 hn
 rcases this with h | ⟨h,_⟩
 ·simp at h
 ·unfold zoZ at h
  rw [List.mem_flatMap] at h
  obtain ⟨b,hb,h⟩:=h
  unfold zoY at h
  rw [List.mem_map] at h
  obtain ⟨e,he,rfl⟩:=h
  exact ((ht.2 b hb).2 e (List.mem_filter.1 he).1).2.2.2
def zne (r:RegionT) (l:List ByteArray) (i:Nat):RegionT×Nat:=(l.take i).foldl zof (r,0)
theorem zuC {r:RegionT} {l:List ByteArray} {i:Nat} (h:i < l.length):zne r l (i+1)=zof (zne r l i) (nth l i):=by
 unfold zne
 rw [← zmD h,qx]
 rfl
theorem ztE {r:RegionT} {l:List ByteArray} (hg:zlZ r=true) (hr:zlP r) (hl:∀ n∈l,zqy n) (i:Nat):zlZ (zne r l i).1=true∧zlP (zne r l i).1∧(zne r l i).2≤i:=by
 obtain ⟨h1,h2,h3⟩:=zwE (l.take i) (r,0) hg hr λ n hn=>hl n (qq hn)
 refine ⟨h1,h2,?_⟩
 have:(l.take i).length≤i:=by rw [qg];omega
 unfold zne
 simp only at h3
 omega
theorem zi4 (r:RegionT) (hg:zlZ r=true) (hr:zlP r):zd3 r=some ((zpG r (zlN r.fTe)).1,(((zpG r (zlN r.fTe)).2:Nat):Int)):=by
 obtain ⟨g1,g2,g3,g4⟩:=zmi hg
 have hls:=ztD hr.2.2
 have hll:(zlN r.fTe).length≤720:=by
  have:=zuv r.fTe
  unfold zx9 at this
  rw [if_pos g3] at this
  exact this
 unfold zd3
 rw [zke _ hr.2.2 g3]
 simp only [qa]
 have key:=zmp (step:=zaC (zlN r.fTe)) (λ i (c:RegionT×Nat)=>(⟨(c.2:Int),i,c.1.Id,c.1.fVe,c.1.fTe.fBr⟩:zd2)) (zlN r.fTe).length (λ i=>zne r (zlN r.fTe) i) (λ c=>(⟨(c.2:Int),c.1.Id,c.1.fVe,c.1.fTe.fBr⟩:zg0)) (λ i hi=>?_) ?_
 ·have e0:zne r (zlN r.fTe) 0=(r,0):=rfl
  rw [e0] at key
  have e1:zne r (zlN r.fTe) (zlN r.fTe).length=zpG r (zlN r.fTe):=by unfold zne zpG;rw [qf]
  rw [e1] at key
  have key':zln (zaC (zlN r.fTe)) ⟨0,0,r.Id,r.fVe,r.fTe.fBr⟩=_:=key
  rw [key']
  rfl
 ·obtain ⟨i1,i2,i3⟩:=ztE hg hr hls i
  have e1:wI ((i:Int)+1)=((i+1:Nat):Int):=by rw [zls (by omega)];omega
  have e2:wI (((zne r (zlN r.fTe) i).2:Int)+1)=(((zne r (zlN r.fTe) i).2+1:Nat):Int):=by rw [zls (by omega)];omega
  unfold zaC
  simp only [qc,e1,e2]
  rw [if_pos (by rw [decide_eq_true_eq];omega),zlb (by omega)]
  have hc:zeU ⟨(zne r (zlN r.fTe) i).1.Id,(zne r (zlN r.fTe) i).1.fVe,⟨(zne r (zlN r.fTe) i).1.fTe.fBr⟩⟩ 2 (nth (zlN r.fTe) i)=some (zru (zne r (zlN r.fTe) i).1 2 (nth (zlN r.fTe) i)):=zkv _ _ _ i1 i2 (⟨by omega,by omega⟩:zoV 2) (hls _ (zlJ hi))
  rw [hc,zuC hi]
  simp only [qa]
  unfold zru zof
  by_cases c0:zmq (zne r (zlN r.fTe) i).1 2 (nth (zlN r.fTe) i)=0
  ·simp only [c0,if_true,beq_self_eq_true]
  ·simp only [c0,if_false]
   rw [if_neg (by simpa using c0)]
 ·unfold zaC
  dsimp only
  rw [if_neg (by simp)]
end Go.TL
set_option maxRecDepth 4000
namespace Go.TL
end Go.TL
set_option maxRecDepth 4000
namespace Go.TL
theorem zlu {α β:Type} {o:Option α} {x:α} {f:α→Option β} {r:Option β} (h:o=some x) (h2:f x=r):o.bind f=r:=by rw [h];exact h2
end Go.TL
set_option maxRecDepth 4000
namespace Go.TL
theorem zBT {c b:List EventT} (h:c <+: b) {i:Nat} (hi:i < c.length):nth c i=nth b i:=by
 obtain ⟨t,rfl⟩:=h
 rw [zlT hi,zlT (by rw [qM];omega),qj hi]
theorem zvp {c b:List EventT} (hc:zml c=true) (hb:zml b=true):zlW c b=true↔c <+: b:=by
 rw [zp6 hc hb]
 constructor
 ·rintro ⟨h1,h2⟩
  rw [List.prefix_iff_eq_take]
  refine zp1 (by rw [qg];omega) λ j hj=>?_
  rw [zn6 hj]
  exact h2 j hj
 ·intro h
  exact ⟨h.length_le,λ i hi=>zBT h hi⟩
def zr3 (l:List BranchT) (e:List EventT):Prop:=∃ b∈l,e <+: b.fEv
def zDn (l:List BranchT):Prop:=∀ b∈l,zml b.fEv=true
theorem zsO {h:List EventT} {l:List BranchT} {b:BranchT}:b∈zo0 h l false↔(b∈l∧zlW b.fEv h=false)∨b=⟨h⟩:=by
 rw [(zmO h l).mem_iff,List.mem_append,List.mem_singleton]
 unfold zmX
 rw [List.mem_filter]
 simp
theorem zAU {l:List BranchT} {h e:List EventT} (hl:zDn l) (hh:zml h=true):zr3 (znq l h) e↔zr3 l e∨e <+: h:=by
 unfold znq
 split
 ·rename_i ha
  refine ⟨.inl,λ hc=>hc.elim id λ he=>?_⟩
  obtain ⟨b,hb,h1⟩:=List.any_eq_true.1 ha
  exact ⟨b,hb,he.trans ((zvp hh (hl b hb)).1 h1)⟩
 ·constructor
  ·rintro ⟨b,hb,h1⟩
   rcases zsO.1 hb with h2 | h2
   ·exact .inl ⟨b,h2.1,h1⟩
   ·subst h2;exact .inr h1
  ·rintro (⟨b,hb,h1⟩ | h1)
   ·cases hbh:zlW b.fEv h
    ·exact ⟨b,zsO.2 (.inl ⟨hb,hbh⟩),h1⟩
    ·exact ⟨⟨h⟩,zsO.2 (.inr rfl),h1.trans ((zvp (hl b hb) hh).1 hbh)⟩
   ·exact ⟨⟨h⟩,zsO.2 (.inr rfl),h1⟩
theorem zAV {l:List BranchT} (h:zpn l):zDn l:=λ b hb=>zlL (h.1 b hb)
theorem zrv {e:List EventT}:∀ {m l:List BranchT},zpn l→(∀ x∈m,zm8 x.fEv=true)→(zr3 (zm5 l m) e↔zr3 l e∨zr3 m e)
 | [],l,h,_=>by
  show zr3 l e↔_
  refine ⟨.inl,λ h=>h.elim id λ ⟨b,hb,_⟩=>by simp at hb⟩
 | x :: m,l,h,hm=>by
  have hx:=hm x (by simp)
  have ih:=zrv (e:=e) (m:=m) (l:=znq l x.fEv) (zsN h hx) λ y hy=>hm y (qk _ hy)
  show zr3 (zm5 (znq l x.fEv) m) e↔_
  rw [ih,zAU (zAV h) (zlL hx)]
  constructor
  ·rintro ((h1 | h1) | ⟨b,hb,h1⟩)
   ·exact .inl h1
   ·exact .inr ⟨x,by simp,h1⟩
   ·exact .inr ⟨b,qk _ hb,h1⟩
  ·rintro (h1 | ⟨b,hb,h1⟩)
   ·exact .inl (.inl h1)
   ·rcases List.mem_cons.1 hb with e1 | e1
    ·subst e1;exact .inl (.inr h1)
    ·exact .inr ⟨b,e1,h1⟩
theorem zzr {l:List BranchT} (h:zpn l) {a b:BranchT} (ha:a∈l) (hb:b∈l) (hab:a.fEv <+: b.fEv):a=b:=by
 have hp:l.Pairwise λ a b=>(zlW a.fEv b.fEv=false∧zlW b.fEv a.fEv=false):=h.2.imp λ {a b} ⟨h1,h2⟩=>⟨h2,by
  cases e:zlW b.fEv a.fEv
  ·rfl
  ·have:=zye e
   have:=zqr.1 h1
   omega⟩
 have hbeg:=(zvp (zlL (h.1 a ha)) (zlL (h.1 b hb))).2 hab
 obtain ⟨i,hi,rfl⟩:=qm ha
 obtain ⟨j,hj,rfl⟩:=qm hb
 rw [qr] at hp
 rcases Nat.lt_trichotomy i j with h1 | h1 | h1
 ·have:=(hp i j hi hj h1).1
  rw [hbeg] at this;cases this
 ·subst h1;rfl
 ·have:=(hp j i hj hi h1).2
  rw [hbeg] at this;cases this
theorem zyh {l m:List BranchT} (hl:zpn l) (hm:zpn m) (h:∀ e,zr3 l e↔zr3 m e) {x:BranchT} (hx:x∈l):x∈m:=by
 obtain ⟨y,hy,h1⟩:=(h x.fEv).1 ⟨x,hx,qz _⟩
 obtain ⟨z,hz,h2⟩:=(h y.fEv).2 ⟨y,hy,qz _⟩
 have hxz:=zzr hl hx hz (h1.trans h2)
 subst hxz
 have:x.fEv=y.fEv:=h1.eq_of_length_le h2.length_le
 have:x=y:=by
  cases x;cases y
  simp only at this
  rw [this]
 rw [this];exact hy
theorem zBU {l m:List BranchT} (hl:zpn l) (hm:zpn m) (h:∀ e,zr3 l e↔zr3 m e):l=m :=
 zvj zsL znU (hl.2.imp λ h=>h.1) (hm.2.imp λ h=>h.1) λ z=>⟨λ hz=>zyh hl hm h hz,λ hz=>zyh hm hl (λ e=>(h e).symm) hz⟩
theorem zxF {l m:List BranchT} (hl:zpn l) (hm:zpn m):zm5 (zm5 l m) m=zm5 l m :=
 zBU (znY (znY hl hm.1) hm.1) (znY hl hm.1) λ e=>by
  rw [zrv (znY hl hm.1) hm.1,zrv hl hm.1]
  constructor
  ·rintro (h | h)
   ·exact h
   ·exact .inr h
  ·exact .inl
end Go.TL
set_option maxRecDepth 4000
namespace Go.TL
theorem zAW {r:RegionT} (hg:zlZ r=true):zbt r.fTe=some r.fTe:=by
 have hm:=zqs (zoP (zmb hg))
 exact zeZ _ hm.1 hm.2
theorem zsu (r:RegionT) (hr:zlP r):zfw r=some (zAl r):=by
 unfold zfw zAl
 rw [zcm _ hr]
 simp only [qa]
 cases hg:zlZ r
 ·simp
 rw [if_neg (by simp),if_pos rfl,zAW hg]
 rfl
theorem zho (r:RegionT) (w:WordT) (hr:zlP r) (hw:zql w):zd4 r w=some (zlH r w):=by
 unfold zd4 zlH
 rw [zcm _ hr]
 simp only [qa]
 cases hg:zlZ r
 ·simp
 rw [zcm _ (show zlP ⟨0,w.fVe,w.fTe⟩ from ⟨by unfold zoV;simp only;omega,hw.1,hw.2⟩)]
 simp only [qa]
 cases hg2:zlZ ⟨0,w.fVe,w.fTe⟩
 ·simp
 have g1:=zmb hg
 have g2:=zmb hg2
 simp only [qd,qb,if_false,qa]
 rw [zio _ _ hr.2.2 hw.2]
 simp only [qa]
 unfold zzm
 rw [g1,show zl5 w.fTe=true from g2]
 simp only [qn]
 by_cases hc:(zm5 r.fTe.fBr w.fTe.fBr).length≤12
 ·simp only [hc,decide_true,if_true,qd,qb,if_false]
  by_cases hv:w.fVe > r.fVe
  ·simp only [hv,decide_true,if_true,qa]
   rw [Int.max_eq_right (by omega)]
  ·simp only [hv,decide_false,qb,if_false,qa]
   rw [Int.max_eq_left (by omega)]
 ·simp [hc]
theorem zyi {b:BranchT}:∀ {m l:List BranchT},b∈zm5 l m→b∈l∨b∈m
 | [],l,h=>.inl h
 | x :: m,l,h=>by
  have h':b∈zm5 (znq l x.fEv) m:=h
  rcases zyi h' with h1 | h1
  ·rcases zty h1 with h2 | h2
   ·exact .inl h2
   ·right
    have:b=x:=h2
    rw [this];exact List.mem_cons_self
  ·exact .inr (qk _ h1)
end Go.TL
set_option maxRecDepth 4000
namespace Go.TL
end Go.TL
set_option maxRecDepth 4000
namespace Go.TL
theorem zyj {v u:Int} {l:List EventT} (h:zpJ v l=true) (hv:v≤u):zpJ u l=true:=by
 unfold zpJ at h ⊢
 rw [qi] at h ⊢
 intro e he
 have:=h e he
 simp at this ⊢
 omega
theorem zxG {r:RegionT} {w:WordT} (h:(zlH r w).2=true) :
  zlZ (zlH r w).1=true∧zlH (zlH r w).1 w=((zlH r w).1,true)∧r.fVe≤(zlH r w).1.fVe∧w.fVe≤(zlH r w).1.fVe∧zlZ r=true ∧
  (∀ e,zr3 r.fTe.fBr e→zr3 (zlH r w).1.fTe.fBr e):=by
 have hx:zlZ r=true∧zlZ ⟨0,w.fVe,w.fTe⟩=true∧(zm5 r.fTe.fBr w.fTe.fBr).length≤12:=by
  unfold zlH at h
  split at h
  ·rename_i hc
   simp only [qh,decide_eq_true_eq] at hc
   exact ⟨hc.1.1,hc.1.2,hc.2⟩
  ·cases h
 obtain ⟨a1,a2,a3⟩:=hx
 have e:zlH r w=(⟨r.Id,max r.fVe w.fVe,⟨zm5 r.fTe.fBr w.fTe.fBr⟩⟩,true):=by
  unfold zlH
  rw [if_pos (by simp [a1,a2,a3])]
 have t1:=zmh (zmb a1)
 have t2:zpn w.fTe.fBr:=zmh (t:=w.fTe) (zmb a2)
 have hm:=znY t1 t2.1
 obtain ⟨g1,g2,g3,g4⟩:=zmi a1
 obtain ⟨k1,k2,k3,k4⟩:=zmi a2
 have hgood:zlZ ⟨r.Id,max r.fVe w.fVe,⟨zm5 r.fTe.fBr w.fTe.fBr⟩⟩=true:=by
  refine ztB g1 ?_ ?_ ?_
  ·unfold zvc at *
   simp only [decide_eq_true_eq] at *
   omega
  ·show zl5 ⟨_⟩=true
   rw [ztz hm]
   simpa using a3
  ·show zq0 (max r.fVe w.fVe) ⟨_⟩=true
   unfold zq0 at *
   rw [qi] at *
   intro b hb
   rcases zyi hb with hb | hb
   ·exact zyj (g4 b hb) (by omega)
   ·exact zyj (k4 b hb) (by show w.fVe≤_;omega)
 rw [e]
 refine ⟨hgood,?_,by show r.fVe≤max r.fVe w.fVe;omega,by show w.fVe≤max r.fVe w.fVe;omega,a1,λ e he=>(zrv t1 t2.1).2 (.inl he)⟩
 have hag:zm5 (zm5 r.fTe.fBr w.fTe.fBr) w.fTe.fBr=zm5 r.fTe.fBr w.fTe.fBr:=zxF t1 t2
 unfold zlH
 simp only [hag]
 rw [if_pos (by simp [hgood,a2,a3]),show max (max r.fVe w.fVe) w.fVe=max r.fVe w.fVe by omega]
end Go.TL
set_option maxRecDepth 4000
namespace Go.TL
abbrev okr (r:RegionT):Prop:=zlZ r=true∧zlP r
def wd (r:RegionT):WordT:=⟨r.fVe,r.fTe⟩
def znf (r:RegionT):RegionT:=if zst r=true then (zpG r (zlN r.fTe)).1 else r
def zsv (x y:RegionT):Option (RegionT×RegionT) :=
 if (zlH y (wd x)).2=true then (if (zlH x (wd (zlH y (wd x)).1)).2=true then some (znf (zlH x (wd (zlH y (wd x)).1)).1,znf (zlH y (wd x)).1) else none) else none
theorem zoy {r q:RegionT} (hr:okr r) (hq:okr q) (h:(zlH r (wd q)).2=true):okr (zlH r (wd q)).1:=by
 refine ⟨(zxG h).1,?_⟩
 have h12:=zl7 (zmb hr.1)
 have h13:=zl7 (zmb hq.1)
 have h1:=hr.2.2.1
 have h2:=hq.2.2.1
 unfold zlH
 split
 ·refine ⟨hr.2.1,?_,zAO hr.2.2.2 hq.2.2.2 (by show r.fTe.fBr.length+q.fTe.fBr.length≤1000;omega)⟩
  have h1:=hr.2.2.1
  have h2:zoV (wd q).fVe:=hq.2.2.1
  unfold zoV at *
  simp only
  omega
 ·exact ⟨(⟨by omega,by omega⟩:zoV 0),(⟨by omega,by omega⟩:zoV 0),⟨by simp,λ b hb=>by simp at hb⟩⟩
theorem zAX {r:RegionT} (hr:okr r):okr (zpG r (zlN r.fTe)).1:=by
 have:=ztE hr.1 hr.2 (ztD hr.2.2.2) (zlN r.fTe).length
 have e1:zne r (zlN r.fTe) (zlN r.fTe).length=zpG r (zlN r.fTe):=by unfold zne zpG;rw [qf]
 rw [e1] at this
 exact ⟨this.1,this.2.1⟩
theorem zsP {r:RegionT} (hr:okr r):okr (znf r):=by
 unfold znf
 split
 ·exact zAX hr
 ·exact hr
theorem zsQ {x y:RegionT} {p:RegionT×RegionT} (hx:okr x) (hy:okr y) (h:zsv x y=some p):okr p.1∧okr p.2:=by
 unfold zsv at h
 split at h
 rotate_left
 ·cases h
 rename_i h1
 split at h
 rotate_left
 ·cases h
 rename_i h2
 have a:=zoy hy hx h1
 have b:=zoy hx a h2
 cases h
 exact ⟨zsP b,zsP a⟩
theorem zvq {r:RegionT} (hr:okr r):zq2 r.fTe.fBr:=zqs (zoP (zmb hr.1))
theorem zAY (l:List RegionT) (s:List SaidT) (hl:l.length≤1000) (h:∀ i,i < l.length→zq2 (nth l i).fTe.fBr):zln (zb9 ⟨l,s⟩) ⟨0,[]⟩=some ⟨l⟩:=by
 have key:=zmp (step:=zb9 ⟨l,s⟩) (λ i c=>(⟨i,c⟩:zgd)) l.length (λ i=>l.take i) (λ c=>(⟨c⟩:zhO)) (λ i hi=>?_) ?_
 ·simp only [ql,qf] at key
  exact key
 ·have hm:=h i hi
  have ht:(l.take i).length=i:=by rw [qg];omega
  have e1:wI ((i:Int)+1)=((i+1:Nat):Int):=by rw [zls (by omega)];omega
  unfold zb9 zgE
  simp only [qc,e1,← zmD hi]
  rw [if_pos (by rw [decide_eq_true_eq];omega),zlb (by omega),zeZ _ hm.1 hm.2]
  simp only [qa]
  rw [zlb (by rw [ht];omega)]
 ·unfold zb9
  dsimp only
  rw [if_neg (by simp)]
theorem zAZ (l:List RegionT) (s:List SaidT) (hl:s.length≤1000) (h:∀ i,i < s.length→zq2 (nth s i).Word.fTe.fBr):zln (zdd ⟨l,s⟩) ⟨0,[]⟩=some ⟨s⟩:=by
 have key:=zmp (step:=zdd ⟨l,s⟩) (λ i c=>(⟨i,c⟩:zge)) s.length (λ i=>s.take i) (λ c=>(⟨c⟩:zhP)) (λ i hi=>?_) ?_
 ·simp only [ql,qf] at key
  exact key
 ·have hm:=h i hi
  have ht:(s.take i).length=i:=by rw [qg];omega
  have e1:wI ((i:Int)+1)=((i+1:Nat):Int):=by rw [zls (by omega)];omega
  unfold zdd zes
  simp only [qc,e1,← zmD hi]
  rw [if_pos (by rw [decide_eq_true_eq];omega),zlb (by omega),zeZ _ hm.1 hm.2]
  simp only [qa]
  rw [zlb (by rw [ht];omega)]
 ·unfold zdd
  dsimp only
  rw [if_neg (by simp)]
theorem zr4 (w:WorldT) (h1:w.fRe.length≤1000) (h2:w.Line.length≤1000) (h3:∀ i,i < w.fRe.length→zq2 (nth w.fRe i).fTe.fBr) (h4:∀ i,i < w.Line.length→zq2 (nth w.Line i).Word.fTe.fBr):zec w=some w:=by
 unfold zec
 refine zlu (zAY w.fRe w.Line h1 h3) ?_
 exact zlu (zAZ w.fRe w.Line h2 h4) rfl
theorem zxH (l:List RegionT) (s:List SaidT) (hl:l.length≤1000) (h:∀ i,i < l.length→zq2 (nth l i).fTe.fBr):zln (zaE ⟨l,s⟩) ⟨0,[]⟩=some ⟨l⟩:=by
 have key:=zmp (step:=zaE ⟨l,s⟩) (λ i c=>(⟨i,c⟩:zd5)) l.length (λ i=>l.take i) (λ c=>(⟨c⟩:zg1)) (λ i hi=>?_) ?_
 ·simp only [ql,qf] at key
  exact key
 ·have hm:=h i hi
  have ht:(l.take i).length=i:=by rw [qg];omega
  have e1:wI ((i:Int)+1)=((i+1:Nat):Int):=by rw [zls (by omega)];omega
  unfold zaE zfb
  simp only [qc,e1,← zmD hi]
  rw [if_pos (by rw [decide_eq_true_eq];omega),zlb (by omega),zn9 _ hm]
  simp only [qa]
  rw [zlb (by rw [ht];omega)]
 ·unfold zaE
  dsimp only
  rw [if_neg (by simp)]
theorem zxJ (l:List RegionT) (s:List SaidT) (hl:s.length≤1000) (h:∀ i,i < s.length→zq2 (nth s i).Word.fTe.fBr):zln (zbp ⟨l,s⟩) ⟨0,[]⟩=some ⟨s⟩:=by
 have key:=zmp (step:=zbp ⟨l,s⟩) (λ i c=>(⟨i,c⟩:zd6)) s.length (λ i=>s.take i) (λ c=>(⟨c⟩:zg2)) (λ i hi=>?_) ?_
 ·simp only [ql,qf] at key
  exact key
 ·have hm:=h i hi
  have ht:(s.take i).length=i:=by rw [qg];omega
  have e1:wI ((i:Int)+1)=((i+1:Nat):Int):=by rw [zls (by omega)];omega
  unfold zbp zgf
  simp only [qc,e1,← zmD hi]
  rw [if_pos (by rw [decide_eq_true_eq];omega),zlb (by omega),zn9 _ hm]
  simp only [qa]
  rw [zlb (by rw [ht];omega)]
 ·unfold zbp
  dsimp only
  rw [if_neg (by simp)]
theorem zsl (w:WorldT) (h1:w.fRe.length≤1000) (h2:w.Line.length≤1000) (h3:∀ i,i < w.fRe.length→zq2 (nth w.fRe i).fTe.fBr) (h4:∀ i,i < w.Line.length→zq2 (nth w.Line i).Word.fTe.fBr):zcJ w=some w:=by
 unfold zcJ
 refine zlu (zxH w.fRe w.Line h1 h3) ?_
 exact zlu (zxJ w.fRe w.Line h2 h4) rfl
theorem zrw {x y:RegionT} (hx:okr x) (hy:okr y):∀ i,i < [x,y].length→zq2 (nth [x,y] i).fTe.fBr:=λ i hi=>by
 match i,hi with
 | 0,_=>exact zvq hx
 | 1,_=>exact zvq hy
theorem ztF:∀ i,i < ([]:List SaidT).length→zq2 (nth ([]:List SaidT) i).Word.fTe.fBr:=λ i hi=>by simp at hi
theorem zwH {x:RegionT} (hx:okr x):zfw x=some (wd x,true):=by
 rw [zsu x hx.2]
 unfold zAl
 rw [if_pos hx.1]
 rfl
theorem zDo (x y:RegionT) (hx:okr x) (hy:okr y):zT ⟨0,[x,y]⟩=some (if (zlH y (wd x)).2=true then .inl ⟨1,[x,(zlH y (wd x)).1]⟩ else .inr (.inl ())):=by
 unfold zT
 refine (if_pos rfl).trans ?_
 refine (zlb (show (0:Int)≤0∧(0:Int) < 2 by decide) _).trans ?_
 refine (zlb (show (0:Int)≤0∧(0:Int) < 2 by decide) _).trans ?_
 refine zlu (zwH hx) ?_
 refine (zlb (show (0:Int)≤1∧(1:Int) < 2 by decide) _).trans ?_
 refine zlu (zho y (wd x) hy.2 ⟨hx.2.2.1,hx.2.2.2⟩) ?_
 cases h:(zlH y (wd x)).2
 ·rfl
 ·refine (if_neg (by simp)).trans ?_
  exact (zlb (show (0:Int)≤1∧(1:Int) < 2 by decide) _).trans rfl
theorem zDp (x y:RegionT) (hx:okr x) (hy:okr y):zT ⟨1,[x,y]⟩=some (if (zlH x (wd y)).2=true then .inl ⟨2,[(zlH x (wd y)).1,y]⟩ else .inr (.inl ())):=by
 unfold zT
 refine (if_pos rfl).trans ?_
 refine (zlb (show (0:Int)≤1∧(1:Int) < 2 by decide) _).trans ?_
 refine (zlb (show (0:Int)≤1∧(1:Int) < 2 by decide) _).trans ?_
 refine zlu (zwH hy) ?_
 refine (zlb (show (0:Int)≤0∧(0:Int) < 2 by decide) _).trans ?_
 refine zlu (zho x (wd y) hx.2 ⟨hy.2.2.1,hy.2.2.2⟩) ?_
 cases h:(zlH x (wd y)).2
 ·rfl
 ·refine (if_neg (by simp)).trans ?_
  exact (zlb (show (0:Int)≤0∧(0:Int) < 2 by decide) _).trans rfl
def zqa (x y:RegionT):Option (RegionT×RegionT) :=
 if (zlH y (wd x)).2=true then (if (zlH x (wd (zlH y (wd x)).1)).2=true then some ((zlH x (wd (zlH y (wd x)).1)).1,(zlH y (wd x)).1) else none) else none
theorem zCH (x y:RegionT) (hx:okr x) (hy:okr y):zln zT ⟨0,[x,y]⟩=some (match zqa x y with | some p=>.inr ⟨[p.1,p.2]⟩ | none=>.inl ()):=by
 have h0:=zDo x y hx hy
 unfold zqa
 cases h1:(zlH y (wd x)).2
 ·rw [h1,if_neg (by simp)] at h0
  rw [zly h0]
  rfl
 ·rw [h1,if_pos rfl] at h0
  rw [zl4 h0]
  have h2:=zDp x (zlH y (wd x)).1 hx (zoy hy hx h1)
  cases h3:(zlH x (wd (zlH y (wd x)).1)).2
  ·rw [h3,if_neg (by simp)] at h2
   rw [zly h2]
   rfl
  ·rw [h3,if_pos rfl] at h2
   rw [zl4 h2]
   refine zly ?_
   unfold zT
   exact if_neg (by simp)
theorem zwJ (p:zeX) (l:List RegionT) (i:Nat) (r:RegionT) (hp:i < p.c3.length) (hi:i < l.length) (hb:l.length≤1000) (hn:nth l i=r) (hr:okr r):z8 p ⟨i,l⟩=some (.inl ⟨((i+1:Nat):Int),l.set i (znf r)⟩):=by
 have e1:wI ((i:Int)+1)=((i+1:Nat):Int):=by rw [zls (by omega)];omega
 unfold z8 zda
 simp only [qc,e1,hn]
 rw [if_pos (by rw [decide_eq_true_eq];omega),zlb (by omega)]
 simp only [qa]
 have e2:((r.fVe.tmod 10) == r.Id)=zst r:=rfl
 rw [e2]
 unfold znf
 cases zst r
 ·rw [if_neg (by simp),if_neg (by simp),← hn,zvg hi]
 ·rw [if_pos rfl,if_pos rfl]
  have:=zi4 r hr.1 hr.2
  have e:(⟨r.Id,r.fVe,r.fTe⟩:RegionT)=r:=rfl
  rw [e,this]
  simp only [qa]
  rw [zlb (by omega)]
theorem zCJ (a b:RegionT) (ha:okr a) (hb:okr b):zln (z8 ⟨[a,b]⟩) ⟨0,[a,b]⟩=some ⟨[znf a,znf b]⟩:=by
 have h0:=zwJ ⟨[a,b]⟩ [a,b] 0 a (by simp) (by simp) (by simp) rfl ha
 have h1:=zwJ ⟨[a,b]⟩ [znf a,b] 1 b (by simp) (by simp) (by simp) rfl hb
 have h0':z8 ⟨[a,b]⟩ ⟨0,[a,b]⟩=some (.inl ⟨1,[znf a,b]⟩):=h0
 have h1':z8 ⟨[a,b]⟩ ⟨1,[znf a,b]⟩=some (.inl ⟨2,[znf a,znf b]⟩):=h1
 rw [zl4 h0',zl4 h1']
 refine zly ?_
 unfold z8
 exact if_neg (by simp)
def znh (x y:RegionT):Bool:=(x.fVe == y.fVe) && decide (x.fTe=y.fTe)
theorem zkw (x y:RegionT) (hx:okr x) (hy:okr y):zeQ x y=some (znh x y):=by
 unfold zeQ znh
 rw [zk5 _ _ hx.2.2.2 hy.2.2.2 (zmb hx.1) (zmb hy.1)]
 cases x.fVe == y.fVe<;>simp
theorem zkx (x y:RegionT) (hx:okr x) (hy:okr y):zb3 x y=some (znh x y):=by
 unfold zb3 znh
 rw [zk6 _ _ hx.2.2.2 (zmb hx.1)]
 cases x.fVe == y.fVe<;>simp
def zsw:Nat→Int→RegionT→RegionT→List RegionT×Int×Bool
 | 0,_,_,_=>([],0,false)
 | k+1,n,x,y=>match zsv x y with
  | none=>([],0,false)
  | some p=>if (znh x p.1 && znh y p.2)=true then ([p.1,p.2],n,true) else zsw k (n+1) p.1 p.2
theorem zuD (x y:RegionT):zsv x y=(zqa x y).map λ p=>(znf p.1,znf p.2):=by
 unfold zsv zqa
 split
 ·split<;>rfl
 ·rfl
theorem zzs {x y:RegionT} {p:RegionT×RegionT} (hx:okr x) (hy:okr y) (h:zqa x y=some p):okr p.1∧okr p.2:=by
 unfold zqa at h
 split at h
 rotate_left
 ·cases h
 rename_i h1
 split at h
 rotate_left
 ·cases h
 rename_i h2
 have a:=zoy hy hx h1
 have b:=zoy hx a h2
 cases h
 exact ⟨b,a⟩
theorem zA0 (n:Int) (x y:RegionT) (hn:n≤20) (h0:0≤n) (hx:okr x) (hy:okr y):zaa ⟨n,[x,y]⟩=some (match zsv x y with
  | none=>.inr (.inl ⟨0,false,[],[]⟩)
  | some p=>if (znh x p.1 && znh y p.2)=true then .inr (.inl ⟨n,true,[p.1,p.2],[]⟩) else .inl ⟨n+1,[p.1,p.2]⟩):=by
 have e1:wI (n+1)=n+1:=zls (by omega)
 unfold zaa
 simp only [e1]
 refine (if_pos (by rw [decide_eq_true_eq];exact hn)).trans ?_
 refine zlu (zr4 ⟨[x,y],[]⟩ (by simp) (by simp) (zrw hx hy) ztF) ?_
 refine zlu (zCH x y hx hy) ?_
 rw [zuD]
 cases hh:zqa x y with
 | none=>rfl
 | some p =>
  obtain ⟨p1,p2⟩:=zzs hx hy hh
  dsimp only [Option.map_some]
  refine zlu (zCJ p.1 p.2 p1 p2) ?_
  have q1:=zsP p1
  have q2:=zsP p2
  refine zlu (x:=⟨znh x (znf p.1) && znh y (znf p.2)⟩) ?_ ?_
  ·refine (zlb (show (0:Int) < 2 by decide) _).trans ?_
   refine (zlb (show (0:Int) < 2 by decide) _).trans ?_
   refine zlu (zkw x (znf p.1) hx q1) ?_
   cases hs:znh x (znf p.1)
   ·rfl
   ·refine (if_pos rfl).trans ?_
    refine (zlb (show (1:Int) < 2 by decide) _).trans ?_
    refine (zlb (show (1:Int) < 2 by decide) _).trans ?_
    exact zlu (zkw y (znf p.2) hy q2) rfl
  ·cases hs:znh x (znf p.1) && znh y (znf p.2)
   ·rfl
   ·refine (if_pos rfl).trans ?_
    exact zlu (zr4 ⟨[znf p.1,znf p.2],[]⟩ (by simp) (by simp) (zrw q1 q2) ztF) rfl
def zFN (y:zgN⊕Unit):Option (WorldT×Int×Bool):=match y with
 | .inl p=>some (⟨p.c1,p.c2⟩,p.t3,p.t4)
 | .inr _=>some (⟨[],[]⟩,0,false)
theorem zA1:∀ (k:Nat) (n:Int) (x y:RegionT),n+k=21→0≤n→okr x→okr y→(zln zaa ⟨n,[x,y]⟩).bind zFN=some (⟨(zsw k n x y).1,[]⟩,(zsw k n x y).2)
 | 0,n,x,y,h,h0,hx,hy=>by
  have:zln zaa ⟨n,[x,y]⟩=some (.inr ()):=by
   refine zly ?_
   unfold zaa
   exact if_neg (by rw [decide_eq_true_eq];show ¬ n≤20;omega)
  rw [this]
  rfl
 | k+1,n,x,y,h,h0,hx,hy=>by
  have hs:=zA0 n x y (by omega) h0 hx hy
  unfold zsw
  cases hr:zsv x y with
  | none =>
   rw [hr] at hs
   rw [zly hs]
   rfl
  | some p =>
   rw [hr] at hs
   dsimp only at hs ⊢
   obtain ⟨p1,p2⟩:=zsQ hx hy hr
   cases hsm:znh x p.1 && znh y p.2
   ·rw [hsm,if_neg (by simp)] at hs
    rw [zl4 hs,if_neg (by simp)]
    exact zA1 k (n+1) p.1 p.2 (by omega) (by omega) p1 p2
   ·rw [hsm,if_pos rfl] at hs
    rw [zly hs,if_pos rfl]
    rfl
def zmy (w:WorldT):WorldT×Int×Bool:=if zp8 w=true then (⟨(zsw 20 1 (nth w.fRe 0) (nth w.fRe 1)).1,[]⟩,(zsw 20 1 (nth w.fRe 0) (nth w.fRe 1)).2) else (⟨[],[]⟩,0,false)
theorem zqb {w:WorldT} (hw:zm4 w) (h:zp8 w=true):okr (nth w.fRe 0)∧okr (nth w.fRe 1)∧w.fRe=[nth w.fRe 0,nth w.fRe 1]∧w.Line.length≤20∧∀ i,i < w.Line.length→zq2 (nth w.Line i).Word.fTe.fBr:=by
 obtain ⟨h2,hg⟩:=zt1 h
 have e:w.fRe=[nth w.fRe 0,nth w.fRe 1]:=by
  match hl:w.fRe,h2 with
  | [a,b],_=>rfl
 have hline:w.Line.length≤20∧w.Line.all zov=true:=by
  unfold zp8 at h
  simp only [qh,decide_eq_true_eq] at h
  exact ⟨h.1.1.2,h.2⟩
 refine ⟨⟨hg 0 (by omega),hw.1.2 _ (zlJ (by omega))⟩,⟨hg 1 (by omega),hw.1.2 _ (zlJ (by omega))⟩,e,hline.1,λ i hi=>?_⟩
 have:=List.all_eq_true.1 hline.2 _ (zlJ hi)
 unfold zov zpE at this
 simp only [qh] at this
 exact zqs (zoP this.2.1.2)
theorem ziL (w:WorldT) (hw:zm4 w):zdm w=some (zmy w):=by
 unfold zdm zmy
 rw [zjj _ hw]
 simp only [qa]
 cases hg:zp8 w
 ·rfl
 obtain ⟨g1,g2,g3,g4,g5⟩:=zqb hw hg
 refine (if_neg (by simp)).trans ?_
 refine zlu (zr4 w (by rw [g3];simp) (by omega) (by rw [g3];exact zrw g1 g2) g5) ?_
 rw [if_pos rfl]
 have:=zA1 20 1 (nth w.fRe 0) (nth w.fRe 1) (by omega) (by omega) g1 g2
 rw [← g3] at this
 rw [← this]
 rfl
end Go.TL
set_option maxRecDepth 4000
namespace Go.TL
theorem zuE {x:RegionT} (hx:okr x):zaf x=some (wd x):=by
 unfold zaf
 rw [zn9 _ (zvq hx)]
 rfl
theorem zvr {r q:RegionT} (hr:okr r) (hq:okr q):zlH r (wd q)=if (zm5 r.fTe.fBr q.fTe.fBr).length≤12 then (⟨r.Id,max r.fVe q.fVe,⟨zm5 r.fTe.fBr q.fTe.fBr⟩⟩,true) else (⟨0,0,⟨[]⟩⟩,false):=by
 have hq0:zlZ ⟨0,(wd q).fVe,(wd q).fTe⟩=true:=by
  obtain ⟨k1,k2,k3,k4⟩:=zmi hq.1
  exact ztB ⟨by show (0:Int)≤0;omega,by show (0:Int)≤9;omega⟩ k2 k3 k4
 unfold zlH
 rw [hr.1,hq0]
 simp only [qn,decide_eq_true_eq]
 rfl
theorem zuF (l:List RegionT) (i:Nat) (r q:RegionT) (hi:i < l.length) (hn:nth l i=r) (hr:okr r) (hq:okr q):zU l i (wd q)=some ((zlH r (wd q)).2,if (zlH r (wd q)).2=true then l.set i (zlH r (wd q)).1 else l):=by
 unfold zU
 rw [zlb hi,hn,zip r.fTe (wd q).fTe hr.2.2.2 hq.2.2.2]
 simp only [qa]
 rw [zvr hr hq]
 unfold zzm
 rw [zmb hr.1,show zl5 (wd q).fTe=true from zmb hq.1]
 have e:(wd q).fTe.fBr=q.fTe.fBr:=rfl
 simp only [qn,e,decide_eq_true_eq]
 by_cases hc:(zm5 r.fTe.fBr q.fTe.fBr).length≤12
 ·simp only [hc,if_true]
  rfl
 ·simp only [hc,if_false]
  have e2:(⟨r.Id,r.fVe,r.fTe⟩:RegionT)=nth l i:=by rw [hn]
  rw [if_neg (by simp),if_neg (by simp),e2,zvg hi]
theorem zzt (l:List RegionT) (i:Nat) (r:RegionT) (k:Int) (n:ByteArray) (hg:zlZ r=true) (c0:zmq r k n=0):zbq l i r k n=some (0,l.set i (zwD r k n)):=by
 obtain ⟨g1,g2,g3,g4⟩:=zmi hg
 have hl:=zox g3
 have h12:=zl7 g3
 obtain ⟨f1,f2⟩:=zrS (zlV r.fTe)
 obtain ⟨m,hm,hm2⟩:=zjA r k n hg
 obtain ⟨z1,z2,z3,z4,⟨t,z5⟩,z6⟩:=zuB c0
 have c1:(decide (1≤k∧k≤6) && zmk n)=true:=by simp [z1,z2]
 have hm3:=hm2 c1
 rw [z5] at hm3
 have ht:=zqt hg c0
 have e6:zcg r.fTe (zlV r.fTe++[⟨(zlX (zlV r.fTe)).1.Next,r.fVe,k,n⟩])=some ⟨znq r.fTe.fBr (zlV r.fTe++[znu r k n])⟩:=zht r.fTe (zlV r.fTe++[znu r k n]) (zmh g3) (by omega) ht
 have e2:((r.fVe.tmod 10) == r.Id)=zst r:=rfl
 unfold zbq zai zW
 rw [zfO _ g3,zwG r g3]
 simp only [qa]
 rw [hm,zc5,zb5]
 simp only [qa]
 rw [decide_eq_true z1,z2]
 simp only [qd,qb,if_false,qa]
 rw [e2,z3]
 simp only [qd,qb,if_false]
 by_cases hk2:k=2
 ·rw [if_pos (by simp [hk2]),znL _ _ (by omega)]
  simp only [qa]
  rw [z4 hk2]
  simp only [qb,if_false]
  rw [hm3]
  simp only [qw,qd,qb,if_false]
  rw [if_neg (by simpa using (show ¬ ((zlV r.fTe).length:Int)=60 by omega))]
  unfold zh
  rw [zlb (by omega)]
  simp only [qa]
  rw [zlb (by omega),e6]
  rfl
 ·rw [if_neg (by simp [hk2]),hm3]
  simp only [qw,qd,qb,if_false]
  rw [if_neg (by simpa using (show ¬ ((zlV r.fTe).length:Int)=60 by omega))]
  unfold zh
  rw [zlb (by omega)]
  simp only [qa]
  rw [zlb (by omega),e6]
  rfl
theorem zxK {α:Type} [Inhabited α] {l:List α} {i:Nat} (h:i < l.length) (a:α):nth (l.set i a) i=a:=by
 rw [zlT (by simpa using h)]
 simp
theorem zwK (l:List RegionT) (i:Nat) (r:RegionT) (hi:i < l.length) (hn:nth l i=r) (hr:okr r):zba l i=some ((((zpG r (zlN r.fTe)).2:Nat):Int),l.set i (zpG r (zlN r.fTe)).1):=by
 obtain ⟨g1,g2,g3,g4⟩:=zmi hr.1
 have hls:=ztD hr.2.2.2
 have hll:(zlN r.fTe).length≤720:=by
  have:=zuv r.fTe
  unfold zx9 at this
  rw [if_pos g3] at this
  exact this
 unfold zba
 rw [zlb hi,hn,ziC _ g3,zy4]
 simp only [qa]
 have key:=zmp (step:=zP (zlN r.fTe) i) (λ j (c:RegionT×Nat)=>(⟨(c.2:Int),j,l.set i c.1⟩:zbs)) (zlN r.fTe).length (λ j=>zne r (zlN r.fTe) j) (λ c=>(⟨(c.2:Int),l.set i c.1⟩:ze1)) (λ j hj=>?_) ?_
 ·have e0:zne r (zlN r.fTe) 0=(r,0):=rfl
  rw [e0] at key
  have e1:zne r (zlN r.fTe) (zlN r.fTe).length=zpG r (zlN r.fTe):=by unfold zne zpG;rw [qf]
  rw [e1] at key
  have key':zln (zP (zlN r.fTe) i) ⟨0,0,l.set i ⟨r.Id,r.fVe,r.fTe⟩⟩=_:=key
  rw [key']
  rfl
 ·obtain ⟨i1,i2,i3⟩:=ztE hr.1 hr.2 hls j
  have e1:wI ((j:Int)+1)=((j+1:Nat):Int):=by rw [zls (by omega)];omega
  have e2:wI (((zne r (zlN r.fTe) j).2:Int)+1)=(((zne r (zlN r.fTe) j).2+1:Nat):Int):=by rw [zls (by omega)];omega
  have es:∀ a b:RegionT,(l.set i a).set i b=l.set i b:=λ a b=>List.set_set ..
  unfold zP
  simp only [qc,e1,e2,zxK hi,es]
  rw [if_pos (by rw [decide_eq_true_eq];omega),zlb (by omega),zlb (by simpa using hi)]
  have hc:zaD ⟨(zne r (zlN r.fTe) j).1.Id,(zne r (zlN r.fTe) j).1.fVe,(zne r (zlN r.fTe) j).1.fTe⟩ 2 (nth (zlN r.fTe) j)=_:=zk7 (zne r (zlN r.fTe) j).1 2 (nth (zlN r.fTe) j) i1
  rw [hc,zuC hj]
  unfold zof
  by_cases c0:zmq (zne r (zlN r.fTe) j).1 2 (nth (zlN r.fTe) j)=0
  ·have hd:zbq (l.set i (zne r (zlN r.fTe) j).1) i ⟨(zne r (zlN r.fTe) j).1.Id,(zne r (zlN r.fTe) j).1.fVe,(zne r (zlN r.fTe) j).1.fTe⟩ 2 (nth (zlN r.fTe) j)=_:=zzt (l.set i (zne r (zlN r.fTe) j).1) i (zne r (zlN r.fTe) j).1 2 (nth (zlN r.fTe) j) i1 c0
   simp only [c0,if_true]
   rw [hd,es]
   rfl
  ·simp only [c0,if_false]
   rw [if_neg (by simpa using c0)]
 ·unfold zP
  dsimp only
  rw [if_neg (by simp)]
theorem zyk (p:zag) (l:List RegionT) (i:Nat) (r:RegionT) (hp:i < p.c1.length) (hi:i < l.length) (hb:l.length≤1000) (hn:nth l i=r) (hr:okr r):zw p ⟨i,l⟩=some (.inl ⟨((i+1:Nat):Int),l.set i (znf r)⟩):=by
 have e1:wI ((i:Int)+1)=((i+1:Nat):Int):=by rw [zls (by omega)];omega
 unfold zw zW
 simp only [qc,e1,hn]
 rw [if_pos (by rw [decide_eq_true_eq];omega),zlb (by omega)]
 simp only [qa]
 have e2:((r.fVe.tmod 10) == r.Id)=zst r:=rfl
 rw [e2]
 unfold znf
 cases zst r
 ·rw [if_neg (by simp),if_neg (by simp),← hn,zvg hi]
 ·rw [if_pos rfl,if_pos rfl,zwK l i r hi hn hr]
  simp only [qa]
  rw [zlb (by simp)]
theorem zDq (t:Bool) (a b:RegionT) (ha:okr a) (hb:okr b):zln (zw ⟨t,[a,b]⟩) ⟨0,[a,b]⟩=some ⟨[znf a,znf b]⟩:=by
 have h0:=zyk ⟨t,[a,b]⟩ [a,b] 0 a (by simp) (by simp) (by simp) rfl ha
 have h1:=zyk ⟨t,[a,b]⟩ [znf a,b] 1 b (by simp) (by simp) (by simp) rfl hb
 have h0':zw ⟨t,[a,b]⟩ ⟨0,[a,b]⟩=some (.inl ⟨1,[znf a,b]⟩):=h0
 have h1':zw ⟨t,[a,b]⟩ ⟨1,[znf a,b]⟩=some (.inl ⟨2,[znf a,znf b]⟩):=h1
 rw [zl4 h0',zl4 h1']
 refine zly ?_
 unfold zw
 exact if_neg (by simp)
theorem zA2 (x y:RegionT) (hx:okr x) (hy:okr y):∃ r,zbr ⟨[x,y],[]⟩=some r∧(match zsv x y with
  | none=>r.1=false
  | some p=>r.1=true∧r.2.2=[p.1,p.2]):=by
 rw [zuD]
 unfold zbr zqa
 rw [zlb (by simp),zlb (by simp)]
 have w0:zaf (nth [x,y] 0)=some (wd x):=zuE hx
 have k1:=zuF [x,y] 1 y x (by simp) rfl hy hx
 cases h1:(zlH y (wd x)).2
 ·rw [h1,if_neg (by simp)] at k1
  refine ⟨_,zlu (x:=⟨true,[x,y]⟩) ?_ (if_pos rfl),?_⟩
  ·refine zlu w0 ?_
   refine zlu k1 ?_
   refine (zlb (show 2=2 from rfl) _).trans ?_
   exact if_pos rfl
  ·rw [if_neg (by simp)]
   rfl
 ·rw [h1,if_pos rfl] at k1
  have hy':=zoy hy hx h1
  have k1':zU [x,y] 1 (wd x)=some (true,[x,(zlH y (wd x)).1]):=k1
  have w1:zaf (nth [x,(zlH y (wd x)).1] 1)=some (wd (zlH y (wd x)).1):=zuE hy'
  have k2:=zuF [x,(zlH y (wd x)).1] 0 x (zlH y (wd x)).1 (by simp) rfl hx hy'
  rw [if_pos rfl]
  cases h2:(zlH x (wd (zlH y (wd x)).1)).2
  ·rw [h2,if_neg (by simp)] at k2
   refine ⟨_,zlu (x:=⟨true,[x,(zlH y (wd x)).1]⟩) ?_ (if_pos rfl),?_⟩
   ·refine zlu w0 ?_
    refine zlu k1' ?_
    refine (zlb (show 2=2 from rfl) _).trans ?_
    refine (if_neg (by simp)).trans ?_
    refine zlu w1 ?_
    refine zlu k2 ?_
    refine (zlb (show 2=2 from rfl) _).trans ?_
    rfl
   ·rw [if_neg (by simp)]
    rfl
  ·rw [h2,if_pos rfl] at k2
   have hx':=zoy hx hy' h2
   have k2':zU [x,(zlH y (wd x)).1] 0 (wd (zlH y (wd x)).1)=some (true,[(zlH x (wd (zlH y (wd x)).1)).1,(zlH y (wd x)).1]):=k2
   refine ⟨(true,⟨[znf (zlH x (wd (zlH y (wd x)).1)).1,znf (zlH y (wd x)).1],[]⟩,[znf (zlH x (wd (zlH y (wd x)).1)).1,znf (zlH y (wd x)).1]),zlu (x:=⟨false,[(zlH x (wd (zlH y (wd x)).1)).1,(zlH y (wd x)).1]⟩) ?_ ?_,?_⟩
   ·refine zlu w0 ?_
    refine zlu k1' ?_
    refine (zlb (show 2=2 from rfl) _).trans ?_
    refine (if_neg (by simp)).trans ?_
    refine zlu w1 ?_
    refine zlu k2' ?_
    refine (zlb (show 2=2 from rfl) _).trans ?_
    rfl
   ·refine (if_neg (by simp)).trans ?_
    exact zlu (zDq false _ _ hx' hy') rfl
   ·rw [if_pos rfl]
    exact ⟨rfl,rfl⟩
theorem zA3 (n:Int) (x y:RegionT) (hn:n≤20) (h0:0≤n) (hx:okr x) (hy:okr y):zab ⟨n,[x,y]⟩=some (match zsv x y with
  | none=>.inr (.inl ⟨0,false,[]⟩)
  | some p=>if (znh x p.1 && znh y p.2)=true then .inr (.inl ⟨n,true,[p.1,p.2]⟩) else .inl ⟨n+1,[p.1,p.2]⟩):=by
 have e1:wI (n+1)=n+1:=zls (by omega)
 obtain ⟨r,hr,hm⟩:=zA2 x y hx hy
 unfold zab
 simp only [e1]
 refine (if_pos (by rw [decide_eq_true_eq];exact hn)).trans ?_
 refine zlu (zsl ⟨[x,y],[]⟩ (by simp) (by simp) (zrw hx hy) ztF) ?_
 refine zlu hr ?_
 cases hh:zsv x y with
 | none =>
  rw [hh] at hm
  dsimp only at hm ⊢
  rw [hm]
  rfl
 | some p =>
  rw [hh] at hm
  dsimp only at hm ⊢
  obtain ⟨m1,m2⟩:=hm
  obtain ⟨q1,q2⟩:=zsQ hx hy hh
  rw [m1,m2]
  refine (if_neg (by simp)).trans ?_
  refine zlu (x:=⟨znh x p.1 && znh y p.2⟩) ?_ ?_
  ·refine (zlb (show (0:Int) < 2 by decide) _).trans ?_
   refine (zlb (show (0:Int) < 2 by decide) _).trans ?_
   refine zlu (zkx x p.1 hx q1) ?_
   cases hs:znh x p.1
   ·rfl
   ·refine (if_pos rfl).trans ?_
    refine (zlb (show (1:Int) < 2 by decide) _).trans ?_
    refine (zlb (show (1:Int) < 2 by decide) _).trans ?_
    exact zlu (zkx y p.2 hy q2) rfl
  ·cases hs:znh x p.1 && znh y p.2
   ·rfl
   ·rfl
def zFO (y:zgO⊕Unit):Option (WorldT×Int×Bool):=match y with
 | .inl p=>some (⟨p.c1,[]⟩,p.t3,p.t4)
 | .inr _=>some (⟨[],[]⟩,0,false)
theorem zA4:∀ (k:Nat) (n:Int) (x y:RegionT),n+k=21→0≤n→okr x→okr y→(zln zab ⟨n,[x,y]⟩).bind zFO=some (⟨(zsw k n x y).1,[]⟩,(zsw k n x y).2)
 | 0,n,x,y,h,h0,hx,hy=>by
  have:zln zab ⟨n,[x,y]⟩=some (.inr ()):=by
   refine zly ?_
   unfold zab
   exact if_neg (by rw [decide_eq_true_eq];show ¬ n≤20;omega)
  rw [this]
  rfl
 | k+1,n,x,y,h,h0,hx,hy=>by
  have hs:=zA3 n x y (by omega) h0 hx hy
  unfold zsw
  cases hr:zsv x y with
  | none =>
   rw [hr] at hs
   rw [zly hs]
   rfl
  | some p =>
   rw [hr] at hs
   dsimp only at hs ⊢
   obtain ⟨p1,p2⟩:=zsQ hx hy hr
   cases hsm:znh x p.1 && znh y p.2
   ·rw [hsm,if_neg (by simp)] at hs
    rw [zl4 hs,if_neg (by simp)]
    exact zA4 k (n+1) p.1 p.2 (by omega) (by omega) p1 p2
   ·rw [hsm,if_pos rfl] at hs
    rw [zly hs,if_pos rfl]
    rfl
theorem ziM (w:WorldT) (hw:zm4 w):zca w=some (zmy w):=by
 unfold zca zmy
 rw [zjk _ hw]
 simp only [qa]
 cases hg:zp8 w
 ·rfl
 obtain ⟨g1,g2,g3,g4,g5⟩:=zqb hw hg
 refine (if_neg (by simp)).trans ?_
 refine zlu (zsl w (by rw [g3];simp) (by omega) (by rw [g3];exact zrw g1 g2) g5) ?_
 rw [if_pos rfl]
 have:=zA4 20 1 (nth w.fRe 0) (nth w.fRe 1) (by omega) (by omega) g1 g2
 rw [← g3] at this
 rw [← this]
 rfl
theorem zyl:∀ (k:Nat) (n:Int) (x y:RegionT),okr x→okr y→(zsw k n x y).1=[]∨∃ a b,(zsw k n x y).1=[a,b]∧okr a∧okr b
 | 0,n,x,y,hx,hy=>.inl rfl
 | k+1,n,x,y,hx,hy=>by
  unfold zsw
  cases hr:zsv x y with
  | none=>exact .inl rfl
  | some p =>
   obtain ⟨p1,p2⟩:=zsQ hx hy hr
   dsimp only
   split
   ·exact .inr ⟨p.1,p.2,rfl,p1,p2⟩
   ·exact zyl k (n+1) p.1 p.2 p1 p2
theorem zrx (w:WorldT):(zmy w).1=⟨(zmy w).1.fRe,[]⟩:=by
 unfold zmy
 split<;>rfl
theorem zqK {w:WorldT} (hw:zm4 w):(zmy w).1.fRe=[]∨∃ a b,(zmy w).1.fRe=[a,b]∧okr a∧okr b:=by
 unfold zmy
 split
 ·rename_i hg
  obtain ⟨g1,g2,g3,g4,g5⟩:=zqb hw hg
  exact zyl 20 1 _ _ g1 g2
 ·exact .inl rfl
theorem zxL {w:WorldT} (hw:zm4 w):zro (zmy w).1:=by
 rw [zrx]
 refine zsh ⟨?_,⟨by simp,λ y hy=>by simp at hy⟩⟩
 rcases zqK hw with e | ⟨a,b,e,ha,hb⟩
 ·show znS (zmy w).1.fRe
  rw [e]
  exact ⟨by simp,λ y hy=>by simp at hy⟩
 ·show znS (zmy w).1.fRe
  rw [e]
  refine ⟨by simp,λ y hy=>?_⟩
  simp only [List.mem_cons,List.mem_nil_iff,or_false] at hy
  rcases hy with rfl | rfl
  ·exact ha.2
  ·exact hb.2
theorem zzu {w:WorldT} (hw:zm4 w):(zmy w).1.fRe.length≤2∧(∀ i,i < (zmy w).1.fRe.length→(nth (zmy w).1.fRe i).fTe.fBr.length≤12)∧zm6 zl2 (zmy w).1.fRe≤10000:=by
 rcases zqK hw with e | ⟨a,b,e,ha,hb⟩
 ·rw [e]
  exact ⟨by simp,λ i hi=>by simp at hi,by simp [zm6,znt]⟩
 ·rw [e]
  have h1:=zyf (zmb ha.1)
  have h2:=zyf (zmb hb.1)
  refine ⟨by simp,λ i hi=>?_,?_⟩
  ·match i,hi with
   | 0,_=>exact h1.1
   | 1,_=>exact h2.1
  ·rw [znR,znR]
   have e0:zm6 zl2 []=0:=rfl
   rw [e0]
   unfold zl2
   omega
theorem zzv (k:Int):zdo k=some k:=by
 unfold zdo
 have:zln zdB ()=some ():=zly rfl
 rw [this]
 rfl
theorem zwL (l:List RegionT) (k:Int) (hk:0≤k) (hl:l.length≤1099511627776) (hi:∀ i,i < l.length→(nth l i).fTe.fBr.length≤1099511627776) (hb:k+zm6 zl2 l≤1099511627776) :
  zcq ⟨l,[]⟩ k=some (k+zm6 zl2 l,zpg zoj zl2 l k):=by
 unfold zcq
 dsimp only
 rw [zpF l k hk hl hi hb]
 simp only [qa]
 rw [zlb (zmV ..),zzv]
 rfl
theorem zsx (l:List RegionT) (k:Int) (hk:0≤k) (hl:l.length≤1099511627776) (hi:∀ i,i < l.length→(nth l i).fTe.fBr.length≤1099511627776) (hb:k+zm6 zl2 l≤1099511627776) :
  zdp (zpg zoj zl2 l k) k=some (k+zm6 zl2 l):=by
 unfold zdp
 have key:=zrn (step:=za6 (zpg zoj zl2 l k)) (λ i k=>(⟨k,i⟩:zdC)) zl2 zoj l 1099511627776 (λ k=>(⟨k⟩:zgP)) k (λ i k' hi' hn h0 h1=>?_) (λ k'=>?_) hk hb
 ·rw [key];rfl
 ·have hw:zl2 (nth l i)=2+zpH (nth l i).fTe.fBr:=rfl
  rw [hw] at h1
  have e1:wI (k'+1)=k'+1:=zls (by omega)
  have e2:wI (k'+1+1)=k'+2:=by rw [zls (by omega)];omega
  have e3:wI ((i:Int)+1)=((i+1:Nat):Int):=by rw [zls (by omega)];omega
  have e4:k'+2+(zpH (nth l i).fTe.fBr:Int)=k'+(zl2 (nth l i):Int):=by rw [hw];omega
  unfold za6
  simp only [qc,hn,e1,e2,e3]
  have hlen:(zpg zoj zl2 l k).length=l.length:=zmV ..
  have em:zoj k' (nth l i)=⟨k',k'+1,⟨zyY (nth l i).fTe.fBr (k'+2)⟩⟩:=rfl
  rw [if_pos (by rw [decide_eq_true_eq];omega),zlb (by omega),em]
  dsimp only
  rw [if_neg (by simp),zlb (by omega),if_neg (by simp),zlb (by omega),zss _ _ (by omega) (hi i hi') (by omega)]
  simp only [qa]
  rw [if_neg (by simp;omega),e4]
 ·unfold za6
  rw [if_neg (by simp [zmV])]
theorem zwM (l:List RegionT) (k:Int) (hk:0≤k) (hl:l.length≤1099511627776) (hi:∀ i,i < l.length→(nth l i).fTe.fBr.length≤1099511627776) (hb:k+zm6 zl2 l≤1099511627776) :
  zde ⟨zpg zoj zl2 l k,[]⟩ k=some (k+zm6 zl2 l):=by
 unfold zde
 dsimp only
 rw [zsx l k hk hl hi hb]
 simp only [qa]
 rw [if_neg (by simp;omega)]
 have:zeY [] (k+zm6 zl2 l)=some (k+zm6 zl2 l):=by
  unfold zeY
  have:zln (zcQ []) ⟨k+zm6 zl2 l,0⟩=some (.inr ⟨k+zm6 zl2 l⟩):=zly (by unfold zcQ;exact if_neg (by simp))
  rw [this]
  rfl
 rw [this]
 simp only [qa]
 rw [if_neg (by simp;omega)]
theorem zvs (w:WorldT) (hw:zm4 w):zbU w=some true:=by
 unfold zbU
 rw [zkb _ _ hw (by omega) (by omega)]
 simp only [qa]
 by_cases h:(znT w:Int)≤1048576
 rotate_left
 ·rw [if_pos (decide_eq_true (zCx h))]
 have hz:zlY w.fRe≤1048576:=by unfold znT at h;omega
 have hz2:zmC w.Line≤1048576:=by unfold znT at h;omega
 obtain ⟨z1,z2,z3⟩:=zvl hz
 obtain ⟨z4,z5,z6⟩:=zy5 hz2
 obtain ⟨n1,n2,n3⟩:=zzu hw
 have hline:=zrx w
 rw [if_neg (by simpa using zCw h),zjm _ (by omega)]
 simp only [qa]
 rw [ziL _ hw,ziM _ hw]
 simp only [qa,← hline]
 rw [zh2 _ _ (zxL hw),zh2 _ _ (zsh hw)]
 simp only [qa,decide_true,qd,beq_self_eq_true,bne_self_eq_false,qb,if_false]
 unfold zdy
 rw [zpF _ 1 (by omega) (by omega) (λ i hi=>qt (z2 i hi) (by omega)) (by omega)]
 simp only [qa]
 rw [zlb (zmV ..),zt2 _ _ (by omega) (by omega) (λ i hi=>qt (z5 i hi) (by omega)) (by omega)]
 simp only [qa]
 rw [zlb (zmV ..)]
 simp only [qa]
 rw [zlb (zmV ..),zlb (zmV ..),if_neg (by simp;omega)]
 simp only [qa,qb,if_false]
 have hmk:=zwL (zmy w).1.fRe 1 (by omega) (by omega) (λ i hi=>qt (n2 i hi) (by omega)) (by omega)
 rw [← hline] at hmk
 rw [hmk]
 simp only [qa]
 rw [zlb (zmV ..),zwM (zmy w).1.fRe 1 (by omega) (by omega) (λ i hi=>qt (n2 i hi) (by omega)) (by omega)]
 simp only [qa]
 rw [if_neg (by simp;omega),if_neg (by simp),if_neg (by simp;omega),if_neg (by simp)]
end Go.TL

import Derived.Test.YteonagfnhdlfcaaGreatDoorG28PpOrd
import Derived.Test.YteonagfnhdlfcaaGreatDoorG29PlR5C
import Derived.Test.YteonagfnhdlfcaaGreatDoorG27PpDeep
import Derived.Test.YteonagfnhdlfcaaGreatDoorG44PpMerge
open List renaming length_set → qL, length_append → qM, length_cons → qP, length_singleton → qd, take_length → qf, length_take → qh, all_eq_true → qi, mem_cons_of_mem → qj, getElem_append_left → qk, getElem_of_mem → ql, mem_of_mem_take → qn, length_filter_le → qp, getElem_mem → qr, nil_append → qt, take_zero → qu, pairwise_iff_getElem → qv, foldl_append → qw, prefix_refl → qz, length_drop → qba
open Option renaming bind_some → qa, isSome_some → qx
open Bool renaming false_eq_true → qb, not_true → qe, and_eq_true → qg, true_and → qo, not_eq_false → qy, not_false → qbb
open Int renaming toNat_natCast → qc
open Nat renaming le_trans → qm, le_refl → qq
set_option linter.unusedSimpArgs false
set_option linter.unusedVariables false
noncomputable section
set_option maxRecDepth 4000
namespace Go.TL
def zqq (l:List BranchT):Prop:=∀ i,i < l.length→(nth l i).fEv.length≤1000
theorem zmB (l:List EventT) (h:l.length≤1000):zg l=some l:=by
 unfold zg
 rw [zjL (by omega),qt]
theorem zzC (l:List BranchT) (h:List EventT) (hl:l.length≤1000) (hs:zqq l) (hh:h.length≤1000):∀ (r:List BranchT) (i:Nat) (put:Bool) (c:List BranchT),l.drop i=r→i≤l.length→c.length≤2 * i →
  ∃ put' c',zjZ (zcT l h) ⟨put,(i:Int),c⟩=some ⟨put',c'⟩∧(if put'=true then c' else c'++[⟨h⟩])=c++znw h r put∧c'.length≤2 * l.length:=by
 intro r
 induction r with
 | nil =>
  intro i put c hd hi hc
  have e:=zpG hd hi
  refine ⟨put,c,zkl ?_,?_,by omega⟩
  ·unfold zcT
   dsimp only
   rw [if_neg (by rw [decide_eq_true_eq];omega)]
  ·unfold znw
   cases put<;>simp
 | cons b r ih =>
  intro i put c hd hi hc
  obtain ⟨hlt,hb,hr⟩:=zoN hd
  have hbs:b.fEv.length≤1000:=by rw [← hb];exact hs i hlt
  have e1:wI ((i:Int)+1)=((i+1:Nat):Int):=by rw [zj0 (by omega)];omega
  have ebb:(⟨b.fEv⟩:BranchT)=b:=rfl
  have hstep:zcT l h ⟨put,(i:Int),c⟩=some (.inl (if zkp b.fEv h=true then ⟨put,((i+1:Nat):Int),c⟩ else if ((zkR b.fEv h).1 > 0∧put=false) then ⟨true,((i+1:Nat):Int),(c++[⟨h⟩])++[b]⟩ else ⟨put,((i+1:Nat):Int),c++[b]⟩)):=by
   unfold zcT
   simp only [qc,hb,e1]
   rw [if_pos (by rw [decide_eq_true_eq];omega),zjL (by omega),zcx _ _ (by omega) (by omega)]
   simp only [qa]
   cases hbg:zkp b.fEv h
   ·rw [if_neg (by simp),if_neg (by simp),zdJ _ _ (by omega) (by omega)]
    simp only [qa,zmB _ hh,zmB _ hbs,ebb]
    by_cases hc1:(zkR b.fEv h).1 > 0
    ·rw [if_pos (decide_eq_true hc1)]
     cases put
     ·simp only [qa,qbb,if_true]
      rw [zjL (by omega),zjL (by omega),if_pos ⟨hc1,trivial⟩]
     ·simp only [qa,qe,qb,if_false]
      rw [zjL (by omega),if_neg (by simp)]
    ·rw [if_neg (by simpa using hc1)]
     simp only [qa,qb,if_false]
     rw [zjL (by omega),if_neg (λ h=>hc1 h.1)]
   ·rw [if_pos rfl,if_pos rfl]
  rw [zkX hstep]
  unfold znw
  by_cases hbg:zkp b.fEv h=true
  ·rw [if_pos hbg,if_pos hbg]
   exact ih (i+1) put c hr (by omega) (by omega)
  ·rw [if_neg hbg,if_neg hbg]
   by_cases hc1:(zkR b.fEv h).1 > 0∧put=false
   ·rw [if_pos hc1,if_pos hc1]
    obtain ⟨p',c',g1,g2,g3⟩:=ih (i+1) true ((c++[⟨h⟩])++[b]) hr (by omega) (by simp only [qM,qd];omega)
    exact ⟨p',c',g1,by rw [g2];simp,g3⟩
   ·rw [if_neg hc1,if_neg hc1]
    obtain ⟨p',c',g1,g2,g3⟩:=ih (i+1) put (c++[b]) hr (by omega) (by simp only [qM,qd];omega)
    exact ⟨p',c',g1,by rw [g2];simp,g3⟩
def zlQ (l:List BranchT) (h:List EventT):List BranchT:=if (l.any λ b=>zkp h b.fEv)=true then l else znw h l false
theorem zju (l:List BranchT) (h:List EventT) (hl:l.length≤1000) (hs:zqq l) (hh:h.length≤1000):zfH l h=some (zlQ l h):=by
 unfold zfH zlQ
 have key:=zlU (step:=zbU l h) (λ i=>(⟨i⟩:zfs)) l.length (λ i=>zkp h (nth l i).fEv) (λ _=>(.inl ():Unit⊕Unit)) (.inr ()) (λ i hi hv=>?_) ?_
 ·have e:zjZ (zbU l h) ⟨0⟩=some (if (l.any λ b=>zkp h b.fEv)=true then .inl () else .inr ()):=by
   rw [key]
   have:=znH l λ b=>zkp h b.fEv
   cases hf:zlH (λ i=>zkp h (nth l i).fEv) l.length with
   | none=>rw [hf] at this;rw [← this];rfl
   | some k=>rw [hf] at this;rw [← this];rfl
  rw [e]
  simp only [qa]
  cases l.any λ b=>zkp h b.fEv
  ·simp only [qb,if_false]
   obtain ⟨p',c',g1,g2,g3⟩:=zzC l h hl hs hh l 0 false [] rfl (by omega) (by simp)
   have e0:((0:Nat):Int)=0:=rfl
   rw [e0] at g1
   rw [g1]
   simp only [qa,zmB _ hh]
   rw [qt] at g2
   rw [← g2]
   cases p'
   ·rw [if_pos (by rfl),zjL (by omega)];rfl
   ·rfl
  ·rfl
 ·unfold zbU
  have hi':i < l.length:=hi
  have hbs:=hs i hi'
  have e1:wI ((i:Int)+1)=((i+1:Nat):Int):=by rw [zj0 (by omega)];omega
  simp only [qc,e1]
  rw [if_pos (by rw [decide_eq_true_eq];omega),zjL (by omega),zcx _ _ (by omega) (by omega)]
  simp only [qa]
  cases zkp h (nth l i).fEv<;>rfl
 ·unfold zbU
  dsimp only
  rw [if_neg (by simp)]
theorem zez (t:TellingsT) (hl:t.fBr.length≤1000) (hs:zqq t.fBr):zbc t=some t:=by
 unfold zbc
 have key:=zkS (step:=zcU t) (λ i c=>(⟨i,c⟩:zft)) t.fBr.length (λ i=>t.fBr.take i) (λ c=>(⟨c⟩:zgS)) (λ i hi=>?_) ?_
 ·simp only [qu,qf] at key
  rw [key];rfl
 ·have ht:(t.fBr.take i).length=i:=by rw [qh];omega
  have e1:wI ((i:Int)+1)=((i+1:Nat):Int):=by rw [zj0 (by omega)];omega
  unfold zcU
  simp only [qc,e1,← zld hi]
  rw [if_pos (by rw [decide_eq_true_eq];omega),zjL (by omega),zmB _ (hs i hi)]
  simp only [qa]
  rw [zjL (by omega)]
 ·unfold zcU
  dsimp only
  rw [if_neg (by simp)]
theorem zzD (h:List EventT) (l:List BranchT):(znw h l false).length≤l.length+1:=by
 have h1:=(zle h l).length_eq
 have h2:=qp (λ b:BranchT=>!zkp b.fEv h) l
 unfold zln at h1
 rw [qM,qd] at h1
 omega
theorem zoD (l:List BranchT) (h:List EventT):(zlQ l h).length≤l.length+1:=by
 unfold zlQ
 split
 ·omega
 ·exact zzD h l
theorem zr2 {l:List BranchT} {h:List EventT} {b:BranchT} (hb:b∈zlQ l h):b∈l∨b=⟨h⟩:=by
 unfold zlQ at hb
 split at hb
 ·exact .inl hb
 ·rcases List.mem_append.1 ((zle h l).mem_iff.1 hb) with e | e
  ·exact .inl (List.mem_filter.1 e).1
  ·exact .inr (List.mem_singleton.1 e)
theorem zw2 {x y:List EventT} (h:zkp y x=true):0≤(zkR x y).1:=by
 unfold zkp at h
 rw [decide_eq_true_eq,zu3] at h
 cases hf:zlE x y with
 | some i =>
  rw [hf] at h
  unfold zlE at hf
  have:=(zpH hf).1
  simp only at h
  omega
 | none =>
  rw [hf] at h
  simp only at h
  unfold zkR
  rw [hf]
  simp only
  rw [if_neg (by omega)]
  split<;>simp
theorem zx4 {h:List EventT} (hh:zkP h=true):zkp h h=true:=(zoB hh hh).2 ⟨qq _,λ _ _=>rfl⟩
theorem zvk {b h:List EventT} (hb:zkP b=true) (hh:zkP h=true) (hn:zkp b h=false):(zkR b h).1≠0:=λ e=>by
 have:=(zy9 hb hh).1 e
 rw [this,zx4 hh] at hn
 cases hn
theorem zqr (l:List BranchT):zkA ⟨l⟩=true↔l.length≤12∧(∀ b∈l,zly b.fEv=true)∧l.Pairwise λ a b=>brL a b=true∧zkp a.fEv b.fEv=false:=by
 unfold zkA
 simp only [qg,decide_eq_true_eq,zkU,Bool.not_eq_true']
 constructor
 ·rintro ⟨h1,h2⟩
  refine ⟨h1,λ b hb=>?_,?_⟩
  ·obtain ⟨i,hi,rfl⟩:=ql hb
   have:=(h2 i hi).1
   rwa [zkj hi] at this
  ·rw [qv]
   intro k i hk hi hki
   have:=(h2 i hi).2 k hki
   rw [zkj hk,zkj hi] at this
   exact ⟨zoT.2 this.1,this.2⟩
 ·rintro ⟨h1,h2,h3⟩
  refine ⟨h1,λ i hi=>⟨?_,λ k hk=>?_⟩⟩
  ·rw [zkj hi];exact h2 _ (qr _)
  ·have:=List.pairwise_iff_getElem.1 h3 k i (by omega) hi hk
   rw [zkj (show k < l.length by omega),zkj hi]
   exact ⟨zoT.1 this.1,this.2⟩
def znS (l:List BranchT):Prop:=(∀ b∈l,zly b.fEv=true)∧l.Pairwise λ a b=>brL a b=true∧zkp a.fEv b.fEv=false
theorem zr3 {l:List BranchT} (h:znS l):zkA ⟨l⟩=decide (l.length≤12):=by
 by_cases h1:l.length≤12
 ·rw [(zqr l).2 ⟨h1,h⟩];simp [h1]
 ·cases hg:zkA ⟨l⟩
  ·simp [h1]
  ·exact absurd ((zqr l).1 hg).1 h1
theorem zra {l:List BranchT} {h:List EventT} (hl:znS l) (hh:zly h=true):znS (zlQ l h):=by
 unfold zlQ
 split
 ·exact hl
 ·rename_i ha
  have hno:∀ b∈l,zkp h b.fEv=false:=λ b hb=>by
   cases e:zkp h b.fEv
   ·rfl
   ·exact absurd (List.any_eq_true.2 ⟨b,hb,e⟩) ha
  refine ⟨λ b hb=>?_,?_⟩
  ·rcases List.mem_append.1 ((zle h l).mem_iff.1 hb) with e | e
   ·exact hl.1 b (List.mem_filter.1 e).1
   ·rw [List.mem_singleton.1 e];exact hh
  ·have hasc:=zpO h l (hl.2.imp λ h=>h.1) λ b hb hn=>zvk (zkh (hl.1 b hb)) (zkh hh) hn
   have hS:l.Pairwise λ a b=>zkp a.fEv b.fEv=false∧zkp b.fEv a.fEv=false:=hl.2.imp λ {a b} ⟨h1,h2⟩=>⟨h2,by
    cases e:zkp b.fEv a.fEv
    ·rfl
    ·have:=zw2 e
     have:=zoT.1 h1
     omega⟩
   have hS2:(zln h l++[(⟨h⟩:BranchT)]).Pairwise λ a b=>zkp a.fEv b.fEv=false∧zkp b.fEv a.fEv=false:=by
    rw [List.pairwise_append]
    refine ⟨hS.filter _,by simp,λ a ha b hb=>?_⟩
    rw [List.mem_singleton.1 hb]
    have ha':=List.mem_filter.1 ha
    exact ⟨by simpa using ha'.2,hno a ha'.1⟩
   have hS3:=((zle h l).pairwise_iff (R:=λ a b:BranchT=>zkp a.fEv b.fEv=false∧zkp b.fEv a.fEv=false) λ h=>⟨h.2,h.1⟩).2 hS2
   exact (hasc.and hS3).imp λ ⟨a,b⟩=>⟨a,b.1⟩
theorem zkL {t:TellingsT} (h:zkA t=true):znS t.fBr:=((zqr t.fBr).1 h).2
theorem zzE {l:List BranchT} {h:List EventT} (hl:zmk l) (hn:l.length≤1000) (hh:zlt h):zkz ⟨zlQ l h⟩:=by
 refine ⟨by have:=zoD l h;show (zlQ l h).length≤_;omega,λ y hy=>?_⟩
 rcases zr2 hy with e | e
 ·exact hl.2 y e
 ·rw [e];exact hh
end Go.TL
set_option maxRecDepth 4000
namespace Go.TL
def zt6 (l:List BranchT):Prop:=l.length≤1000∧zqq l
theorem znT {t:TellingsT} (h:zza t):zt6 t.fBr:=⟨by have:=h.1;omega,λ i hi=>by have:=h.2 i hi;omega⟩
theorem zpP {l:List BranchT} (h:znS l) (hl:l.length≤1000):zt6 l:=⟨hl,λ i hi=>by
 have:=zlu (zkh (h.1 (nth l i) (by rw [zkj hi];exact qr _)))
 omega⟩
theorem znl (t:TellingsT) (h:zt6 t.fBr):zP t=some t:=by
 unfold zP
 have key:=zkS (step:=zac t) (λ i c=>(⟨i,c⟩:zco)) t.fBr.length (λ i=>t.fBr.take i) (λ c=>(⟨c⟩:zfy)) (λ i hi=>?_) ?_
 ·simp only [qu,qf] at key
  rw [key];rfl
 ·have hl:=h.1
  have he:=h.2 i hi
  have ht:(t.fBr.take i).length=i:=by rw [qh];omega
  have e1:wI ((i:Int)+1)=((i+1:Nat):Int):=by rw [zj0 (by omega)];omega
  unfold zac zd
  simp only [qc,e1,← zld hi]
  rw [if_pos (by rw [decide_eq_true_eq];omega),zjL (by omega),zjL (by omega)]
  simp only [qa]
  rw [zjL (by rw [ht];omega)]
 ·unfold zac
  dsimp only
  rw [if_neg (by simp)]
theorem zwm (l:List BranchT) (h:List EventT) (hl:l.length≤1000) (hb:∀ b∈l,zly b.fEv=true) (hh:zly h=true) :
  zf l h=some (l.any λ b=>zkp h b.fEv):=by
 unfold zf zq
 have key:=zlU (step:=zc l h) (λ i=>(⟨i⟩:zk)) l.length (λ i=>zkp h (nth l i).fEv)
  (λ i=>(.inl ⟨i⟩:zah⊕Unit)) (.inr ()) (λ i hi hv=>?_) ?_
 ·rw [key]
  have:=znH l λ b=>zkp h b.fEv
  cases hf:zlH (λ i=>zkp h (nth l i).fEv) l.length with
  | none=>rw [hf] at this;rw [← this];rfl
  | some k =>
   rw [hf] at this
   rw [← this]
   simp
 ·unfold zc ze7
  have hi':i < l.length:=hi
  have hbi:=hb (nth l i) (by rw [zkj hi'];exact qr _)
  have e1:wI ((i:Int)+1)=((i+1:Nat):Int):=by rw [zj0 (by omega)];omega
  simp only [qc,e1]
  rw [if_pos (by rw [decide_eq_true_eq];omega),zjL (by omega),zgn _ _ (zkh hh) (zkh hbi)]
  simp only [qa]
  cases zkp h (nth l i).fEv<;>rfl
 ·unfold zc
  dsimp only
  rw [if_neg (by simp)]
theorem zgC (t:TellingsT) (h:List EventT) (ht:znS t.fBr) (hl:t.fBr.length≤900) (hh:zly h=true):zb6 t h=some ⟨zlQ t.fBr h⟩:=by
 have hm:=zpP ht (by omega)
 have hhl:=zlu (zkh hh)
 unfold zb6
 rw [znl _ hm]
 simp only [qa]
 rw [zwm _ _ hm.1 ht.1 hh]
 simp only [qa]
 unfold zlQ
 cases ha:t.fBr.any λ b=>zkp h b.fEv
 rotate_left
 ·rfl
 simp only [qb,if_false]
 have hc:∀ b∈t.fBr,zaG b h=some (zkp b.fEv h):=λ b hb=>by
  unfold zaG
  rw [zgn _ _ (zkh (ht.1 b hb)) (zkh hh)]
  rfl
 have e1:zv t.fBr h=some (zln h t.fBr):=by
  unfold zv zln
  have hal:(t.fBr.all λ b=>(zaG b h).isSome)=true:=by
   rw [qi]
   intro b hb
   rw [hc b hb]
   rfl
  rw [zjL ⟨by omega,hal⟩]
  refine congrArg some (List.filter_congr λ b hb=>?_)
  rw [hc b hb]
  rfl
 rw [e1]
 simp only [qa]
 have hll:=qp (λ b:BranchT=>!zkp b.fEv h) t.fBr
 change (zln h t.fBr).length≤_ at hll
 unfold zd
 rw [zjL (by omega)]
 simp only [qa]
 rw [zjL (by omega)]
 have hno:∀ b∈t.fBr,zkp h b.fEv=false:=λ b hb=>by
  cases e:zkp h b.fEv
  ·rfl
  ·have:(t.fBr.any λ b=>zkp h b.fEv)=true:=List.any_eq_true.2 ⟨b,hb,e⟩
   rw [this] at ha;cases ha
 have hne:∀ b∈t.fBr,zkp b.fEv h=false→(zkR b.fEv h).1≠0:=λ b hb hn=>zvk (zkh (ht.1 b hb)) (zkh hh) hn
 have hlt:t.fBr.Pairwise λ a b=>brL a b=true:=ht.2.imp λ h=>h.1
 have hapt:zuS brL (zln h t.fBr++[(⟨h⟩:BranchT)])=true:=by
  refine zou.2 ?_
  have h1:=zpO h t.fBr hlt hne
  exact ((zle h t.fBr).pairwise_iff (R:=λ a b:BranchT=>brL a b=true∨brL b a=true) λ h=>h.symm).1 (h1.imp λ h=>.inl h)
 have e2:zD (zln h t.fBr++[(⟨h⟩:BranchT)])=some (znw h t.fBr false):=by
  unfold zD
  have hal:((zln h t.fBr++[(⟨h⟩:BranchT)]).all λ b=>decide (b.fEv.length≤1000))=true:=by
   rw [qi]
   intro b hb
   rw [decide_eq_true_eq]
   rcases List.mem_append.1 hb with e | e
   ·have:=zlu (zkh (ht.1 b (List.mem_filter.1 e).1))
    omega
   ·rw [List.mem_singleton.1 e]
    show h.length≤1000
    omega
  rw [zjL ⟨by simp only [qM,qd];omega,hal,hapt⟩]
  refine congrArg some (zxO h t.fBr hlt hne (znZ brL _) ?_)
  refine (zp9 zmn hapt).imp λ {a b} hab=>?_
  cases e:brL b a
  ·rfl
  ·have:=zmn _ _ _ hab e
   rw [zq8] at this
   cases this
 rw [e2]
 simp only [qa]
 rw [zjL (by have:=(zle h t.fBr).length_eq;simp only [qM,qd] at this;exact this)]
theorem zpQ {t:TellingsT} (h:zkA t=true):t.fBr.length≤12∧zoC t.fBr≤4000:=by
 have h12:=zkH h
 refine ⟨h12,?_⟩
 have:zlP zni t.fBr≤250 * t.fBr.length:=zv6 λ b hb=>by
  obtain ⟨i,hi,rfl⟩:=ql hb
  have:=zlu (zkh (zmm h hi))
  rw [zkj hi] at this
  unfold zni
  omega
 unfold zoC
 omega
def zlw (l:List BranchT) (m:List BranchT):List BranchT:=m.foldl (λ l x=>zlQ l x.fEv) l
theorem zmq:∀ {m l:List BranchT},znS l→(∀ x∈m,zly x.fEv=true)→znS (zlw l m)
 | [],l,h,_=>h
 | x :: m,l,h,hm=>zmq (m:=m) (l:=zlQ l x.fEv) (zra h (hm x (by simp))) λ y hy=>hm y (qj _ hy)
theorem zt7:∀ (m l:List BranchT),(zlw l m).length≤l.length+m.length
 | [],l=>by simp [zlw]
 | x :: m,l=>by
  have:=zt7 m (zlQ l x.fEv)
  have:=zoD l x.fEv
  show (zlw (zlQ l x.fEv) m).length≤_
  simp only [qP]
  omega
theorem zzF {m l:List BranchT} (hl:zmk l) (hm:zmk m) (h:l.length+m.length≤1000):zmk (zlw l m):=by
 induction m generalizing l with
 | nil=>exact hl
 | cons x m ih =>
  simp only [qP] at h
  have h1:=hm.2 x (by simp)
  refine ih (l:=zlQ l x.fEv) (zzE hl (by omega) h1) ⟨by omega,λ y hy=>hm.2 y (qj _ hy)⟩ ?_
  have:=zoD l x.fEv
  omega
theorem zvl {l m:List BranchT} {i:Nat} (h:i < m.length):zlw l (m.take (i+1))=zlQ (zlw l (m.take i)) (nth m i).fEv:=by
 rw [← zld h]
 unfold zlw
 rw [qw]
 rfl
theorem ziZ (a b:TellingsT) (ha:znS a.fBr) (hb:∀ x∈b.fBr,zly x.fEv=true) (hl:a.fBr.length+b.fBr.length≤900):zeS a b=some ⟨zlw a.fBr b.fBr⟩:=by
 have hsm:∀ i,znS (zlw a.fBr (b.fBr.take i))∧(zlw a.fBr (b.fBr.take i)).length≤900:=λ i=>by
  refine ⟨zmq ha λ x hx=>hb x (qn hx),?_⟩
  have:=zt7 (b.fBr.take i) a.fBr
  have:(b.fBr.take i).length≤b.fBr.length:=by rw [qh];omega
  omega
 unfold zeS
 have key:=zkS (step:=zbV b) (λ i c=>(⟨c,i⟩:zeJ)) b.fBr.length (λ i=>zlw a.fBr (b.fBr.take i)) (λ c=>(⟨c⟩:zgv)) (λ i hi=>?_) ?_
 ·have e0:zlw a.fBr (b.fBr.take 0)=a.fBr:=rfl
  rw [e0,qf] at key
  rw [key]
  simp only [qa]
  have h2:=hsm b.fBr.length
  rw [qf] at h2
  have h3:=zpP h2.1 (by omega)
  rw [zez ⟨zlw a.fBr b.fBr⟩ h3.1 h3.2]
  rfl
 ·have h2:=hsm i
  have h3:=zpP h2.1 (by omega)
  have h4:=zlu (zkh (hb (nth b.fBr i) (by rw [zkj hi];exact qr _)))
  have e1:wI ((i:Int)+1)=((i+1:Nat):Int):=by rw [zj0 (by omega)];omega
  unfold zbV
  simp only [qc,e1,zvl hi]
  rw [if_pos (by rw [decide_eq_true_eq];omega),zjL (by omega),zju _ _ h3.1 h3.2 (by omega)]
  rfl
 ·unfold zbV
  dsimp only
  rw [if_neg (by simp)]
def zx5 (a b:TellingsT):TellingsT×Bool:=if (zkA a && zkA b && decide ((zlw a.fBr b.fBr).length≤12))=true then (⟨zlw a.fBr b.fBr⟩,true) else (⟨[]⟩,false)
theorem zhz (a b:TellingsT) (ha:zkz a) (hb:zkz b):zcd a b=some (zx5 a b):=by
 unfold zcd zx5
 rw [zcK _ ha]
 simp only [qa]
 cases hg:zkA a
 ·simp
 rw [zcK _ hb]
 simp only [qa]
 cases hg2:zkA b
 ·simp
 have h1:=zkH hg
 have h2:=zkH hg2
 have hr:=zmq (zkL hg) (zkL hg2).1
 simp only [qe,qb,if_false,qa]
 rw [ziZ _ _ (zkL hg) (zkL hg2).1 (by omega)]
 simp only [qa]
 rw [zcK ⟨zlw a.fBr b.fBr⟩ (zzF ha hb (by omega)),zr3 hr]
 simp only [qa,qo]
 by_cases hc:(zlw a.fBr b.fBr).length≤12
 ·simp [hc]
 ·simp [hc]
theorem zhA (a b:TellingsT) (ha:zkz a) (hb:zkz b):zce a b=some (zx5 a b):=by
 unfold zce zx5
 rw [zf9 _ ha]
 simp only [qa]
 cases hg:zkA a
 ·simp
 rw [zf9 _ hb]
 simp only [qa]
 cases hg2:zkA b
 ·simp
 have h1:=zkH hg
 have h2:=zkH hg2
 have hr:=zmq (zkL hg) (zkL hg2).1
 simp only [qe,qb,if_false,qa]
 rw [znl _ (znT (zmA hg))]
 simp only [qa]
 have key:=zkS (step:=zad b) (λ i c=>(⟨i,c⟩:zcr)) b.fBr.length (λ i=>zlw a.fBr (b.fBr.take i)) (λ c=>(⟨c⟩:zfz)) (λ i hi=>?_) ?_
 ·have e0:zlw a.fBr (b.fBr.take 0)=a.fBr:=rfl
  rw [e0,qf] at key
  rw [key]
  simp only [qa,qo]
  by_cases hc:(zlw a.fBr b.fBr).length≤12
  ·rw [if_neg (by simp;omega),if_pos (by simpa using hc)]
  ·rw [if_pos (by simp;omega),if_neg (by simpa using hc)]
 ·have h3:=zmq (zkL hg) (m:=b.fBr.take i) λ x hx=>(zkL hg2).1 x (qn hx)
  have h4:=zt7 (b.fBr.take i) a.fBr
  have h5:(b.fBr.take i).length≤b.fBr.length:=by rw [qh];omega
  have e1:wI ((i:Int)+1)=((i+1:Nat):Int):=by rw [zj0 (by omega)];omega
  unfold zad
  simp only [qc,e1,zvl hi]
  rw [if_pos (by rw [decide_eq_true_eq];omega),zjL (by omega),zgC ⟨zlw a.fBr (b.fBr.take i)⟩ _ h3 (by simp only;omega) (zmm hg2 hi)]
  rfl
 ·unfold zad
  dsimp only
  rw [if_neg (by simp)]
def zkY (r:RegionT) (w:WordT):RegionT×Bool:=if (zkg r && zkg ⟨0,w.fVe,w.fTe⟩ && decide ((zlw r.fTe.fBr w.fTe.fBr).length≤12))=true then (⟨r.Id,max r.fVe w.fVe,⟨zlw r.fTe.fBr w.fTe.fBr⟩⟩,true) else (⟨0,0,⟨[]⟩⟩,false)
end Go.TL
set_option maxRecDepth 4000
namespace Go.TL
theorem zr4 (e:EventT):∀ (l:List EventT) (s:zjV) (n:Nat),(zkV l s n).2=n+l.length →
  zkV (l++[e]) s n=match zkf (zkV l s n).1 e with
   | some t=>(t,n+l.length+1)
   | none=>zkV l s n
 | [],s,n,_=>by
  show (match zkf s e with | some t=>zkV [] t (n+1) | none=>(s,n))=(match zkf s e with | some t=>(t,n+0+1) | none=>(s,n))
  cases zkf s e<;>rfl
 | x :: l,s,n,h=>by
  unfold zkV at h
  cases ha:zkf s x with
  | none=>rw [ha] at h;simp only [qP] at h;omega
  | some u =>
   rw [ha] at h
   have ih:=zr4 e l u (n+1) (by simp only [qP] at h;omega)
   have e1:zkV (x :: l) s n=zkV l u (n+1):=by conv=>lhs;unfold zkV;rw [ha]
   have e2:zkV (x :: l++[e]) s n=zkV (l++[e]) u (n+1):=by
    show zkV (x :: (l++[e])) s n=_
    conv=>lhs;unfold zkV;rw [ha]
   rw [e1,e2,ih]
   simp only [qP]
   rw [show n+1+l.length+1=n+(l.length+1)+1 by omega]
theorem zzG {l:List EventT} {e:EventT} (h:zv5 l=true) (hv:l=[]∨zk3 l≤e.fVe):zv5 (l++[e])=true:=by
 unfold zv5 at h ⊢
 rw [zkU] at h ⊢
 intro i hi
 rw [qM,qd] at hi
 by_cases hlt:i < l.length
 ·have:=h i hlt
  have e1:nth (l++[e]) i=nth l i:=by rw [zkj (by simp;omega),zkj hlt,qk hlt]
  by_cases h0:i=0
  ·simp [h0]
  ·have e2:nth (l++[e]) (i - 1)=nth l (i - 1):=by rw [zkj (by simp;omega),zkj (show i - 1 < l.length by omega),qk (by omega)]
   rw [e1,e2]
   exact this
 ·have hi':i=l.length:=by omega
  subst hi'
  by_cases h0:l.length=0
  ·simp [h0]
  ·have e1:nth (l++[e]) l.length=e:=by rw [zkj (by simp)];simp
   have e2:nth (l++[e]) (l.length - 1)=nth l (l.length - 1):=by rw [zkj (by simp;omega),zkj (show l.length - 1 < l.length by omega),qk (by omega)]
   rw [e1,e2]
   have hv':zk3 l≤e.fVe:=hv.resolve_left λ h=>h0 (by rw [h];rfl)
   unfold zk3 at hv'
   simp only [Bool.or_eq_true,decide_eq_true_eq,Bool.not_eq_true',decide_eq_false_iff_not]
   exact .inr (by omega)
theorem zpl {l:List EventT}:zkP l=true↔zv5 l=true∧(zkq l).2=l.length∧l.length≤60:=by
 unfold zkP
 simp only [qg,decide_eq_true_eq]
 exact ⟨λ h=>⟨h.1.1,h.1.2,h.2⟩,λ h=>⟨⟨h.1,h.2.1⟩,h.2.2⟩⟩
theorem zx6 {l:List EventT} {e:EventT} {t:zjV} (h:zkP l=true) (ha:zkf (zkq l).1 e=some t) (hl:l.length < 60) (hv:l=[]∨zk3 l≤e.fVe) :
  zkP (l++[e])=true∧(zkq (l++[e])).1=t:=by
 obtain ⟨h1,h2,h3⟩:=zpl.1 h
 have h2':(zkV l zqQ 0).2=0+l.length:=by have:=h2;unfold zkq at this;omega
 have hs:=zr4 e l zqQ 0 h2'
 have ha':zkf (zkV l zqQ 0).1 e=some t:=ha
 rw [ha'] at hs
 simp only at hs
 have hf:zkq (l++[e])=(t,0+l.length+1):=hs
 refine ⟨zpl.2 ⟨zzG h1 hv,?_,?_⟩,?_⟩
 ·rw [hf];simp
 ·simp;omega
 ·rw [hf]
theorem zx7 {l:List EventT} {e:EventT} {t:zjV} (h:zkP l=true) (ha:zkf (zkq l).1 e=some t) (hl:l.length < 60) (hv:l=[]∨zk3 l≤e.fVe):zly (l++[e])=true:=by
 unfold zly
 rw [(zx6 h ha hl hv).1]
 simp
theorem zt8 {t:TellingsT} (h0:t.fBr.length≠0):(⟨zkn t⟩:BranchT)∈t.fBr:=by
 unfold zkn
 rw [if_neg h0]
 have:=znk t.fBr (t.fBr.length - 1)
 exact zks (by omega)
theorem zpR {t:TellingsT} (hg:zkA t=true):zkP (zkn t)=true:=by
 by_cases h0:t.fBr.length=0
 ·unfold zkn;rw [if_pos h0];rfl
 ·exact zkh ((zkL hg).1 _ (zt8 h0))
theorem zw3 {v:Int} {t:TellingsT} (ho:zpK v t=true):∀ e∈zkn t,e.fVe≤v:=by
 by_cases h0:t.fBr.length=0
 ·unfold zkn;rw [if_pos h0];simp
 ·unfold zpK at ho
  rw [qi] at ho
  have:=ho _ (zt8 h0)
  unfold zsw at this
  rw [qi] at this
  intro e he
  have:=this e he
  simp at this
  omega
theorem zkv {r:RegionT} (h:zkg r=true):(0≤r.Id∧r.Id≤9)∧zst r.fVe=true∧zkA r.fTe=true∧zpK r.fVe r.fTe=true:=by
 unfold zkg zqF at h
 simp only [qg,decide_eq_true_eq] at h
 exact ⟨h.1,h.2.1.1,h.2.1.2,h.2.2⟩
theorem zm2 {r:RegionT} (h1:0≤r.Id∧r.Id≤9) (h2:zst r.fVe=true) (h3:zkA r.fTe=true) (h4:zpK r.fVe r.fTe=true):zkg r=true:=by
 unfold zkg zqF
 simp only [qg,decide_eq_true_eq]
 exact ⟨h1,⟨h2,h3⟩,h4⟩
def zlW (r:RegionT) (k:Int) (n:ByteArray):EventT:=⟨(zkq (zkn r.fTe)).1.Next,r.fVe,k,n⟩
def ztd (r:RegionT) (k:Int) (n:ByteArray):RegionT:=⟨r.Id,r.fVe,⟨zlQ r.fTe.fBr (zkn r.fTe++[zlW r k n])⟩⟩
def zkJ (r:RegionT) (k:Int) (n:ByteArray):Int :=
 if (decide (1≤k∧k≤6) && zkO n)=false then 1
 else if zqS r=false then 2
 else if (decide (k=2) && zkt (zkq (zkn r.fTe)).1.fSi n)=true then 5
 else if (zkf (zkq (zkn r.fTe)).1 (zlW r k n)).isSome=false then 3
 else if (zkn r.fTe).length=60 then 4
 else 0
def zlB (r:RegionT) (k:Int) (n:ByteArray):RegionT×Int:=(if zkJ r k n=0 then ztd r k n else r,zkJ r k n)
theorem zte {r:RegionT} {k:Int} {n:ByteArray} (h:zkJ r k n=0):(1≤k∧k≤6)∧zkO n=true∧zqS r=true∧(k=2→zkt (zkq (zkn r.fTe)).1.fSi n=false) ∧
  (∃ t,zkf (zkq (zkn r.fTe)).1 (zlW r k n)=some t)∧(zkn r.fTe).length≠60:=by
 unfold zkJ at h
 split at h
 ·cases h
 rename_i h1
 split at h
 ·cases h
 rename_i h2
 split at h
 ·cases h
 rename_i h3
 split at h
 ·cases h
 rename_i h4
 split at h
 ·cases h
 rename_i h5
 simp only [qy,qg,decide_eq_true_eq] at h1
 simp only [qy] at h2 h4
 refine ⟨h1.1,h1.2,h2,λ hk=>?_,Option.isSome_iff_exists.1 h4,h5⟩
 cases hs:zkt (zkq (zkn r.fTe)).1.fSi n
 ·rfl
 ·exact absurd (by simp [hk,hs]) h3
theorem zzH {v:Int} {t:TellingsT} (ho:zpK v t=true):zkn t=[]∨zk3 (zkn t)≤v:=by
 by_cases h0:zkn t=[]
 ·exact .inl h0
 ·right
  have hl:0 < (zkn t).length:=List.length_pos_iff.2 h0
  exact zw3 ho _ (zks (by omega))
theorem zoU {r:RegionT} {k:Int} {n:ByteArray} (hg:zkg r=true) (h:zkJ r k n=0):zly (zkn r.fTe++[zlW r k n])=true:=by
 obtain ⟨g1,g2,g3,g4⟩:=zkv hg
 obtain ⟨c1,c2,c3,c4,⟨t,c5⟩,c6⟩:=zte h
 have hh:=zpR g3
 have hl:=zlu hh
 exact zx7 hh c5 (by omega) (zzH g4)
theorem zwn {l:List BranchT} {h h2:List EventT} (hm:(⟨h⟩:BranchT)∈l) (hb:zkp h h2=true):(zlQ l h2).length≤l.length:=by
 unfold zlQ
 split
 ·exact qq _
 ·rw [(zle h2 l).length_eq,qM,qd]
  have:(zln h2 l).length < l.length:=by
   unfold zln
   have hle:=qp (λ b:BranchT=>!zkp b.fEv h2) l
   rcases Nat.lt_or_ge (l.filter λ b:BranchT=>!zkp b.fEv h2).length l.length with h | h
   ·exact h
   ·have:=(List.filter_eq_self (l:=l) (p:=λ b:BranchT=>!zkp b.fEv h2)).1 ((List.filter_sublist).eq_of_length_le (by omega)) _ hm
    simp [hb] at this
  omega
theorem zzJ {l:List EventT} {e:EventT} (h:zkP l=true) (h2:zkP (l++[e])=true):zkp l (l++[e])=true :=
 (zoB h h2).2 ⟨by simp,λ i hi=>by rw [zkj hi,zkj (by simp;omega),qk hi]⟩
theorem ztf {r:RegionT} {k:Int} {n:ByteArray} (hg:zkg r=true) (h:zkJ r k n=0):zkg (ztd r k n)=true:=by
 obtain ⟨g1,g2,g3,g4⟩:=zkv hg
 have ht:=zoU hg h
 have hr:=zra (zkL g3) ht
 have h12:=zkH g3
 have hle:(zlQ r.fTe.fBr (zkn r.fTe++[zlW r k n])).length≤12:=by
  by_cases h0:r.fTe.fBr.length=0
  ·have:=zoD r.fTe.fBr (zkn r.fTe++[zlW r k n])
   omega
  ·have:=zwn (zt8 h0) (zzJ (zpR g3) (zkh ht))
   omega
 refine zm2 g1 g2 (by show zkA ⟨zlQ _ _⟩=true;rw [zr3 hr];simpa using hle) ?_
 show zpK r.fVe ⟨zlQ _ _⟩=true
 unfold zpK
 rw [qi]
 intro b hb
 rcases zr2 hb with hb | hb
 ·unfold zpK at g4
  exact List.all_eq_true.1 g4 b hb
 ·subst hb
  unfold zsw
  rw [qi]
  intro e he
  rcases List.mem_append.1 he with he | he
  ·have:=zw3 g4 e he
   simp;omega
  ·rw [List.mem_singleton.1 he]
   simp [zlW]
theorem zx8 {r:RegionT} {k:Int} {n:ByteArray} (hg:zkg r=true):zkg (zlB r k n).1=true:=by
 unfold zlB
 by_cases h:zkJ r k n=0
 ·simp only [if_pos h];exact ztf hg h
 ·simp only [if_neg h];exact hg
theorem zzK {r:RegionT} {k:Int} {n:ByteArray} (hr:zkr r) (hk:zlV k) (hn:zn1 n):zrM (zlW r k n):=by
 have:=zlD (zn3 (zkn r.fTe))
 exact ⟨(⟨by omega,by omega⟩:zlV (zkq (zkn r.fTe)).1.Next),hr.2.1,hk,hn⟩
theorem zw4 {r:RegionT} {k:Int} {n:ByteArray} (hg:zkg r=true) (hr:zkr r) (hk:zlV k) (hn:zn1 n):zkr (ztd r k n):=by
 obtain ⟨g1,g2,g3,g4⟩:=zkv hg
 have h12:=zkH g3
 have hc:=ztY hr.2.2
 have hcl:=zm0 g3
 refine ⟨hr.1,hr.2.1,zzE hr.2.2 (by omega) ⟨by simp;omega,λ y hy=>?_⟩⟩
 rcases List.mem_append.1 hy with hy | hy
 ·exact hc.2 y hy
 ·rw [List.mem_singleton.1 hy];exact zzK hr hk hn
theorem zzL {r:RegionT} {k:Int} {n:ByteArray} (hg:zkg r=true) (hr:zkr r) (hk:zlV k) (hn:zn1 n):zkr (zlB r k n).1:=by
 unfold zlB
 by_cases h:zkJ r k n=0
 ·simp only [if_pos h];exact zw4 hg hr hk hn
 ·simp only [if_neg h];exact hr
theorem zwo (r:RegionT) (k:Int) (n:ByteArray):(zlB r k n).1.Id=r.Id∧(zlB r k n).1.fVe=r.fVe:=by
 unfold zlB ztd
 by_cases h:zkJ r k n=0
 ·rw [if_pos h];exact ⟨rfl,rfl⟩
 ·rw [if_neg h];exact ⟨rfl,rfl⟩
def zk1 (p:RegionT×Nat) (n:ByteArray):RegionT×Nat:=if zkJ p.1 2 n=0 then (ztd p.1 2 n,p.2+1) else p
def zmg (r:RegionT) (l:List ByteArray):RegionT×Nat:=l.foldl zk1 (r,0)
theorem zwp {p:RegionT×Nat} {n:ByteArray} (h:zkg p.1=true):zkg (zk1 p n).1=true:=by
 unfold zk1
 split
 ·rename_i h0;exact ztf h h0
 ·exact h
theorem zzM {p:RegionT×Nat} {n:ByteArray} (hg:zkg p.1=true) (h:zkr p.1) (hn:zn1 n):zkr (zk1 p n).1:=by
 unfold zk1
 split
 ·exact zw4 hg h (⟨by omega,by omega⟩:zlV 2) hn
 ·exact h
theorem zt9 (p:RegionT×Nat) (n:ByteArray):p.2≤(zk1 p n).2∧(zk1 p n).2≤p.2+1:=by
 unfold zk1
 split
 ·exact ⟨Nat.le_succ _,qq _⟩
 ·exact ⟨qq _,Nat.le_succ _⟩
theorem zvm:∀ (l:List ByteArray) (p:RegionT×Nat),zkg p.1=true→zkr p.1→(∀ n∈l,zn1 n)→zkg (l.foldl zk1 p).1=true∧zkr (l.foldl zk1 p).1∧(l.foldl zk1 p).2≤p.2+l.length
 | [],p,hg,ho,_=>⟨hg,ho,by simp⟩
 | n :: l,p,hg,ho,hn=>by
  have:=zt9 p n
  obtain ⟨h1,h2,h3⟩:=zvm l (zk1 p n) (zwp hg) (zzM hg ho (hn n (by simp))) λ m hm=>hn m (qj _ hm)
  refine ⟨h1,h2,?_⟩
  simp only [List.foldl_cons,qP]
  omega
end Go.TL
set_option maxRecDepth 4000
namespace Go.TL
theorem zwq (l:List BranchT) (h:List EventT) (hl:l.length≤1000) (hs:zqq l) (hh:h.length≤1000):∀ (r:List BranchT) (i:Nat) (put:Bool) (c:List BranchT),l.drop i=r→i≤l.length→c.length≤2 * i →
  ∃ put' c',zjZ (zbW l h) ⟨put,(i:Int),c⟩=some ⟨put',c'⟩∧(if put'=true then c' else c'++[⟨h⟩])=c++znw h r put∧c'.length≤2 * l.length:=by
 intro r
 induction r with
 | nil =>
  intro i put c hd hi hc
  have e:=zpG hd hi
  refine ⟨put,c,zkl ?_,?_,by omega⟩
  ·unfold zbW
   dsimp only
   rw [if_neg (by rw [decide_eq_true_eq];omega)]
  ·unfold znw
   cases put<;>simp
 | cons b r ih =>
  intro i put c hd hi hc
  obtain ⟨hlt,hb,hr⟩:=zoN hd
  have hbs:b.fEv.length≤1000:=by rw [← hb];exact hs i hlt
  have e1:wI ((i:Int)+1)=((i+1:Nat):Int):=by rw [zj0 (by omega)];omega
  have ebb:(⟨b.fEv⟩:BranchT)=b:=rfl
  have hstep:zbW l h ⟨put,(i:Int),c⟩=some (.inl (if zkp b.fEv h=true then ⟨put,((i+1:Nat):Int),c⟩ else if ((zkR b.fEv h).1 > 0∧put=false) then ⟨true,((i+1:Nat):Int),(c++[⟨h⟩])++[b]⟩ else ⟨put,((i+1:Nat):Int),c++[b]⟩)):=by
   unfold zbW
   simp only [qc,hb,e1]
   rw [if_pos (by rw [decide_eq_true_eq];omega),zjL (by omega),zcx _ _ (by omega) (by omega)]
   simp only [qa]
   cases hbg:zkp b.fEv h
   ·rw [if_neg (by simp),if_neg (by simp),zdJ _ _ (by omega) (by omega)]
    simp only [qa,zmB _ hh,zmB _ hbs,ebb]
    by_cases hc1:(zkR b.fEv h).1 > 0
    ·rw [if_pos (decide_eq_true hc1)]
     cases put
     ·simp only [qa,qbb,if_true]
      rw [zjL (by omega),zjL (by omega),if_pos ⟨hc1,trivial⟩]
     ·simp only [qa,qe,qb,if_false]
      rw [zjL (by omega),if_neg (by simp)]
    ·rw [if_neg (by simpa using hc1)]
     simp only [qa,qb,if_false]
     rw [zjL (by omega),if_neg (λ h=>hc1 h.1)]
   ·rw [if_pos rfl,if_pos rfl]
  rw [zkX hstep]
  unfold znw
  by_cases hbg:zkp b.fEv h=true
  ·rw [if_pos hbg,if_pos hbg]
   exact ih (i+1) put c hr (by omega) (by omega)
  ·rw [if_neg hbg,if_neg hbg]
   by_cases hc1:(zkR b.fEv h).1 > 0∧put=false
   ·rw [if_pos hc1,if_pos hc1]
    obtain ⟨p',c',g1,g2,g3⟩:=ih (i+1) true ((c++[⟨h⟩])++[b]) hr (by omega) (by simp only [qM,qd];omega)
    exact ⟨p',c',g1,by rw [g2];simp,g3⟩
   ·rw [if_neg hc1,if_neg hc1]
    obtain ⟨p',c',g1,g2,g3⟩:=ih (i+1) put (c++[b]) hr (by omega) (by simp only [qM,qd];omega)
    exact ⟨p',c',g1,by rw [g2];simp,g3⟩
theorem zi0 (l:List BranchT) (h:List EventT) (hl:l.length≤1000) (hs:zqq l) (hh:h.length≤1000):zdv l h=some (zlQ l h):=by
 unfold zdv zlQ
 have key:=zlU (step:=zaY l h) (λ i=>(⟨i⟩:zeK)) l.length (λ i=>zkp h (nth l i).fEv) (λ _=>(.inl ():Unit⊕Unit)) (.inr ()) (λ i hi hv=>?_) ?_
 ·have e:zjZ (zaY l h) ⟨0⟩=some (if (l.any λ b=>zkp h b.fEv)=true then .inl () else .inr ()):=by
   rw [key]
   have:=znH l λ b=>zkp h b.fEv
   cases hf:zlH (λ i=>zkp h (nth l i).fEv) l.length with
   | none=>rw [hf] at this;rw [← this];rfl
   | some k=>rw [hf] at this;rw [← this];rfl
  rw [e]
  simp only [qa]
  cases l.any λ b=>zkp h b.fEv
  ·simp only [qb,if_false]
   obtain ⟨p',c',g1,g2,g3⟩:=zwq l h hl hs hh l 0 false [] rfl (by omega) (by simp)
   have e0:((0:Nat):Int)=0:=rfl
   rw [e0] at g1
   rw [g1]
   simp only [qa,zmB _ hh]
   rw [qt] at g2
   rw [← g2]
   cases p'
   ·rw [if_pos (by rfl),zjL (by omega)];rfl
   ·rfl
  ·rfl
 ·unfold zaY
  have hi':i < l.length:=hi
  have hbs:=hs i hi'
  have e1:wI ((i:Int)+1)=((i+1:Nat):Int):=by rw [zj0 (by omega)];omega
  simp only [qc,e1]
  rw [if_pos (by rw [decide_eq_true_eq];omega),zjL (by omega),zcx _ _ (by omega) (by omega)]
  simp only [qa]
  cases zkp h (nth l i).fEv<;>rfl
 ·unfold zaY
  dsimp only
  rw [if_neg (by simp)]
theorem zr5:∀ (r:List EventT) (s:zjV) (n:Nat),(zkV r s n).2=n+r.length→(zkV r s n).1.Next=s.Next+(r.length:Int)
 | [],s,n,_=>by simp [zkV]
 | e :: r,s,n,h=>by
  unfold zkV at h ⊢
  cases ha:zkf s e with
  | none=>rw [ha] at h;simp only [qP] at h;omega
  | some t =>
   rw [ha] at h
   have ih:=zr5 r t (n+1) (by simp only [qP] at h;omega)
   have:=(zqD ha).2
   simp only [qP] at ih ⊢
   rw [ih,this]
   omega
theorem zx9 {l:List EventT} (h:zkP l=true):(zkq l).1.Next=1+(l.length:Int):=by
 obtain ⟨h1,h2,h3⟩:=zpl.1 h
 exact zr5 l zqQ 0 (by unfold zkq at h2;omega)
theorem zvn (s:zjV) (k:Int) (n:ByteArray) (hg:zlj s=true) (hk:(decide (1≤k∧k≤6) && zkO n)=false):zbi s k n=some (false,false):=by
 have g:=zlD hg
 have n1:=zkM g.2.2.2.1
 have n2:=zkM g.2.2.2.2
 unfold zbi zS
 rw [zcw s (by omega) (by omega),hg]
 simp only [qa,zcJ,zbT,qe,qb,if_false]
 cases h1:decide (1≤k∧k≤6)
 ·simp
 ·rw [h1] at hk
  simp only [qo] at hk
  rw [hk]
  simp
theorem zAQ {r:RegionT} {k:Int} {n:ByteArray} (hg:zkg r=true) (hk:(decide (1≤k∧k≤6) && zkO n)=true):evP (zlW r k n)=true:=by
 obtain ⟨g1,g2,g3,g4⟩:=zkv hg
 have hh:=zpR g3
 have hl:=zlu hh
 have hn:=zx9 hh
 simp only [qg,decide_eq_true_eq] at hk
 unfold evP
 simp only [qg,decide_eq_true_eq]
 exact ⟨⟨⟨by show 1≤(zkq (zkn r.fTe)).1.Next∧_;show _∧(zkq (zkn r.fTe)).1.Next≤1000;omega,g2⟩,hk.1⟩,hk.2⟩
theorem zwr (r:RegionT) (hg:zkA r.fTe=true):zdH r=some (zkn r.fTe):=by
 obtain ⟨hf,ho⟩:=zoP hg
 unfold zdH
 rw [zgu _ hf]
 simp only [qa]
 unfold zwX zkn
 by_cases h0:r.fTe.fBr.length=0
 ·rw [if_pos h0,if_pos (by simp),if_pos h0]
 ·have hc:=znk r.fTe.fBr (r.fTe.fBr.length - 1)
  rw [if_neg h0,if_neg (by simp),if_neg h0,zjL (by omega),qc]
  rfl
theorem zhj (r:RegionT) (k:Int) (n:ByteArray) (hg:zkg r=true) (hr:zkr r) (hk:zlV k) (hn:zn1 n):zc5 r k n=some (zlB r k n):=by
 obtain ⟨g1,g2,g3,g4⟩:=zkv hg
 have hh:=zpR g3
 have hl:=zlu hh
 have hok:=ztY hr.2.2
 have h12:=zkH g3
 obtain ⟨f1,f2⟩:=zqh (zkn r.fTe)
 have hgs:=zn3 (zkn r.fTe)
 unfold zc5 zcR
 rw [zbk,zgm _ hn]
 simp only [qa]
 have e1:(if (!decide (1≤k∧k≤6))=true then some (⟨true⟩:zdK) else some ⟨!zkO n⟩)=some ⟨!(decide (1≤k∧k≤6) && zkO n)⟩:=by
  cases decide (1≤k∧k≤6)<;>simp
 rw [e1]
 simp only [qa]
 cases c1:decide (1≤k∧k≤6) && zkO n
 ·have:zkJ r k n=1:=by unfold zkJ;rw [if_pos c1]
  unfold zlB
  rw [this];rfl
 simp only [qe,qb,if_false]
 have e2:((r.fVe.tmod 10) == r.Id)=zqS r:=rfl
 rw [e2]
 cases c2:zqS r
 ·have:zkJ r k n=2:=by unfold zkJ;rw [if_neg (by rw [c1];simp),if_pos c2]
  unfold zlB
  rw [this];rfl
 simp only [qe,qb,if_false]
 rw [zwr r g3]
 simp only [qa]
 rw [ze5 _ hok]
 simp only [qa]
 obtain ⟨x,hx,hxp⟩:=zdt (zkq (zkn r.fTe)).1.fSi n (by omega)
 have e3:(if (k == 2)=true then ((zbe (zkq (zkn r.fTe)).1.fSi n).bind λ c193=>some (⟨(decide (c193 ≥ 0))⟩:zcf)) else some (⟨false⟩:zcf))=some ⟨decide (k=2) && zkt (zkq (zkn r.fTe)).1.fSi n⟩:=by
  rw [hx]
  simp only [qa,hxp]
  by_cases hk2:k=2<;>simp [hk2]
 rw [e3]
 simp only [qa]
 cases c3:decide (k=2) && zkt (zkq (zkn r.fTe)).1.fSi n
 rotate_left
 ·have:zkJ r k n=5:=by unfold zkJ;rw [if_neg (by rw [c1];simp),if_neg (by rw [c2];simp),if_pos c3]
  unfold zlB
  rw [this];rfl
 simp only [qb,if_false]
 obtain ⟨q,hq,ha⟩:=zgR (zkq (zkn r.fTe)).1 (zlW r k n) hgs hn
 have hq':zbB (zkq (zkn r.fTe)).1 ⟨(zkq (zkn r.fTe)).1.Next,r.fVe,k,n⟩=some q:=hq
 rw [hq']
 simp only [qa]
 have c4:(zkf (zkq (zkn r.fTe)).1 (zlW r k n)).isSome=q.2:=by rw [ha];cases q.2<;>rfl
 cases c5:q.2
 ·rw [c5] at c4
  have:zkJ r k n=3:=by unfold zkJ;rw [if_neg (by rw [c1];simp),if_neg (by rw [c2];simp),if_neg (by rw [c3];simp),if_pos c4]
  unfold zlB
  rw [this];rfl
 rw [c5] at c4
 simp only [qe,qb,if_false]
 by_cases c6:(zkn r.fTe).length=60
 ·have:zkJ r k n=4:=by unfold zkJ;rw [if_neg (by rw [c1];simp),if_neg (by rw [c2];simp),if_neg (by rw [c3];simp),if_neg (by rw [c4];simp),if_pos c6]
  unfold zlB
  rw [this,if_pos (by rw [c6];rfl)];rfl
 have c0:zkJ r k n=0:=by unfold zkJ;rw [if_neg (by rw [c1];simp),if_neg (by rw [c2];simp),if_neg (by rw [c3];simp),if_neg (by rw [c4];simp),if_neg c6]
 rw [if_neg (by simpa using (show ¬ ((zkn r.fTe).length:Int)=60 by omega)),zmB _ (by omega)]
 simp only [qa]
 rw [zjL (by omega)]
 have hm:=zpP (zkL g3) (by omega)
 have ht:=zoU hg c0
 have hra:=zra (zkL g3) ht
 have hal:=zoD r.fTe.fBr (zkn r.fTe++[zlW r k n])
 have hma:=zpP hra (by omega)
 have e6:zdv r.fTe.fBr (zkn r.fTe++[⟨(zkq (zkn r.fTe)).1.Next,r.fVe,k,n⟩])=some (zlQ r.fTe.fBr (zkn r.fTe++[zlW r k n])):=zi0 r.fTe.fBr (zkn r.fTe++[zlW r k n]) hm.1 hm.2 (by simp;omega)
 rw [e6]
 simp only [qa]
 rw [zez ⟨zlQ r.fTe.fBr (zkn r.fTe++[zlW r k n])⟩ hma.1 hma.2]
 simp only [qa]
 unfold zlB
 rw [c0]
 rfl
theorem ziF (r:RegionT) (k:Int) (n:ByteArray) (hg:zkg r=true):∃ m,zbi (zkq (zkn r.fTe)).1 k n=some m∧((decide (1≤k∧k≤6) && zkO n)=true→m.1=(zkf (zkq (zkn r.fTe)).1 (zlW r k n)).isSome):=by
 have hgs:=zn3 (zkn r.fTe)
 cases c1:decide (1≤k∧k≤6) && zkO n
 ·exact ⟨_,zvn _ _ _ hgs c1,λ h=>by cases h⟩
 ·exact ⟨_,zwl (zkq (zkn r.fTe)).1 (zlW r k n) hgs (zAQ hg c1) rfl,λ _=>rfl⟩
theorem zvo (r:RegionT) (hg:zkA r.fTe=true):zaO r=some (zkq (zkn r.fTe)).1:=by
 have hl:=zm0 hg
 unfold zaO
 rw [ze6 _ hg]
 simp only [qa]
 rw [zgt _ (by omega)]
 rfl
theorem zib (r:RegionT) (k:Int) (n:ByteArray) (hg:zkg r=true):zy r k n=if zkJ r k n=0 then none else some (zkJ r k n):=by
 obtain ⟨g1,g2,g3,g4⟩:=zkv hg
 have hl:=zm0 g3
 have h12:=zkH g3
 obtain ⟨f1,f2⟩:=zqh (zkn r.fTe)
 obtain ⟨m,hm,hm2⟩:=ziF r k n hg
 unfold zy zS zG
 rw [ze6 _ g3,zvo r g3]
 simp only [qa]
 rw [hm,zcJ,zbT]
 simp only [qa]
 have e1:(if (!decide (1≤k∧k≤6))=true then some (⟨true⟩:zbl) else some ⟨!zkO n⟩)=some ⟨!(decide (1≤k∧k≤6) && zkO n)⟩:=by
  cases decide (1≤k∧k≤6)<;>simp
 rw [e1]
 simp only [qa]
 cases c1:decide (1≤k∧k≤6) && zkO n
 ·have:zkJ r k n=1:=by unfold zkJ;rw [if_pos c1]
  rw [this];rfl
 have hm3:=hm2 c1
 simp only [qe,qb,if_false]
 have e2:((r.fVe.tmod 10) == r.Id)=zqS r:=rfl
 rw [e2]
 cases c2:zqS r
 ·have:zkJ r k n=2:=by unfold zkJ;rw [if_neg (by rw [c1];simp),if_pos c2]
  rw [this];rfl
 simp only [qe,qb,if_false]
 rw [zme _ _ (by omega)]
 simp only [qa]
 have e3:(if (k == 2)=true then some (⟨zkt (zkq (zkn r.fTe)).1.fSi n⟩:zbm) else some ⟨false⟩)=some ⟨decide (k=2) && zkt (zkq (zkn r.fTe)).1.fSi n⟩:=by
  by_cases hk2:k=2<;>simp [hk2]
 rw [e3]
 simp only [qa]
 cases c3:decide (k=2) && zkt (zkq (zkn r.fTe)).1.fSi n
 rotate_left
 ·have:zkJ r k n=5:=by unfold zkJ;rw [if_neg (by rw [c1];simp),if_neg (by rw [c2];simp),if_pos c3]
  rw [this];rfl
 simp only [qb,if_false]
 rw [hm3]
 cases c4:(zkf (zkq (zkn r.fTe)).1 (zlW r k n)).isSome
 ·have:zkJ r k n=3:=by unfold zkJ;rw [if_neg (by rw [c1];simp),if_neg (by rw [c2];simp),if_neg (by rw [c3];simp),if_pos c4]
  rw [this];rfl
 simp only [qe,qb,if_false]
 by_cases c6:(zkn r.fTe).length=60
 ·have:zkJ r k n=4:=by unfold zkJ;rw [if_neg (by rw [c1];simp),if_neg (by rw [c2];simp),if_neg (by rw [c3];simp),if_neg (by rw [c4];simp),if_pos c6]
  rw [this,if_pos (by rw [c6];rfl)];rfl
 have c0:zkJ r k n=0:=by unfold zkJ;rw [if_neg (by rw [c1];simp),if_neg (by rw [c2];simp),if_neg (by rw [c3];simp),if_neg (by rw [c4];simp),if_neg c6]
 rw [if_neg (by simpa using (show ¬ ((zkn r.fTe).length:Int)=60 by omega)),c0]
 unfold zd
 rw [zjL (by omega)]
 simp only [qa]
 rw [zjL (by omega)]
 have ht:=zoU hg c0
 have e6:zb6 r.fTe (zkn r.fTe++[⟨(zkq (zkn r.fTe)).1.Next,r.fVe,k,n⟩])=some ⟨zlQ r.fTe.fBr (zkn r.fTe++[zlW r k n])⟩:=zgC r.fTe (zkn r.fTe++[zlW r k n]) (zkL g3) (by omega) ht
 rw [e6]
 rfl
theorem zr6 {t:TellingsT} (ht:zkz t):∀ n∈zkb t,zn1 n:=by
 intro n hn
 have:=((zt1 (znO t) (znv t.fBr) [] (by simp [zqk])).2 n).1 hn
 rcases this with h | ⟨h,_⟩
 ·simp at h
 ·unfold znv at h
  rw [List.mem_flatMap] at h
  obtain ⟨b,hb,h⟩:=h
  unfold znu at h
  rw [List.mem_map] at h
  obtain ⟨e,he,rfl⟩:=h
  exact ((ht.2 b hb).2 e (List.mem_filter.1 he).1).2.2.2
def zlF (r:RegionT) (l:List ByteArray) (i:Nat):RegionT×Nat:=(l.take i).foldl zk1 (r,0)
theorem ztg {r:RegionT} {l:List ByteArray} {i:Nat} (h:i < l.length):zlF r l (i+1)=zk1 (zlF r l i) (nth l i):=by
 unfold zlF
 rw [← zld h,qw]
 rfl
theorem zr7 {r:RegionT} {l:List ByteArray} (hg:zkg r=true) (hr:zkr r) (hl:∀ n∈l,zn1 n) (i:Nat):zkg (zlF r l i).1=true∧zkr (zlF r l i).1∧(zlF r l i).2≤i:=by
 obtain ⟨h1,h2,h3⟩:=zvm (l.take i) (r,0) hg hr λ n hn=>hl n (qn hn)
 refine ⟨h1,h2,?_⟩
 have:(l.take i).length≤i:=by rw [qh];omega
 unfold zlF
 simp only at h3
 omega
theorem zic (r:RegionT) (hg:zkg r=true) (hr:zkr r):zdM r=some ((zmg r (zkb r.fTe)).1,(((zmg r (zkb r.fTe)).2:Nat):Int)):=by
 obtain ⟨g1,g2,g3,g4⟩:=zkv hg
 have hls:=zr6 hr.2.2
 have hll:(zkb r.fTe).length≤720:=by
  have:=zs8 r.fTe
  unfold zwY at this
  rw [if_pos g3] at this
  exact this
 unfold zdM
 rw [zi5 _ hr.2.2 g3]
 simp only [qa]
 have key:=zkS (step:=zai (zkb r.fTe)) (λ i (c:RegionT×Nat)=>(⟨(c.2:Int),i,c.1.Id,c.1.fVe,c.1.fTe.fBr⟩:zdL)) (zkb r.fTe).length (λ i=>zlF r (zkb r.fTe) i) (λ c=>(⟨(c.2:Int),c.1.Id,c.1.fVe,c.1.fTe.fBr⟩:zga)) (λ i hi=>?_) ?_
 ·have e0:zlF r (zkb r.fTe) 0=(r,0):=rfl
  rw [e0] at key
  have e1:zlF r (zkb r.fTe) (zkb r.fTe).length=zmg r (zkb r.fTe):=by unfold zlF zmg;rw [qf]
  rw [e1] at key
  have key':zjZ (zai (zkb r.fTe)) ⟨0,0,r.Id,r.fVe,r.fTe.fBr⟩=_:=key
  rw [key']
  rfl
 ·obtain ⟨i1,i2,i3⟩:=zr7 hg hr hls i
  have e1:wI ((i:Int)+1)=((i+1:Nat):Int):=by rw [zj0 (by omega)];omega
  have e2:wI (((zlF r (zkb r.fTe) i).2:Int)+1)=(((zlF r (zkb r.fTe) i).2+1:Nat):Int):=by rw [zj0 (by omega)];omega
  unfold zai
  simp only [qc,e1,e2]
  rw [if_pos (by rw [decide_eq_true_eq];omega),zjL (by omega)]
  have hc:zc5 ⟨(zlF r (zkb r.fTe) i).1.Id,(zlF r (zkb r.fTe) i).1.fVe,⟨(zlF r (zkb r.fTe) i).1.fTe.fBr⟩⟩ 2 (nth (zkb r.fTe) i)=some (zlB (zlF r (zkb r.fTe) i).1 2 (nth (zkb r.fTe) i)):=zhj _ _ _ i1 i2 (⟨by omega,by omega⟩:zlV 2) (hls _ (zks hi))
  rw [hc,ztg hi]
  simp only [qa]
  unfold zlB zk1
  by_cases c0:zkJ (zlF r (zkb r.fTe) i).1 2 (nth (zkb r.fTe) i)=0
  ·simp only [c0,if_true,beq_self_eq_true]
  ·simp only [c0,if_false]
   rw [if_neg (by simpa using c0)]
 ·unfold zai
  dsimp only
  rw [if_neg (by simp)]
end Go.TL
set_option maxRecDepth 4000
namespace Go.TL
end Go.TL
set_option maxRecDepth 4000
namespace Go.TL
theorem zjX {α β:Type} {o:Option α} {x:α} {f:α→Option β} {r:Option β} (h:o=some x) (h2:f x=r):o.bind f=r:=by rw [h];exact h2
end Go.TL
set_option maxRecDepth 4000
namespace Go.TL
theorem zAR {c b:List EventT} (h:c <+: b) {i:Nat} (hi:i < c.length):nth c i=nth b i:=by
 obtain ⟨t,rfl⟩:=h
 rw [zkj hi,zkj (by rw [qM];omega),qk hi]
theorem zua {c b:List EventT} (hc:zkP c=true) (hb:zkP b=true):zkp c b=true↔c <+: b:=by
 rw [zoB hc hb]
 constructor
 ·rintro ⟨h1,h2⟩
  rw [List.prefix_iff_eq_take]
  refine zrH (by rw [qh];omega) λ j hj=>?_
  rw [zmz hj]
  exact h2 j hj
 ·intro h
  exact ⟨h.length_le,λ i hi=>zAR h hi⟩
def zqs (l:List BranchT) (e:List EventT):Prop:=∃ b∈l,e <+: b.fEv
def zCx (l:List BranchT):Prop:=∀ b∈l,zkP b.fEv=true
theorem zrb {h:List EventT} {l:List BranchT} {b:BranchT}:b∈znw h l false↔(b∈l∧zkp b.fEv h=false)∨b=⟨h⟩:=by
 rw [(zle h l).mem_iff,List.mem_append,List.mem_singleton]
 unfold zln
 rw [List.mem_filter]
 simp
theorem zzN {l:List BranchT} {h e:List EventT} (hl:zCx l) (hh:zkP h=true):zqs (zlQ l h) e↔zqs l e∨e <+: h:=by
 unfold zlQ
 split
 ·rename_i ha
  refine ⟨.inl,λ hc=>hc.elim id λ he=>?_⟩
  obtain ⟨b,hb,h1⟩:=List.any_eq_true.1 ha
  exact ⟨b,hb,he.trans ((zua hh (hl b hb)).1 h1)⟩
 ·constructor
  ·rintro ⟨b,hb,h1⟩
   rcases zrb.1 hb with h2 | h2
   ·exact .inl ⟨b,h2.1,h1⟩
   ·subst h2;exact .inr h1
  ·rintro (⟨b,hb,h1⟩ | h1)
   ·cases hbh:zkp b.fEv h
    ·exact ⟨b,zrb.2 (.inl ⟨hb,hbh⟩),h1⟩
    ·exact ⟨⟨h⟩,zrb.2 (.inr rfl),h1.trans ((zua (hl b hb) hh).1 hbh)⟩
   ·exact ⟨⟨h⟩,zrb.2 (.inr rfl),h1⟩
theorem zzO {l:List BranchT} (h:znS l):zCx l:=λ b hb=>zkh (h.1 b hb)
theorem zpS {e:List EventT}:∀ {m l:List BranchT},znS l→(∀ x∈m,zly x.fEv=true)→(zqs (zlw l m) e↔zqs l e∨zqs m e)
 | [],l,h,_=>by
  show zqs l e↔_
  refine ⟨.inl,λ h=>h.elim id λ ⟨b,hb,_⟩=>by simp at hb⟩
 | x :: m,l,h,hm=>by
  have hx:=hm x (by simp)
  have ih:=zpS (e:=e) (m:=m) (l:=zlQ l x.fEv) (zra h hx) λ y hy=>hm y (qj _ hy)
  show zqs (zlw (zlQ l x.fEv) m) e↔_
  rw [ih,zzN (zzO h) (zkh hx)]
  constructor
  ·rintro ((h1 | h1) | ⟨b,hb,h1⟩)
   ·exact .inl h1
   ·exact .inr ⟨x,by simp,h1⟩
   ·exact .inr ⟨b,qj _ hb,h1⟩
  ·rintro (h1 | ⟨b,hb,h1⟩)
   ·exact .inl (.inl h1)
   ·rcases List.mem_cons.1 hb with e1 | e1
    ·subst e1;exact .inl (.inr h1)
    ·exact .inr ⟨b,e1,h1⟩
theorem zya {l:List BranchT} (h:znS l) {a b:BranchT} (ha:a∈l) (hb:b∈l) (hab:a.fEv <+: b.fEv):a=b:=by
 have hp:l.Pairwise λ a b=>(zkp a.fEv b.fEv=false∧zkp b.fEv a.fEv=false):=h.2.imp λ {a b} ⟨h1,h2⟩=>⟨h2,by
  cases e:zkp b.fEv a.fEv
  ·rfl
  ·have:=zw2 e
   have:=zoT.1 h1
   omega⟩
 have hbeg:=(zua (zkh (h.1 a ha)) (zkh (h.1 b hb))).2 hab
 obtain ⟨i,hi,rfl⟩:=ql ha
 obtain ⟨j,hj,rfl⟩:=ql hb
 rw [qv] at hp
 rcases Nat.lt_trichotomy i j with h1 | h1 | h1
 ·have:=(hp i j hi hj h1).1
  rw [hbeg] at this;cases this
 ·subst h1;rfl
 ·have:=(hp j i hj hi h1).2
  rw [hbeg] at this;cases this
theorem zw5 {l m:List BranchT} (hl:znS l) (hm:znS m) (h:∀ e,zqs l e↔zqs m e) {x:BranchT} (hx:x∈l):x∈m:=by
 obtain ⟨y,hy,h1⟩:=(h x.fEv).1 ⟨x,hx,qz _⟩
 obtain ⟨z,hz,h2⟩:=(h y.fEv).2 ⟨y,hy,qz _⟩
 have hxz:=zya hl hx hz (h1.trans h2)
 subst hxz
 have:x.fEv=y.fEv:=h1.eq_of_length_le h2.length_le
 have:x=y:=by
  cases x;cases y
  simp only at this
  rw [this]
 rw [this];exact hy
theorem zAS {l m:List BranchT} (hl:znS l) (hm:znS m) (h:∀ e,zqs l e↔zqs m e):l=m :=
 zt0 zq8 zmn (hl.2.imp λ h=>h.1) (hm.2.imp λ h=>h.1) λ z=>⟨λ hz=>zw5 hl hm h hz,λ hz=>zw5 hm hl (λ e=>(h e).symm) hz⟩
theorem zws {l m:List BranchT} (hl:znS l) (hm:znS m):zlw (zlw l m) m=zlw l m :=
 zAS (zmq (zmq hl hm.1) hm.1) (zmq hl hm.1) λ e=>by
  rw [zpS (zmq hl hm.1) hm.1,zpS hl hm.1]
  constructor
  ·rintro (h | h)
   ·exact h
   ·exact .inr h
  ·exact .inl
end Go.TL
set_option maxRecDepth 4000
namespace Go.TL
theorem zr8 {r:RegionT} (hg:zkg r=true):zbc r.fTe=some r.fTe:=by
 have hm:=znT (zmA (zku hg))
 exact zez _ hm.1 hm.2
theorem zpT (r:RegionT) (hr:zkr r):zdw r=some (zzb r):=by
 unfold zdw zzb zdu
 rw [za9 _ hr]
 simp only [qa]
 cases hg:zkg r
 ·simp
 rw [if_neg (by simp),if_pos rfl,zhO]
 simp only [qa]
 cases hn:(zls r.fVe r.Id).2
 ·simp
 rw [if_neg (by simp),if_pos rfl,zr8 hg]
 rfl
theorem zid (r:RegionT) (w:WordT) (hr:zkr r) (hw:ztX w):zdN r w=some (zkY r w):=by
 unfold zdN zkY
 rw [za9 _ hr]
 simp only [qa]
 cases hg:zkg r
 ·simp
 rw [za9 _ (show zkr ⟨0,w.fVe,w.fTe⟩ from ⟨by unfold zlV;simp only;omega,hw.1,hw.2⟩)]
 simp only [qa]
 cases hg2:zkg ⟨0,w.fVe,w.fTe⟩
 ·simp
 have g1:=zku hg
 have g2:=zku hg2
 simp only [qe,qb,if_false,qa]
 rw [zhz _ _ hr.2.2 hw.2]
 simp only [qa]
 unfold zx5
 rw [g1,show zkA w.fTe=true from g2]
 simp only [qo]
 by_cases hc:(zlw r.fTe.fBr w.fTe.fBr).length≤12
 ·simp only [hc,decide_true,if_true,qe,qb,if_false]
  by_cases hv:w.fVe > r.fVe
  ·simp only [hv,decide_true,if_true,qa]
   rw [Int.max_eq_right (by omega)]
  ·simp only [hv,decide_false,qb,if_false,qa]
   rw [Int.max_eq_left (by omega)]
 ·simp [hc]
theorem zw6 {b:BranchT}:∀ {m l:List BranchT},b∈zlw l m→b∈l∨b∈m
 | [],l,h=>.inl h
 | x :: m,l,h=>by
  have h':b∈zlw (zlQ l x.fEv) m:=h
  rcases zw6 h' with h1 | h1
  ·rcases zr2 h1 with h2 | h2
   ·exact .inl h2
   ·right
    have:b=x:=h2
    rw [this];exact List.mem_cons_self
  ·exact .inr (qj _ h1)
end Go.TL
set_option maxRecDepth 4000
namespace Go.TL
end Go.TL
set_option maxRecDepth 4000
namespace Go.TL
theorem zub {v u:Int} {l:List EventT} (h:zsw v l=true) (hv:v≤u):zsw u l=true:=by
 unfold zsw at h ⊢
 rw [qi] at h ⊢
 intro e he
 have:=h e he
 simp at this ⊢
 omega
theorem zwt {r:RegionT} {w:WordT} (h:(zkY r w).2=true) :
  zkg (zkY r w).1=true∧zkY (zkY r w).1 w=((zkY r w).1,true)∧r.fVe≤(zkY r w).1.fVe∧w.fVe≤(zkY r w).1.fVe∧zkg r=true ∧
  (∀ e,zqs r.fTe.fBr e→zqs (zkY r w).1.fTe.fBr e):=by
 have hx:zkg r=true∧zkg ⟨0,w.fVe,w.fTe⟩=true∧(zlw r.fTe.fBr w.fTe.fBr).length≤12:=by
  unfold zkY at h
  split at h
  ·rename_i hc
   simp only [qg,decide_eq_true_eq] at hc
   exact ⟨hc.1.1,hc.1.2,hc.2⟩
  ·cases h
 obtain ⟨a1,a2,a3⟩:=hx
 have e:zkY r w=(⟨r.Id,max r.fVe w.fVe,⟨zlw r.fTe.fBr w.fTe.fBr⟩⟩,true):=by
  unfold zkY
  rw [if_pos (by simp [a1,a2,a3])]
 have t1:=zkL (zku a1)
 have t2:znS w.fTe.fBr:=zkL (t:=w.fTe) (zku a2)
 have hm:=zmq t1 t2.1
 obtain ⟨g1,g2,g3,g4⟩:=zkv a1
 obtain ⟨k1,k2,k3,k4⟩:=zkv a2
 have hgood:zkg ⟨r.Id,max r.fVe w.fVe,⟨zlw r.fTe.fBr w.fTe.fBr⟩⟩=true:=by
  refine zm2 g1 ?_ ?_ ?_
  ·unfold zst at *
   simp only [decide_eq_true_eq] at *
   omega
  ·show zkA ⟨_⟩=true
   rw [zr3 hm]
   simpa using a3
  ·show zpK (max r.fVe w.fVe) ⟨_⟩=true
   unfold zpK at *
   rw [qi] at *
   intro b hb
   rcases zw6 hb with hb | hb
   ·exact zub (g4 b hb) (by omega)
   ·exact zub (k4 b hb) (by show w.fVe≤_;omega)
 rw [e]
 refine ⟨hgood,?_,by show r.fVe≤max r.fVe w.fVe;omega,by show w.fVe≤max r.fVe w.fVe;omega,a1,λ e he=>(zpS t1 t2.1).2 (.inl he)⟩
 have hag:zlw (zlw r.fTe.fBr w.fTe.fBr) w.fTe.fBr=zlw r.fTe.fBr w.fTe.fBr:=zws t1 t2
 unfold zkY
 simp only [hag]
 rw [if_pos (by simp [hgood,a2,a3]),show max (max r.fVe w.fVe) w.fVe=max r.fVe w.fVe by omega]
end Go.TL
set_option maxRecDepth 4000
namespace Go.TL
abbrev okr (r:RegionT):Prop:=zkg r=true∧zkr r
def wd (r:RegionT):WordT:=⟨r.fVe,r.fTe⟩
theorem zzP {r q:RegionT} (hr:okr r) (hq:okr q) (h:(zkY r (wd q)).2=true):okr (zkY r (wd q)).1:=by
 refine ⟨(zwt h).1,?_⟩
 have h12:=zkH (zku hr.1)
 have h13:=zkH (zku hq.1)
 have h1:=hr.2.2.1
 have h2:=hq.2.2.1
 unfold zkY
 split
 ·refine ⟨hr.2.1,?_,zzF hr.2.2.2 hq.2.2.2 (by show r.fTe.fBr.length+q.fTe.fBr.length≤1000;omega)⟩
  have h1:=hr.2.2.1
  have h2:zlV (wd q).fVe:=hq.2.2.1
  unfold zlV at *
  simp only
  omega
 ·exact ⟨(⟨by omega,by omega⟩:zlV 0),(⟨by omega,by omega⟩:zlV 0),⟨by simp,λ b hb=>by simp at hb⟩⟩
theorem zzQ {r:RegionT} (hr:okr r):okr (zmg r (zkb r.fTe)).1:=by
 have:=zr7 hr.1 hr.2 (zr6 hr.2.2.2) (zkb r.fTe).length
 have e1:zlF r (zkb r.fTe) (zkb r.fTe).length=zmg r (zkb r.fTe):=by unfold zlF zmg;rw [qf]
 rw [e1] at this
 exact ⟨this.1,this.2.1⟩
theorem zw7 {r:RegionT} (hr:okr r):zt6 r.fTe.fBr:=znT (zmA (zku hr.1))
theorem zzR (l:List RegionT) (s:List SaidT) (hl:l.length≤1000) (h:∀ i,i < l.length→zt6 (nth l i).fTe.fBr):zjZ (zbX ⟨l,s⟩) ⟨0,[]⟩=some ⟨l⟩:=by
 have key:=zkS (step:=zbX ⟨l,s⟩) (λ i c=>(⟨i,c⟩:zfu)) l.length (λ i=>l.take i) (λ c=>(⟨c⟩:zgT)) (λ i hi=>?_) ?_
 ·simp only [qu,qf] at key
  exact key
 ·have hm:=h i hi
  have ht:(l.take i).length=i:=by rw [qh];omega
  have e1:wI ((i:Int)+1)=((i+1:Nat):Int):=by rw [zj0 (by omega)];omega
  unfold zbX zdu
  simp only [qc,e1,← zld hi]
  rw [if_pos (by rw [decide_eq_true_eq];omega),zjL (by omega),zez _ hm.1 hm.2]
  simp only [qa]
  rw [zjL (by rw [ht];omega)]
 ·unfold zbX
  dsimp only
  rw [if_neg (by simp)]
theorem zzS (l:List RegionT) (s:List SaidT) (hl:s.length≤1000) (h:∀ i,i < s.length→zt6 (nth s i).Word.fTe.fBr):zjZ (zcV ⟨l,s⟩) ⟨0,[]⟩=some ⟨s⟩:=by
 have key:=zkS (step:=zcV ⟨l,s⟩) (λ i c=>(⟨i,c⟩:zfv)) s.length (λ i=>s.take i) (λ c=>(⟨c⟩:zgU)) (λ i hi=>?_) ?_
 ·simp only [qu,qf] at key
  exact key
 ·have hm:=h i hi
  have ht:(s.take i).length=i:=by rw [qh];omega
  have e1:wI ((i:Int)+1)=((i+1:Nat):Int):=by rw [zj0 (by omega)];omega
  unfold zcV zaA
  simp only [qc,e1,← zld hi]
  rw [if_pos (by rw [decide_eq_true_eq];omega),zjL (by omega),zez _ hm.1 hm.2]
  simp only [qa]
  rw [zjL (by rw [ht];omega)]
 ·unfold zcV
  dsimp only
  rw [if_neg (by simp)]
theorem zyb (w:WorldT) (h1:w.fRe.length≤1000) (h2:w.Line.length≤1000) (h3:∀ i,i < w.fRe.length→zt6 (nth w.fRe i).fTe.fBr) (h4:∀ i,i < w.Line.length→zt6 (nth w.Line i).Word.fTe.fBr):zdY w=some w:=by
 unfold zdY
 refine zjX (zzR w.fRe w.Line h1 h3) ?_
 exact zjX (zzS w.fRe w.Line h2 h4) rfl
end Go.TL
set_option maxRecDepth 4000
namespace Go.TL
theorem zyc {x:RegionT} (hx:okr x):zcc x=some (wd x):=by
 unfold zcc
 rw [znl _ (zw7 hx)]
 rfl
theorem zuc {r q:RegionT} (hr:okr r) (hq:okr q):zkY r (wd q)=if (zlw r.fTe.fBr q.fTe.fBr).length≤12 then (⟨r.Id,max r.fVe q.fVe,⟨zlw r.fTe.fBr q.fTe.fBr⟩⟩,true) else (⟨0,0,⟨[]⟩⟩,false):=by
 have hq0:zkg ⟨0,(wd q).fVe,(wd q).fTe⟩=true:=by
  obtain ⟨k1,k2,k3,k4⟩:=zkv hq.1
  exact zm2 ⟨by show (0:Int)≤0;omega,by show (0:Int)≤9;omega⟩ k2 k3 k4
 unfold zkY
 rw [hr.1,hq0]
 simp only [qo,decide_eq_true_eq]
 rfl
theorem zyd (l:List RegionT) (i:Nat) (r q:RegionT) (hi:i < l.length) (hn:nth l i=r) (hr:okr r) (hq:okr q):zae l i (wd q)=some ((zkY r (wd q)).2,if (zkY r (wd q)).2=true then l.set i (zkY r (wd q)).1 else l):=by
 unfold zae
 rw [zjL hi,hn,zhA r.fTe (wd q).fTe hr.2.2.2 hq.2.2.2]
 simp only [qa]
 rw [zuc hr hq]
 unfold zx5
 rw [zku hr.1,show zkA (wd q).fTe=true from zku hq.1]
 have e:(wd q).fTe.fBr=q.fTe.fBr:=rfl
 simp only [qo,e,decide_eq_true_eq]
 by_cases hc:(zlw r.fTe.fBr q.fTe.fBr).length≤12
 ·simp only [hc,if_true]
  rfl
 ·simp only [hc,if_false]
  have e2:(⟨r.Id,r.fVe,r.fTe⟩:RegionT)=nth l i:=by rw [hn]
  rw [if_neg (by simp),if_neg (by simp),e2,zq7 hi]
theorem zth (l:List RegionT) (i:Nat) (r:RegionT) (k:Int) (n:ByteArray) (hg:zkg r=true) (c0:zkJ r k n=0):zQ l i r k n=some (0,l.set i (ztd r k n)):=by
 obtain ⟨g1,g2,g3,g4⟩:=zkv hg
 have hl:=zm0 g3
 have h12:=zkH g3
 obtain ⟨f1,f2⟩:=zqh (zkn r.fTe)
 obtain ⟨m,hm,hm2⟩:=ziF r k n hg
 obtain ⟨z1,z2,z3,z4,⟨t,z5⟩,z6⟩:=zte c0
 have c1:(decide (1≤k∧k≤6) && zkO n)=true:=by simp [z1,z2]
 have hm3:=hm2 c1
 rw [z5] at hm3
 have ht:=zoU hg c0
 have e6:zb6 r.fTe (zkn r.fTe++[⟨(zkq (zkn r.fTe)).1.Next,r.fVe,k,n⟩])=some ⟨zlQ r.fTe.fBr (zkn r.fTe++[zlW r k n])⟩:=zgC r.fTe (zkn r.fTe++[zlW r k n]) (zkL g3) (by omega) ht
 have e2:((r.fVe.tmod 10) == r.Id)=zqS r:=rfl
 unfold zQ zS zG
 rw [ze6 _ g3,zvo r g3]
 simp only [qa]
 rw [hm,zcJ,zbT]
 simp only [qa]
 rw [decide_eq_true z1,z2]
 simp only [qe,qb,if_false,qa]
 rw [e2,z3]
 simp only [qe,qb,if_false]
 by_cases hk2:k=2
 ·rw [if_pos (by simp [hk2]),zme _ _ (by omega)]
  simp only [qa]
  rw [z4 hk2]
  simp only [qb,if_false]
  rw [hm3]
  simp only [qx,qe,qb,if_false]
  rw [if_neg (by simpa using (show ¬ ((zkn r.fTe).length:Int)=60 by omega))]
  unfold zd
  rw [zjL (by omega)]
  simp only [qa]
  rw [zjL (by omega),e6]
  rfl
 ·rw [if_neg (by simp [hk2]),hm3]
  simp only [qx,qe,qb,if_false]
  rw [if_neg (by simpa using (show ¬ ((zkn r.fTe).length:Int)=60 by omega))]
  unfold zd
  rw [zjL (by omega)]
  simp only [qa]
  rw [zjL (by omega),e6]
  rfl
theorem zwu {α:Type} [Inhabited α] {l:List α} {i:Nat} (h:i < l.length) (a:α):nth (l.set i a) i=a:=by
 rw [zkj (by simpa using h)]
 simp
theorem zvp (l:List RegionT) (i:Nat) (r:RegionT) (hi:i < l.length) (hn:nth l i=r) (hr:okr r):zaU l i=some ((((zmg r (zkb r.fTe)).2:Nat):Int),l.set i (zmg r (zkb r.fTe)).1):=by
 obtain ⟨g1,g2,g3,g4⟩:=zkv hr.1
 have hls:=zr6 hr.2.2.2
 have hll:(zkb r.fTe).length≤720:=by
  have:=zs8 r.fTe
  unfold zwY at this
  rw [if_pos g3] at this
  exact this
 unfold zaU
 rw [zjL hi,hn,zhQ _ g3,zxM]
 simp only [qa]
 have key:=zkS (step:=zw (zkb r.fTe) i) (λ j (c:RegionT×Nat)=>(⟨(c.2:Int),j,l.set i c.1⟩:zbb)) (zkb r.fTe).length (λ j=>zlF r (zkb r.fTe) j) (λ c=>(⟨(c.2:Int),l.set i c.1⟩:zeB)) (λ j hj=>?_) ?_
 ·have e0:zlF r (zkb r.fTe) 0=(r,0):=rfl
  rw [e0] at key
  have e1:zlF r (zkb r.fTe) (zkb r.fTe).length=zmg r (zkb r.fTe):=by unfold zlF zmg;rw [qf]
  rw [e1] at key
  have key':zjZ (zw (zkb r.fTe) i) ⟨0,0,l.set i ⟨r.Id,r.fVe,r.fTe⟩⟩=_:=key
  rw [key']
  rfl
 ·obtain ⟨i1,i2,i3⟩:=zr7 hr.1 hr.2 hls j
  have e1:wI ((j:Int)+1)=((j+1:Nat):Int):=by rw [zj0 (by omega)];omega
  have e2:wI (((zlF r (zkb r.fTe) j).2:Int)+1)=(((zlF r (zkb r.fTe) j).2+1:Nat):Int):=by rw [zj0 (by omega)];omega
  have es:∀ a b:RegionT,(l.set i a).set i b=l.set i b:=λ a b=>List.set_set ..
  unfold zw
  simp only [qc,e1,e2,zwu hi,es]
  rw [if_pos (by rw [decide_eq_true_eq];omega),zjL (by omega),zjL (by simpa using hi)]
  have hc:zy ⟨(zlF r (zkb r.fTe) j).1.Id,(zlF r (zkb r.fTe) j).1.fVe,(zlF r (zkb r.fTe) j).1.fTe⟩ 2 (nth (zkb r.fTe) j)=_:=zib (zlF r (zkb r.fTe) j).1 2 (nth (zkb r.fTe) j) i1
  rw [hc,ztg hj]
  unfold zk1
  by_cases c0:zkJ (zlF r (zkb r.fTe) j).1 2 (nth (zkb r.fTe) j)=0
  ·have hd:zQ (l.set i (zlF r (zkb r.fTe) j).1) i ⟨(zlF r (zkb r.fTe) j).1.Id,(zlF r (zkb r.fTe) j).1.fVe,(zlF r (zkb r.fTe) j).1.fTe⟩ 2 (nth (zkb r.fTe) j)=_:=zth (l.set i (zlF r (zkb r.fTe) j).1) i (zlF r (zkb r.fTe) j).1 2 (nth (zkb r.fTe) j) i1 c0
   simp only [c0,if_true]
   rw [hd,es]
   rfl
  ·simp only [c0,if_false]
   rw [if_neg (by simpa using c0)]
 ·unfold zw
  dsimp only
  rw [if_neg (by simp)]
theorem zqT (l:List RegionT) (k:Int) (hk:0≤k) (hl:l.length≤1099511627776) (hi:∀ i,i < l.length→(nth l i).fTe.fBr.length≤1099511627776) (hb:k+zlP zkN l≤1099511627776) :
  zc6 (zmF zmQ zkN l k) k=some (k+zlP zkN l):=by
 unfold zc6
 have key:=zn5 (step:=zaQ (zmF zmQ zkN l k)) (λ i k=>(⟨k,i⟩:zdi)) zkN zmQ l 1099511627776 (λ k=>(⟨k⟩:zfZ)) k (λ i k' hi' hn h0 h1=>?_) (λ k'=>?_) hk hb
 ·rw [key];rfl
 ·have hw:zkN (nth l i)=2+zoC (nth l i).fTe.fBr:=rfl
  rw [hw] at h1
  have e1:wI (k'+1)=k'+1:=zj0 (by omega)
  have e2:wI (k'+1+1)=k'+2:=by rw [zj0 (by omega)];omega
  have e3:wI ((i:Int)+1)=((i+1:Nat):Int):=by rw [zj0 (by omega)];omega
  have e4:k'+2+(zoC (nth l i).fTe.fBr:Int)=k'+(zkN (nth l i):Int):=by rw [hw];omega
  unfold zaQ
  simp only [qc,hn,e1,e2,e3]
  have hlen:(zmF zmQ zkN l k).length=l.length:=zlk ..
  have em:zmQ k' (nth l i)=⟨k',k'+1,⟨zv7 (nth l i).fTe.fBr (k'+2)⟩⟩:=rfl
  rw [if_pos (by rw [decide_eq_true_eq];omega),zjL (by omega),em]
  dsimp only
  rw [if_neg (by simp),zjL (by omega),if_neg (by simp),zjL (by omega),zoa _ _ (by omega) (hi i hi') (by omega)]
  simp only [qa]
  rw [if_neg (by simp;omega),e4]
 ·unfold zaQ
  rw [if_neg (by simp [zlk])]
end Go.TL
set_option maxRecDepth 4000
namespace Go.TL
def zkk (x:WorldStepT):Prop:=zlV x.Kind∧zlV x.Region∧zlV x.What∧zn1 x.Name∧zlV x.K
def zkw (x:WorldStepT):Nat:=zpD x.Kind+zpD x.Region+zpD x.What+zBc x.Name+zpD x.K
def zmR (x:WorldStepT):Prop:=zqd x.Kind∧zqd x.Region∧zqd x.What∧zBG x.Name∧zqd x.K
theorem zqU {x:WorldStepT} (h:zkk x):zmR x:=⟨zmd h.1,zmd h.2.1,zmd h.2.2.1,zwU h.2.2.2.1,zmd h.2.2.2.2⟩
theorem zhV (a:WorldStepT) (n:Int) (ha:zkk a) (h0:0≤n) (h1:n≤4611686018427387904):zc7 a n=some (szr (zkw a) n):=by
 unfold zc7
 unfold zkk at ha
 unfold zkw
 have z_Kind:zpD a.Kind=0:=ztT _
 rw [z_Kind]
 have z_Region:zpD a.Region=0:=ztT _
 rw [z_Region]
 have z_What:zpD a.What=0:=ztT _
 rw [z_What]
 have z_K:zpD a.K=0:=ztT _
 rw [z_K]
 have q0:a.Name.size≤9223372036854775807:=ha.2.2.2.1
 have z0:zBc a.Name=a.Name.size:=rfl
 rw [z0,zj0 (by omega)]
 have e0:szr a.Name.size (n)=if (a.Name.size:Int)≤n then n - (a.Name.size:Int) else -1:=rfl
 by_cases c0:(a.Name.size:Int)≤n
 rotate_left
 ·rw [if_pos (by simp;omega)];unfold szr;rw [if_neg (by omega)]
 rw [if_neg (by simp;omega)]
 unfold szr;rw [if_pos (by omega)]
 congr 1;omega
def zmr (x:(List WorldStepT)):Prop:=x.length≤9223372036854775807∧∀ y∈x,zkk y
def zkK (x:(List WorldStepT)):Nat:=x.length+znr (x.map zkw)
def zo5 (x:(List WorldStepT)):Prop:=x.length≤9223372036854775807∧∀ y∈x,zmR y
theorem zqt {x:(List WorldStepT)} (h:zmr x):zo5 x:=⟨h.1,λ y hy=>zqU (h.2 y hy)⟩
theorem zhJ (a:(List WorldStepT)) (n:Int) (ha:zmr a) (h0:0≤n) (h1:n≤4611686018427387904):zcy a n=some (szr (zkK a) n):=by
 obtain ⟨ha1,ha2⟩:=ha
 unfold zcy
 rw [zj0 (by omega)]
 by_cases hc:n - ((a.length:Nat):Int) < 0
 ·rw [if_pos (decide_eq_true hc)]
  unfold szr zkK
  rw [if_neg (by omega)]
 ·rw [if_neg (by simpa using hc)]
  have key:=zAw (step:=zaw a) (λ i s=>(⟨s,i⟩:zcL)) a zkw n (λ s=>(.inr ⟨s⟩:Unit⊕zfJ)) (.inl ()) (λ i s hi hs=>?_) (λ s hs=>?_) (n - ((a.length:Nat):Int)) ⟨by omega,by omega⟩
  ·rw [key]
   unfold szr zkK
   by_cases h:(znr (a.map zkw):Int)≤n - ((a.length:Nat):Int)
   ·rw [if_pos h,if_pos (by omega)];simp only [qa];congr 1;omega
   ·rw [if_neg h,if_neg (by omega)];rfl
  ·have hm:=ha2 _ (zks hi)
   unfold zaw
   simp (disch:=omega) only [decide_eq_true_eq,if_pos,zjL,qc,zj0]
   rw [zhV _ _ hm (by omega) (by omega)]
   simp only [qa]
   unfold szr
   by_cases h:(zkw (nth a i):Int)≤s
   ·rw [if_pos h,if_pos h,if_neg (by omega)];rfl
   ·rw [if_neg h,if_neg h,if_pos (by omega)]
  ·unfold zaw
   rw [if_neg (by simp)]
theorem zgl (a:WorldStepT) (ha:zkw a≤4194304):zbZ a=some a:=by
 unfold zkw at ha
 unfold zbZ
 all_goals rfl
theorem zhK (a:(List WorldStepT)) (ha:zkK a≤4194304):zaB a=some a:=by
 unfold zkK at ha
 unfold zaB
 rw [zjL (by omega)]
 have key:=zsV (step:=zax a) (λ i l=>(⟨i,l⟩:zcM)) a (λ x=>x) (λ l=>(⟨l⟩:zfK)) (λ i l hi hl=>?_) (λ l hl=>?_) (List.replicate a.length (⟨0,0,0,ByteArray.empty,0⟩:WorldStepT)) (by simp)
 ·rw [key];simp
 ·unfold zax
  have hm:zkw (nth a i)≤4194304:=qm (zuU zkw (zks hi)) (by omega)
  simp (disch:=omega) only [decide_eq_true_eq,if_pos,zjL,qc,zj0]
  rw [zgl _ hm]
  simp (disch:=omega) only [qa,zjL]
  rfl
 ·unfold zax
  rw [if_neg (by simp)]
theorem zhn (a:(List WorldStepT)) (ha:zkK a≤4194304):zbH a=some a:=by
 unfold zkK at ha
 unfold zbH
 rw [zjL (by omega)]
 have key:=zsV (step:=zX a) (λ i l=>(⟨i,l⟩:zb7)) a (λ x=>x) (λ l=>(⟨l⟩:zfl)) (λ i l hi hl=>?_) (λ l hl=>?_) (List.replicate a.length (⟨0,0,0,ByteArray.empty,0⟩:WorldStepT)) (by simp)
 ·rw [key];simp
 ·unfold zX
  have hm:zkw (nth a i)≤4194304:=qm (zuU zkw (zks hi)) (by omega)
  simp (disch:=omega) only [decide_eq_true_eq,if_pos,zjL,qc,zj0]
  rw [zgl _ hm]
  simp (disch:=omega) only [qa,zjL]
  rfl
 ·unfold zX
  rw [if_neg (by simp)]
theorem zhW (a b:WorldStepT) (ha:zmR a):zc9 a b=some (decide (a=b)):=by
 unfold zmR at ha
 unfold zc9
 obtain ⟨x0,x1,x2,x3,x4⟩:=a
 obtain ⟨y0,y1,y2,y3,y4⟩:=b
 simp only [sEq,qa,WorldStepT.mk.injEq]
 by_cases h0:x0=y0
 rotate_left
 ·simp [h0]
 by_cases h1:x1=y1
 rotate_left
 ·simp [h1]
 by_cases h2:x2=y2
 rotate_left
 ·simp [h2]
 by_cases h3:x3=y3
 rotate_left
 ·simp [h3]
 by_cases h4:x4=y4
 rotate_left
 ·simp [h4]
 simp [h0,h1,h2,h3,h4]
theorem zhL (a b:(List WorldStepT)) (ha:zo5 a):zcz a b=some (decide (a=b)):=by
 obtain ⟨ha1,ha2⟩:=ha
 unfold zcz
 by_cases hl:a.length=b.length
 ·rw [if_neg (by simp [hl])]
  have key:=zoK (step:=zay a b) (λ i=>(⟨i⟩:zcN)) a b hl (λ i hi=>?_) ?_
  ·rw [key];by_cases h:a=b<;>simp [h]
  ·have hm:=ha2 _ (zks hi)
   unfold zay
   simp (disch:=omega) only [decide_eq_true_eq,if_pos,zjL,qc,zj0]
   rw [zhW _ _ hm];simp only [qa]
   by_cases h:nth a i=nth b i<;>simp [h]
  ·unfold zay
   rw [if_neg (by simp)]
 ·rw [if_pos (by simp;omega)]
  simp [show a≠b from λ h=>hl (by rw [h])]
end Go.TL
set_option maxRecDepth 4000
namespace Go.TL
theorem zvq {α:Type} [Inhabited α] {l:List α} {i j:Nat} (h:i≠j) (a:α):nth (l.set i a) j=nth l j:=by
 unfold nth
 rw [List.getD_eq_getElem?_getD,List.getD_eq_getElem?_getD,List.getElem?_set_ne h]
def zr9 (L:List SaidT) (k:Nat):List SaidT:=L.take k++L.drop (k+1)
def zpU (w:WorldT) (s:WorldStepT):WorldT×Int :=
  if 0≤s.K∧s.K≤(w.Line.length:Int) - 1 then
    (if s.Kind=6 then (if w.Line.length=20 then (w,1) else (⟨w.fRe,w.Line++[nth w.Line s.K.toNat]⟩,0))
     else if s.Kind=5 then (⟨w.fRe,zr9 w.Line s.K.toNat⟩,0)
     else if (zkY (nth w.fRe (nth w.Line s.K.toNat).To.toNat) (nth w.Line s.K.toNat).Word).2=true then
       (⟨w.fRe.set (nth w.Line s.K.toNat).To.toNat (zkY (nth w.fRe (nth w.Line s.K.toNat).To.toNat) (nth w.Line s.K.toNat).Word).1,zr9 w.Line s.K.toNat⟩,0)
     else (⟨w.fRe,zr9 w.Line s.K.toNat⟩,2))
  else (w,1)
def zti (r:RegionT):RegionT:=⟨r.Id,(zls r.fVe r.Id).1,r.fTe⟩
def zqV (w:WorldT) (s:WorldStepT):WorldT×Int :=
  if 0≤s.Region∧s.Region≤1 then
    (if s.Kind=1 then (⟨w.fRe.set s.Region.toNat (zlB (nth w.fRe s.Region.toNat) s.What s.Name).1,w.Line⟩,(zlB (nth w.fRe s.Region.toNat) s.What s.Name).2)
     else if s.Kind=2 then (if (zls (nth w.fRe s.Region.toNat).fVe (nth w.fRe s.Region.toNat).Id).2=true then (⟨w.fRe.set s.Region.toNat (zti (nth w.fRe s.Region.toNat)),w.Line⟩,0) else (w,1))
     else if s.Kind=3 then (if w.Line.length=20 then (w,1) else (⟨w.fRe,w.Line++[⟨1 - s.Region,wd (nth w.fRe s.Region.toNat)⟩]⟩,0))
     else if s.Kind=7 then (if zqS (nth w.fRe s.Region.toNat)=true then
        (if (zmg (nth w.fRe s.Region.toNat) (zkb (nth w.fRe s.Region.toNat).fTe)).2=0 then (w,1)
         else (⟨w.fRe.set s.Region.toNat (zmg (nth w.fRe s.Region.toNat) (zkb (nth w.fRe s.Region.toNat).fTe)).1,w.Line⟩,0)) else (w,1))
     else (w,1))
  else (w,1)
def zlb (w:WorldT) (s:WorldStepT):WorldT×Int:=if s.Kind=4∨s.Kind=5∨s.Kind=6 then zpU w s else zqV w s
structure GW (w:WorldT):Prop where
 len:w.fRe.length=2
 reg:∀ i,i < 2→okr (nth w.fRe i)∧(nth w.fRe i).Id=(i:Int)
 line:w.Line.length≤20
 said:∀ s∈w.Line,(0≤s.To∧s.To≤1)∧zkg ⟨0,s.Word.fVe,s.Word.fTe⟩=true∧znj s
theorem GW.good {w:WorldT} (h:GW w):zwW w=true∧zrX w:=by
 obtain ⟨h1,h2,h3,h4⟩:=h
 constructor
 ·unfold zwW
  simp only [qg,decide_eq_true_eq]
  refine ⟨⟨⟨h1,h3⟩,?_⟩,List.all_eq_true.2 λ s hs=>?_⟩
  ·rw [h1,zkU]
   intro i hi
   obtain ⟨a,b⟩:=h2 i hi
   simp [a.1,b]
  ·obtain ⟨a,b,c⟩:=h4 s hs
   unfold zs5
   rw [zrY] at b
   simp only [qg,decide_eq_true_eq]
   exact ⟨a,b⟩
 ·refine ⟨⟨by omega,λ y hy=>?_⟩,⟨by omega,λ s hs=>(h4 s hs).2.2⟩⟩
  obtain ⟨i,hi,e⟩:=ql hy
  have:=(h2 i (by omega)).1.2
  rw [zkj hi,e] at this
  exact this
theorem GW.set {w:WorldT} (h:GW w) {i:Nat} (hi:i < 2) {r:RegionT} (hr:okr r) (hid:r.Id=(i:Int)):GW ⟨w.fRe.set i r,w.Line⟩:=by
 refine ⟨by rw [qL];exact h.len,λ j hj=>?_,h.line,h.said⟩
 show okr (nth (w.fRe.set i r) j)∧(nth (w.fRe.set i r) j).Id=(j:Int)
 by_cases e:i=j
 ·subst e
  rw [Go.TL.nth_set_same (by have:=h.len;omega)]
  exact ⟨hr,hid⟩
 ·rw [zvq e]
  exact h.reg j hj
theorem GW.put {w:WorldT} (h:GW w) {L:List SaidT} (hl:L.length≤20) (hs:∀ s∈L,(0≤s.To∧s.To≤1)∧zkg ⟨0,s.Word.fVe,s.Word.fTe⟩=true∧znj s):GW ⟨w.fRe,L⟩ :=
 ⟨h.len,h.reg,hl,hs⟩
theorem zAT {L:List SaidT} {k:Nat} {s:SaidT} (h:s∈zr9 L k):s∈L:=by
 unfold zr9 at h
 rcases List.mem_append.1 h with h | h
 ·exact qn h
 ·exact List.mem_of_mem_drop h
theorem zAU (L:List SaidT) (k:Nat):(zr9 L k).length≤L.length:=by
 unfold zr9
 rw [qM,qh,qba]
 omega
theorem zAV (r:RegionT) (k:Int) (n:ByteArray):(zlB r k n).1.Id=r.Id:=(zwo r k n).1
theorem zzT (p:RegionT×Nat) (n:ByteArray):(zk1 p n).1.Id=p.1.Id:=by
 unfold zk1
 split<;>rfl
theorem zw8:∀ (l:List ByteArray) (p:RegionT×Nat),(l.foldl zk1 p).1.Id=p.1.Id
 | [],_=>rfl
 | n :: r,p=>(zw8 r (zk1 p n)).trans (zzT p n)
theorem zAW {r:RegionT} {w:WordT} (h:(zkY r w).2=true):(zkY r w).1.Id=r.Id:=by
 unfold zkY at h ⊢
 split at h
 ·rename_i hc
  rw [if_pos hc]
 ·cases h
theorem zzU {r:RegionT} (hr:okr r) (h:(zls r.fVe r.Id).2=true):okr (zti r):=by
 obtain ⟨n1,n2,n3,n4⟩:=zwk h
 obtain ⟨g1,g2,g3,g4⟩:=zkv hr.1
 refine ⟨zm2 g1 (by unfold zst;rw [decide_eq_true_eq];exact ⟨n3,n4⟩) g3 ?_,hr.2.1,?_,hr.2.2.2⟩
 ·unfold zpK at g4 ⊢
  rw [qi] at g4 ⊢
  exact λ b hb=>zub (g4 b hb) (Int.le_of_lt n2)
 ·show zlV (zls r.fVe r.Id).1
  unfold zlV
  omega
theorem zzV {r:RegionT} (hr:okr r) {k:Int} {n:ByteArray} (hk:zlV k) (hn:zn1 n):okr (zlB r k n).1:=⟨zx8 hr.1,zzL hr.1 hr.2 hk hn⟩
theorem ztj {x:SaidT} (h:zkg ⟨0,x.Word.fVe,x.Word.fTe⟩=true∧znj x):okr ⟨0,x.Word.fVe,x.Word.fTe⟩ :=
 ⟨h.1,(⟨by omega,by omega⟩:zlV 0),h.2.2.1,h.2.2.2⟩
theorem zye {r:RegionT} {x:SaidT} (hr:okr r) (h:zkg ⟨0,x.Word.fVe,x.Word.fTe⟩=true∧znj x) (hh:(zkY r x.Word).2=true):okr (zkY r x.Word).1:=by
 have hq:=ztj h
 obtain ⟨to,v,t⟩:=x
 exact zzP (q:=⟨0,v,t⟩) hr hq hh
theorem zsa {w:WorldT} (h:GW w) {k:Int} (hk:0≤k∧k≤(w.Line.length:Int) - 1):nth w.Line k.toNat∈w.Line:=zks (by omega)
theorem GW.step {w:WorldT} (h:GW w) {s:WorldStepT} (hs:zkk s):GW (zlb w s).1:=by
 have hl:=h.len
 unfold zlb
 split
 ·unfold zpU
  split
  ·rename_i hk
   have hm:=zsa h hk
   obtain ⟨a,b,c⟩:=h.said _ hm
   have hcut:GW ⟨w.fRe,zr9 w.Line s.K.toNat⟩:=h.put (qm (zAU _ _) h.line) λ x hx=>h.said x (zAT hx)
   split
   ·split
    ·exact h
    ·refine h.put (by rw [qM,qd];have:=h.line;omega) λ x hx=>?_
     rcases List.mem_append.1 hx with hx | hx
     ·exact h.said x hx
     ·rw [List.mem_singleton.1 hx];exact h.said _ hm
   ·split
    ·exact hcut
    ·split
     ·rename_i hh
      have hr:=h.reg (nth w.Line s.K.toNat).To.toNat (by omega)
      exact hcut.set (i:=(nth w.Line s.K.toNat).To.toNat) (by omega) (zye hr.1 ⟨b,c⟩ hh) ((zAW hh).trans hr.2)
     ·exact hcut
  ·exact h
 ·unfold zqV
  split
  ·rename_i hk
   have hr:=h.reg s.Region.toNat (by omega)
   split
   ·exact h.set (by omega) (zzV hr.1 hs.2.2.1 hs.2.2.2.1) ((zAV _ _ _).trans hr.2)
   ·split
    ·split
     ·rename_i hn
      exact h.set (by omega) (zzU hr.1 hn) hr.2
     ·exact h
    ·split
     ·split
      ·exact h
      ·refine h.put (by rw [qM,qd];have:=h.line;omega) λ x hx=>?_
       rcases List.mem_append.1 hx with hx | hx
       ·exact h.said x hx
       ·rw [List.mem_singleton.1 hx]
        obtain ⟨g1,g2,g3,g4⟩:=zkv hr.1.1
        refine ⟨⟨by show 0≤1 - s.Region;omega,by show 1 - s.Region≤1;omega⟩,zm2 ⟨by simp,by simp⟩ g2 g3 g4,?_,hr.1.2.2.1,hr.1.2.2.2⟩
        show zlV (1 - s.Region)
        unfold zlV
        omega
     ·split
      ·split
       ·split
        ·exact h
        ·exact h.set (by omega) (zzQ hr.1) ((zw8 _ _).trans hr.2)
       ·exact h
      ·exact h
  ·exact h
theorem zzW {x:SaidT} (h:zkg ⟨0,x.Word.fVe,x.Word.fTe⟩=true):zaA ⟨x.Word.fVe,x.Word.fTe⟩=some x.Word:=by
 unfold zaA
 have:=zr8 h
 dsimp only at this ⊢
 rw [this]
 rfl
theorem zzX {r:RegionT} (hr:okr r):zeT ⟨r.Id,r.fVe,r.fTe⟩=some (wd r,true):=by
 unfold zeT
 have e:zB ⟨r.Id,r.fVe,r.fTe⟩=some true:=(za9 r hr.2).trans (by rw [hr.1])
 refine zjX e ?_
 refine (if_neg (by simp)).trans ?_
 exact zjX (zr8 hr.1) rfl
theorem zyf {r:RegionT} (hr:okr r):zdw ⟨r.Id,r.fVe,r.fTe⟩=some (if (zls r.fVe r.Id).2=true then (zti r,true) else (⟨0,0,⟨[]⟩⟩,false)):=by
 refine (zpT r hr.2).trans ?_
 unfold zzb zti
 rw [if_pos hr.1]
theorem zyg (L:List SaidT) (k:Nat):((([]:List SaidT))++L.take k)++((L.drop (k+1)).take (L.length - (k+1)))=zr9 L k:=by
 unfold zr9
 rw [qt]
 congr 1
 exact List.take_of_length_le (Nat.le_of_eq qba)
theorem zjD {w:WorldT} (h:GW w) {s:WorldStepT} (hs:zkk s):zdO w s=some ((zlb w s).1,(zlb w s).2,(zlb w s).1.fRe):=by
 have hl:=h.len
 have hL:=h.line
 have hk:((if (s.Kind == 4)=true then some (⟨true⟩:zaf) else (if (s.Kind == 5)=true then some ⟨true⟩ else some ⟨(s.Kind == 6)⟩)):Option zaf)=some ⟨decide (s.Kind=4∨s.Kind=5∨s.Kind=6)⟩:=by
  by_cases h4:s.Kind=4
  ·simp [h4]
  ·by_cases h5:s.Kind=5
   ·simp [h5]
   ·by_cases h6:s.Kind=6
    ·simp [h6]
    ·simp [h4,h5,h6]
 unfold zdO
 refine zjX hk ?_
 unfold zlb
 by_cases hline:s.Kind=4∨s.Kind=5∨s.Kind=6
 ·rw [if_pos hline]
  refine (if_pos (by simpa using hline)).trans ?_
  have e0:wI ((w.Line.length:Int) - 1)=(w.Line.length:Int) - 1:=zj0 (by omega)
  rw [e0]
  refine zjX (zbk ..) ?_
  unfold zpU
  by_cases hK:0≤s.K∧s.K≤(w.Line.length:Int) - 1
  rotate_left
  ·rw [if_neg hK]
   exact if_pos (by rw [Bool.not_eq_true',decide_eq_false_iff_not];exact hK)
  rw [if_pos hK]
  refine (if_neg (by simpa using hK)).trans ?_
  refine (zjL (by omega) _).trans ?_
  obtain ⟨a,b,c⟩:=h.said _ (zsa h hK)
  by_cases h6:s.Kind=6
  ·rw [if_pos h6]
   refine (if_pos (by simpa using h6)).trans ?_
   by_cases h20:w.Line.length=20
   ·rw [if_pos h20]
    exact if_pos (by rw [beq_iff_eq];omega)
   ·rw [if_neg h20]
    refine (if_neg (by rw [beq_iff_eq];omega)).trans ?_
    refine zjX (zzW b) ?_
    exact zjL (by omega) _
  rw [if_neg h6]
  refine (if_neg (by simpa using h6)).trans ?_
  have e1:wI (s.K+1)=s.K+1:=zj0 (by omega)
  have e2:(s.K+1).toNat=s.K.toNat+1:=by omega
  rw [e1,e2,zyg]
  refine (zjL (by omega) _).trans ?_
  refine (zjL (by omega) _).trans ?_
  refine (zjL (by omega) _).trans ?_
  refine (zjL (by omega) _).trans ?_
  by_cases h5:s.Kind=5
  ·rw [if_pos h5]
   exact if_pos (by simpa using h5)
  rw [if_neg h5]
  refine (if_neg (by simpa using h5)).trans ?_
  refine (zjL (by rw [hl];omega) _).trans ?_
  have hr:=(h.reg (nth w.Line s.K.toNat).To.toNat (by omega)).1
  refine zjX (zid (nth w.fRe (nth w.Line s.K.toNat).To.toNat) (nth w.Line s.K.toNat).Word hr.2 c.2) ?_
  cases hh:(zkY (nth w.fRe (nth w.Line s.K.toNat).To.toNat) (nth w.Line s.K.toNat).Word).2
  ·rfl
  ·refine (if_neg (by simp)).trans ?_
   exact zjL (by rw [hl];omega) _
 ·rw [if_neg hline]
  refine (if_neg (by simpa using hline)).trans ?_
  refine zjX (zbk ..) ?_
  unfold zqV
  by_cases hR:0≤s.Region∧s.Region≤1
  rotate_left
  ·rw [if_neg hR]
   exact if_pos (by rw [Bool.not_eq_true',decide_eq_false_iff_not];exact hR)
  rw [if_pos hR]
  refine (if_neg (by simpa using hR)).trans ?_
  refine (zjL (by rw [hl];omega) _).trans ?_
  have hr:=(h.reg s.Region.toNat (by omega)).1
  by_cases h1:s.Kind=1
  ·rw [if_pos h1]
   refine (if_pos (by simpa using h1)).trans ?_
   refine zjX (zhj (nth w.fRe s.Region.toNat) s.What s.Name hr.1 hr.2 hs.2.2.1 hs.2.2.2.1) ?_
   exact zjL (by rw [hl];omega) _
  rw [if_neg h1]
  refine (if_neg (by simpa using h1)).trans ?_
  by_cases h2:s.Kind=2
  ·rw [if_pos h2]
   refine (if_pos (by simpa using h2)).trans ?_
   refine zjX (zyf hr) ?_
   cases hn:(zls (nth w.fRe s.Region.toNat).fVe (nth w.fRe s.Region.toNat).Id).2
   ·rfl
   ·refine (if_neg (by simp)).trans ?_
    exact zjL (by rw [hl];omega) _
  rw [if_neg h2]
  refine (if_neg (by simpa using h2)).trans ?_
  by_cases h3:s.Kind=3
  ·rw [if_pos h3]
   refine (if_pos (by simpa using h3)).trans ?_
   by_cases h20:w.Line.length=20
   ·rw [if_pos h20]
    exact if_pos (by rw [beq_iff_eq];omega)
   ·rw [if_neg h20]
    refine (if_neg (by rw [beq_iff_eq];omega)).trans ?_
    refine zjX (zzX hr) ?_
    have e3:wI (1 - s.Region)=1 - s.Region:=zj0 (by omega)
    rw [e3]
    exact zjL (by omega) _
  rw [if_neg h3]
  refine (if_neg (by simpa using h3)).trans ?_
  by_cases h7:s.Kind=7
  rotate_left
  ·rw [if_neg h7]
   exact if_neg (by simpa using h7)
  rw [if_pos h7]
  refine (if_pos (by simpa using h7)).trans ?_
  have ea:zcR (nth w.fRe s.Region.toNat)=some (zqS (nth w.fRe s.Region.toNat)):=rfl
  refine zjX ea ?_
  cases hact:zqS (nth w.fRe s.Region.toNat)
  ·rfl
  refine (if_neg (by simp)).trans ?_
  refine zjX (zic (nth w.fRe s.Region.toNat) hr.1 hr.2) ?_
  by_cases h0:(zmg (nth w.fRe s.Region.toNat) (zkb (nth w.fRe s.Region.toNat).fTe)).2=0
  ·rw [if_pos rfl,if_pos h0]
   exact if_pos (by rw [beq_iff_eq];omega)
  ·rw [if_pos rfl,if_neg h0]
   refine (if_neg (by rw [beq_iff_eq];omega)).trans ?_
   exact zjL (by rw [hl];omega) _
end Go.TL
set_option maxRecDepth 4000
namespace Go.TL
theorem znm (b:Bool):zb8 b=some (if b=true then 0 else 1):=by
 unfold zb8
 cases b<;>rfl
theorem ztk {x:SaidT} (h:zkg ⟨0,x.Word.fVe,x.Word.fTe⟩=true):zcW x=some x:=by
 unfold zcW
 have hm:zt6 x.Word.fTe.fBr:=znT (zmA (t:=x.Word.fTe) (zku h))
 rw [znl _ hm]
 rfl
theorem zAX {w:WorldT} (hl:w.Line.length≤20) {x:SaidT} (h:zkg ⟨0,x.Word.fVe,x.Word.fTe⟩=true):zbn w x=some (if w.Line.length=20 then (false,w) else (true,⟨w.fRe,w.Line++[x]⟩)):=by
 unfold zbn
 by_cases h20:w.Line.length=20
 ·rw [if_pos h20]
  exact if_pos (by rw [beq_iff_eq];omega)
 ·rw [if_neg h20]
  refine (if_neg (by rw [beq_iff_eq];omega)).trans ?_
  refine zjX (ztk h) ?_
  exact zjL (by omega) _
theorem zAY {w:WorldT} (hl:w.Line.length≤20) {i:Nat} (hi:i < w.Line.length) (h:zkg ⟨0,(nth w.Line i).Word.fVe,(nth w.Line i).Word.fTe⟩=true) :
  zbo w i (nth w.Line i) (nth w.Line i)=some (if w.Line.length=20 then (false,w) else (true,⟨w.fRe,w.Line++[nth w.Line i]⟩)):=by
 unfold zbo
 rw [zq7 hi]
 by_cases h20:w.Line.length=20
 ·rw [if_pos h20]
  exact if_pos (by rw [beq_iff_eq];omega)
 ·rw [if_neg h20]
  refine (if_neg (by rw [beq_iff_eq];omega)).trans ?_
  refine zjX (ztk h) ?_
  exact zjL (by omega) _
theorem zzY {l:List RegionT} {i:Nat} {x:SaidT} (hi:i < l.length) (hr:okr (nth l i)) (hx:zkg ⟨0,x.Word.fVe,x.Word.fTe⟩=true∧znj x) :
  zae l i ⟨x.Word.fVe,x.Word.fTe⟩=some ((zkY (nth l i) x.Word).2,if (zkY (nth l i) x.Word).2=true then l.set i (zkY (nth l i) x.Word).1 else l):=by
 have hq:=ztj hx
 obtain ⟨to,v,t⟩:=x
 exact zyd l i (nth l i) ⟨0,v,t⟩ hi rfl hr hq
theorem zjE {w:WorldT} (h:GW w) {s:WorldStepT} (hk:s.Kind=4∨s.Kind=5∨s.Kind=6):zL w s=some ((zpU w s).2,(zpU w s).1,(zpU w s).1.fRe):=by
 have hl:=h.len
 have hL:=h.line
 unfold zL zpU
 have e0:wI ((w.Line.length:Int) - 1)=(w.Line.length:Int) - 1:=zj0 (by omega)
 rw [e0]
 refine zjX (zcJ ..) ?_
 by_cases hK:0≤s.K∧s.K≤(w.Line.length:Int) - 1
 rotate_left
 ·rw [if_neg hK]
  exact if_pos (by rw [Bool.not_eq_true',decide_eq_false_iff_not];exact hK)
 rw [if_pos hK]
 refine (if_neg (by simpa using hK)).trans ?_
 refine (zjL (by omega) _).trans ?_
 refine (zjL (by omega) _).trans ?_
 have hm:=h.said _ (zsa h hK)
 obtain ⟨a,b⟩:=hm
 have hkn:s.K.toNat < w.Line.length:=by omega
 by_cases h6:s.Kind=6
 ·rw [if_pos h6]
  refine (if_pos (by simpa using h6)).trans ?_
  refine zjX (zAY hL hkn b.1) ?_
  by_cases h20:w.Line.length=20
  ·rw [if_pos h20,if_pos h20]
   exact zjX (znm _) rfl
  ·rw [if_neg h20,if_neg h20]
   exact zjX (znm _) rfl
 rw [if_neg h6]
 refine (if_neg (by simpa using h6)).trans ?_
 have e1:wI (s.K+1)=s.K+1:=zj0 (by omega)
 rw [e1]
 have ed:zaa w.Line s.K.toNat (nth w.Line s.K.toNat) s.K (s.K+1)=some (zr9 w.Line s.K.toNat):=by
  unfold zaa
  exact zjL ⟨hkn,by omega,by omega,by omega⟩ _
 refine zjX ed ?_
 by_cases h5:s.Kind=5
 ·rw [if_pos h5]
  exact if_neg (by simp [h5])
 rw [if_neg h5]
 have h4:s.Kind=4:=by omega
 refine (if_pos (by simpa using h4)).trans ?_
 refine (zjL (by rw [hl];omega) _).trans ?_
 have hr:=(h.reg (nth w.Line s.K.toNat).To.toNat (by omega)).1
 refine zjX (zzY (by rw [hl];omega) hr b) ?_
 cases hh:(zkY (nth w.fRe (nth w.Line s.K.toNat).To.toNat) (nth w.Line s.K.toNat).Word).2
 ·refine (zjL (by simp) _).trans ?_
  rfl
 ·refine (zjL (by simp) _).trans ?_
  rfl
theorem zzZ (n:Int):zfe n=some (decide (0≤n∧n≤1)):=by
 unfold zfe
 exact zjX (zcJ ..) rfl
theorem zwv {p:RegionT×Nat} {n:ByteArray} (h:(zk1 p n).2=p.2):zk1 p n=p:=by
 unfold zk1 at h ⊢
 split
 ·rename_i c0
  rw [if_pos c0] at h
  simp at h
 ·rfl
theorem ztl:∀ (l:List ByteArray) (p:RegionT×Nat),(l.foldl zk1 p).2=p.2→l.foldl zk1 p=p
 | [],p,_=>rfl
 | n :: r,p,h=>by
  have h1:=(zt9 p n).1
  have h2:∀ (l:List ByteArray) (q:RegionT×Nat),q.2≤(l.foldl zk1 q).2:=λ l=>by
   induction l with
   | nil=>intro q;exact qq _
   | cons a l ih=>intro q;exact qm (zt9 q a).1 (ih (zk1 q a))
  have h3:=h2 r (zk1 p n)
  have h4:(r.foldl zk1 (zk1 p n)).2=p.2:=h
  have e1:zk1 p n=p:=zwv (by omega)
  show r.foldl zk1 (zk1 p n)=p
  rw [e1]
  exact ztl r p (by rw [e1] at h4;exact h4)
theorem zyh {r:RegionT} {l:List ByteArray} (h:(zmg r l).2=0):(zmg r l).1=r:=by
 unfold zmg at h ⊢
 rw [ztl l (r,0) h]
theorem zjB {w:WorldT} (h:GW w) {s:WorldStepT} (hs:zkk s) (hk:s.Kind=1∨s.Kind=2∨s.Kind=3∨s.Kind=7):zaz w s=some ((zqV w s).2,(zqV w s).1,(zqV w s).1.fRe):=by
 have hl:=h.len
 have hL:=h.line
 unfold zaz zqV
 refine zjX (zzZ _) ?_
 by_cases hR:0≤s.Region∧s.Region≤1
 rotate_left
 ·rw [if_neg hR]
  exact if_pos (by rw [Bool.not_eq_true',decide_eq_false_iff_not];exact hR)
 rw [if_pos hR]
 refine (if_neg (by simpa using hR)).trans ?_
 refine (zjL (by rw [hl];omega) _).trans ?_
 have hr:=(h.reg s.Region.toNat (by omega)).1
 have hi:s.Region.toNat < w.fRe.length:=by omega
 by_cases h1:s.Kind=1
 ·rw [if_pos h1]
  refine (if_pos (by simpa using h1)).trans ?_
  refine (zjL hi _).trans ?_
  have el:zy ⟨(nth w.fRe s.Region.toNat).Id,(nth w.fRe s.Region.toNat).fVe,(nth w.fRe s.Region.toNat).fTe⟩ s.What s.Name=_:=zib (nth w.fRe s.Region.toNat) s.What s.Name hr.1
  rw [el]
  unfold zlB
  by_cases c0:zkJ (nth w.fRe s.Region.toNat) s.What s.Name=0
  ·have eg:zQ w.fRe s.Region.toNat ⟨(nth w.fRe s.Region.toNat).Id,(nth w.fRe s.Region.toNat).fVe,(nth w.fRe s.Region.toNat).fTe⟩ s.What s.Name=_:=zth w.fRe s.Region.toNat (nth w.fRe s.Region.toNat) s.What s.Name hr.1 c0
   simp only [c0,if_true]
   refine zjX eg ?_
   exact zjL (by simp) _
  ·simp only [c0,if_false]
 rw [if_neg h1]
 refine (if_neg (by simpa using h1)).trans ?_
 by_cases h2:s.Kind=2
 ·rw [if_pos h2]
  refine (if_pos (by simpa using h2)).trans ?_
  have el:zbJ w.fRe s.Region.toNat=some (if (zls (nth w.fRe s.Region.toNat).fVe (nth w.fRe s.Region.toNat).Id).2=true then (true,w.fRe.set s.Region.toNat (zti (nth w.fRe s.Region.toNat))) else (false,w.fRe)):=by
   unfold zbJ zti
   refine (zjL hi _).trans ?_
   refine (zjL hi _).trans ?_
   refine zjX (zhP ..) ?_
   cases hn:(zls (nth w.fRe s.Region.toNat).fVe (nth w.fRe s.Region.toNat).Id).2
   ·rfl
   ·exact zjL hi _
  refine zjX el ?_
  cases hn:(zls (nth w.fRe s.Region.toNat).fVe (nth w.fRe s.Region.toNat).Id).2
  ·refine (zjL rfl _).trans ?_
   exact zjX (znm _) rfl
  ·refine (zjL (by simp) _).trans ?_
   exact zjX (znm _) rfl
 rw [if_neg h2]
 refine (if_neg (by simpa using h2)).trans ?_
 by_cases h3:s.Kind=3
 ·rw [if_pos h3]
  refine (if_pos (by simpa using h3)).trans ?_
  refine zjX (zyc hr) ?_
  have e3:wI (1 - s.Region)=1 - s.Region:=zj0 (by omega)
  rw [e3]
  have hg:zkg ⟨0,(⟨1 - s.Region,wd (nth w.fRe s.Region.toNat)⟩:SaidT).Word.fVe,(⟨1 - s.Region,wd (nth w.fRe s.Region.toNat)⟩:SaidT).Word.fTe⟩=true:=by
   obtain ⟨g1,g2,g3,g4⟩:=zkv hr.1
   exact zm2 ⟨by simp,by simp⟩ g2 g3 g4
  refine zjX (zAX hL hg) ?_
  by_cases h20:w.Line.length=20
  ·rw [if_pos h20,if_pos h20]
   exact zjX (znm _) rfl
  ·rw [if_neg h20,if_neg h20]
   exact zjX (znm _) rfl
 rw [if_neg h3]
 refine (if_neg (by simpa using h3)).trans ?_
 have h7:s.Kind=7:=by omega
 rw [if_pos h7]
 have ea:zG (nth w.fRe s.Region.toNat)=some (zqS (nth w.fRe s.Region.toNat)):=rfl
 refine zjX ea ?_
 cases hact:zqS (nth w.fRe s.Region.toNat)
 ·refine (if_neg (by simp)).trans ?_
  exact zjX (znm _) rfl
 refine (if_pos rfl).trans ?_
 refine zjX (zvp w.fRe s.Region.toNat (nth w.fRe s.Region.toNat) hi rfl hr) ?_
 refine (zjL (by simp) _).trans ?_
 refine zjX (znm _) ?_
 by_cases h0:(zmg (nth w.fRe s.Region.toNat) (zkb (nth w.fRe s.Region.toNat).fTe)).2=0
 ·have hz:=zyh h0
  rw [if_pos rfl,if_pos h0,hz,zq7 hi,h0]
  rfl
 ·rw [if_pos rfl,if_neg h0,if_pos (by rw [decide_eq_true_eq];show 0 < (((zmg (nth w.fRe s.Region.toNat) (zkb (nth w.fRe s.Region.toNat).fTe)).2:Nat):Int);omega)]
theorem zjF {w:WorldT} (h:GW w) {s:WorldStepT} (hs:zkk s):zbK w s=some ((zlb w s).2,(zlb w s).1,(zlb w s).1.fRe):=by
 have hk:((if (s.Kind == 1)=true then some (⟨true⟩:zx) else (if (s.Kind == 2)=true then some ⟨true⟩ else (if (s.Kind == 3)=true then some ⟨true⟩ else some ⟨(s.Kind == 7)⟩))):Option zx)=some ⟨decide (s.Kind=1∨s.Kind=2∨s.Kind=3∨s.Kind=7)⟩:=by
  by_cases h1:s.Kind=1
  ·simp [h1]
  ·by_cases h2:s.Kind=2
   ·simp [h2]
   ·by_cases h3:s.Kind=3
    ·simp [h3]
    ·by_cases h7:s.Kind=7
     ·simp [h7]
     ·simp [h1,h2,h3,h7]
 unfold zbK
 refine zjX hk ?_
 by_cases hr:s.Kind=1∨s.Kind=2∨s.Kind=3∨s.Kind=7
 ·have es:zlb w s=zqV w s:=if_neg (by omega)
  rw [es]
  refine (if_pos (by simpa using hr)).trans ?_
  exact zjX (zjB h hs hr) rfl
 refine (if_neg (by simpa using hr)).trans ?_
 by_cases hl:s.Kind=4∨s.Kind=5∨s.Kind=6
 ·have es:zlb w s=zpU w s:=if_pos hl
  rw [es]
  have key:=zjE h hl
  rcases hl with h4 | h5 | h6
  ·refine (if_pos (by simpa using h4)).trans ?_
   exact zjX key rfl
  ·refine (if_neg (by simp [h5])).trans ?_
   refine (if_pos (by simpa using h5)).trans ?_
   exact zjX key rfl
  ·refine (if_neg (by simp [h6])).trans ?_
   refine (if_neg (by simp [h6])).trans ?_
   refine (if_pos (by simpa using h6)).trans ?_
   exact zjX key rfl
 ·have es:zlb w s=zqV w s:=if_neg hl
  rw [es]
  refine (if_neg (by simp;omega)).trans ?_
  refine (if_neg (by simp;omega)).trans ?_
  refine (if_neg (by simp;omega)).trans ?_
  have e:zqV w s=(w,1):=by
   unfold zqV
   split
   ·rw [if_neg (by omega),if_neg (by omega),if_neg (by omega),if_neg (by omega)]
   ·rfl
  rw [e]
end Go.TL
set_option maxRecDepth 4000
namespace Go.TL
theorem zyi {r:RegionT} {k:Int} {n:ByteArray} (h:(zlB r k n).2≠0):(zlB r k n).1=r:=by
 unfold zlB at h ⊢
 dsimp only at h ⊢
 rw [if_neg h]
theorem zyj {w:WorldT} (h:GW w) {s:WorldStepT} (h0:(zlb w s).2≠0) (h2:(zlb w s).2=2→s.Kind≠4):(zlb w s).1=w:=by
 have hl:=h.len
 unfold zlb at h0 h2 ⊢
 split
 ·rename_i hk
  rw [if_pos hk] at h0 h2
  unfold zpU at h0 h2 ⊢
  split
  ·rename_i hK
   rw [if_pos hK] at h0 h2
   split
   ·rename_i h6
    rw [if_pos h6] at h0
    split
    ·rfl
    ·rename_i h20
     rw [if_neg h20] at h0
     exact absurd rfl h0
   ·rename_i h6
    rw [if_neg h6] at h0 h2
    split
    ·rename_i h5
     rw [if_pos h5] at h0
     exact absurd rfl h0
    ·rename_i h5
     rw [if_neg h5] at h0 h2
     split
     ·rename_i hh
      rw [if_pos hh] at h0
      exact absurd rfl h0
     ·rename_i hh
      rw [if_neg hh] at h2
      have:=h2 rfl
      omega
  ·rfl
 ·rename_i hk
  rw [if_neg hk] at h0 h2
  unfold zqV at h0 h2 ⊢
  split
  ·rename_i hR
   rw [if_pos hR] at h0 h2
   split
   ·rename_i h1
    rw [if_pos h1] at h0
    have hc:=zyi h0
    show (⟨w.fRe.set s.Region.toNat (zlB (nth w.fRe s.Region.toNat) s.What s.Name).1,w.Line⟩:WorldT)=w
    rw [hc,zq7 (by omega)]
   ·rename_i h1
    rw [if_neg h1] at h0
    split
    ·rename_i h2'
     rw [if_pos h2'] at h0
     split
     ·rename_i hn
      rw [if_pos hn] at h0
      exact absurd rfl h0
     ·rfl
    ·rename_i h2'
     rw [if_neg h2'] at h0
     split
     ·rename_i h3
      rw [if_pos h3] at h0
      split
      ·rfl
      ·rename_i h20
       rw [if_neg h20] at h0
       exact absurd rfl h0
     ·rename_i h3
      rw [if_neg h3] at h0
      split
      ·rename_i h7
       rw [if_pos h7] at h0
       split
       ·rename_i ha
        rw [if_pos ha] at h0
        split
        ·rfl
        ·rename_i hz
         rw [if_neg hz] at h0
         exact absurd rfl h0
       ·rfl
      ·rfl
  ·rfl
theorem zz0 {w:WorldT} (h:GW w):zdY w=some w :=
 zyb w (by rw [h.len];omega) (by have:=h.line;omega) (λ i hi=>zw7 (h.reg i (by rw [← h.len];exact hi)).1) λ i hi=>znT (zmA (t:=(nth w.Line i).Word.fTe) (zku (h.said _ (zks hi)).2.1))
theorem zjC {w:WorldT} (h:GW w) {s:WorldStepT} (hs:zkk s):zc8 w s=some (zlb w s):=by
 unfold zc8
 refine zjX ((zip w h.good.2).trans (by rw [h.good.1])) ?_
 refine (if_neg (by simp)).trans ?_
 refine zjX (zz0 h) ?_
 refine zjX (zjD h hs) ?_
 refine (zjL (by show (zlb w s).1.fRe.length=w.fRe.length;rw [(h.step hs).len,h.len]) _).trans ?_
 have hj:((if ((zlb w s).2 != 0)=true then (if ((zlb w s).2 != 2)=true then some (⟨true⟩:zz) else (if ((zlb w s).2 == 2)=true then some ⟨(s.Kind != 4)⟩ else some ⟨false⟩))
   else (if ((zlb w s).2 == 2)=true then some ⟨(s.Kind != 4)⟩ else some ⟨false⟩)):Option zz)=some ⟨decide ((zlb w s).2≠0∧((zlb w s).2=2→s.Kind≠4))⟩:=by
  by_cases h0:(zlb w s).2=0
  ·simp [h0]
  ·by_cases h2:(zlb w s).2=2
   ·by_cases h4:s.Kind=4
    ·simp [h2,h4]
    ·simp [h2,h4]
   ·simp [h0,h2]
 refine zjX hj ?_
 by_cases hc:(zlb w s).2≠0∧((zlb w s).2=2→s.Kind≠4)
 ·refine (if_pos (decide_eq_true hc)).trans ?_
  refine zjX (zz0 h) ?_
  exact congrArg some (Prod.ext (zyj h hc.1 hc.2).symm rfl)
 ·exact if_neg (by rw [decide_eq_true_eq];exact hc)
def zz1:WorldT:=⟨[⟨0,0,⟨[]⟩⟩,⟨1,0,⟨[]⟩⟩],[]⟩
theorem zAZ:GW zz1:=by
 have hg:∀ i:Int,(0≤i∧i≤9)→okr ⟨i,0,⟨[]⟩⟩:=λ i hi=>⟨zm2 hi (by show zst 0=true;decide) (by show zkA ⟨[]⟩=true;rfl) (by show zpK 0 ⟨[]⟩=true;rfl),(⟨by omega,by omega⟩:zlV i),(⟨by omega,by omega⟩:zlV 0),⟨by simp,λ b hb=>by simp at hb⟩⟩
 refine ⟨rfl,λ i hi=>?_,by simp [zz1],λ s hs=>by cases hs⟩
 match i,hi with
 | 0,_=>exact ⟨hg 0 (by omega),rfl⟩
 | 1,_=>exact ⟨hg 1 (by omega),rfl⟩
def zBi (p:WorldT×List Int) (s:WorldStepT):WorldT×List Int:=((zlb p.1 s).1,p.2++[(zlb p.1 s).2])
def ztm (l:List WorldStepT):WorldT×List Int:=l.foldl zBi (zz1,[])
def zny (l:List WorldStepT) (i:Nat):WorldT×List Int:=ztm (l.take i)
theorem zoE {l:List WorldStepT} {i:Nat} (h:i < l.length):zny l (i+1)=zBi (zny l i) (nth l i):=by
 unfold zny ztm
 rw [← zld h,qw]
 rfl
theorem zpV {l:List WorldStepT} (hl:∀ s∈l,zkk s):∀ i,i≤l.length→GW (zny l i).1∧(zny l i).2.length=i
 | 0,_=>⟨zAZ,rfl⟩
 | i+1,hi=>by
  obtain ⟨h1,h2⟩:=zpV hl i (by omega)
  rw [zoE (by omega)]
  refine ⟨h1.step (hl _ (zks (by omega))),?_⟩
  show ((zny l i).2++[_]).length=i+1
  rw [qM,h2]
  rfl
def zlc (l:List WorldStepT):WorldT×List Int×Bool:=if l.length > 120 then (⟨[],[]⟩,[],false) else ((ztm l).1,(ztm l).2,true)
theorem zpm (l:List WorldStepT):zny l l.length=ztm l:=by unfold zny;rw [qf]
theorem zjG {l:List WorldStepT} (hl:∀ s∈l,zkk s):zey l=some (zlc l):=by
 unfold zey zlc
 by_cases h:l.length > 120
 ·rw [if_pos h]
  exact if_pos (by rw [decide_eq_true_eq];omega)
 rw [if_neg h]
 refine (if_neg (by rw [decide_eq_true_eq];omega)).trans ?_
 have e0:ze8=some zz1:=rfl
 refine zjX e0 ?_
 have key:=zkS (step:=zbx l) (λ i (c:WorldT×List Int)=>(⟨i,c.1.fRe,c.1.Line,c.2⟩:zd9)) l.length (λ i=>zny l i) (λ c=>(⟨c.1.fRe,c.1.Line,c.2⟩:zgh)) (λ i hi=>?_) ?_
 ·rw [zpm] at key
  refine zjX key ?_
  rfl
 ·obtain ⟨h1,h2⟩:=zpV hl i (by omega)
  have e1:wI ((i:Int)+1)=((i+1:Nat):Int):=by rw [zj0 (by omega)];omega
  unfold zbx
  simp only [qc,e1]
  refine (if_pos (by rw [decide_eq_true_eq];omega)).trans ?_
  refine (zjL (by omega) _).trans ?_
  refine zjX (zjC h1 (hl _ (zks hi))) ?_
  rw [zoE hi]
  exact zjL (by omega) _
 ·unfold zbx
  exact if_neg (by simp)
theorem zjH {l:List WorldStepT} (hl:∀ s∈l,zkk s):zcX l=some (zlc l):=by
 unfold zcX zlc
 by_cases h:l.length > 120
 ·rw [if_pos h]
  exact if_pos (by rw [decide_eq_true_eq];omega)
 rw [if_neg h]
 refine (if_neg (by rw [decide_eq_true_eq];omega)).trans ?_
 have e0:zfR=some zz1:=rfl
 refine zjX e0 ?_
 have key:=zkS (step:=zby l) (λ i (c:WorldT×List Int)=>(⟨i,c.2,c.1.fRe,c.1.Line⟩:zea)) l.length (λ i=>zny l i) (λ c=>(⟨c.2,c.1.fRe,c.1.Line⟩:zgi)) (λ i hi=>?_) ?_
 ·rw [zpm] at key
  refine zjX key ?_
  rfl
 ·obtain ⟨h1,h2⟩:=zpV hl i (by omega)
  have e1:wI ((i:Int)+1)=((i+1:Nat):Int):=by rw [zj0 (by omega)];omega
  unfold zby
  simp only [qc,e1]
  refine (if_pos (by rw [decide_eq_true_eq];omega)).trans ?_
  refine (zjL (by omega) _).trans ?_
  refine zjX (zjF h1 (hl _ (zks hi))) ?_
  rw [zoE hi]
  exact zjL (by omega) _
 ·unfold zby
  exact if_neg (by simp)
theorem zvr {l:List WorldStepT} (hl:∀ s∈l,zkk s):(zlc l=(⟨[],[]⟩,[],false))∨(GW (zlc l).1∧(zlc l).2.1.length≤120):=by
 unfold zlc
 by_cases h:l.length > 120
 ·rw [if_pos h];exact .inl rfl
 ·rw [if_neg h]
  obtain ⟨h1,h2⟩:=zpV hl l.length (qq _)
  rw [zpm] at h1 h2
  exact .inr ⟨h1,by show (ztm l).2.length≤120;omega⟩
def zBj (k:Int):WorldStepT:=⟨k,k+1,k+2,zwV (k+3),k+4⟩
theorem zsy (l:List WorldStepT) (k:Int) (hk:0≤k) (hl:l.length≤1099511627776) (hb:k+((5 * l.length:Nat):Int)≤1152921504606846976) :
  zba l k=some (k+((5 * l.length:Nat):Int),zmc zBj 5 k l.length):=by
 unfold zba
 have key:=zqc (step:=zM) (λ i k l=>(⟨k,i,l⟩:zbp)) 5 zBj l.length 1152921504606846976 (λ k l=>(⟨k,l⟩:zeU)) (λ i k l' hi hl' h0 h1=>?_) (λ k l' hl'=>?_) k l rfl hk hb
 ·rw [key];rfl
 ·unfold zM
  have e1:wI (k+1)=k+1:=zj0 (by omega)
  have e2:wI (k+1+1)=k+2:=by rw [zj0 (by omega)];omega
  have e3:wI (k+2+1)=k+3:=by rw [zj0 (by omega)];omega
  have e4:wI (k+3+1)=k+4:=by rw [zj0 (by omega)];omega
  have e6:wI (k+4+1)=k+5:=by rw [zj0 (by omega)];omega
  have e5:wI ((i:Int)+1)=((i+1:Nat):Int):=by rw [zj0 (by omega)];omega
  simp only [e1,e2,e3,e4,e5,e6]
  rw [if_pos (by simp;omega),zow (k+3) (by omega) (by omega)]
  simp (disch:=omega) only [qa,zjL,qc]
  rfl
 ·unfold zM
  rw [if_neg (by simp;omega)]
theorem zsz (l:List SaidT) (k:Int) (hk:0≤k) (hl:l.length≤1099511627776) (hi:∀ i,i < l.length→(nth l i).Word.fTe.fBr.length≤1099511627776) (hb:k+zlP zl4 l≤1099511627776) :
  zex (zmF zpN zl4 l k) k=some (k+zlP zl4 l):=by
 unfold zex
 have key:=zn5 (step:=zbw (zmF zpN zl4 l k)) (λ i k=>(⟨k,i⟩:zd8)) zl4 zpN l 1099511627776 (λ k=>(⟨k⟩:zgg)) k (λ i k' hi' hn h0 h1=>?_) (λ k'=>?_) hk hb
 ·rw [key];rfl
 ·have hw:zl4 (nth l i)=2+zoC (nth l i).Word.fTe.fBr:=rfl
  rw [hw] at h1
  have e1:wI (k'+1)=k'+1:=zj0 (by omega)
  have e2:wI (k'+1+1)=k'+2:=by rw [zj0 (by omega)];omega
  have e3:wI ((i:Int)+1)=((i+1:Nat):Int):=by rw [zj0 (by omega)];omega
  have e4:k'+2+(zoC (nth l i).Word.fTe.fBr:Int)=k'+(zl4 (nth l i):Int):=by rw [hw];omega
  unfold zbw
  simp only [qc,hn,e1,e2,e3]
  have hlen:(zmF zpN zl4 l k).length=l.length:=zlk ..
  have em:zpN k' (nth l i)=⟨k',⟨k'+1,⟨zv7 (nth l i).Word.fTe.fBr (k'+2)⟩⟩⟩:=rfl
  rw [if_pos (by rw [decide_eq_true_eq];omega),zjL (by omega),em]
  dsimp only
  rw [if_neg (by simp),zjL (by omega),if_neg (by simp),zjL (by omega),zoa _ _ (by omega) (hi i hi') (by omega)]
  simp only [qa]
  rw [if_neg (by simp;omega),e4]
 ·unfold zbw
  rw [if_neg (by simp [zlk])]
theorem zBT {L:List SaidT} (hl:L.length≤20) (hs:∀ s∈L,zkg ⟨0,s.Word.fVe,s.Word.fTe⟩=true):(∀ i,i < L.length→(nth L i).Word.fTe.fBr.length≤12)∧zlP zl4 L≤L.length * 4002:=by
 constructor
 ·intro i hi
  exact (zpQ (t:=(nth L i).Word.fTe) (zku (hs _ (zks hi)))).1
 ·clear hl
  induction L with
  | nil=>simp [zlP,znr]
  | cons x r ih =>
   rw [znM]
   have h1:=ih λ s h=>hs s (qj _ h)
   have h2:=(zpQ (t:=x.Word.fTe) (zku (hs x (by simp)))).2
   have h3:zl4 x=2+zoC x.Word.fTe.fBr:=rfl
   simp only [qP]
   omega
theorem zA0 {l:List WorldStepT} (hl:∀ s∈l,zkk s):(zlc l).1.fRe.length≤2∧(∀ i,i < (zlc l).1.fRe.length→(nth (zlc l).1.fRe i).fTe.fBr.length≤12)∧zlP zkN (zlc l).1.fRe≤10000 ∧
  (zlc l).1.Line.length≤20∧(∀ i,i < (zlc l).1.Line.length→(nth (zlc l).1.Line i).Word.fTe.fBr.length≤12)∧zlP zl4 (zlc l).1.Line≤100000∧(zlc l).2.1.length≤120∧zpJ (zlc l).1:=by
 rcases zvr hl with h | ⟨h,hc⟩
 ·rw [h]
  exact ⟨by simp,λ i hi=>by simp at hi,by simp [zlP,znr],by simp,λ i hi=>by simp at hi,by simp [zlP,znr],by simp,zqE ⟨⟨by simp,λ y hy=>by simp at hy⟩,⟨by simp,λ y hy=>by simp at hy⟩⟩⟩
 ·have hl2:=h.len
  have e:(zlc l).1.fRe=[nth (zlc l).1.fRe 0,nth (zlc l).1.fRe 1]:=by
   match hq:(zlc l).1.fRe,hl2 with
   | [a,b],_=>rfl
  obtain ⟨s1,s2⟩:=zBT h.line λ s hs=>(h.said s hs).2.1
  have hL:=h.line
  refine ⟨by omega,λ i hi=>(zpQ (zku (h.reg i (by omega)).1.1)).1,?_,h.line,s1,by omega,hc,zqE h.good.2⟩
  rw [e,znM,znM]
  have e0:zlP zkN []=0:=rfl
  have h1:=(zpQ (zku (h.reg 0 (by omega)).1.1)).2
  have h2:=(zpQ (zku (h.reg 1 (by omega)).1.1)).2
  rw [e0]
  unfold zkN
  omega
theorem zvs (l:List WorldStepT) (hl:zmr l):zcs l=some true:=by
 unfold zcs
 rw [zhJ _ _ hl (by omega) (by omega)]
 simp only [qa]
 by_cases h:(zkK l:Int)≤1048576
 rotate_left
 ·rw [if_pos (decide_eq_true (zBJ h))]
 have hlen:l.length≤1048576:=by unfold zkK at h;omega
 obtain ⟨n1,n2,n3,n4,n5,n6,n7,n8⟩:=zA0 hl.2
 rw [if_neg (by simpa using zBH h),zhn _ (by omega),zhK _ (by omega)]
 simp only [qa]
 rw [zjG hl.2,zjH hl.2]
 simp only [qa]
 rw [zi4 _ _ n8,zjl _ _ ⟨by omega,λ y hy=>trivial⟩,zhL _ _ (zqt hl)]
 simp only [qa,decide_true,qe,beq_self_eq_true,qb,if_false]
 rw [zsy _ 1 (by omega) (by omega) (by omega)]
 simp only [qa]
 rw [zjL (zkG ..),if_neg (by simp;omega)]
 simp only [qa,qb,if_false]
 unfold zdf
 rw [zqR _ 1 (by omega) (by omega) (λ i hi=>qm (n2 i hi) (by omega)) (by omega)]
 simp only [qa]
 rw [zjL (zlk ..),zsx _ _ (by omega) (by omega) (λ i hi=>qm (n5 i hi) (by omega)) (by omega)]
 simp only [qa]
 rw [zjL (zlk ..)]
 simp only [qa]
 rw [zjL (zlk ..),zjL (zlk ..),zt2 _ _ (by omega) (by omega) (by omega)]
 simp only [qa]
 rw [zjL (zkG ..)]
 have hw:zbY ⟨zmF zmQ zkN (zlc l).1.fRe 1,zmF zpN zl4 (zlc l).1.Line (1+zlP zkN (zlc l).1.fRe)⟩ 1=some ((1:Int)+(zlP zkN (zlc l).1.fRe:Int)+(zlP zl4 (zlc l).1.Line:Int)):=by
  unfold zbY
  dsimp only
  rw [zqT _ 1 (by omega) (by omega) (λ i hi=>qm (n2 i hi) (by omega)) (by omega)]
  simp only [qa]
  rw [if_neg (by simp;omega),zsz _ _ (by omega) (by omega) (λ i hi=>qm (n5 i hi) (by omega)) (by omega)]
  simp only [qa]
  rw [if_neg (by simp;omega)]
 have hw':zbY ⟨zmF zmQ zkN (zlc l).1.fRe 1,zmF zpN zl4 (zlc l).1.Line (1+(zlP zkN (zlc l).1.fRe:Int))⟩ 1=_:=hw
 rw [hw']
 simp only [qa]
 rw [if_neg (by simp;omega),zt3 _ _ (by omega) (by omega) (by omega)]
 simp only [qa]
 rw [if_neg (by simp;omega),if_neg (by simp),if_neg (by simp;omega),if_neg (by simp;omega),if_neg (by simp)]
end Go.TL
